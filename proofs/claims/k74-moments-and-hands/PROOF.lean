import PyProof.Rows.All
import Wide.All
import OpenK.AllK
import Wide.FinOn
import PyProof.EqAt
import PyProof.EqKinds
import PyProof.TupleCall
import HandS.ForMost
import HandS.ForExc
import KE.KeyNested
import HandS.Lambda
import HandS.TupAny
import HandS.TupMul
import HandS.IsInst
import HandS.TupLe
import HandS.Zip
import HandS.Nested
import HandS.ExcInit
import KE.KExcSuper
import HandS.ExcValue
import HandS.ExcField
import HandS.ExcIs
import KE.KExcMore
import KE.KTypeName
import KE.KExcIs
import HandS.Style
import HandS.Dict
import HandS.SetKeys
import KE.SortData
import KE.SortKeyHeap
import KE.KDictSum
import KE.KDictCopyH
import KE.KLam
import HandS.SortKw
import KE.GoesNew
import KE.GoesEnum
import HandS.Star
import HandS.DictComp
import HandS.DictTup
import KE.KDictItemsList
import HandS.Strs
import HandS.SetFor
import KE.KNestM
import KE.RegKIsAll
import KE.RegKSuper
import KE.RegKTryMore
import PySem.Challenge.RW_casetrees_k74_cases_with_moments_and_han
set_option Elab.async false
set_option linter.all false
set_option maxRecDepth 100000
/-! Deep values, live cells, and how they lie in HandS's abstract heap. -/
namespace L2
namespace Py
open PySem PySem.Spec PyProof.Rows

/-- a deep value: data; lists and dicts in it are frozen -/
inductive D where
  | non | bl (b : Bool) | int (i : Int) | str (x : Str)
  | tup (xs : List D) | lst (xs : List D) | dct (ks ws : List D) | scr (xs : List D)
  | glo (x : Str) | ty (n : String)
/-- what a name holds: data, or a live cell's number -/
inductive SV where
  | d (x : D) | r (n : Nat)
/-- the code objects whose defs make lambdas, their tables, the lambdas' name -/
class Tl where
  T : List (Addr × Addr × Str)
/-- a live (mutable) thing -/
inductive Cell where
  | lst (xs : List D)
  | dct (ks ws : List D)
  | ins (C : Str) (ns : List Str) (ws : List D)
  /-- a dict of live lists: its keys, the numbers of the lists' cells -/
  | dl (ks : List D) (ns : List Nat)
  | dead
/-- no cell is named by this one -/
def Cell.flat : Cell → Bool
  | .dl _ _ => false
  | _ => true
abbrev Hs := List Cell
abbrev Env' := List (Option SV)

structure Gd where
  K : PySem.W.Frag
  mg : Str → Option Value
  w : World
  base : Heap

/-! ### dicts: the key as the library's nested key; the one object that stands there -/
mutual
def nkD : D → NestedKey
  | .int i => .num i
  | .str x => .text x
  | .tup xs => .tup (nkL xs)
  | .non => .none
  | .bl _ => .none
  | .lst _ => .none
  | .dct _ _ => .none
  | .scr _ => .none
  | .glo _ => .none
  | .ty _ => .none
def nkL : List D → List NestedKey
  | [] => []
  | x :: xs => nkD x :: nkL xs
end
mutual
/-- what may stand in a key's tuple -/
def keyIn : Nat → D → Bool
  | _, .non => true
  | _, .int _ => true
  | _, .str _ => true
  | n + 1, .tup xs => keyInL n xs
  | 0, .tup _ => false
  | _, .bl _ => false
  | _, .lst _ => false
  | _, .dct _ _ => false
  | _, .scr _ => false
  | _, .glo _ => false
  | _, .ty _ => false
def keyInL : Nat → List D → Bool
  | _, [] => true
  | n, x :: xs => keyIn n x && keyInL n xs
end
/-- a key by value; a key that is a tuple -/
def isVK : D → Bool
  | .int _ => true
  | .str _ => true
  | _ => false
def isTK : D → Bool
  | .tup xs => keyInL 7 xs
  | _ => false
/-- what a dict's object says -/
def RawD (w : World) (ks : List D) (kvs vvs : List V) (o : Obj) : Prop :=
  o.ExactDict ∧ ((∀ k ∈ ks, isVK k = true) ∨ ∀ k ∈ ks, isTK k = true) ∧ (ks.map nkD).Nodup ∧ ∃ es ep, o.data = .dict es ep ∧ es.size ≤ sizeLine ∧
    es.toList.map (·.hash) = ks.map (fun k => (nkD k).hash w) ∧ Vals kvs (es.toList.map (·.key)) ∧ Vals vvs (es.toList.map (·.val))
def rawO (a : Addr) (o : Obj) : HO := .ext fun h => h.get? a = some o ∧ (a == sysModules) = false
theorem rawO_mut {a : Addr} {o : Obj} : Mut (some (rawO a o)) := trivial

/-- a list that is only read: locked, or of the top -/
def ScrAt (K : PySem.W.Frag) (H : Hp) (a : Addr) (vs : List V) : Prop :=
  (∃ o, H a = some (.frz o (.lst vs))) ∨ (SqL K H a vs ∧ ∃ o, K.lookup a = some o ∧ ∀ H', SqL K H' a vs)
section
variable (G : Gd) (H : Hp) (L : Addr → Prop)
mutual
def Rep : D → V → Prop
  | .non, v => v = .non
  | .bl b, v => v = .bl b
  | .int i, v => v = .int i
  | .str x, v => v = .str x
  | .tup xs, v => ∃ a vs, v = .ref a ∧ SqT G.K H a vs ∧ RepL xs vs
  | .lst xs, v => ∃ a vs, v = .ref a ∧ ¬ L a ∧ H a = some (.lst vs) ∧ RepL xs vs
  | .dct ks ws, v => ∃ a o kvs vvs, v = .ref a ∧ ¬ L a ∧ H a = some (rawO a o) ∧ RawD G.w ks kvs vvs o ∧ RepL ks kvs ∧ RepL ws vvs
  | .scr xs, v => ∃ a vs, v = .ref a ∧ ScrAt G.K H a vs ∧ RepL xs vs
  | .glo x, v => ∃ a, v = .ref a ∧ G.mg x = some (.ref a)
  | .ty n, v => v = .ty n
def RepL : List D → List V → Prop
  | [], vs => vs = []
  | d :: ds, vs => ∃ v r, vs = v :: r ∧ Rep d v ∧ RepL ds r
end
/-- an exception's class and dict -/
def XRep (c : Str) (ns : List Str) (ws : List D) (cls : Value) (d : Option Addr) : Prop :=
  ∃ ca, G.mg c = some (.ref ca) ∧ cls = .ref ca ∧ ((ns = [] ∧ ws = [] ∧ d = none) ∨ ∃ dd fs, d = some dd ∧ H dd = some (.xd fs) ∧ ns = fs.map (·.1) ∧ RepL G H L ws (fs.map (·.2)))
end

/-- the live cells' places; all live addresses (this def's cells, and those of others) -/
structure Lg where
  M : List (Option Addr)
  L : Addr → Prop
  /-- how many cells came with the call: these are flat -/
  k0 : Nat
  liv : ∀ a, some a ∈ M → L a
  nd : ∀ (i j : Nat) (a : Addr), M[i]? = some (some a) → M[j]? = some (some a) → i = j

def RepS (G : Gd) (H : Hp) (N : Lg) : SV → V → Prop
  | .d x, v => Rep G H N.L x v
  | .r n, v => ∃ a, v = .ref a ∧ N.M[n]? = some (some a)
def RepSL (G : Gd) (H : Hp) (N : Lg) : List SV → List V → Prop
  | [], vs => vs = []
  | d :: ds, vs => ∃ v r, vs = v :: r ∧ RepS G H N d v ∧ RepSL G H N ds r
/-- an environment -/
def ERel (G : Gd) (H : Hp) (N : Lg) (ρ : Env') (σ : St) : Prop := ρ.length = σ.length ∧ ∀ (i : Nat) (d : SV), ρ[i]? = some (some d) → ∃ v, σ[i]? = some (some v) ∧ RepS G H N d v

/-- what stands at a live cell's address -/
def CRel (G : Gd) (H : Hp) (N : Lg) : Cell → Addr → Prop
  | .lst xs, a => ∃ vs, H a = some (.lst vs) ∧ RepL G H N.L xs vs
  | .dct ks ws, a => ∃ o kvs vvs, H a = some (rawO a o) ∧ RawD G.w ks kvs vvs o ∧ RepL G H N.L ks kvs ∧ RepL G H N.L ws vvs
  | .ins C ns ws, a => ∃ ca dx fs, G.mg C = some (.ref ca) ∧ H a = some (.ins ca dx fs) ∧ ns = fs.map (·.1) ∧ RepL G H N.L ws (fs.map (·.2))
  | .dl ks ns, a => ∃ o kvs bs, H a = some (rawO a o) ∧ RawD G.w ks kvs (bs.map V.ref) o ∧ RepL G H N.L ks kvs ∧ Paired (fun (n : Nat) (b : Addr) => N.M[n]? = some (some b)) ns bs
  | .dead, _ => False
/-! ### tables of code objects (of lambdas) -/
/-- the table at P stands, and what it tells -/
def TabA (L : Addr → Prop) (H : Hp) (P : Addr) (q : Str) : Prop :=
  ∃ ps : Array Value, H P = some (.tbl ps) ∧ TriplesOk ps.toList ∧ ∀ (pos : Pos) (cv : Value), codeAmong pos ps.toList = some cv → ∃ c, cv = .ref c ∧ ¬ L c ∧ H c = some (LamX.CodeO c q)
variable [Tl]
/-- the live cells stand -/
structure HRel (G : Gd) (hs : Hs) (N : Lg) (H : Hp) : Prop where
  len : N.M.length = hs.length
  at_ : ∀ (i : Nat) (c : Cell) (a : Addr), hs[i]? = some c → N.M[i]? = some (some a) → CRel G H N c a
  mu : ∀ a, N.L a → Mut (H a)
  fl : ∀ (i : Nat) (c : Cell), hs[i]? = some c → i < N.k0 → c.flat = true
  le : N.k0 ≤ hs.length
  tb : ∀ p ∈ Tl.T, LamX.TabB G.base G.mg p.1 p.2.1 ∧ TabA N.L H p.2.1 p.2.2

/-- what came: the frozen stays, the others' live ones stay, this def's live ones (those in P) keep their places, new live ones are new -/
structure Ext (P : Nat → Prop) (H : Hp) (N : Lg) (H' : Hp) (N' : Lg) : Prop where
  keep : ∀ a o, H a = some o → (∀ ps, o ≠ .tbl ps) → (¬ N.L a ∨ ¬ Mut (some o)) → H' a = some o
  new : ∀ a, N'.L a → N.L a ∨ H a = none
  pre : ∀ (i : Nat) (a : Addr), P i → N.M[i]? = some (some a) → N'.M[i]? = some (some a)
  sub : ∀ a, N.L a → H a ≠ none → (∀ i : Nat, N.M[i]? = some (some a) → P i) → N'.L a
  old : ∀ (i : Nat) (a : Addr), N.L a → H a ≠ none → N'.M[i]? = some (some a) → N.M[i]? = some (some a)
  there : ∀ a, H a ≠ none → H' a ≠ none
  hid : ∀ a, N.L a → some a ∉ N.M → H a ≠ none → H' a = H a
  k0 : N'.k0 = N.k0
abbrev All : Nat → Prop := fun _ => True
abbrev ExtE := Ext All

section
variable {G : Gd} {H H' H1 H2 : Hp} {N N' N1 N2 : Lg} {hs hs' : Hs} {P : Nat → Prop} {L : Addr → Prop}

theorem Ext.refl : Ext P H N H N := ⟨fun _ _ h _ _ => h, fun _ h => .inl h, fun _ _ _ h => h, fun _ h _ _ => h, fun _ _ _ _ h => h, fun _ h => h, fun _ _ _ _ => rfl, rfl⟩
theorem Ext.weak {P' : Nat → Prop} (e : Ext P H N H' N') (h : ∀ i, P' i → P i) : Ext P' H N H' N' :=
  ⟨e.keep, e.new, fun i a p => e.pre i a (h i p), fun a l n q => e.sub a l n fun i z => h i (q i z), e.old, e.there, e.hid, e.k0⟩
theorem Ext.toP (e : ExtE H N H' N') : Ext P H N H' N' := e.weak fun _ _ => trivial
theorem Ext.trans (a : Ext P H N H1 N1) (b : Ext P H1 N1 H2 N2) : Ext P H N H2 N2 := by
  refine ⟨fun x o h nt q => ?_, fun x h => ?_, fun i x p h => b.pre i x p (a.pre i x p h), fun x l n q => ?_, fun i x l n q => ?_, fun x h => b.there x (a.there x h), fun x l q n => ?_, b.k0.trans a.k0⟩
  · refine b.keep x o (a.keep x o h nt q) nt ?_
    rcases q with q | q
    · left
      intro hm
      rcases a.new x hm with z | z
      · exact q z
      · rw [z] at h; cases h
    · exact .inr q
  · by_cases hM : N.L x
    · exact .inl hM
    · right
      cases e : H x with
      | none => rfl
      | some o =>
        rcases b.new x h with z | z
        · rcases a.new x z with z | z
          · exact absurd z hM
          · rw [z] at e; cases e
        · exact absurd z (a.there x (by rw [e]; exact fun z => nomatch z))
  · exact b.sub x (a.sub x l n q) (a.there x n) fun i z => q i (a.old i x l n z)
  · by_cases l1 : N1.L x
    · exact a.old i x l n (b.old i x l1 (a.there x n) q)
    · rcases b.new x (N2.liv x (List.mem_of_getElem? q)) with z | z
      · exact absurd z l1
      · exact absurd z (a.there x n)
  · have l1 : N1.L x := a.sub x l n fun j hj => absurd (List.mem_of_getElem? hj) q
    have n1 : some x ∉ N1.M := fun z => by
      obtain ⟨j, hj⟩ := List.getElem?_of_mem z
      exact q (List.mem_of_getElem? (a.old j x l n hj))
    exact (b.hid x l1 n1 (a.there x n)).trans (a.hid x l q n)

theorem Ext.sqT {K : PySem.W.Frag} {a : Addr} {vs : List V} (e : Ext P H N H' N') (h : SqT K H a vs) : SqT K H' a vs := by
  rcases h with h | h
  · rcases h with h | ⟨o, h⟩
    · exact .inl (.inl (e.keep a _ h (fun _ z => nomatch z) (.inr (fun z => z))))
    · exact .inl (.inr ⟨o, e.keep a _ h (fun _ z => nomatch z) (.inr (fun z => z))⟩)
  · exact .inr h
theorem Ext.notin {a : Addr} {o : HO} (e : Ext P H N H' N') (h : H a = some o) (ha : ¬ N.L a) : ¬ N'.L a := fun z => by
  rcases e.new a z with q | q
  · exact ha q
  · rw [q] at h; cases h
theorem Ext.scr {K : PySem.W.Frag} {a : Addr} {vs : List V} (e : Ext P H N H' N') (h : ScrAt K H a vs) : ScrAt K H' a vs := by
  rcases h with ⟨o, h⟩ | ⟨_, o, h1, h2⟩
  · exact .inl ⟨o, e.keep _ _ h (fun _ z => nomatch z) (.inr (fun z => z))⟩
  · exact .inr ⟨h2 H', o, h1, h2⟩
theorem ScrAt.sq {K : PySem.W.Frag} {a : Addr} {vs : List V} (h : ScrAt K H a vs) : SqL K H a vs := by
  rcases h with ⟨o, h⟩ | ⟨h, _⟩
  · exact .inl (.inr ⟨o, h⟩)
  · exact h
mutual
theorem Rep.ext (e : Ext P H N H' N') : ∀ (d : D) (v : V), Rep G H N.L d v → Rep G H' N'.L d v
  | .non, _, h => h
  | .bl _, _, h => h
  | .int _, _, h => h
  | .str _, _, h => h
  | .tup xs, _, ⟨a, vs, h1, h2, h3⟩ => ⟨a, vs, h1, e.sqT h2, RepL.ext e xs vs h3⟩
  | .lst xs, _, ⟨a, vs, h1, h2, h3, h4⟩ => ⟨a, vs, h1, e.notin h3 h2, e.keep _ _ h3 (fun _ z => nomatch z) (.inl h2), RepL.ext e xs vs h4⟩
  | .dct ks ws, _, ⟨a, o, kvs, vvs, h1, h2, h3, h4, h5, h6⟩ => ⟨a, o, kvs, vvs, h1, e.notin h3 h2, e.keep _ _ h3 (fun _ z => nomatch z) (.inl h2), h4, RepL.ext e ks _ h5, RepL.ext e ws _ h6⟩
  | .scr xs, _, ⟨a, vs, h1, h2, h3⟩ => ⟨a, vs, h1, e.scr h2, RepL.ext e xs vs h3⟩
  | .glo _, _, h => h
  | .ty _, _, h => h
theorem RepL.ext (e : Ext P H N H' N') : ∀ (ds : List D) (vs : List V), RepL G H N.L ds vs → RepL G H' N'.L ds vs
  | [], _, h => h
  | d :: ds, _, ⟨v, r, h1, h2, h3⟩ => ⟨v, r, h1, Rep.ext e d v h2, RepL.ext e ds r h3⟩
end
mutual
/-- fewer are live -/
theorem Rep.sub {L L' : Addr → Prop} (e : ∀ a, L' a → L a) : ∀ (d : D) (v : V), Rep G H L d v → Rep G H L' d v
  | .non, _, h => h
  | .bl _, _, h => h
  | .int _, _, h => h
  | .str _, _, h => h
  | .tup xs, _, ⟨a, vs, h1, h2, h3⟩ => ⟨a, vs, h1, h2, RepL.sub e xs vs h3⟩
  | .lst xs, _, ⟨a, vs, h1, h2, h3, h4⟩ => ⟨a, vs, h1, fun z => h2 (e a z), h3, RepL.sub e xs vs h4⟩
  | .dct ks ws, _, ⟨a, o, kvs, vvs, h1, h2, h3, h4, h5, h6⟩ => ⟨a, o, kvs, vvs, h1, fun z => h2 (e a z), h3, h4, RepL.sub e ks _ h5, RepL.sub e ws _ h6⟩
  | .scr xs, _, ⟨a, vs, h1, h2, h3⟩ => ⟨a, vs, h1, h2, RepL.sub e xs vs h3⟩
  | .glo _, _, h => h
  | .ty _, _, h => h
theorem RepL.sub {L L' : Addr → Prop} (e : ∀ a, L' a → L a) : ∀ (ds : List D) (vs : List V), RepL G H L ds vs → RepL G H L' ds vs
  | [], _, h => h
  | d :: ds, _, ⟨v, r, h1, h2, h3⟩ => ⟨v, r, h1, Rep.sub e d v h2, RepL.sub e ds r h3⟩
end
theorem CRel.mv {N N' : Lg} {c : Cell} {a : Addr} (hL : ∀ ds vs, RepL G H N.L ds vs → RepL G H' N'.L ds vs) (hM : ∀ (n : Nat) (b : Addr), N.M[n]? = some (some b) → N'.M[n]? = some (some b)) (he : H' a = H a) (h : CRel G H N c a) : CRel G H' N' c a := by
  cases c with
  | lst xs =>
    obtain ⟨vs, h1, h2⟩ := h
    exact ⟨vs, he.trans h1, hL _ _ h2⟩
  | dct ks ws =>
    obtain ⟨o, kvs, vvs, h3, h4, h5, h6⟩ := h
    exact ⟨o, kvs, vvs, he.trans h3, h4, hL ks _ h5, hL ws _ h6⟩
  | ins C ns ws =>
    obtain ⟨ca, dx, fs, h1, h2, h3, h4⟩ := h
    exact ⟨ca, dx, fs, h1, he.trans h2, h3, hL _ _ h4⟩
  | dl ks ns =>
    obtain ⟨o, kvs, bs, h3, h4, h5, h6⟩ := h
    exact ⟨o, kvs, bs, he.trans h3, h4, hL ks _ h5, L2.Paired.mapP h6 hM⟩
  | dead => exact h
theorem CRel.ext (e : ExtE H N H' N') {c : Cell} {a : Addr} (he : H' a = H a) (h : CRel G H N c a) : CRel G H' N' c a := h.mv (fun ds vs => RepL.ext e ds vs) (fun n b q => e.pre n b trivial q) he
theorem CRel.sub {N N' : Lg} (e : ∀ a, N'.L a → N.L a) {c : Cell} {a : Addr} (hc : c.flat = true) (h : CRel G H N c a) : CRel G H N' c a := by
  cases c with
  | lst xs =>
    obtain ⟨vs, h1, h2⟩ := h
    exact ⟨vs, h1, RepL.sub e _ _ h2⟩
  | dct ks ws =>
    obtain ⟨o, kvs, vvs, h3, h4, h5, h6⟩ := h
    exact ⟨o, kvs, vvs, h3, h4, RepL.sub e ks _ h5, RepL.sub e ws _ h6⟩
  | ins C ns ws =>
    obtain ⟨ca, dx, fs, h1, h2, h3, h4⟩ := h
    exact ⟨ca, dx, fs, h1, h2, h3, RepL.sub e _ _ h4⟩
  | dl ks ns => cases hc
  | dead => exact h
theorem CRel.mu {c : Cell} {a : Addr} (h : CRel G H N c a) : Mut (H a) := by
  cases c with
  | lst xs => obtain ⟨vs, h1, _⟩ := h; rw [h1]; trivial
  | dct ks ws => obtain ⟨o, kvs, vvs, h1, _⟩ := h; rw [h1]; exact rawO_mut
  | ins C ns ws => obtain ⟨ca, dx, fs, _, h1, _⟩ := h; rw [h1]; trivial
  | dl ks ns => obtain ⟨o, kvs, bs, h1, _⟩ := h; rw [h1]; exact rawO_mut
  | dead => exact h.elim
/-- tables: where the heap is written at p, a new place or a live one -/
theorem TabA.upd {L L' : Addr → Prop} {p P : Addr} {o : HO} {q : Str} (h : TabA L H P q) (hp : H p = none ∨ (L p ∧ ∀ ps, H p ≠ some (.tbl ps))) (hl : ∀ a, L' a → L a ∨ H a = none) : TabA L' (upd H p o) P q := by
  obtain ⟨ps, h1, h2, h3⟩ := h
  have nP : P ≠ p := by
    rintro rfl
    rcases hp with z | ⟨_, z⟩
    · rw [z] at h1; cases h1
    · exact z _ h1
  refine ⟨ps, by rw [upd_ne nP]; exact h1, h2, fun pos cv hc => ?_⟩
  obtain ⟨c, e1, e2, e3⟩ := h3 pos cv hc
  refine ⟨c, e1, fun z => ?_, ?_⟩
  · rcases hl c z with z | z
    · exact e2 z
    · rw [z] at e3; cases e3
  · have nc : c ≠ p := by
      rintro rfl
      rcases hp with z | ⟨z, _⟩
      · rw [z] at e3; cases e3
      · exact e2 z
    rw [upd_ne nc]; exact e3
theorem TabA.sub {L L' : Addr → Prop} {P : Addr} {q : Str} (h : TabA L H P q) (hl : ∀ a, L' a → L a) : TabA L' H P q := by
  obtain ⟨ps, h1, h2, h3⟩ := h
  refine ⟨ps, h1, h2, fun pos cv hc => ?_⟩
  obtain ⟨c, e1, e2, e3⟩ := h3 pos cv hc
  exact ⟨c, e1, fun z => e2 (hl c z), e3⟩
theorem TabA.mono {L : Addr → Prop} {P : Addr} {q : Str} (h : TabA L H P q) (s : ∀ b x, H b = some x → H' b = some x) : TabA L H' P q := by
  obtain ⟨ps, h1, h2, h3⟩ := h
  refine ⟨ps, s _ _ h1, h2, fun pos cv hc => ?_⟩
  obtain ⟨c, e1, e2, e3⟩ := h3 pos cv hc
  exact ⟨c, e1, e2, s _ _ e3⟩
theorem mut_ntbl {o : Option HO} (h : Mut o) : ∀ ps, o ≠ some (.tbl ps) := fun ps z => by rw [z] at h; exact h
theorem RepS.ext (e : ExtE H N H' N') {d : SV} {v : V} (h : RepS G H N d v) : RepS G H' N' d v := by
  cases d with
  | d x => exact Rep.ext e x v h
  | r n => obtain ⟨a, h1, h2⟩ := h; exact ⟨a, h1, e.pre n a trivial h2⟩
theorem RepSL.ext (e : ExtE H N H' N') : ∀ {ds : List SV} {vs : List V}, RepSL G H N ds vs → RepSL G H' N' ds vs
  | [], _, h => h
  | d :: ds, _, ⟨v, r, h1, h2, h3⟩ => ⟨v, r, h1, h2.ext e, RepSL.ext e h3⟩
theorem ERel.ext {ρ : Env'} {σ : St} (e : ExtE H N H' N') (h : ERel G H N ρ σ) : ERel G H' N' ρ σ :=
  ⟨h.1, fun i d q => let ⟨v, a, b⟩ := h.2 i d q; ⟨v, a, b.ext e⟩⟩
theorem ERel.set {ρ : Env'} {σ : St} {i : Nat} {d : SV} {v : V} (h : ERel G H N ρ σ) (r : RepS G H N d v) : ERel G H N (ρ.set i (some d)) (σ.set i (some v)) := by
  refine ⟨by simp [h.1], fun j e q => ?_⟩
  by_cases hj : i = j
  · subst hj
    by_cases hi : i < ρ.length
    · rw [List.getElem?_set_self hi] at q
      cases q
      exact ⟨v, by rw [List.getElem?_set_self (by rw [← h.1]; exact hi)], r⟩
    · rw [List.getElem?_eq_none (by simp; omega)] at q; cases q
  · rw [List.getElem?_set_ne hj] at q ⊢
    exact h.2 j e q
theorem HRel.get {i : Nat} {a : Addr} (h : HRel G hs N H) (hi : N.M[i]? = some (some a)) : ∃ c, hs[i]? = some c ∧ CRel G H N c a ∧ N.L a := by
  have hl : i < N.M.length := (List.getElem?_eq_some_iff.mp hi).1
  rw [h.len] at hl
  exact ⟨hs[i], by simp [hl], h.at_ i _ a (by simp [hl]) hi, N.liv a (List.mem_of_getElem? hi)⟩
theorem HRel.there {a : Addr} (h : HRel G hs N H) (ha : N.L a) : H a ≠ none := fun z => by
  have := h.mu a ha
  rw [z] at this; exact this
theorem HRel.fresh {p : Addr} (h : HRel G hs N H) (hp : H p = none) : ¬ N.L p := fun z => h.there z hp
theorem Ext.alloc {p : Addr} {o : HO} (hp : H p = none) : Ext P H N (upd H p o) N :=
  ⟨fun a u h _ _ => by rw [upd_ne (ne_of_none h hp)]; exact h, fun _ h => .inl h, fun _ _ _ h => h, fun _ h _ _ => h, fun _ _ _ _ h => h, fun a h => by
    have : a ≠ p := by rintro rfl; exact h hp
    rw [upd_ne this]; exact h, fun a _ _ h => by
    have : a ≠ p := by rintro rfl; exact h hp
    rw [upd_ne this], rfl⟩
theorem HRel.alloc {p : Addr} {o : HO} (h : HRel G hs N H) (hp : H p = none) : HRel G hs N (upd H p o) := by
  refine ⟨h.len, fun i c a h1 h2 => ?_, fun a ha => ?_, h.fl, h.le, fun p' hp' => ⟨(h.tb p' hp').1, (h.tb p' hp').2.upd (.inl hp) fun a z => .inl z⟩⟩
  · have hne : a ≠ p := by
      rintro rfl
      exact h.there (N.liv _ (List.mem_of_getElem? h2)) hp
    exact (h.at_ i c a h1 h2).ext (Ext.alloc (P := All) hp) (upd_ne hne)
  · have hne : a ≠ p := by
      rintro rfl
      exact h.there ha hp
    rw [upd_ne hne]; exact h.mu a ha
/-- one more live cell, at p -/
def Lg.push (N : Lg) (p : Addr) (hp : ¬ N.L p) : Lg where
  M := N.M ++ [some p]
  L := fun a => N.L a ∨ a = p
  k0 := N.k0
  liv := fun a h => by
    rcases List.mem_append.mp h with z | z
    · exact .inl (N.liv a z)
    · right
      have : some a = some p := by simpa using z
      exact Option.some.inj this
  nd := fun i j a h1 h2 => by
    have key : ∀ k : Nat, (N.M ++ [some p])[k]? = some (some a) → (k < N.M.length ∧ N.M[k]? = some (some a)) ∨ (k = N.M.length ∧ a = p) := fun k hk => by
      by_cases hl : k < N.M.length
      · rw [List.getElem?_append_left hl] at hk; exact .inl ⟨hl, hk⟩
      · have hk' : k < (N.M ++ [some p]).length := (List.getElem?_eq_some_iff.mp hk).1
        have e : k = N.M.length := by simp at hk'; omega
        subst e
        rw [List.getElem?_append_right (Nat.le_refl _)] at hk
        simp at hk
        exact .inr ⟨rfl, hk.symm⟩
    rcases key i h1 with ⟨l1, q1⟩ | ⟨l1, q1⟩ <;> rcases key j h2 with ⟨l2, q2⟩ | ⟨l2, q2⟩
    · exact N.nd i j a q1 q2
    · subst q2; exact absurd (N.liv _ (List.mem_of_getElem? q1)) hp
    · subst q1; exact absurd (N.liv _ (List.mem_of_getElem? q2)) hp
    · rw [l1, l2]
theorem Ext.push {p : Addr} {o : HO} (hp : H p = none) (hl : ¬ N.L p) : Ext P H N (upd H p o) (N.push p hl) := by
  refine ⟨fun a u h _ _ => by rw [upd_ne (ne_of_none h hp)]; exact h, fun a h => ?_, fun i a _ h => ?_, fun a h _ _ => .inl h, fun i a h1 h2 h3 => ?_, fun a h => ?_, fun a _ _ h => ?_, rfl⟩
  · rcases h with z | z
    · exact .inl z
    · right; rw [z]; exact hp
  · have hi : i < N.M.length := (List.getElem?_eq_some_iff.mp h).1
    show (N.M ++ [some p])[i]? = _
    rw [List.getElem?_append_left hi]; exact h
  · have hk : (N.M ++ [some p])[i]? = some (some a) := h3
    by_cases hi : i < N.M.length
    · rw [List.getElem?_append_left hi] at hk; exact hk
    · have hk' : i < (N.M ++ [some p]).length := (List.getElem?_eq_some_iff.mp hk).1
      have e : i = N.M.length := by simp at hk'; omega
      subst e
      rw [List.getElem?_append_right (Nat.le_refl _)] at hk
      simp at hk
      subst hk
      exact absurd h1 hl
  · have : a ≠ p := by rintro rfl; exact h hp
    rw [upd_ne this]; exact h
  · have : a ≠ p := by rintro rfl; exact h hp
    rw [upd_ne this]
theorem HRel.push {p : Addr} {o : HO} {c : Cell} (h : HRel G hs N H) (hp : H p = none) (hm : Mut (some o)) (hc : CRel G (upd H p o) (N.push p (h.fresh hp)) c p) : HRel G (hs ++ [c]) (N.push p (h.fresh hp)) (upd H p o) := by
  refine ⟨by simp [Lg.push, h.len], fun i c' a h1 h2 => ?_, fun a ha => ?_, fun i c' h1 h2 => ?_, (by rw [List.length_append]; exact Nat.le_trans h.le (Nat.le_add_right _ _)), fun p' hp' => ⟨(h.tb p' hp').1, (h.tb p' hp').2.upd (.inl hp) fun a z => z.elim .inl fun z => .inr (by rw [z]; exact hp)⟩⟩
  rotate_left 2
  · by_cases hi : i < hs.length
    · rw [List.getElem?_append_left hi] at h1; exact h.fl i c' h1 h2
    · have hl : i < (hs ++ [c]).length := (List.getElem?_eq_some_iff.mp h1).1
      have hi' : i = hs.length := by simp at hl; omega
      subst hi'
      exact absurd (show hs.length < N.k0 from h2) (by have := h.le; omega)
  · have h2' : (N.M ++ [some p])[i]? = some (some a) := h2
    by_cases hi : i < hs.length
    · rw [List.getElem?_append_left hi] at h1
      rw [List.getElem?_append_left (by rw [h.len]; exact hi)] at h2'
      have hne : a ≠ p := by
        rintro rfl
        exact h.fresh hp (N.liv _ (List.mem_of_getElem? h2'))
      exact (h.at_ i c' a h1 h2').ext (Ext.push (P := All) hp (h.fresh hp)) (upd_ne hne)
    · have hl : i < (hs ++ [c]).length := (List.getElem?_eq_some_iff.mp h1).1
      have hi' : i = hs.length := by simp at hl; omega
      subst hi'
      rw [List.getElem?_append_right (Nat.le_refl _)] at h1
      rw [← h.len, List.getElem?_append_right (Nat.le_refl _)] at h2'
      simp at h1 h2'
      subst h1 h2'
      exact hc
  · rcases ha with ha | ha
    · have hne : a ≠ p := by
        rintro rfl
        exact h.there ha hp
      rw [upd_ne hne]; exact h.mu a ha
    · rw [ha, upd_same]; exact hm
theorem Ext.write {a : Addr} {o : HO} (hi : some a ∈ N.M) (hm : Mut (H a)) : Ext P H N (upd H a o) N := by
  have ha := N.liv a hi
  refine ⟨fun b u h _ q => ?_, fun _ h => .inl h, fun _ _ _ h => h, fun _ h _ _ => h, fun _ _ _ _ h => h, fun b h => ?_, fun b _ q _ => ?_, rfl⟩
  · have : b ≠ a := by
      rintro rfl
      rcases q with q | q
      · exact q ha
      · rw [h] at hm; exact q hm
    rw [upd_ne this]; exact h
  · by_cases e : b = a
    · subst e; rw [upd_same]; exact fun z => nomatch z
    · rw [upd_ne e]; exact h
  · have : b ≠ a := by rintro rfl; exact q hi
    rw [upd_ne this]
theorem HRel.write {i : Nat} {a : Addr} {o : HO} {c : Cell} (h : HRel G hs N H) (hi : N.M[i]? = some (some a)) (hm : Mut (some o)) (hc : CRel G (upd H a o) N c a) (hf : c.flat = true ∨ (∃ c', hs[i]? = some c' ∧ c'.flat = false) := by exact .inl rfl) :
    HRel G (hs.set i c) N (upd H a o) ∧ ExtE H N (upd H a o) N := by
  have ha := List.mem_of_getElem? hi
  have ex : ExtE H N (upd H a o) N := Ext.write ha (h.mu a (N.liv a ha))
  refine ⟨⟨by simp [h.len], fun j c' b h1 h2 => ?_, fun b hb => ?_, fun j c' h1 h2 => ?_, (by rw [List.length_set]; exact h.le), fun p' hp' => ⟨(h.tb p' hp').1, (h.tb p' hp').2.upd (.inr ⟨N.liv a ha, mut_ntbl (h.mu a (N.liv a ha))⟩) fun a z => .inl z⟩⟩, ex⟩
  rotate_left 2
  · by_cases hj : i = j
    · subst hj
      have hl : i < (hs.set i c).length := (List.getElem?_eq_some_iff.mp h1).1
      rw [List.length_set] at hl
      rw [List.getElem?_set_self hl] at h1; cases h1
      rcases hf with z | ⟨c', z1, z2⟩
      · exact z
      · rw [h.fl i c' z1 h2] at z2; cases z2
    · rw [List.getElem?_set_ne hj] at h1
      exact h.fl j c' h1 h2
  · by_cases hj : i = j
    · subst hj
      rw [hi] at h2; cases h2
      have hl : i < (hs.set i c).length := (List.getElem?_eq_some_iff.mp h1).1
      rw [List.length_set] at hl
      rw [List.getElem?_set_self hl] at h1; cases h1
      exact hc
    · rw [List.getElem?_set_ne hj] at h1
      have hne : b ≠ a := by
        rintro rfl
        exact hj (N.nd i j b hi h2)
      exact (h.at_ j c' b h1 h2).ext ex (upd_ne hne)
  · by_cases e : b = a
    · subst e; rw [upd_same]; exact hm
    · rw [upd_ne e]; exact h.mu b hb
/-- the cells from k on are let go (frozen) -/
def Lg.take (N : Lg) (k : Nat) : Lg where
  M := N.M.take k
  L := fun a => N.L a ∧ ∀ j : Nat, N.M[j]? = some (some a) → j < k
  k0 := N.k0
  liv := fun a h => by
    obtain ⟨i, hi⟩ := List.getElem?_of_mem h
    have hk : i < (N.M.take k).length := (List.getElem?_eq_some_iff.mp hi).1
    rw [List.length_take] at hk
    rw [List.getElem?_take_of_lt (by omega)] at hi
    exact ⟨N.liv a (List.mem_of_getElem? hi), fun j hj => by rw [N.nd j i a hj hi]; omega⟩
  nd := fun i j a h1 h2 => by
    have k1 : i < (N.M.take k).length := (List.getElem?_eq_some_iff.mp h1).1
    have k2 : j < (N.M.take k).length := (List.getElem?_eq_some_iff.mp h2).1
    rw [List.length_take] at k1 k2
    rw [List.getElem?_take_of_lt (by omega)] at h1 h2
    exact N.nd i j a h1 h2
theorem HRel.take (h : HRel G hs N H) (k : Nat) (hk : k = N.k0) : HRel G (hs.take k) (N.take k) H := by
  refine ⟨by simp [Lg.take, h.len], fun i c a h1 h2 => ?_, fun a ha => h.mu a ha.1, fun i c h1 h2 => ?_, (by rw [List.length_take]; have := h.le; show N.k0 ≤ _; omega), fun p' hp' => ⟨(h.tb p' hp').1, (h.tb p' hp').2.sub fun a z => z.1⟩⟩
  rotate_left 1
  · have hi : i < (hs.take k).length := (List.getElem?_eq_some_iff.mp h1).1
    rw [List.length_take] at hi
    rw [List.getElem?_take_of_lt (by omega)] at h1
    exact h.fl i c h1 h2
  have h2' : (N.M.take k)[i]? = some (some a) := h2
  have k1 : i < (N.M.take k).length := (List.getElem?_eq_some_iff.mp h2').1
  rw [List.length_take] at k1
  rw [List.getElem?_take_of_lt (by omega)] at h1 h2'
  exact CRel.sub (N := N) (N' := N.take k) (fun b (q : N.L b ∧ _) => q.1) (h.fl i c h1 (by omega)) (h.at_ i c a h1 h2')
theorem Ext.take {k : Nat} (e : Ext (· < k) H N H' N') (hk : N.M.length = k) : ExtE H N H' (N'.take k) := by
  refine ⟨e.keep, fun a h => e.new a h.1, fun i a _ h => ?_, fun a h n _ => ⟨?_, fun j hj => ?_⟩, fun i a h n q => ?_, e.there, e.hid, e.k0⟩
  · have hi : i < N.M.length := (List.getElem?_eq_some_iff.mp h).1
    show (N'.M.take k)[i]? = _
    rw [List.getElem?_take_of_lt (by omega)]
    exact e.pre i a (by omega) h
  · exact e.sub a h n fun i hi => by
      have := (List.getElem?_eq_some_iff.mp hi).1
      omega
  · have := (List.getElem?_eq_some_iff.mp (e.old j a h n hj)).1
    omega
  · have q' : (N'.M.take k)[i]? = some (some a) := q
    have k1 : i < (N'.M.take k).length := (List.getElem?_eq_some_iff.mp q').1
    rw [List.length_take] at k1
    rw [List.getElem?_take_of_lt (by omega)] at q'
    exact e.old i a h n q'
/-- some of the live cells, for a callee -/
def Lg.sel (N : Lg) (is : List Nat) (hn : is.Nodup) : Lg where
  M := is.map fun i => (N.M[i]?).join
  L := N.L
  k0 := is.length
  liv := fun a h => by
    obtain ⟨i, _, e⟩ := List.mem_map.mp h
    cases q : N.M[i]? with
    | none => rw [q] at e; cases e
    | some o => rw [q] at e; cases e; exact N.liv a (List.mem_of_getElem? q)
  nd := fun i j a h1 h2 => by
    rw [List.getElem?_map] at h1 h2
    cases q1 : is[i]? with
    | none => rw [q1] at h1; cases h1
    | some x =>
      cases q2 : is[j]? with
      | none => rw [q2] at h2; cases h2
      | some y =>
        rw [q1] at h1; rw [q2] at h2
        have key : ∀ z : Nat, some ((N.M[z]?).join) = some (some a) → N.M[z]? = some (some a) := fun z hz => by
          cases q : N.M[z]? with
          | none => rw [q] at hz; cases hz
          | some o =>
            rw [q] at hz
            have hz' : o = some a := Option.some.inj hz
            rw [hz']
        have e := N.nd x y a (key x h1) (key y h2)
        subst e
        obtain ⟨l1, e1⟩ := List.getElem?_eq_some_iff.mp q1
        obtain ⟨l2, e2⟩ := List.getElem?_eq_some_iff.mp q2
        exact (List.getElem_inj hn).mp (e1.trans e2.symm)
theorem RepL.length : ∀ {ds : List D} {vs : List V}, RepL G H L ds vs → ds.length = vs.length
  | [], _, h => by rw [show _ = ([] : List V) from h]; rfl
  | d :: ds, _, ⟨v, r, h1, _, h3⟩ => by rw [h1, List.length_cons, List.length_cons, RepL.length h3]
theorem RepL.get : ∀ {ds : List D} {vs : List V} {i : Nat} {d : D}, RepL G H L ds vs → ds[i]? = some d → ∃ v, vs[i]? = some v ∧ Rep G H L d v
  | [], _, _, _, _, e => by simp at e
  | d :: ds, _, 0, _, ⟨v, r, h1, h2, h3⟩, e => by
    simp at e; subst e; exact ⟨v, by rw [h1]; rfl, h2⟩
  | d :: ds, _, i + 1, d', ⟨v, r, h1, h2, h3⟩, e => by
    obtain ⟨w, q1, q2⟩ := RepL.get (i := i) (d := d') h3 (by simpa using e)
    exact ⟨w, by rw [h1]; simpa using q1, q2⟩
theorem RepL.append : ∀ {ds es : List D} {vs ws : List V}, RepL G H L ds vs → RepL G H L es ws → RepL G H L (ds ++ es) (vs ++ ws)
  | [], _, _, _, h, q => by rw [show _ = ([] : List V) from h]; exact q
  | d :: ds, es, _, ws, ⟨v, r, h1, h2, h3⟩, q => ⟨v, r ++ ws, by rw [h1]; rfl, h2, RepL.append h3 q⟩
theorem RepL.one {d : D} {v : V} (h : Rep G H L d v) : RepL G H L [d] [v] := ⟨v, [], rfl, h, rfl⟩
theorem RepL.take : ∀ {ds : List D} {vs : List V} (n : Nat), RepL G H L ds vs → RepL G H L (ds.take n) (vs.take n)
  | _, _, 0, _ => by simp [RepL]
  | [], _, n + 1, h => by rw [show _ = ([] : List V) from h]; simp [RepL]
  | d :: ds, _, n + 1, ⟨v, r, h1, h2, h3⟩ => ⟨v, r.take n, by rw [h1]; rfl, h2, RepL.take n h3⟩
theorem RepL.drop : ∀ {ds : List D} {vs : List V} (n : Nat), RepL G H L ds vs → RepL G H L (ds.drop n) (vs.drop n)
  | _, _, 0, h => h
  | [], _, n + 1, h => by rw [show _ = ([] : List V) from h]; simp [RepL]
  | d :: ds, _, n + 1, ⟨v, r, h1, h2, h3⟩ => by rw [h1]; exact RepL.drop n h3
theorem RepL.set {d : D} {v : V} (q : Rep G H L d v) : ∀ {ds : List D} {vs : List V} (n : Nat), RepL G H L ds vs → RepL G H L (ds.set n d) (vs.set n v)
  | [], _, n, h => by rw [show _ = ([] : List V) from h]; simp [RepL]
  | e :: ds, _, 0, ⟨v', r, h1, h2, h3⟩ => ⟨v, r, by rw [h1]; rfl, q, h3⟩
  | e :: ds, _, n + 1, ⟨v', r, h1, h2, h3⟩ => ⟨v', r.set n v, by rw [h1]; rfl, h2, RepL.set q n h3⟩
theorem RepL.dropLast {ds : List D} {vs : List V} (h : RepL G H L ds vs) : RepL G H L ds.dropLast vs.dropLast := by
  rw [List.dropLast_eq_take, List.dropLast_eq_take, ← h.length]
  exact h.take _
theorem RepL.eraseIdx : ∀ {ds : List D} {vs : List V} (n : Nat), RepL G H L ds vs → RepL G H L (ds.eraseIdx n) (vs.eraseIdx n)
  | [], _, n, h => by rw [show _ = ([] : List V) from h]; simp [RepL]
  | e :: ds, _, 0, ⟨v', r, h1, h2, h3⟩ => by rw [h1]; exact h3
  | e :: ds, _, n + 1, ⟨v', r, h1, h2, h3⟩ => ⟨v', r.eraseIdx n, by rw [h1]; rfl, h2, RepL.eraseIdx n h3⟩
theorem RepL.reverse : ∀ {ds : List D} {vs : List V}, RepL G H L ds vs → RepL G H L ds.reverse vs.reverse
  | [], _, h => by rw [show _ = ([] : List V) from h]; simp [RepL]
  | d :: ds, _, ⟨v, r, h1, h2, h3⟩ => by
    rw [h1, List.reverse_cons, List.reverse_cons]
    exact RepL.append (RepL.reverse h3) (RepL.one h2)
theorem RepSL.length : ∀ {ds : List SV} {vs : List V}, RepSL G H N ds vs → ds.length = vs.length
  | [], _, h => by rw [show _ = ([] : List V) from h]; rfl
  | d :: ds, _, ⟨v, r, h1, _, h3⟩ => by rw [h1, List.length_cons, List.length_cons, RepSL.length h3]
theorem RepSL.get : ∀ {ds : List SV} {vs : List V} {i : Nat} {d : SV}, RepSL G H N ds vs → ds[i]? = some d → ∃ v, vs[i]? = some v ∧ RepS G H N d v
  | [], _, _, _, _, e => by simp at e
  | d :: ds, _, 0, _, ⟨v, r, h1, h2, h3⟩, e => by
    simp at e; subst e; exact ⟨v, by rw [h1]; rfl, h2⟩
  | d :: ds, _, i + 1, d', ⟨v, r, h1, h2, h3⟩, e => by
    obtain ⟨w, q1, q2⟩ := RepSL.get (i := i) (d := d') h3 (by simpa using e)
    exact ⟨w, by rw [h1]; simpa using q1, q2⟩
end
end Py
end L2

set_option Elab.async false
set_option linter.all false
set_option maxRecDepth 100000
/-! Mirrors: what an expression, a statement, a def computes, over deep values; the judgements that link them with the text. -/
namespace L2
namespace Py
open PySem PySem.Spec PyProof.Rows
variable [Tl]

inductive Out (α : Type) where
  | ok (a : α) (hs : Hs)
  | exc (c : Str) (ns : List Str) (ws : List D) (hs : Hs)
  | bad
def Out.bind {α β : Type} (o : Out α) (f : α → Hs → Out β) : Out β :=
  match o with
  | .ok a h => f a h
  | .exc c ns ws h => .exc c ns ws h
  | .bad => .bad
inductive OutS where
  | nx (ρ : Env') (hs : Hs)
  | rt (d : SV) (hs : Hs)
  | bk (ρ : Env') (hs : Hs)
  | ct (ρ : Env') (hs : Hs)
  | exc (c : Str) (ns : List Str) (ws : List D) (ρ : Env') (hs : Hs)
  | bad
abbrev Mx (α : Type) := Env' → Hs → Out α
abbrev ME := Mx SV
abbrev MT := Mx Bool
abbrev MA := Mx (List SV)
abbrev MS := Env' → Hs → OutS
def OutS.bind (o : OutS) (f : MS) : OutS :=
  match o with
  | .nx ρ h => f ρ h
  | o => o
def Out.bindS {α : Type} (o : Out α) (ρ : Env') (f : α → Hs → OutS) : OutS :=
  match o with
  | .ok a h => f a h
  | .exc c ns ws h => .exc c ns ws ρ h
  | .bad => .bad

def RB : Gd → Hp → Lg → Bool → Bool → Prop := fun _ _ _ a b => a = b

section
variable (G : Gd)
/-- what an outcome asks of what follows -/
def PostO {α β : Type} (W : WX) (σ : St) (H : Hp) (N : Lg) (R : Gd → Hp → Lg → α → β → Prop) (Q : β → Hp → Prop) : Out α → Prop
  | .ok d hs' => ∀ v N' H', HRel G hs' N' H' → ExtE H N H' N' → R G H' N' d v → Q v H'
  | .exc c ns ws hs' => ∀ cls dd N' H', HRel G hs' N' H' → ExtE H N H' N' → XRep G H' N'.L c ns ws cls dd → W cls dd σ H'
  | .bad => False
def TR {α β : Type} (W : WX) (R : Gd → Hp → Lg → α → β → Prop) (m : Mx α) : St → Hp → (β → Hp → Prop) → Prop := fun σ H Q =>
  ∃ ρ hs N, HRel G hs N H ∧ ERel G H N ρ σ ∧ PostO G W σ H N R Q (m ρ hs)
def PostS (W : WX) (P : Nat → Prop) (H : Hp) (N : Lg) (D : Ends) : OutS → Prop
  | .nx ρ hs' => ∀ σ' N' H', HRel G hs' N' H' → Ext P H N H' N' → ERel G H' N' ρ σ' → D.nx σ' H'
  | .rt d hs' => ∀ v N' H', HRel G hs' N' H' → Ext P H N H' N' → RepS G H' N' d v → D.rt v H'
  | .bk ρ hs' => ∀ σ' N' H', HRel G hs' N' H' → Ext P H N H' N' → ERel G H' N' ρ σ' → D.bk σ' H'
  | .ct ρ hs' => ∀ σ' N' H', HRel G hs' N' H' → Ext P H N H' N' → ERel G H' N' ρ σ' → D.ct σ' H'
  | .exc c ns ws ρ hs' => ∀ cls dd σ' N' H', HRel G hs' N' H' → Ext P H N H' N' → ERel G H' N' ρ σ' → XRep G H' N'.L c ns ws cls dd → W cls dd σ' H'
  | .bad => False
def TS' (W : WX) (P : Nat → Prop) (m : MS) : TS := fun D σ H => ∃ ρ hs N, HRel G hs N H ∧ ERel G H N ρ σ ∧ PostS G W P H N D (m ρ hs)
end
abbrev Cx.g (X : Cx) : Gd := ⟨X.K, X.mg, X.w, X.base⟩
abbrev SE (X : Cx) (W : WX) (e : Expr) (m : ME) : Prop := PE X e (TR (Cx.g X) W RepS m)
abbrev ST (X : Cx) (W : WX) (e : Expr) (m : MT) : Prop := PT X e (TR (Cx.g X) W RB m)
abbrev SW (X : Cx) (W : WX) (e : Expr) (m : MT) : Prop := PW X e (TR (Cx.g X) W RB m)
abbrev SA (X : Cx) (W : WX) (es : List Expr) (m : MA) : Prop := PA X es (TR (Cx.g X) W RepSL m)
abbrev SS (X : Cx) (W : WX) (P : Nat → Prop) (st : Stmt) (m : MS) : Prop := PS X st (TS' (Cx.g X) W P m)
abbrev SSs (X : Cx) (W : WX) (P : Nat → Prop) (st : List Stmt) (m : MS) : Prop := PSs X st (TS' (Cx.g X) W P m)

section
variable {X : Cx} {e : Expr}
theorem pe_of {t t' : TE} (h : PE X e t) (k : ∀ σ H Q, t' σ H Q → t σ H Q) : PE X e t' := ⟨fun pins s σ H Q I q => h.run pins s σ H Q I (k σ H Q q)⟩
theorem pt_of {t t' : TT} (h : PT X e t) (k : ∀ σ H Q, t' σ H Q → t σ H Q) : PT X e t' := ⟨fun pins s σ H Q I q => h.run pins s σ H Q I (k σ H Q q)⟩
theorem pw_of {t t' : TT} (h : PW X e t) (k : ∀ σ H Q, t' σ H Q → t σ H Q) : PW X e t' := ⟨fun wh pins s σ H Q I q => h.run wh pins s σ H Q I (k σ H Q q)⟩
theorem pa_of {es : List Expr} {t t' : TA} (h : PA X es t) (k : ∀ σ H Q, t' σ H Q → t σ H Q) : PA X es t' := ⟨fun pos pins s σ H Q I q => h.run pos pins s σ H Q I (k σ H Q q)⟩
theorem ps_of {st : Stmt} {t t' : TS} (h : PS X st t) (k : ∀ D σ H, t' D σ H → t D σ H) : PS X st t' := ⟨fun pins s σ H D I q => h.run pins s σ H D I (k D σ H q)⟩
theorem pss_of {st : List Stmt} {t t' : TS} (h : PSs X st t) (k : ∀ D σ H, t' D σ H → t D σ H) : PSs X st t' := ⟨fun pins s σ H D I q => h.run pins s σ H D I (k D σ H q)⟩
end

section
variable {G : Gd} {W : WX} {σ : St} {H H1 : Hp} {N N1 : Lg} {P : Nat → Prop}
theorem PostO.ext {α β : Type} {R : Gd → Hp → Lg → α → β → Prop} {Q : β → Hp → Prop} {o : Out α} (x : ExtE H N H1 N1) (h : PostO G W σ H N R Q o) : PostO G W σ H1 N1 R Q o := by
  cases o with
  | ok d hs => exact fun v N' H' a b c => h v N' H' a (x.trans b) c
  | exc c ns ws hs => exact fun cls dd N' H' a b q => h cls dd N' H' a (x.trans b) q
  | bad => exact h
/-- what follows, over the state behind -/
theorem PostO.bind {α β γ δ : Type} {R : Gd → Hp → Lg → α → β → Prop} {R' : Gd → Hp → Lg → γ → δ → Prop} {Q : δ → Hp → Prop} {o : Out α} {f : α → Hs → Out γ} (h : PostO G W σ H N R' Q (o.bind f)) :
    PostO G W σ H N R (fun x H1 => ∃ hs1 N1 a, HRel G hs1 N1 H1 ∧ ExtE H N H1 N1 ∧ R G H1 N1 a x ∧ PostO G W σ H1 N1 R' Q (f a hs1)) o := by
  cases o with
  | ok d hs => exact fun v N' H' a b c => ⟨hs, N', d, a, b, c, PostO.ext b h⟩
  | exc c ns ws hs => exact h
  | bad => exact h
theorem PostO.mono {α β : Type} {R : Gd → Hp → Lg → α → β → Prop} {Q Q' : β → Hp → Prop} {o : Out α} (h : PostO G W σ H N R Q o) (k : ∀ v H', Q v H' → Q' v H') : PostO G W σ H N R Q' o := by
  cases o with
  | ok d hs => exact fun v N' H' a b c => k _ _ (h v N' H' a b c)
  | exc c ns ws hs => exact h
  | bad => exact h
theorem PostS.ext {D : Ends} {o : OutS} (x : Ext P H N H1 N1) (h : PostS G W P H N D o) : PostS G W P H1 N1 D o := by
  cases o with
  | nx ρ hs => exact fun σ' N' H' a b c => h σ' N' H' a (x.trans b) c
  | rt d hs => exact fun v N' H' a b c => h v N' H' a (x.trans b) c
  | bk ρ hs => exact fun σ' N' H' a b c => h σ' N' H' a (x.trans b) c
  | ct ρ hs => exact fun σ' N' H' a b c => h σ' N' H' a (x.trans b) c
  | exc c ns ws ρ hs => exact fun cls dd σ' N' H' a b e q => h cls dd σ' N' H' a (x.trans b) e q
  | bad => exact h
/-- from an expression to what a statement does with it -/
theorem PostO.bindS {α β : Type} {R : Gd → Hp → Lg → α → β → Prop} {D : Ends} {ρ : Env'} {o : Out α} {f : α → Hs → OutS} (he : ERel G H N ρ σ) (h : PostS G W P H N D (o.bindS ρ f)) :
    PostO G W σ H N R (fun x H1 => ∃ hs1 N1 a, HRel G hs1 N1 H1 ∧ ExtE H N H1 N1 ∧ R G H1 N1 a x ∧ PostS G W P H1 N1 D (f a hs1)) o := by
  cases o with
  | ok d hs => exact fun v N' H' a b c => ⟨hs, N', d, a, b, c, PostS.ext b.toP h⟩
  | exc c ns ws hs => exact fun cls dd N' H' a b q => h cls dd σ N' H' a b.toP (he.ext b) q
  | bad => exact h
end

/-! ### expressions -/
section
variable {X : Cx} {W : WX} {pos : Pos} {P : Nat → Prop}

def mVar (i : Nat) : ME := fun ρ hs => match ρ[i]? with
  | some (some d) => .ok d hs
  | _ => .bad
def mC (d : D) : ME := fun _ hs => .ok (.d d) hs
theorem se_var {i : Nat} {x : Str} (h : PE X (.Name x pos) (tVar i)) : SE X W (.Name x pos) (mVar i) := by
  refine pe_of h fun σ H Q ⟨ρ, hs, N, hr, he, q⟩ => ?_
  unfold mVar at q
  split at q
  · rename_i d hd
    obtain ⟨v, h1, h2⟩ := he.2 i d hd
    exact ⟨v, h1, q v N H hr Ext.refl h2⟩
  · exact q.elim
theorem se_c {e : Expr} {v : V} {d : D} (h : PE X e (tC v)) (r : ∀ H L, Rep (Cx.g X) H L d v) : SE X W e (mC d) := by
  refine pe_of h fun σ H Q ⟨ρ, hs, N, hr, he, q⟩ => ?_
  exact q v N H hr Ext.refl (r H N.L)
theorem se_int {i j} : SE X W (.Constant (.int i) j pos) (mC (.int i)) := se_c pe_int fun _ _ => rfl
theorem se_bl {i j} : SE X W (.Constant (.bool i) j pos) (mC (.bl i)) := se_c pe_bl fun _ _ => rfl
theorem se_non {j} : SE X W (.Constant .none j pos) (mC .non) := se_c pe_non fun _ _ => rfl
theorem se_str {i j} : SE X W (.Constant (.str i) j pos) (mC (.str i)) := se_c pe_str fun _ _ => rfl
/-- a module's constant, def, class -/
theorem se_glob {x : Str} {v : V} {u : Value} {d : D} (hg : Gl X x) (hm : X.mg x = some u) (r : RelV v u) (q : ∀ H L, Rep (Cx.g X) H L d v) (hd : (x == ("__debug__" : Str)) = false := by decide) : SE X W (.Name x pos) (mC d) :=
  se_c (pe_glob hg hm r hd) q

/-- an operation on two values, reading the live cells -/
abbrev F2 := Hs → SV → SV → Option D
def r2 (G : Gd) (f : F2) : R2 := fun x y H Q => ∃ hs N dx dy d, HRel G hs N H ∧ RepS G H N dx x ∧ RepS G H N dy y ∧ f hs dx dy = some d ∧ ∀ v H', HRel G hs N H' → ExtE H N H' N → Rep G H' N.L d v → Q v H'
def ofO (hs : Hs) : Option D → Out SV
  | some d => .ok (.d d) hs
  | none => .bad
def m2 (f : F2) (a b : ME) : ME := fun ρ hs => (a ρ hs).bind fun x hs1 => (b ρ hs1).bind fun y hs2 => ofO hs2 (f hs2 x y)
theorem r2_of {f : F2} {σ : St} {H H0 : Hp} {N N0 : Lg} {hs : Hs} {dx dy : SV} {x y : V} {Q : VK} {G : Gd} (h1 : HRel G hs N H) (h2 : RepS G H N dx x) (h3 : RepS G H N dy y) (q : PostO G W σ H N RepS Q (ofO hs (f hs dx dy))) : r2 G f x y H Q := by
  cases e : f hs dx dy with
  | none => rw [e] at q; exact q.elim
  | some d =>
    rw [e] at q
    exact ⟨hs, N, dx, dy, d, h1, h2, h3, e, fun v H' a b c => q v N H' a b c⟩
/-- the state behind the first of two -/
theorem TR.two {α β γ δ : Type} {R : Gd → Hp → Lg → α → β → Prop} {R' : Gd → Hp → Lg → γ → δ → Prop} {G : Gd} {ma : Mx α} {f : Env' → α → Hs → Out γ} {σ : St} {H : Hp} {Q : δ → Hp → Prop}
    (h : TR G W R' (fun ρ hs => (ma ρ hs).bind (f ρ)) σ H Q) :
    TR G W R ma σ H fun x H1 => ∃ ρ hs1 N1 a, HRel G hs1 N1 H1 ∧ ERel G H1 N1 ρ σ ∧ R G H1 N1 a x ∧ PostO G W σ H1 N1 R' Q (f ρ a hs1) := by
  obtain ⟨ρ, hs, N, hr, he, q⟩ := h
  refine ⟨ρ, hs, N, hr, he, (PostO.bind (R := R) q).mono fun v H' ⟨hs1, N1, a, q1, q2, q3, q4⟩ => ⟨ρ, hs1, N1, a, q1, he.ext q2, q3, q4⟩⟩
theorem op2_read {a b : Expr} {ma mb : ME} {f : F2} {G : Gd} {σ : St} {H : Hp} {Q : VK} (h : TR G W RepS (m2 f ma mb) σ H Q) : tOp (r2 G f) (TR G W RepS ma) (TR G W RepS mb) σ H Q := by
  obtain ⟨ρ, hs, N, hr, he, q⟩ := TR.two (R := RepS) h
  refine ⟨ρ, hs, N, hr, he, q.mono fun x H1 ⟨ρ1, hs1, N1, a, q1, q2, q3, q4⟩ => ?_⟩
  refine ⟨ρ1, hs1, N1, q1, q2, (PostO.bind (R := RepS) q4).mono fun y H2 ⟨hs2, N2, d, z1, z2, z3, z4⟩ => ?_⟩
  exact r2_of (H0 := H2) (N0 := N2) z1 (q3.ext z2) z3 z4
theorem se_op {op : Operator} {a b : Expr} {ma mb : ME} {f : F2} (ho : OpR X (binaryOp op) (r2 (Cx.g X) f)) (ha : SE X W a ma) (hb : SE X W b mb) : SE X W (.BinOp a op b pos) (m2 f ma mb) :=
  pe_of (pe_op ho ha hb) fun _ _ _ h => op2_read (a := a) (b := b) h
theorem se_cmp {op : CmpOp} {a b : Expr} {ma mb : ME} {f : F2} (ho : OpR X (compareOp op) (r2 (Cx.g X) f)) (ha : SE X W a ma) (hb : SE X W b mb) (hm : behindInMarks op b = false := by first | exact nomark _ | rfl) :
    SE X W (.Compare a [op] [b] pos) (m2 f ma mb) :=
  pe_of (pe_cmpR ho ha hb hm) fun _ _ _ h => op2_read (a := a) (b := b) h
/-- an operation on one value -/
abbrev F1 := Hs → SV → Option D
def r1 (G : Gd) (f : F1) : V → Hp → VK → Prop := fun x H Q => ∃ hs N dx d, HRel G hs N H ∧ RepS G H N dx x ∧ f hs dx = some d ∧ ∀ v H', HRel G hs N H' → ExtE H N H' N → Rep G H' N.L d v → Q v H'
def m1 (f : F1) (a : ME) : ME := fun ρ hs => (a ρ hs).bind fun x hs1 => ofO hs1 (f hs1 x)
theorem r1_of {f : F1} {σ : St} {H : Hp} {N : Lg} {hs : Hs} {dx : SV} {x : V} {Q : VK} {G : Gd} (h1 : HRel G hs N H) (h2 : RepS G H N dx x) (q : PostO G W σ H N RepS Q (ofO hs (f hs dx))) : r1 G f x H Q := by
  cases e : f hs dx with
  | none => rw [e] at q; exact q.elim
  | some d =>
    rw [e] at q
    exact ⟨hs, N, dx, d, h1, h2, e, fun v H' a b c => q v N H' a b c⟩
theorem se_un {op : UnaryOp} {a : Expr} {ma : ME} {f : F1} (ho : UnR X (unaryOp op) (r1 (Cx.g X) f)) (ha : SE X W a ma) : SE X W (.UnaryOp op a pos) (m1 f ma) := by
  refine pe_of (pe_un ho ha) fun σ H Q h => ?_
  obtain ⟨ρ, hs, N, hr, he, q⟩ := TR.two (R := RepS) h
  exact ⟨ρ, hs, N, hr, he, q.mono fun x H1 ⟨ρ1, hs1, N1, a, q1, q2, q3, q4⟩ => r1_of q1 q3 q4⟩

/-! ### tests -/
/-- a value as a test: by its truth -/
def truD (hs : Hs) : SV → Option Bool
  | .d .non => some false
  | .d (.bl b) => some b
  | .d (.int i) => some (i != 0)
  | .d (.str x) => if x.length ≤ sizeLine then some ((x.length : Int) != 0) else none
  | .d (.tup xs) => some (!xs.isEmpty)
  | .d (.lst xs) => some (!xs.isEmpty)
  | .r n => match hs[n]? with
    | some (.lst xs) => some (!xs.isEmpty)
    | _ => none
  | _ => none
def ofB (hs : Hs) : Option Bool → Out Bool
  | some b => .ok b hs
  | none => .bad
def mTru (a : ME) : MT := fun ρ hs => (a ρ hs).bind fun x hs1 => ofB hs1 (truD hs1 x)
theorem isEmpty_rep {G : Gd} {H : Hp} {L : Addr → Prop} {xs : List D} {vs : List V} (h : RepL G H L xs vs) : (!xs.isEmpty) = !vs.isEmpty := by
  cases xs with
  | nil => rw [show vs = [] from h]; rfl
  | cons d ds => obtain ⟨v, r, h1, _⟩ := h; rw [h1]; rfl
theorem tru_of {G : Gd} {H : Hp} {N : Lg} {hs : Hs} {dx : SV} {x : V} {k : Bool} (h1 : HRel G hs N H) (h2 : RepS G H N dx x) (h : truD hs dx = some k) : TruV G.K x H k := by
  cases dx with
  | d z =>
    have h2 : Rep G H N.L z x := h2
    cases z with
    | non => rw [show x = .non from h2]; exact (Option.some.inj h).symm
    | bl b => rw [show x = .bl b from h2]; exact (Option.some.inj h).symm
    | int i => rw [show x = .int i from h2]; exact (Option.some.inj h).symm
    | str y =>
      rw [show x = .str y from h2]
      simp only [truD] at h
      by_cases hy : y.length ≤ sizeLine
      · rw [if_pos hy] at h; exact ⟨hy, (Option.some.inj h).symm⟩
      · rw [if_neg hy] at h; cases h
    | tup xs =>
      obtain ⟨a, vs, rfl, q1, q2⟩ := h2
      exact .inr (.inl ⟨vs, q1, by rw [← isEmpty_rep q2]; exact (Option.some.inj h).symm⟩)
    | lst xs =>
      obtain ⟨a, vs, rfl, _, q1, q2⟩ := h2
      exact .inl ⟨vs, SqL.of q1, by rw [← isEmpty_rep q2]; exact (Option.some.inj h).symm⟩
    | _ => cases h
  | r n =>
    obtain ⟨a, rfl, hn⟩ := h2
    obtain ⟨c, hc, q, _⟩ := h1.get hn
    simp only [truD] at h
    rw [hc] at h
    cases c with
    | lst xs =>
      obtain ⟨vs, q1, q2⟩ := q
      exact .inl ⟨vs, SqL.of q1, by rw [← isEmpty_rep q2]; exact (Option.some.inj h).symm⟩
    | _ => cases h
theorem st_tru {a : Expr} {ma : ME} (ha : SE X W a ma) (he : ∀ whole, isTrue a X.env whole = (do let v ← whole; standAt a.pos; holding [v] (truthy v)) := by intro _; rfl) : ST X W a (mTru ma) := by
  refine pt_of (pt_truth ha he) fun σ H Q h => ?_
  obtain ⟨ρ, hs, N, hr, he, q⟩ := TR.two (R := RepS) h
  refine ⟨ρ, hs, N, hr, he, q.mono fun x H1 ⟨ρ1, hs1, N1, a, q1, q2, q3, q4⟩ => ?_⟩
  cases e : truD hs1 a with
  | none => rw [e] at q4; exact q4.elim
  | some b => rw [e] at q4; exact ⟨b, tru_of q1 q3 e, q4 b N1 H1 q1 Ext.refl rfl⟩
/-- a comparison as a test -/
def asB : SV → Option Bool
  | .d (.bl b) => some b
  | _ => none
def mB (a : ME) : MT := fun ρ hs => (a ρ hs).bind fun x hs1 => ofB hs1 (asB x)
theorem asB_of {G : Gd} {H : Hp} {N : Lg} {dx : SV} {x : V} {k : Bool} (h2 : RepS G H N dx x) (h : asB dx = some k) : x = .bl k := by
  cases dx with
  | r n => cases h
  | d z =>
    have h2 : Rep G H N.L z x := h2
    cases z with
    | bl b => rw [show x = .bl b from h2]; rw [Option.some.inj h]
    | _ => cases h
theorem st_cmp {op : CmpOp} {a b : Expr} {ma mb : ME} {f : F2} (ho : OpR X (compareOp op) (r2 (Cx.g X) f)) (ha : SE X W a ma) (hb : SE X W b mb) (hm : behindInMarks op b = false := by first | exact nomark _ | rfl) :
    ST X W (.Compare a [op] [b] pos) (mB (m2 f ma mb)) := by
  refine pt_of (pt_cmpR ho ha hb hm) fun σ H Q h => ?_
  have h2 := TR.two (R := RepS) h
  have h3 := op2_read (a := a) (b := b) h2
  refine show tOp _ _ _ σ H _ from ?_
  obtain ⟨ρ, hs, N, hr, he, q⟩ := h3
  refine ⟨ρ, hs, N, hr, he, q.mono fun x H1 ⟨ρ1, hs1, N1, hr1, he1, q1⟩ => ?_⟩
  refine ⟨ρ1, hs1, N1, hr1, he1, q1.mono fun y H2 ⟨hs2, N2, dx, dy, d, z1, z2, z3, z4, z5⟩ => ?_⟩
  refine ⟨hs2, N2, dx, dy, d, z1, z2, z3, z4, fun v H' y1 y2 y3 => ?_⟩
  obtain ⟨ρ', hs', N', a', w1, w2, w3, w4⟩ := z5 v H' y1 y2 y3
  cases e : asB a' with
  | none => rw [e] at w4; exact w4.elim
  | some b => rw [e] at w4; exact ⟨b, asB_of w3 e, w4 b N' H' w1 Ext.refl rfl⟩
/-- an expression that gives a bool, as a test -/
theorem st_val {e : Expr} {m : ME} (h : SE X W e m) (he : ∀ whole, isTrue e X.env whole = (do let v ← whole; standAt e.pos; holding [v] (truthy v)) := by intro _; rfl) : ST X W e (mB m) := by
  refine pt_of (pt_val h he) fun σ H Q h => ?_
  obtain ⟨ρ, hs, N, hr, he, q⟩ := TR.two (R := RepS) h
  refine ⟨ρ, hs, N, hr, he, q.mono fun x H1 ⟨ρ1, hs1, N1, a, q1, q2, q3, q4⟩ => ?_⟩
  cases e : asB a with
  | none => rw [e] at q4; exact q4.elim
  | some b => rw [e] at q4; exact ⟨b, asB_of q3 e, q4 b N1 H1 q1 Ext.refl rfl⟩
def mAnd (a b : MT) : MT := fun ρ hs => (a ρ hs).bind fun c hs1 => if c = true then b ρ hs1 else .ok false hs1
def mOr (a b : MT) : MT := fun ρ hs => (a ρ hs).bind fun c hs1 => if c = true then .ok true hs1 else b ρ hs1
def mNot (a : MT) : MT := fun ρ hs => (a ρ hs).bind fun c hs1 => .ok (!c) hs1
variable {a b : Expr} {rest : List Expr} {ma mb : MT}
theorem TR.twoB {γ δ : Type} {R' : Gd → Hp → Lg → γ → δ → Prop} {G : Gd} {ma : MT} {f : Env' → Bool → Hs → Out γ} {σ : St} {H : Hp} {Q : δ → Hp → Prop}
    (h : TR G W R' (fun ρ hs => (ma ρ hs).bind (f ρ)) σ H Q) :
    TR G W RB ma σ H fun x H1 => TR G W R' (fun ρ hs => f ρ x hs) σ H1 Q := by
  obtain ⟨ρ, hs, N, hr, he, q⟩ := TR.two (R := RB) h
  refine ⟨ρ, hs, N, hr, he, q.mono fun x H1 ⟨ρ1, hs1, N1, a, q1, q2, q3, q4⟩ => ?_⟩
  have q3 : a = x := q3
  subst q3
  exact ⟨ρ1, hs1, N1, q1, q2, q4⟩
theorem TR.ret {σ : St} {H : Hp} {Q : Bool → Hp → Prop} {G : Gd} {b : Bool} (h : TR G W RB (fun _ hs => .ok b hs) σ H Q) : Q b H := by
  obtain ⟨ρ, hs, N, hr, he, q⟩ := h
  exact q b N H hr Ext.refl rfl
theorem sw_and1 (ha : ST X W a ma) : SW X W (.BoolOp .And [a] pos) ma := pw_and1 ha
theorem sw_or1 (ha : ST X W a ma) : SW X W (.BoolOp .Or [a] pos) ma := pw_or1 ha
theorem sw_and (ha : ST X W a ma) (hb : SW X W (.BoolOp .And (b :: rest) pos) mb) : SW X W (.BoolOp .And (a :: b :: rest) pos) (mAnd ma mb) := by
  refine pw_of (pw_and ha hb) fun σ H Q h => ?_
  obtain ⟨ρ, hs, N, hr, he, q⟩ := TR.twoB h
  refine ⟨ρ, hs, N, hr, he, q.mono fun x H1 q1 => ?_⟩
  cases x with
  | true => exact q1
  | false => exact TR.ret q1
theorem sw_or (ha : ST X W a ma) (hb : SW X W (.BoolOp .Or (b :: rest) pos) mb) : SW X W (.BoolOp .Or (a :: b :: rest) pos) (mOr ma mb) := by
  refine pw_of (pw_or ha hb) fun σ H Q h => ?_
  obtain ⟨ρ, hs, N, hr, he, q⟩ := TR.twoB h
  refine ⟨ρ, hs, N, hr, he, q.mono fun x H1 q1 => ?_⟩
  cases x with
  | true => exact TR.ret q1
  | false => exact q1
theorem st_w {e : Expr} {m : MT} (h : SW X W e m) : ST X W e m := h.pt
theorem st_not (ha : ST X W a ma) : ST X W (.UnaryOp .Not a pos) (mNot ma) := by
  refine pt_of (pt_not ha) fun σ H Q h => ?_
  obtain ⟨ρ, hs, N, hr, he, q⟩ := TR.twoB h
  exact ⟨ρ, hs, N, hr, he, q.mono fun x H1 q1 => TR.ret q1⟩
/-- a test as a value: not, and, or of bools -/
def mV (a : MT) : ME := fun ρ hs => (a ρ hs).bind fun c hs1 => .ok (.d (.bl c)) hs1
def mAndV (a b : ME) : ME := fun ρ hs => (a ρ hs).bind fun x hs1 => match asB x with
  | some true => b ρ hs1
  | some false => .ok (.d (.bl false)) hs1
  | none => .bad
def mOrV (a b : ME) : ME := fun ρ hs => (a ρ hs).bind fun x hs1 => match asB x with
  | some true => .ok (.d (.bl true)) hs1
  | some false => b ρ hs1
  | none => .bad
def mNotV (a : ME) : ME := fun ρ hs => (a ρ hs).bind fun x hs1 => match asB x with
  | some c => .ok (.d (.bl (!c))) hs1
  | none => .bad
variable {ea eb : ME}
theorem TR.twoE {γ δ : Type} {R' : Gd → Hp → Lg → γ → δ → Prop} {G : Gd} {ma : ME} {f : Env' → SV → Hs → Out γ} {σ : St} {H : Hp} {Q : δ → Hp → Prop}
    (h : TR G W R' (fun ρ hs => (ma ρ hs).bind (f ρ)) σ H Q) :
    TR G W RepS ma σ H fun x H1 => ∃ ρ hs1 N1 a, HRel G hs1 N1 H1 ∧ ERel G H1 N1 ρ σ ∧ RepS G H1 N1 a x ∧ PostO G W σ H1 N1 R' Q (f ρ a hs1) := TR.two h
theorem se_one {op} (h : SE X W a ea) : SE X W (.BoolOp op [a] pos) ea := pe_one h
theorem se_and (ha : SE X W a ea) (hb : SE X W (.BoolOp .And (b :: rest) pos) eb) : SE X W (.BoolOp .And (a :: b :: rest) pos) (mAndV ea eb) := by
  refine pe_of (pe_and ha hb) fun σ H Q h => ?_
  obtain ⟨ρ, hs, N, hr, he, q⟩ := TR.twoE h
  refine ⟨ρ, hs, N, hr, he, q.mono fun x H1 ⟨ρ1, hs1, N1, a, q1, q2, q3, q4⟩ => ?_⟩
  cases e : asB a with
  | none => rw [e] at q4; exact q4.elim
  | some c =>
    rw [e] at q4
    refine ⟨c, asB_of q3 e, ?_⟩
    cases c with
    | true => exact ⟨ρ1, hs1, N1, q1, q2, q4⟩
    | false => exact q4 _ N1 H1 q1 Ext.refl rfl
theorem se_or (ha : SE X W a ea) (hb : SE X W (.BoolOp .Or (b :: rest) pos) eb) : SE X W (.BoolOp .Or (a :: b :: rest) pos) (mOrV ea eb) := by
  refine pe_of (pe_or ha hb) fun σ H Q h => ?_
  obtain ⟨ρ, hs, N, hr, he, q⟩ := TR.twoE h
  refine ⟨ρ, hs, N, hr, he, q.mono fun x H1 ⟨ρ1, hs1, N1, a, q1, q2, q3, q4⟩ => ?_⟩
  cases e : asB a with
  | none => rw [e] at q4; exact q4.elim
  | some c =>
    rw [e] at q4
    refine ⟨c, asB_of q3 e, ?_⟩
    cases c with
    | false => exact ⟨ρ1, hs1, N1, q1, q2, q4⟩
    | true => exact q4 _ N1 H1 q1 Ext.refl rfl
theorem se_not (ha : SE X W a ea) : SE X W (.UnaryOp .Not a pos) (mNotV ea) := by
  refine pe_of (pe_not ha) fun σ H Q h => ?_
  obtain ⟨ρ, hs, N, hr, he, q⟩ := TR.twoE h
  refine ⟨ρ, hs, N, hr, he, q.mono fun x H1 ⟨ρ1, hs1, N1, a, q1, q2, q3, q4⟩ => ?_⟩
  cases e : asB a with
  | none => rw [e] at q4; exact q4.elim
  | some c =>
    rw [e] at q4
    exact ⟨c, asB_of q3 e, q4 _ N1 H1 q1 Ext.refl rfl⟩
def mIf {α : Type} (c : MT) (a b : Mx α) : Mx α := fun ρ hs => (c ρ hs).bind fun k hs1 => if k = true then a ρ hs1 else b ρ hs1
theorem se_ifExp {c : Expr} {mc : MT} (hc : ST X W c mc) (ha : SE X W a ea) (hb : SE X W b eb) : SE X W (.IfExp c a b pos) (mIf mc ea eb) := by
  refine pe_of (pe_ifExp hc ha hb) fun σ H Q h => ?_
  obtain ⟨ρ, hs, N, hr, he, q⟩ := TR.twoB h
  refine ⟨ρ, hs, N, hr, he, q.mono fun x H1 q1 => ?_⟩
  cases x with
  | true => exact q1
  | false => exact q1

/-! ### argument lists, displays -/
def mNil : MA := fun _ hs => .ok [] hs
def mCons (a : ME) (r : MA) : MA := fun ρ hs => (a ρ hs).bind fun x hs1 => (r ρ hs1).bind fun xs hs2 => .ok (x :: xs) hs2
theorem sa_nil : SA X W [] mNil := by
  refine pa_of pa_nil fun σ H Q ⟨ρ, hs, N, hr, he, q⟩ => ?_
  exact q [] N H hr Ext.refl rfl
theorem sa_cons {es : List Expr} {mr : MA} (ha : SE X W a ea) (hr : SA X W es mr) (hs : starEach (a :: es) X.env = (false, eval a X.env) :: starEach es X.env := by rfl) : SA X W (a :: es) (mCons ea mr) := by
  refine pa_of (pa_cons ha hr hs) fun σ H Q h => ?_
  obtain ⟨ρ, hs, N, hr, he, q⟩ := TR.twoE h
  refine ⟨ρ, hs, N, hr, he, q.mono fun x H1 ⟨ρ1, hs1, N1, a, q1, q2, q3, q4⟩ => ?_⟩
  refine ⟨ρ1, hs1, N1, q1, q2, (PostO.bind (R := RepSL) q4).mono fun ys H2 ⟨hs2, N2, d, z1, z2, z3, z4⟩ => ?_⟩
  exact z4 (x :: ys) N2 H2 z1 Ext.refl ⟨x, ys, rfl, q3.ext z2, z3⟩
/-- all of them data -/
def datas : List SV → Option (List D)
  | [] => some []
  | .d x :: r => (datas r).map (x :: ·)
  | .r _ :: _ => none
theorem datas_of {G : Gd} {H : Hp} {N : Lg} : ∀ {ds : List SV} {xs : List D} {vs : List V}, RepSL G H N ds vs → datas ds = some xs → RepL G H N.L xs vs
  | [], _, _, h, e => by cases e; exact h
  | .d x :: r, xs, _, ⟨v, w, h1, h2, h3⟩, e => by
    unfold datas at e
    cases q : datas r with
    | none => rw [q] at e; cases e
    | some ys =>
      rw [q] at e
      cases e
      exact ⟨v, w, h1, h2, datas_of h3 q⟩
  | .r _ :: _, _, _, _, e => by cases e
def mTup (m : MA) : ME := fun ρ hs => (m ρ hs).bind fun xs hs1 => match datas xs with
  | some ds => if ds.length ≤ sizeLine then .ok (.d (.tup ds)) hs1 else .bad
  | none => .bad
def mLst (m : MA) : ME := fun ρ hs => (m ρ hs).bind fun xs hs1 => match datas xs with
  | some ds => if ds.length ≤ sizeLine then .ok (.d (.lst ds)) hs1 else .bad
  | none => .bad
theorem se_tup {es : List Expr} {m : MA} {x1} (h : SA X W es m) : SE X W (.Tuple es x1 pos) (mTup m) := by
  refine pe_of (pe_tup h) fun σ H Q h => ?_
  obtain ⟨ρ, hs, N, hr, he, q⟩ := TR.two (R := RepSL) h
  refine ⟨ρ, hs, N, hr, he, q.mono fun ys H1 ⟨ρ1, hs1, N1, a, q1, q2, q3, q4⟩ => ?_⟩
  cases e : datas a with
  | none => rw [e] at q4; exact q4.elim
  | some ds =>
    rw [e] at q4
    have rl := datas_of q3 e
    by_cases hl : ds.length ≤ sizeLine
    · simp only [if_pos hl] at q4
      refine ⟨by rw [← rl.length]; exact hl, fun p hp => ?_⟩
      exact q4 _ N1 _ (q1.alloc hp) (Ext.alloc hp) ⟨p, ys, rfl, SqT.of upd_same, RepL.ext (P := All) (Ext.alloc hp) _ _ rl⟩
    · simp only [if_neg hl] at q4; exact q4.elim
theorem se_lst {es : List Expr} {m : MA} (h : SA X W es m) : SE X W (.List es pos) (mLst m) := by
  refine pe_of (pe_lst h) fun σ H Q h => ?_
  obtain ⟨ρ, hs, N, hr, he, q⟩ := TR.two (R := RepSL) h
  refine ⟨ρ, hs, N, hr, he, q.mono fun ys H1 ⟨ρ1, hs1, N1, a, q1, q2, q3, q4⟩ => ?_⟩
  cases e : datas a with
  | none => rw [e] at q4; exact q4.elim
  | some ds =>
    rw [e] at q4
    have rl := datas_of q3 e
    by_cases hl : ds.length ≤ sizeLine
    · simp only [if_pos hl] at q4
      refine ⟨by rw [← rl.length]; exact hl, fun p hp => ?_⟩
      exact q4 _ N1 _ (q1.alloc hp) (Ext.alloc hp) ⟨p, ys, rfl, q1.fresh hp, upd_same, RepL.ext (P := All) (Ext.alloc hp) _ _ rl⟩
    · simp only [if_neg hl] at q4; exact q4.elim
end
end Py
end L2

set_option Elab.async false
set_option linter.all false
set_option maxRecDepth 100000
/-! Statements, targets, loops, comprehensions. -/
namespace L2
namespace Py
open PySem PySem.Spec PyProof.Rows
variable [Tl]

section
variable {X : Cx} {W : WX} {P : Nat → Prop} {pos : Pos} {st : Stmt} {rest : List Stmt} {e c : Expr} {m m2 : MS} {me : ME} {mc : MT}

def mSkip : MS := fun ρ hs => .nx ρ hs
def mSeq (a b : MS) : MS := fun ρ hs => (a ρ hs).bind b
theorem ss_nil : SSs X W P [] mSkip := pss_of pss_nil fun D σ H ⟨ρ, hs, N, hr, he, q⟩ => q σ N H hr Ext.refl he
theorem PostS.seq {G : Gd} {H : Hp} {N : Lg} {D : Ends} {o : OutS} {f : MS} (q : PostS G W P H N D (o.bind f)) : PostS G W P H N { D with nx := TS' G W P f D } o := by
  cases o with
  | nx ρ' hs' => exact fun σ' N' H' a b e => ⟨ρ', hs', N', a, e, PostS.ext b q⟩
  | rt d hs' => exact q
  | bk ρ' hs' => exact q
  | ct ρ' hs' => exact q
  | exc c ns ws ρ' hs' => exact q
  | bad => exact q
theorem ss_cons (h1 : SS X W P st m) (h2 : SSs X W P rest m2) : SSs X W P (st :: rest) (mSeq m m2) := by
  refine pss_of (pss_cons h1 h2) fun D σ H ⟨ρ, hs, N, hr, he, q⟩ => ⟨ρ, hs, N, hr, he, ?_⟩
  exact PostS.seq q
theorem ss_one (h1 : SS X W P st m) : SSs X W P [st] m := pss_one h1
theorem ss_pass : SS X W P (.Pass pos) mSkip := ps_of ps_pass fun D σ H ⟨ρ, hs, N, hr, he, q⟩ => q σ N H hr Ext.refl he
def mBrk : MS := fun ρ hs => .bk ρ hs
def mCnt : MS := fun ρ hs => .ct ρ hs
theorem ss_brk : SS X W P (.Break pos) mBrk := ps_of ps_break fun D σ H ⟨ρ, hs, N, hr, he, q⟩ => q σ N H hr Ext.refl he
theorem ss_cont : SS X W P (.Continue pos) mCnt := ps_of ps_continue fun D σ H ⟨ρ, hs, N, hr, he, q⟩ => q σ N H hr Ext.refl he
/-- from a statement's wish to its expression's -/
theorem TS'.two {α β : Type} {R : Gd → Hp → Lg → α → β → Prop} {G : Gd} {ma : Mx α} {f : Env' → α → Hs → OutS} {D : Ends} {σ : St} {H : Hp} (h : TS' G W P (fun ρ hs => (ma ρ hs).bindS ρ (f ρ)) D σ H) :
    TR G W R ma σ H fun x H1 => ∃ ρ hs1 N1 a H0 N0, HRel G hs1 N1 H1 ∧ ERel G H1 N1 ρ σ ∧ ExtE H0 N0 H1 N1 ∧ R G H1 N1 a x ∧ PostS G W P H1 N1 D (f ρ a hs1) := by
  obtain ⟨ρ, hs, N, hr, he, q⟩ := h
  refine ⟨ρ, hs, N, hr, he, (PostO.bindS (R := R) he q).mono fun v H' ⟨hs1, N1, a, q1, q2, q3, q4⟩ => ⟨ρ, hs1, N1, a, H, N, q1, he.ext q2, q2, q3, q4⟩⟩
def mDrop (a : ME) : MS := fun ρ hs => (a ρ hs).bindS ρ fun _ hs1 => .nx ρ hs1
theorem ss_expr (he : SE X W e me) (hs : swapsWith e none pos.line X.env = pure false := by rfl) : SS X W P (.Expr e pos) (mDrop me) := by
  refine ps_of (ps_expr he hs) fun D σ H h => ?_
  obtain ⟨ρ, hs, N, hr, hE, q⟩ := TS'.two (R := RepS) h
  exact ⟨ρ, hs, N, hr, hE, q.mono fun x H1 ⟨ρ1, hs1, N1, a, _, _, q1, q2, _, _, q4⟩ => q4 σ N1 H1 q1 Ext.refl q2⟩
def mRet (a : ME) : MS := fun ρ hs => (a ρ hs).bindS ρ fun d hs1 => .rt d hs1
theorem ss_ret (he : SE X W e me) : SS X W P (.Return (some e) pos) (mRet me) := by
  refine ps_of (ps_ret he) fun D σ H h => ?_
  obtain ⟨ρ, hs, N, hr, hE, q⟩ := TS'.two (R := RepS) h
  exact ⟨ρ, hs, N, hr, hE, q.mono fun x H1 ⟨ρ1, hs1, N1, a, _, _, q1, q2, _, q3, q4⟩ => q4 x N1 H1 q1 Ext.refl q3⟩
def mRetN : MS := fun ρ hs => .rt (.d .non) hs
theorem ss_retN : SS X W P (.Return none pos) mRetN := ps_of ps_retN fun D σ H ⟨ρ, hs, N, hr, he, q⟩ => q _ N H hr Ext.refl rfl
def mIfS (c : MT) (a b : MS) : MS := fun ρ hs => (c ρ hs).bindS ρ fun k hs1 => if k = true then a ρ hs1 else b ρ hs1
theorem ss_if {a b : List Stmt} {ma mb : MS} (hc : ST X W c mc) (ha : SSs X W P a ma) (hb : SSs X W P b mb) : SS X W P (.If c a b pos) (mIfS mc ma mb) := by
  refine ps_of (ps_if hc ha hb) fun D σ H h => ?_
  obtain ⟨ρ, hs, N, hr, hE, q⟩ := TS'.two (R := RB) h
  refine ⟨ρ, hs, N, hr, hE, q.mono fun x H1 ⟨ρ1, hs1, N1, a, _, _, q1, q2, _, q3, q4⟩ => ?_⟩
  have q3 : a = x := q3
  subst q3
  cases a with
  | true => exact ⟨ρ1, hs1, N1, q1, q2, q4⟩
  | false => exact ⟨ρ1, hs1, N1, q1, q2, q4⟩
def mSet (i : Nat) (a : ME) : MS := fun ρ hs => (a ρ hs).bindS ρ fun d hs1 => .nx (ρ.set i (some d)) hs1
theorem ss_set {i : Nat} {x : Str} {pos' : Pos} (hN : X.N.Nodup) (hi : X.N[i]? = some x) (hx : Loc X.env.scope x) (he : SE X W e me) (hs : swapsWith e (some (.Name x pos')) pos.line X.env = pure false := by rfl) (hf : X.fn x = true ∨ X.env.scope.names.lookup x = some .local := by first | exact .inl rfl | exact .inr rfl | assumption) :
    SS X W P (.Assign [.Name x pos'] e pos) (mSet i me) := by
  refine ps_of (ps_set hN hi hx he hs hf) fun D σ H h => ?_
  obtain ⟨ρ, hs, N, hr, hE, q⟩ := TS'.two (R := RepS) h
  refine ⟨ρ, hs, N, hr, hE, q.mono fun x H1 ⟨ρ1, hs1, N1, a, _, _, q1, q2, _, q3, q4⟩ => ?_⟩
  exact q4 _ N1 H1 q1 Ext.refl (q2.set q3)
/-- name = a new list that will be changed: a live cell -/
def mNewL (i : Nat) (a : MA) : MS := fun ρ hs => (a ρ hs).bindS ρ fun xs hs1 => match datas xs with
  | some ds => if ds.length ≤ sizeLine then .nx (ρ.set i (some (.r hs1.length))) (hs1 ++ [.lst ds]) else .bad
  | none => .bad
theorem Lg.push_at {N : Lg} {p : Addr} {h : ¬ N.L p} {k : Nat} (e : N.M.length = k) : (N.push p h).M[k]? = some (some p) := by
  show (N.M ++ [some p])[k]? = _
  rw [List.getElem?_append_right (by omega), e, Nat.sub_self]; rfl
theorem ss_newL {i : Nat} {x : Str} {pos' : Pos} {es : List Expr} {ma : MA} (hN : X.N.Nodup) (hi : X.N[i]? = some x) (hx : Loc X.env.scope x) (he : SA X W es ma) (hs : swapsWith (.List es pos) (some (.Name x pos')) pos.line X.env = pure false := by rfl) (hf : X.fn x = true ∨ X.env.scope.names.lookup x = some .local := by first | exact .inl rfl | exact .inr rfl | assumption)
    {pos2 : Pos} (hs2 : swapsWith (.List es pos) (some (.Name x pos')) pos2.line X.env = pure false := by rfl) :
    SS X W P (.Assign [.Name x pos'] (.List es pos) pos2) (mNewL i ma) := by
  refine ps_of (ps_set hN hi hx (pe_lst he) hs2 hf) fun D σ H h => ?_
  obtain ⟨ρ, hs, N, hr, hE, q⟩ := TS'.two (R := RepSL) h
  refine ⟨ρ, hs, N, hr, hE, q.mono fun ys H1 ⟨ρ1, hs1, N1, a, _, _, q1, q2, _, q3, q4⟩ => ?_⟩
  cases e : datas a with
  | none => rw [e] at q4; exact q4.elim
  | some ds =>
    rw [e] at q4
    have rl := datas_of q3 e
    by_cases hl : ds.length ≤ sizeLine
    · simp only [if_pos hl] at q4
      refine ⟨by rw [← rl.length]; exact hl, fun p hp => ?_⟩
      have ex : ExtE H1 N1 (upd H1 p (.lst ys)) (N1.push p (q1.fresh hp)) := Ext.push hp (q1.fresh hp)
      exact q4 _ (N1.push p (q1.fresh hp)) _ (q1.push hp trivial ⟨ys, upd_same, RepL.ext ex _ _ rl⟩) ex.toP ((q2.ext ex).set ⟨p, rfl, Lg.push_at q1.len⟩)
    · simp only [if_neg hl] at q4; exact q4.elim
end

/-! ### targets -/
inductive Tg where
  | nm (i : Nat)
  | tp (ts : List Tg)
mutual
def gOf (K : PySem.W.Frag) : Tg → TG
  | .nm i => gName i
  | .tp ts => gTup K ts.length (gsOf K ts)
def gsOf (K : PySem.W.Frag) : List Tg → TGs
  | [] => gNil
  | t :: ts => gCons (gOf K t) (gsOf K ts)
end
mutual
def mTg : Tg → SV → Env' → Option Env'
  | .nm i, d, ρ => some (ρ.set i (some d))
  | .tp ts, .d (.tup ds), ρ => if ds.length = ts.length then mTgs ts ds ρ else none
  | .tp _, _, _ => none
def mTgs : List Tg → List D → Env' → Option Env'
  | [], _, ρ => some ρ
  | _ :: _, [], _ => none
  | t :: ts, d :: ds, ρ => match mTg t (.d d) ρ with
    | some ρ1 => mTgs ts ds ρ1
    | none => none
end
mutual
def Tg.slots : Tg → List Nat
  | .nm i => [i]
  | .tp ts => Tg.slotsL ts
def Tg.slotsL : List Tg → List Nat
  | [] => []
  | t :: ts => t.slots ++ Tg.slotsL ts
end
theorem wipe_set {σ : St} {i : Nat} {x : Option V} : ∀ {vs : List Nat}, i ∈ vs → wipe (σ.set i x) vs = wipe σ vs
  | [], h => by simp at h
  | v :: vs, h => by
    unfold wipe
    by_cases hi : i ∈ vs
    · rw [wipe_set hi]
    · have e : i = v := by simpa [hi] using h
      subst e
      have key : ∀ vs : List Nat, i ∉ vs → wipe (σ.set i x) vs = (wipe σ vs).set i x := by
        intro vs
        induction vs with
        | nil => intro _; rfl
        | cons w ws ih =>
          intro hw
          have h1 : w ≠ i := fun e => hw (by rw [e]; exact List.mem_cons_self)
          have h2 : i ∉ ws := fun m => hw (List.mem_cons_of_mem _ m)
          unfold wipe
          rw [ih h2, List.set_comm _ _ (Ne.symm h1)]
      rw [key vs hi, List.set_set]
section
variable {G : Gd} {H : Hp} {N : Lg} {hs : Hs}
mutual
theorem gOf_run : ∀ (t : Tg) (d : SV) (v : V) (ρ ρ' : Env') (σ : St) (Q : St → Hp → Prop), RepS G H N d v → ERel G H N ρ σ → mTg t d ρ = some ρ' →
    (∀ σ', ERel G H N ρ' σ' → (∀ vs, (∀ i ∈ t.slots, i ∈ vs) → wipe σ' vs = wipe σ vs) → Q σ' H) → gOf G.K t v σ H Q
  | .nm i, d, v, ρ, ρ', σ, Q, r, e, h, k => by
    have h : some (ρ.set i (some d)) = some ρ' := by simpa only [mTg] using h
    cases h
    exact k _ (e.set r) fun vs hv => wipe_set (hv i (by simp [Tg.slots]))
  | .tp ts, .d (.tup ds), v, ρ, ρ', σ, Q, r, e, h, k => by
    obtain ⟨a, vs, rfl, h1, h2⟩ := r
    simp only [mTg] at h
    by_cases hl : ds.length = ts.length
    · rw [if_pos hl] at h
      exact ⟨a, vs, rfl, h1, by rw [← h2.length]; exact hl, gsOf_run ts ds vs ρ ρ' σ Q h2 hl e h fun σ' a b => k σ' a fun vs hv => b vs fun i hi => hv i (by simpa [Tg.slots] using hi)⟩
    · rw [if_neg hl] at h; cases h
  | .tp ts, .d .non, _, _, _, _, _, _, _, h, _ => by simp [mTg] at h
  | .tp ts, .d (.bl _), _, _, _, _, _, _, _, h, _ => by simp [mTg] at h
  | .tp ts, .d (.int _), _, _, _, _, _, _, _, h, _ => by simp [mTg] at h
  | .tp ts, .d (.str _), _, _, _, _, _, _, _, h, _ => by simp [mTg] at h
  | .tp ts, .d (.lst _), _, _, _, _, _, _, _, h, _ => by simp [mTg] at h
  | .tp ts, .d (.dct _ _), _, _, _, _, _, _, _, h, _ => by simp [mTg] at h
  | .tp ts, .d (.scr _), _, _, _, _, _, _, _, h, _ => by simp [mTg] at h
  | .tp ts, .d (.glo _), _, _, _, _, _, _, _, h, _ => by simp [mTg] at h
  | .tp ts, .d (.ty _), _, _, _, _, _, _, _, h, _ => by simp [mTg] at h
  | .tp ts, .r _, _, _, _, _, _, _, _, h, _ => by simp [mTg] at h
theorem gsOf_run : ∀ (ts : List Tg) (ds : List D) (vs : List V) (ρ ρ' : Env') (σ : St) (Q : St → Hp → Prop), RepL G H N.L ds vs → ds.length = ts.length → ERel G H N ρ σ → mTgs ts ds ρ = some ρ' →
    (∀ σ', ERel G H N ρ' σ' → (∀ vs, (∀ i ∈ Tg.slotsL ts, i ∈ vs) → wipe σ' vs = wipe σ vs) → Q σ' H) → gsOf G.K ts vs σ H Q
  | [], [], vs, ρ, ρ', σ, Q, r, _, e, h, k => by
    have h : some ρ = some ρ' := by simpa only [mTgs] using h
    cases h
    exact ⟨r, k σ e fun _ _ => rfl⟩
  | [], d :: ds, _, _, _, _, _, _, hl, _, _, _ => by simp at hl
  | t :: ts, [], _, _, _, _, _, _, hl, _, _, _ => by simp at hl
  | t :: ts, d :: ds, vs, ρ, ρ', σ, Q, ⟨v, r, h1, h2, h3⟩, hl, e, h, k => by
    simp only [mTgs] at h
    cases q : mTg t (.d d) ρ with
    | none => rw [q] at h; cases h
    | some ρ1 =>
      rw [q] at h
      refine ⟨v, r, h1, gOf_run t (.d d) v ρ ρ1 σ _ h2 e q fun σ1 e1 w1 => ?_⟩
      refine gsOf_run ts ds r ρ1 ρ' σ1 Q h3 (by simpa using hl) e1 h fun σ2 e2 w2 => k σ2 e2 fun vs hv => ?_
      rw [w2 vs fun i hi => hv i (by simp [Tg.slotsL, hi]), w1 vs fun i hi => hv i (by simp [Tg.slotsL, hi])]
end
end
section
variable {X : Cx} {pos : Pos}
theorem sg_nm {i : Nat} {x : Str} (hN : X.N.Nodup) (hi : X.N[i]? = some x) (hx : Loc X.env.scope x) (hf : X.fn x = true ∨ X.env.scope.names.lookup x = some .local := by first | exact .inl rfl | exact .inr rfl | assumption) : PG X (.Name x pos) (gOf X.K (.nm i)) := pg_name hN hi hx hf
theorem sgs_nil : PGs X [] (gsOf X.K []) := pgs_nil
theorem sgs_cons {e : Expr} {es : List Expr} {t : Tg} {ts : List Tg} (h1 : PG X e (gOf X.K t)) (h2 : PGs X es (gsOf X.K ts))
    (hs : (assignEach (e :: es) X.env).map (·.2) = assign e X.env :: (assignEach es X.env).map (·.2) := by rfl) : PGs X (e :: es) (gsOf X.K (t :: ts)) := pgs_cons h1 h2 hs
theorem sg_tp {es : List Expr} {k : Nat} {ts : List Tg} (hc : X.calm = true) (h : PGs X es (gsOf X.K ts)) (hn : (assignEach es X.env).length = ts.length := by rfl) (hst : (assignEach es X.env).findIdx? (·.1) = none := by rfl) : PG X (.Tuple es k pos) (gOf X.K (.tp ts)) := pg_tup hc h hn hst
variable {W : WX} {P : Nat → Prop} {e tg : Expr} {me : ME}
def mAsg (t : Tg) (a : ME) : MS := fun ρ hs => (a ρ hs).bindS ρ fun d hs1 => match mTg t d ρ with
  | some ρ1 => .nx ρ1 hs1
  | none => .bad
/-- target = value, the target names in tuples -/
theorem ss_asg {t : Tg} (he : SE X W e me) (hg : PG X tg (gOf X.K t)) (hs : swapsWithSole [tg] e pos.line X.env = pure false := by rfl) (hw : swappedStores [tg] e X.env = pure none := by rfl)
    (h1 : (assignEach [tg] X.env).map (·.2) = [assign tg X.env] := by rfl) : SS X W P (.Assign [tg] e pos) (mAsg t me) := by
  refine ps_of (ps_asg he hg hs hw h1) fun D σ H h => ?_
  obtain ⟨ρ, hs, N, hr, hE, q⟩ := TS'.two (R := RepS) h
  refine ⟨ρ, hs, N, hr, hE, q.mono fun x H1 ⟨ρ1, hs1, N1, a, _, _, q1, q2, _, q3, q4⟩ => ?_⟩
  cases z : mTg t a ρ1 with
  | none => rw [z] at q4; exact q4.elim
  | some ρ2 =>
    rw [z] at q4
    exact gOf_run (G := Cx.g X) t a x ρ1 ρ2 σ _ q3 q2 z fun σ' e' _ => q4 σ' N1 H1 q1 Ext.refl e'
/-- a, b = x, y of plain local names -/
def mPar (i j : Nat) (a : MA) : MS := fun ρ hs => (a ρ hs).bindS ρ fun xs hs1 => match xs with
  | [x, y] => .nx ((ρ.set i (some x)).set j (some y)) hs1
  | _ => .bad
theorem ss_par {i j : Nat} {x y : Str} {a b : Expr} {ma : MA} {px py pt : Pos} {kt k2 pt2} (hc : X.calm = true) (hN : X.N.Nodup) (hi : X.N[i]? = some x) (hj : X.N[j]? = some y) (hij : i ≠ j)
    (hx : X.env.scope.names.lookup x = some .local) (hy : X.env.scope.names.lookup y = some .local) (ha : SA X W [a, b] ma)
    (hw : swappedStores [.Tuple [.Name x px, .Name y py] kt pt] (.Tuple [a, b] k2 pt2) X.env = pure (some [x, y]))
    (hs : swapsWithSole [.Tuple [.Name x px, .Name y py] kt pt] (.Tuple [a, b] k2 pt2) pos.line X.env = pure false := by rfl) :
    SS X W P (.Assign [.Tuple [.Name x px, .Name y py] kt pt] (.Tuple [a, b] k2 pt2) pos) (mPar i j ma) := by
  refine ps_of (ps_par hc hN hi hj hij hx hy ha hw hs) fun D σ H h => ?_
  obtain ⟨ρ, hs, N, hr, hE, q⟩ := TS'.two (R := RepSL) h
  refine ⟨ρ, hs, N, hr, hE, q.mono fun ys H1 ⟨ρ1, hs1, N1, a, _, _, q1, q2, _, q3, q4⟩ => ?_⟩
  match a, q3, q4 with
  | [], _, q4 => exact q4.elim
  | [_], _, q4 => exact q4.elim
  | _ :: _ :: _ :: _, _, q4 => exact q4.elim
  | [u, w], ⟨v1, r1, e1, z1, v2, r2, e2, z2, e3⟩, q4 =>
    have e3 : r2 = [] := e3
    subst e3 e2 e1
    exact ⟨v1, v2, rfl, q4 _ N1 H1 q1 Ext.refl ((q2.set z1).set z2)⟩
end

/-! ### what is walked -/
/-- the iterator J walks the items, whatever is done meanwhile -/
structure Wk (G : Gd) (P : Nat → Prop) (J : It) (H : Hp) (N : Lg) (items : List D) : Prop where
  go : ∀ (i : Nat) (hs : Hs) (H' : Hp) (N' : Lg), HRel G hs N' H' → Ext P H N H' N' → i < items.length → J.go i H'
  yld : ∀ (i : Nat) (hs : Hs) (H' : Hp) (N' : Lg) (x : V) (H'' : Hp) (d : D), HRel G hs N' H' → Ext P H N H' N' → items[i]? = some d → J.yld i H' x H'' → HRel G hs N' H'' ∧ ExtE H' N' H'' N' ∧ Rep G H'' N'.L d x
  stop : ∀ (i : Nat) (hs : Hs) (H' : Hp) (N' : Lg), HRel G hs N' H' → Ext P H N H' N' → items.length ≤ i → J.stop i H'
abbrev MI := Mx (List D)
/-- an iterable: what it walks -/
def TIo (G : Gd) (W : WX) (m : MI) : TI := fun σ H R =>
  ∃ ρ hs N, HRel G hs N H ∧ ERel G H N ρ σ ∧ match m ρ hs with
    | .ok items hs' => ∀ J N' H', HRel G hs' N' H' → ExtE H N H' N' → (∀ P, Wk G P J H' N' items) → R J H'
    | .exc c ns ws hs' => ∀ cls dd N' H', HRel G hs' N' H' → ExtE H N H' N' → XRep G H' N'.L c ns ws cls dd → W cls dd σ H'
    | .bad => False
abbrev SI (X : Cx) (W : WX) (tg iter : Expr) (m : MI) : Prop := PI X tg iter (TIo (Cx.g X) W m)
theorem pi_of {X : Cx} {tg it : Expr} {t t' : TI} (h : PI X tg it t) (k : ∀ σ H R, t' σ H R → t σ H R) : PI X tg it t' := ⟨fun pins s σ H R I q => h.run pins s σ H R I (k σ H R q)⟩
section
variable {G : Gd} {H H' : Hp} {N N' : Lg} {P : Nat → Prop}
theorem wk_list {a : Addr} {vs : List V} {xs : List D} (h : H a = some (.lst vs)) (hl : ¬ N.L a) (r : RepL G H N.L xs vs) : Wk G P (Itl G.K a) H N xs where
  go := fun i hs H' N' _ e hi => ⟨vs, vs[i]'(by rw [← r.length]; exact hi), SqL.of (e.keep a _ h (fun _ z => nomatch z) (.inl hl)), by simp [← r.length, hi]⟩
  yld := fun i hs H' N' x H'' d hr e hd ⟨h1, h2⟩ => by
    subst h1
    obtain ⟨v, q1, q2⟩ := r.get hd
    have := h2 vs (SqL.of (e.keep a _ h (fun _ z => nomatch z) (.inl hl)))
    rw [q1] at this; cases this
    exact ⟨hr, Ext.refl, Rep.ext e _ _ q2⟩
  stop := fun i hs H' N' _ e hi => ⟨vs, SqL.of (e.keep a _ h (fun _ z => nomatch z) (.inl hl)), by rw [← r.length]; exact hi⟩
theorem wk_scr {a : Addr} {vs : List V} {xs : List D} (h : ScrAt G.K H a vs) (r : RepL G H N.L xs vs) : Wk G P (Itl G.K a) H N xs where
  go := fun i hs H' N' _ e hi => ⟨vs, vs[i]'(by rw [← r.length]; exact hi), (e.scr h).sq, by simp [← r.length, hi]⟩
  yld := fun i hs H' N' x H'' d hr e hd ⟨h1, h2⟩ => by
    subst h1
    obtain ⟨v, q1, q2⟩ := r.get hd
    have := h2 vs (e.scr h).sq
    rw [q1] at this; cases this
    exact ⟨hr, Ext.refl, Rep.ext e _ _ q2⟩
  stop := fun i hs H' N' _ e hi => ⟨vs, (e.scr h).sq, by rw [← r.length]; exact hi⟩
theorem wk_tup {a : Addr} {vs : List V} {xs : List D} (h : SqT G.K H a vs) (r : RepL G H N.L xs vs) : Wk G P (Itt G.K a) H N xs where
  go := fun i hs H' N' _ e hi => ⟨vs, vs[i]'(by rw [← r.length]; exact hi), e.sqT h, by simp [← r.length, hi]⟩
  yld := fun i hs H' N' x H'' d hr e hd ⟨h1, h2⟩ => by
    subst h1
    obtain ⟨v, q1, q2⟩ := r.get hd
    have := h2 vs (e.sqT h)
    rw [q1] at this; cases this
    exact ⟨hr, Ext.refl, Rep.ext e _ _ q2⟩
  stop := fun i hs H' N' _ e hi => ⟨vs, e.sqT h, by rw [← r.length]; exact hi⟩
def rangeD (lo : Int) (n : Nat) : List D := (List.range n).map fun (i : Nat) => D.int (lo + (i : Int))
theorem wk_range {lo : Int} {n : Nat} : Wk G P (Itr lo n) H N (rangeD lo n) where
  go := fun i hs H' N' _ e hi => by show i < n; simpa [rangeD] using hi
  yld := fun i hs H' N' x H'' d hr e hd ⟨h1, h2⟩ => by
    subst h1 h2
    have hi : i < n := by
      have := (List.getElem?_eq_some_iff.mp hd).1
      simpa [rangeD] using this
    have : (rangeD lo n)[i]? = some (.int (lo + i)) := by simp [rangeD, hi]
    rw [this] at hd; cases hd
    exact ⟨hr, Ext.refl, rfl⟩
  stop := fun i hs H' N' _ e hi => by show n ≤ i; simpa [rangeD] using hi
end

/-! ### for, while -/
def mForL (t : Tg) (body : MS) : List D → MS
  | [], ρ, hs => .nx ρ hs
  | x :: xs, ρ, hs => match mTg t (.d x) ρ with
    | none => .bad
    | some ρ1 => match body ρ1 hs with
      | .nx ρ2 hs2 => mForL t body xs ρ2 hs2
      | .ct ρ2 hs2 => mForL t body xs ρ2 hs2
      | .bk ρ2 hs2 => .nx ρ2 hs2
      | .rt d hs2 => .rt d hs2
      | .exc c ns ws ρ2 hs2 => .exc c ns ws ρ2 hs2
      | .bad => .bad
def mFor (t : Tg) (mi : MI) (body : MS) : MS := fun ρ hs => (mi ρ hs).bindS ρ fun items hs1 => mForL t body items ρ hs1
section
variable {X : Cx} {W : WX} {P : Nat → Prop} {pos : Pos}
theorem ss_for {tg iter : Expr} {body : List Stmt} {t : Tg} {mi : MI} {mb : MS} (hp : PassesOwn (model X.prog X.w) X.A X.env X.xe) (hc : X.calm = true) (hi : SI X W tg iter mi) (hg : PG X tg (gOf X.K t)) (hb : SSs X W P body mb)
    (hs : ∀ x, foldedSetIterable iter X.env x = pure x := by intro _; rfl) : SS X W P (.For tg iter body [] pos) (mFor t mi mb) := by
  refine ps_of (ps_for hp hc hi hg hb hs) fun D σ H ⟨ρ, hs, N, hr, he, q⟩ => ?_
  refine ⟨ρ, hs, N, hr, he, ?_⟩
  simp only [mFor] at q
  cases em : mi ρ hs with
  | bad => rw [em] at q; exact q.elim
  | exc c ns ws hs' => rw [em] at q; exact fun cls dd N' H' a b z => q cls dd σ N' H' a b.toP (he.ext b) z
  | ok items hs1 =>
    rw [em] at q
    intro J N1 H1 hr1 ex1 wk
    have wk := wk P
    have q1 : PostS (Cx.g X) W P H1 N1 D (mForL t mb items ρ hs1) := PostS.ext ex1.toP q
    refine ⟨fun i m σ' H' => ∃ ρ' hs' N', m = items.length - i ∧ i ≤ items.length ∧ HRel (Cx.g X) hs' N' H' ∧ ERel (Cx.g X) H' N' ρ' σ' ∧ Ext P H1 N1 H' N' ∧ PostS (Cx.g X) W P H' N' D (mForL t mb (items.drop i) ρ' hs'),
      ⟨items.length, ρ, hs1, N1, by simp, Nat.zero_le _, hr1, he.ext ex1, Ext.refl, q1⟩, ?_⟩
    rintro i m σ' H' ⟨ρ', hs', N', rfl, hi, hr', he', ex', q'⟩
    by_cases hlt : i < items.length
    · refine .inr ⟨wk.go i hs' H' N' hr' ex' hlt, fun σ2 H2 => ∃ ρ2 hs2 N2, HRel (Cx.g X) hs2 N2 H2 ∧ ERel (Cx.g X) H2 N2 ρ2 σ2 ∧ Ext P H1 N1 H2 N2 ∧ PostS (Cx.g X) W P H2 N2 D (mForL t mb (items.drop (i + 1)) ρ2 hs2),
        fun σ2 H2 ⟨ρ2, hs2, N2, a, b, c, d⟩ => ⟨items.length - (i + 1), by omega, ρ2, hs2, N2, rfl, hlt, a, b, c, d⟩, fun x H'' y => ?_⟩
      have hd : items[i]? = some items[i] := by simp [hlt]
      obtain ⟨hr2, ex2, rx⟩ := wk.yld i hs' H' N' x H'' _ hr' ex' hd y
      rw [List.drop_eq_getElem_cons hlt] at q'
      simp only [mForL] at q'
      cases et : mTg t (.d items[i]) ρ' with
      | none => rw [et] at q'; exact q'.elim
      | some ρ1 =>
        rw [et] at q'
        refine gOf_run (G := Cx.g X) t (.d items[i]) x ρ' ρ1 σ' _ rx (he'.ext ex2) et fun σ2 he2 _ => ?_
        refine ⟨ρ1, hs', N', hr2, he2, ?_⟩
        have q2 := PostS.ext (P := P) ex2.toP q'
        cases eb : mb ρ1 hs' with
        | nx ρ2 hs2 =>
          simp only [eb] at q2
          exact fun σ3 N3 H3 a b c => ⟨ρ2, hs2, N3, a, c, ex'.trans (ex2.toP.trans b), PostS.ext b q2⟩
        | ct ρ2 hs2 =>
          simp only [eb] at q2
          exact fun σ3 N3 H3 a b c => ⟨ρ2, hs2, N3, a, c, ex'.trans (ex2.toP.trans b), PostS.ext b q2⟩
        | bk ρ2 hs2 => simp only [eb] at q2; exact q2
        | rt d hs2 => simp only [eb] at q2; exact q2
        | exc c ns ws ρ2 hs2 => simp only [eb] at q2; exact q2
        | bad => simp only [eb] at q2; exact q2
    · have e : i = items.length := by omega
      subst e
      rw [List.drop_length] at q'
      exact .inl ⟨wk.stop _ hs' H' N' hr' ex' (Nat.le_refl _), q' σ' N' H' hr' Ext.refl he'⟩
def mWhileL (c : MT) (body : MS) : Nat → MS
  | 0, _, _ => .bad
  | n + 1, ρ, hs => match c ρ hs with
    | .ok true hs1 => match body ρ hs1 with
      | .nx ρ2 hs2 => mWhileL c body n ρ2 hs2
      | .ct ρ2 hs2 => mWhileL c body n ρ2 hs2
      | .bk ρ2 hs2 => .nx ρ2 hs2
      | .rt d hs2 => .rt d hs2
      | .exc c ns ws ρ2 hs2 => .exc c ns ws ρ2 hs2
      | .bad => .bad
    | .ok false hs1 => .nx ρ hs1
    | .exc c ns ws hs1 => .exc c ns ws ρ hs1
    | .bad => .bad
theorem ss_while {c : Expr} {body : List Stmt} {mc : MT} {mb : MS} (n : Nat) (hp : PassesOwn (model X.prog X.w) X.A X.env X.xe) (hc : ST X W c mc) (hb : SSs X W P body mb) : SS X W P (.While c body [] pos) (mWhileL mc mb n) := by
  refine ps_of (ps_while hp hc hb) fun D σ H ⟨ρ, hs, N, hr, he, q⟩ => ?_
  refine ⟨fun m σ' H' => ∃ ρ' hs' N', HRel (Cx.g X) hs' N' H' ∧ ERel (Cx.g X) H' N' ρ' σ' ∧ Ext P H N H' N' ∧ PostS (Cx.g X) W P H' N' D (mWhileL mc mb m ρ' hs'), ⟨n, ρ, hs, N, hr, he, Ext.refl, q⟩, ?_⟩
  rintro m σ1 H1 ⟨ρ1, hs1, N1, hr1, he1, ex1, q1⟩
  cases m with
  | zero => exact q1.elim
  | succ m =>
    simp only [mWhileL] at q1
    refine ⟨ρ1, hs1, N1, hr1, he1, ?_⟩
    cases ec : mc ρ1 hs1 with
    | bad => simp only [ec] at q1; exact q1.elim
    | exc c ns ws hs' => simp only [ec] at q1; exact fun cls dd N' H' a b z => q1 cls dd σ1 N' H' a b.toP (he1.ext b) z
    | ok k hs2 =>
      cases k with
      | false =>
        simp only [ec] at q1
        intro v N' H' a b z
        have z : false = v := z
        subst z
        rw [if_neg Bool.false_ne_true]
        exact q1 σ1 N' H' a b.toP (he1.ext b)
      | true =>
        simp only [ec] at q1
        intro v N2 H2 a b z
        have z : true = v := z
        subst z
        rw [if_pos rfl]
        refine ⟨fun σ' H' => ∃ ρ' hs' N', HRel (Cx.g X) hs' N' H' ∧ ERel (Cx.g X) H' N' ρ' σ' ∧ Ext P H N H' N' ∧ PostS (Cx.g X) W P H' N' D (mWhileL mc mb m ρ' hs'), fun σ' H' w => ⟨m, Nat.lt_succ_self m, w⟩, ρ1, hs2, N2, a, he1.ext b, ?_⟩
        have q2 := PostS.ext (P := P) b.toP q1
        cases eb : mb ρ1 hs2 with
        | nx ρ2 hs2 =>
          simp only [eb] at q2
          exact fun σ3 N3 H3 a' b' c' => ⟨ρ2, hs2, N3, a', c', ex1.trans (b.toP.trans b'), PostS.ext b' q2⟩
        | ct ρ2 hs2 =>
          simp only [eb] at q2
          exact fun σ3 N3 H3 a' b' c' => ⟨ρ2, hs2, N3, a', c', ex1.trans (b.toP.trans b'), PostS.ext b' q2⟩
        | bk ρ2 hs2 => simp only [eb] at q2; exact q2
        | rt d hs2 => simp only [eb] at q2; exact q2
        | exc c ns ws ρ2 hs2 => simp only [eb] at q2; exact q2
        | bad => simp only [eb] at q2; exact q2
end
end Py
end L2

set_option Elab.async false
set_option linter.all false
set_option maxRecDepth 100000
/-! Comprehensions. -/
namespace L2
namespace Py
open PySem PySem.Spec PyProof.Rows
variable [Tl]

/-- p is live, but not one of this def's cells -/
def Lg.hide (N : Lg) (p : Addr) : Lg where
  M := N.M
  L := fun a => N.L a ∨ a = p
  liv := fun a h => .inl (N.liv a h)
  nd := N.nd
  k0 := N.k0
def Lg.unhide (N : Lg) (p : Addr) (h : some p ∉ N.M) : Lg where
  M := N.M
  L := fun a => N.L a ∧ a ≠ p
  liv := fun a q => ⟨N.liv a q, by rintro rfl; exact h q⟩
  nd := N.nd
  k0 := N.k0
def Lg.own (N : Lg) (p : Addr) (hl : N.L p) (h : some p ∉ N.M) : Lg where
  M := N.M ++ [some p]
  L := N.L
  k0 := N.k0
  liv := fun a q => by
    rcases List.mem_append.mp q with z | z
    · exact N.liv a z
    · have : some a = some p := by simpa using z
      rw [Option.some.inj this]; exact hl
  nd := fun i j a h1 h2 => by
    have key : ∀ k : Nat, (N.M ++ [some p])[k]? = some (some a) → (k < N.M.length ∧ N.M[k]? = some (some a)) ∨ (k = N.M.length ∧ a = p) := fun k hk => by
      by_cases hl : k < N.M.length
      · rw [List.getElem?_append_left hl] at hk; exact .inl ⟨hl, hk⟩
      · have hk' : k < (N.M ++ [some p]).length := (List.getElem?_eq_some_iff.mp hk).1
        have e : k = N.M.length := by simp at hk'; omega
        subst e
        rw [List.getElem?_append_right (Nat.le_refl _)] at hk
        simp at hk
        exact .inr ⟨rfl, hk.symm⟩
    rcases key i h1 with ⟨l1, q1⟩ | ⟨l1, q1⟩ <;> rcases key j h2 with ⟨l2, q2⟩ | ⟨l2, q2⟩
    · exact N.nd i j a q1 q2
    · subst q2; exact absurd (List.mem_of_getElem? q1) h
    · subst q1; exact absurd (List.mem_of_getElem? q2) h
    · rw [l1, l2]
section
variable {G : Gd} {H H' H1 H2 : Hp} {N N' N1 N2 : Lg} {hs : Hs} {P : Nat → Prop} {p : Addr} {o : HO}
theorem Ext.hide (hp : H p = none) : Ext P H N (upd H p o) (N.hide p) := by
  refine ⟨fun a u h _ _ => by rw [upd_ne (ne_of_none h hp)]; exact h, fun a h => ?_, fun i a _ h => h, fun a h _ _ => .inl h, fun i a h1 h2 h3 => h3, fun a h => ?_, fun a _ _ h => ?_, rfl⟩
  · rcases h with z | z
    · exact .inl z
    · right; rw [z]; exact hp
  · have : a ≠ p := by rintro rfl; exact h hp
    rw [upd_ne this]; exact h
  · have : a ≠ p := by rintro rfl; exact h hp
    rw [upd_ne this]
theorem HRel.hide (h : HRel G hs N H) (hp : H p = none) (hm : Mut (some o)) : HRel G hs (N.hide p) (upd H p o) := by
  refine ⟨h.len, fun i c a h1 h2 => ?_, fun a ha => ?_, h.fl, h.le, fun p' hp' => ⟨(h.tb p' hp').1, (h.tb p' hp').2.upd (.inl hp) fun a z => z.elim .inl fun z => .inr (by rw [z]; exact hp)⟩⟩
  · have hne : a ≠ p := by
      rintro rfl
      exact h.fresh hp (N.liv _ (List.mem_of_getElem? h2))
    exact (h.at_ i c a h1 h2).ext (Ext.hide (P := All) hp) (upd_ne hne)
  · rcases ha with ha | ha
    · have hne : a ≠ p := by
        rintro rfl
        exact h.there ha hp
      rw [upd_ne hne]; exact h.mu a ha
    · rw [ha, upd_same]; exact hm
/-- a hidden live thing is written: by its owner -/
theorem Ext.ownW (hl : N.L p) (h : some p ∉ N.M) (hm : Mut (H p)) : ExtE H (N.own p hl h) (upd H p o) (N.own p hl h) := Ext.write (by simp [Lg.own]) hm
theorem HRel.hidW (h : HRel G hs N H) (hl : N.L p) (hn : some p ∉ N.M) (hm : Mut (some o)) : HRel G hs N (upd H p o) := by
  refine ⟨h.len, fun i c a h1 h2 => ?_, fun a ha => ?_, h.fl, h.le, fun p' hp' => ⟨(h.tb p' hp').1, (h.tb p' hp').2.upd (.inr ⟨hl, mut_ntbl (h.mu p hl)⟩) fun a z => .inl z⟩⟩
  · have hne : a ≠ p := by
      rintro rfl
      exact hn (List.mem_of_getElem? h2)
    exact CRel.mv (N := N) (N' := N) (fun ds vs => RepL.ext (N := N.own p hl hn) (N' := N.own p hl hn) (Ext.ownW hl hn (h.mu p hl)) ds vs) (fun _ _ q => q) (upd_ne hne) (h.at_ i c a h1 h2)
  · by_cases e : a = p
    · rw [e, upd_same]; exact hm
    · rw [upd_ne e]; exact h.mu a ha
theorem Ext.unhide (e : ExtE H N H' N') (h1 : some p ∉ N.M) (h2 : some p ∉ N'.M) (hl : N.L p) (hp : H p ≠ none) : ExtE H (N.unhide p h1) H' (N'.unhide p h2) := by
  refine ⟨fun a u h nt q => ?_, fun a h => ?_, fun i a _ h => e.pre i a trivial h, fun a h n _ => ⟨e.sub a h.1 n fun _ _ => trivial, h.2⟩, fun i a h n q => e.old i a h.1 n q, e.there, fun a h n m => e.hid a h.1 n m, e.k0⟩
  · by_cases z : a = p
    · subst z; rw [e.hid a hl h1 hp]; exact h
    · refine e.keep a u h nt ?_
      rcases q with q | q
      · exact .inl fun w => q ⟨w, z⟩
      · exact .inr q
  · rcases e.new a h.1 with z | z
    · exact .inl ⟨z, h.2⟩
    · exact .inr z
theorem Ext.wr (e : ExtE H N H' N') (hp : H p = none) : ExtE H N (upd H' p o) N' := by
  have ne : ∀ a, H a ≠ none → a ≠ p := fun a h => by rintro rfl; exact h hp
  refine ⟨fun a u h nt q => ?_, e.new, e.pre, e.sub, e.old, fun a h => ?_, fun a h n m => ?_, e.k0⟩
  · rw [upd_ne (ne a (by rw [h]; exact fun z => nomatch z))]; exact e.keep a u h nt q
  · rw [upd_ne (ne a h)]; exact e.there a h
  · rw [upd_ne (ne a m)]; exact e.hid a h n m
theorem Ext.rehide {h2 : some p ∉ N'.M} (e : ExtE H N H' (N'.unhide p h2)) (hp : H p = none) : ExtE H N H' N' := by
  refine ⟨e.keep, fun a h => ?_, fun i a _ h => e.pre i a trivial h, fun a h n q => (e.sub a h n q).1, fun i a h n q => e.old i a h n q, e.there, e.hid, e.k0⟩
  by_cases z : a = p
  · right; rw [z]; exact hp
  · exact e.new a ⟨h, z⟩
theorem HRel.unhide (h : HRel G hs N H) (hn : some p ∉ N.M) : HRel G hs (N.unhide p hn) H :=
  ⟨h.len, fun i c a h1 h2 => (h.at_ i c a h1 h2).mv (fun ds vs => RepL.sub (fun b (q : N.L b ∧ _) => q.1) ds vs) (fun _ _ q => q) rfl, fun a ha => h.mu a ha.1, h.fl, h.le, fun p' hp' => ⟨(h.tb p' hp').1, (h.tb p' hp').2.sub fun a z => z.1⟩⟩
end
def wipeE (ρ : Env') : List Nat → Env'
  | [] => ρ
  | v :: vs => (wipeE ρ vs).set v none
theorem wipeE_length (ρ : Env') : ∀ vs : List Nat, (wipeE ρ vs).length = ρ.length
  | [] => rfl
  | v :: vs => by unfold wipeE; rw [List.length_set, wipeE_length ρ vs]
theorem wipeE_some {ρ : Env'} {i : Nat} {x : SV} : ∀ {vs : List Nat}, (wipeE ρ vs)[i]? = some (some x) → ρ[i]? = some (some x) ∧ i ∉ vs
  | [], h => ⟨h, by simp⟩
  | v :: vs, h => by
    unfold wipeE at h
    by_cases hi : v = i
    · subst hi
      by_cases hv : v < (wipeE ρ vs).length
      · rw [List.getElem?_set_self hv] at h; cases h
      · rw [List.getElem?_eq_none (by simpa using hv)] at h; cases h
    · rw [List.getElem?_set_ne hi] at h
      obtain ⟨h1, h2⟩ := wipeE_some h
      exact ⟨h1, by simp only [List.mem_cons, not_or]; exact ⟨fun e => hi e.symm, h2⟩⟩
theorem ERel.wipe {G : Gd} {H : Hp} {N : Lg} {ρ : Env'} {σ : St} (h : ERel G H N ρ σ) (vs : List Nat) : ERel G H N (wipeE ρ vs) (L2.wipe σ vs) := by
  refine ⟨by rw [wipeE_length, wipe_length]; exact h.1, fun i d q => ?_⟩
  obtain ⟨h1, h2⟩ := wipeE_some q
  obtain ⟨v, q1, q2⟩ := h.2 i d h1
  exact ⟨v, by rw [wipe_out h2]; exact q1, q2⟩
theorem wipe_set_none {σ : St} : ∀ {vs : List Nat} {i : Nat}, i ∈ vs → (L2.wipe σ vs).set i none = L2.wipe σ vs
  | [], _, h => by simp at h
  | v :: vs, i, h => by
    unfold L2.wipe
    by_cases e : i = v
    · subst e; rw [List.set_set]
    · have hi : i ∈ vs := by simpa [e] using h
      rw [List.set_comm _ _ (Ne.symm e), wipe_set_none hi]
theorem wipe_wipe {σ : St} {vs : List Nat} : ∀ {us : List Nat}, (∀ i ∈ us, i ∈ vs) → L2.wipe (L2.wipe σ vs) us = L2.wipe σ vs
  | [], _ => rfl
  | u :: us, h => by
    rw [show L2.wipe (L2.wipe σ vs) (u :: us) = (L2.wipe (L2.wipe σ vs) us).set u none from rfl, wipe_wipe fun i hi => h i (List.mem_cons_of_mem _ hi), wipe_set_none (h u List.mem_cons_self)]

def Out.bind0 {α β : Type} (o : Out α) (f : α → Hs → Out β) : Out β :=
  match o with
  | .ok a h => f a h
  | _ => .bad
/-- the items that a comprehension makes, behind acc -/
def mLcL (t : Tg) (tt : MT) (te : ME) (ρw : Env') : List D → List D → Hs → Out (List D)
  | [], acc, hs => .ok acc hs
  | x :: xs, acc, hs => match mTg t (.d x) ρw with
    | none => .bad
    | some ρ1 => (tt ρ1 hs).bind0 fun k hs1 => if k = true then (te ρ1 hs1).bind0 fun y hs2 => match y with
        | .d d => if acc.length < sizeLine then mLcL t tt te ρw xs (acc ++ [d]) hs2 else .bad
        | .r _ => .bad
      else mLcL t tt te ρw xs acc hs1
def mYes : MT := fun _ hs => .ok true hs
def mLc (vs : List Nat) (t : Tg) (mi : MI) (tt : MT) (te : ME) : MI := fun ρ hs => (mi ρ hs).bind fun items hs1 => mLcL t tt te (wipeE ρ vs) items [] hs1
def mLcE (vs : List Nat) (t : Tg) (mi : MI) (tt : MT) (te : ME) : ME := fun ρ hs => (mLc vs t mi tt te ρ hs).bind fun xs hs1 => .ok (.d (.lst xs)) hs1
abbrev W0 : WX := fun _ _ _ _ => False
abbrev STs (X : Cx) (W : WX) (ifs : List Expr) (m : MT) : Prop := PTs X ifs (TR (Cx.g X) W RB m)
section
variable {X : Cx} {W : WX}
theorem sts_nil : STs X W [] mYes := ⟨fun pins s σ H Q I ⟨ρ, hs, N, hr, he, q⟩ => pts_nil.run pins s σ H Q I (q true N H hr Ext.refl rfl)⟩
theorem sts_one {c : Expr} {m : MT} (h : ST X W c m) : STs X W [c] m := pts_one h
theorem lc_read {mi : MI} {t : Tg} {tt : MT} {te : ME} {vs : List Nat} {G : Gd} {σ : St} {H : Hp} {Q : VK} (hv : ∀ i ∈ t.slots, i ∈ vs) (h : TR G W RepS (mLcE vs t mi tt te) σ H Q) :
    tLc (TIo G W mi) (gOf G.K t) (TR G W0 RB tt) (TR G W0 RepS te) vs σ H Q := by
  obtain ⟨ρ, hs, N, hr, he, q⟩ := h
  refine ⟨ρ, hs, N, hr, he, ?_⟩
  simp only [mLcE, mLc] at q
  cases em : mi ρ hs with
  | bad => rw [em] at q; exact q.elim
  | exc c ns ws hs' => rw [em] at q; exact q
  | ok items hs1 =>
    rw [em] at q
    intro J N1 H1 hr1 ex1 wk p hp
    have wk := wk All
    have he1 := (he.ext ex1).wipe vs
    refine ⟨fun i m H' => ∃ hs' N' acc us, ∃ hm : some p ∉ N'.M, m = items.length - i ∧ i ≤ items.length ∧ HRel G hs' N' H' ∧ N'.L p ∧ H' p = some (.lst us) ∧ RepL G H' N'.L acc us ∧ ExtE H1 N1 H' (N'.unhide p hm) ∧
        PostO G W σ H N RepS Q ((mLcL t tt te (wipeE ρ vs) (items.drop i) acc hs').bind fun xs hs1 => .ok (.d (.lst xs)) hs1), ⟨items.length, hs1, N1.hide p, [], [], fun z => hr1.fresh hp (N1.liv _ z), by simp, Nat.zero_le _, hr1.hide hp trivial, .inr rfl, upd_same, rfl, ?_, q⟩, ?_⟩
    · refine ⟨fun a u h _ q => ?_, fun a h => ?_, fun i a _ h => h, fun a h n _ => ⟨.inl h, ?_⟩, fun i a h n q => q, fun a h => ?_, fun a h n m => ?_, rfl⟩
      · rw [upd_ne (ne_of_none h hp)]; exact h
      · rcases h.1 with z | z
        · exact .inl z
        · exact absurd z h.2
      · rintro rfl; exact n hp
      · have : a ≠ p := by rintro rfl; exact h hp
        rw [upd_ne this]; exact h
      · have : a ≠ p := by rintro rfl; exact m hp
        rw [upd_ne this]
    · rintro i m H' ⟨hs', N', acc, us, hm, rfl, hi, hr', hl', hp', ra, ex', q'⟩
      have exf : ExtE H1 N1 H' N' := Ext.rehide ex' hp
      by_cases hlt : i < items.length
      · refine .inr ⟨wk.go i hs' H' N' hr' exf hlt, fun H2 => ∃ hs2 N2 acc us, ∃ hm : some p ∉ N2.M, HRel G hs2 N2 H2 ∧ N2.L p ∧ H2 p = some (.lst us) ∧ RepL G H2 N2.L acc us ∧ ExtE H1 N1 H2 (N2.unhide p hm) ∧
          PostO G W σ H N RepS Q ((mLcL t tt te (wipeE ρ vs) (items.drop (i + 1)) acc hs2).bind fun xs hs1 => .ok (.d (.lst xs)) hs1),
          fun H2 ⟨hs2, N2, acc, us, hm, a, b, c, d, e, f⟩ => ⟨items.length - (i + 1), by omega, hs2, N2, acc, us, hm, rfl, hlt, a, b, c, d, e, f⟩, fun x H'' y => ?_⟩
        have hd : items[i]? = some items[i] := by simp [hlt]
        obtain ⟨hr2, ex2, rx⟩ := wk.yld i hs' H' N' x H'' _ hr' exf hd y
        rw [List.drop_eq_getElem_cons hlt] at q'
        simp only [mLcL] at q'
        cases et : mTg t (.d items[i]) (wipeE ρ vs) with
        | none => rw [et] at q'; exact q'.elim
        | some ρ1 =>
          simp only [et] at q'
          have hew : ERel G H'' N' (wipeE ρ vs) (L2.wipe σ vs) := (he1.ext exf).ext ex2
          refine gOf_run (G := G) t (.d items[i]) x (wipeE ρ vs) ρ1 (L2.wipe σ vs) _ rx hew et fun σ2 he2 hw => ?_
          refine ⟨?_, ρ1, hs', N', hr2, he2, ?_⟩
          · rw [hw vs hv, wipe_wipe fun i h => h]
          · -- what stays of p behind each part
            have npo : H' p ≠ none := by rw [hp']; exact fun z => nomatch z
            cases ett : tt ρ1 hs' with
            | bad => simp only [ett, Out.bind0] at q'; exact q'.elim
            | exc c ns ws hsx => simp only [ett, Out.bind0] at q'; exact q'.elim
            | ok k hs3 =>
              simp only [ett, Out.bind0] at q'
              intro v N3 H3 hr3 ex3 ev
              have ev : k = v := ev
              subst ev
              have e13 := ex2.trans ex3
              cases k with
              | false =>
                rw [if_neg Bool.false_ne_true]
                have hm3 : some p ∉ N3.M := fun z => by
                  obtain ⟨j, hj⟩ := List.getElem?_of_mem z
                  exact hm (List.mem_of_getElem? (e13.old j p hl' npo hj))
                refine ⟨hs3, N3, acc, us, hm3, hr3, e13.sub p hl' npo fun _ _ => trivial, (e13.hid p hl' hm npo).trans hp', RepL.ext e13 _ _ ra, ex'.trans (e13.unhide hm hm3 hl' npo), ?_⟩
                simpa using q'
              | true =>
                rw [if_pos rfl]
                refine ⟨ρ1, hs3, N3, hr3, he2.ext ex3, ?_⟩
                simp only [if_true] at q'
                cases ee : te ρ1 hs3 with
                | bad => simp only [ee] at q'; exact q'.elim
                | exc c ns ws hsx => simp only [ee] at q'; exact q'.elim
                | ok y hs4 =>
                  simp only [ee] at q'
                  intro w N4 H4 hr4 ex4 rw4
                  have e14 := e13.trans ex4
                  have hm4 : some p ∉ N4.M := fun z => by
                    obtain ⟨j, hj⟩ := List.getElem?_of_mem z
                    exact hm (List.mem_of_getElem? (e14.old j p hl' npo hj))
                  have hl4 : N4.L p := e14.sub p hl' npo fun _ _ => trivial
                  have hp4 : H4 p = some (.lst us) := (e14.hid p hl' hm npo).trans hp'
                  cases y with
                  | r n => exact q'.elim
                  | d d =>
                    simp only at q'
                    by_cases hz : acc.length < sizeLine
                    · rw [if_pos hz] at q'
                      have ra4 := RepL.ext e14 _ _ ra
                      refine ⟨us, hp4, by rw [← ra.length]; exact hz, hs4, N4, acc ++ [d], us ++ [w], hm4, hr4.hidW hl4 hm4 trivial, hl4, upd_same, ?_, ?_, q'⟩
                      · have eo : ExtE H4 (N4.own p hl4 hm4) (upd H4 p (.lst (us ++ [w]))) (N4.own p hl4 hm4) := Ext.ownW hl4 hm4 (hr4.mu p hl4)
                        exact (RepL.ext eo _ _ ra4).append (RepL.one (Rep.ext eo _ _ rw4))
                      · exact (ex'.trans (e14.unhide hm hm4 hl' npo)).wr hp
                    · rw [if_neg hz] at q'; exact q'.elim
      · have e : i = items.length := by omega
        subst e
        rw [List.drop_length] at q'
        refine .inl ⟨wk.stop _ hs' H' N' hr' exf (Nat.le_refl _), ?_⟩
        refine q' (.ref p) (N'.unhide p hm) H' (hr'.unhide hm) (ex1.trans ex') ?_
        exact ⟨p, us, rfl, fun z => z.2 rfl, hp', RepL.sub (fun a z => z.1) _ _ ra⟩
theorem se_lc {elt tg iter : Expr} {ifs : List Expr} {scope : Scope} {own : List (Str × Nat)} {pos : Pos} {mi : MI} {t : Tg} {tt : MT} {te : ME} (hc : X.calm = true) (hN : X.N.Nodup) (ok : BlkOk X.N X.env.scope scope own) (hv : ∀ i ∈ t.slots, i ∈ own.map (·.2))
    (hi : SI X W tg iter mi)
    (hg : ∀ (s : Shared) (H : Hp) (C : Addr) (cl : List (Str × Addr)) (fp : List Addr), PG (X.blk s H scope (compEnvC scope cl C X.env) fp) tg (gOf X.K t)) (ht : ∀ (s : Shared) (H : Hp) (C : Addr) (cl : List (Str × Addr)) (fp : List Addr), STs (X.blk s H scope (compEnvC scope cl C X.env) fp) W0 ifs tt)
    (he : ∀ (s : Shared) (H : Hp) (C : Addr) (cl : List (Str × Addr)) (fp : List Addr), SE (X.blk s H scope (compEnvC scope cl C X.env) fp) W0 elt te) (hs : ∀ x, foldedSetIterable iter X.env x = pure x := by intro _; rfl) :
    SE X W (.ListComp elt [⟨tg, iter, ifs, 0⟩] scope pos) (mLcE (own.map (·.2)) t mi tt te) :=
  pe_of (pe_lc hc hN hi ok hg ht he hs) fun _ _ _ h => lc_read hv h
theorem ss_setLc {P : Nat → Prop} {i : Nat} {y : Str} {py : Pos} {elt tg iter : Expr} {ifs : List Expr} {scope : Scope} {own : List (Str × Nat)} {pos spos : Pos} {mi : MI} {t : Tg} {tt : MT} {te : ME} (hc : X.calm = true) (hN : X.N.Nodup) (hy : X.N[i]? = some y) (hyl : X.env.scope.names.lookup y = some .local)
    (hsw : swapsWith (.ListComp elt [⟨tg, iter, ifs, 0⟩] scope pos) (some (.Name y py)) spos.line X.env = pure true) (ok : BlkOk X.N X.env.scope scope own) (hv : ∀ i ∈ t.slots, i ∈ own.map (·.2)) (hi : SI X W tg iter mi)
    (hg : ∀ (s : Shared) (H : Hp) (C : Addr) (cl : List (Str × Addr)) (fp : List Addr), PG (X.blk s H scope (compEnvC scope cl C X.env) fp) tg (gOf X.K t)) (ht : ∀ (s : Shared) (H : Hp) (C : Addr) (cl : List (Str × Addr)) (fp : List Addr), STs (X.blk s H scope (compEnvC scope cl C X.env) fp) W0 ifs tt)
    (he : ∀ (s : Shared) (H : Hp) (C : Addr) (cl : List (Str × Addr)) (fp : List Addr), SE (X.blk s H scope (compEnvC scope cl C X.env) fp) W0 elt te) (hs : ∀ x, foldedSetIterable iter X.env x = pure x := by intro _; rfl) :
    SS X W P (.Assign [.Name y py] (.ListComp elt [⟨tg, iter, ifs, 0⟩] scope pos) spos) (mSet i (mLcE (own.map (·.2)) t mi tt te)) := by
  refine ps_of (ps_setLc (tt := TR (Cx.g X) W0 RB tt) (te := TR (Cx.g X) W0 RepS te) hc hN hy hyl hsw hi ok hg ht he hs) fun D σ H h => ?_
  have h2 := TS'.two (R := RepS) h
  refine lc_read hv ?_
  obtain ⟨ρ, hs, N, hr, hE, q⟩ := h2
  refine ⟨ρ, hs, N, hr, hE, q.mono fun x H1 ⟨ρ1, hs1, N1, a, _, _, q1, q2, _, q3, q4⟩ => ?_⟩
  exact q4 _ N1 H1 q1 Ext.refl (q2.set q3)
end
end Py
end L2

set_option Elab.async false
set_option linter.all false
set_option maxRecDepth 100000
/-! Defs: their mirrors, their calls. -/
namespace L2
namespace Py
open PySem PySem.Spec PyProof.Rows
variable [Tl]

abbrev FM := List SV → Hs → Out D
/-- a def that hands back a new live thing -/
abbrev FMN := List SV → Hs → Out Cell
def PostF (G : Gd) (H : Hp) (N : Lg) (Q : VK) (E : XK) : Out D → Prop
  | .ok d hs' => ∀ v N' H', HRel G hs' N' H' → ExtE H N H' N' → Rep G H' N'.L d v → Q v H'
  | .exc c ns ws hs' => ∀ cls dd N' H', HRel G hs' N' H' → ExtE H N H' N' → XRep G H' N'.L c ns ws cls dd → E cls dd H'
  | .bad => False
def PostN (G : Gd) (H : Hp) (N : Lg) (Q : VK) (E : XK) : Out Cell → Prop
  | .ok c hs' => ∀ p N' H', c.flat = true → HRel G (hs' ++ [c]) N' H' → ExtE H N H' N' → N'.M[hs'.length]? = some (some p) → Q (.ref p) H'
  | .exc c ns ws hs' => ∀ cls dd N' H', HRel G hs' N' H' → ExtE H N H' N' → XRep G H' N'.L c ns ws cls dd → E cls dd H'
  | .bad => False
def spOf (G : Gd) (n : Nat) (fm : FM) : Sp := fun vs H Q E => vs.length = n ∧ ∃ ds hs N, (HRel G hs N H ∧ N.k0 = hs.length) ∧ RepSL G H N ds vs ∧ PostF G H N Q E (fm ds hs)
def spOfN (G : Gd) (n : Nat) (fm : FMN) : Sp := fun vs H Q E => vs.length = n ∧ ∃ ds hs N, (HRel G hs N H ∧ N.k0 = hs.length) ∧ RepSL G H N ds vs ∧ PostN G H N Q E (fm ds hs)

def startE (n : Nat) (ds : List SV) : Env' := ds.map some ++ List.replicate (n - ds.length) none
/-- what is handed back: data as it is, an own live thing frozen -/
def finish (k : Nat) (d : SV) (hs : Hs) : Out D :=
  match d with
  | .d x => .ok x (hs.take k)
  | .r n => if n < k then .bad else match hs[n]? with
    | some (.lst xs) => .ok (.lst xs) (hs.take k)
    | some (.dct ks ws) => .ok (.dct ks ws) (hs.take k)
    | _ => .bad
def mFn (nN : Nat) (b : MS) : FM := fun ds hs => match b (startE nN ds) hs with
  | .rt d hs' => finish hs.length d hs'
  | .nx _ hs' => .ok .non (hs'.take hs.length)
  | .exc c ns ws _ hs' => .exc c ns ws (hs'.take hs.length)
  | _ => .bad
def finishN (k : Nat) (d : SV) (hs : Hs) : Out Cell :=
  match d with
  | .d _ => .bad
  | .r n => if n = k ∧ hs.length = k + 1 then match hs[n]? with
      | some c => if c.flat = true then .ok c (hs.take k) else .bad
      | none => .bad
    else .bad
def mFnN (nN : Nat) (b : MS) : FMN := fun ds hs => match b (startE nN ds) hs with
  | .rt d hs' => finishN hs.length d hs'
  | .exc c ns ws _ hs' => .exc c ns ws (hs'.take hs.length)
  | _ => .bad
section
variable {G : Gd} {H H' : Hp} {N N' : Lg} {hs hs' : Hs}
theorem ERel.init {n : Nat} {ds : List SV} {vs : List V} {Ns : List Str} (h : RepSL G H N ds vs) (hn : n = Ns.length) : ERel G H N (startE n ds) (L2.start Ns vs) := by
  subst hn
  refine ⟨by simp [startE, L2.start, h.length], fun i d q => ?_⟩
  unfold startE at q
  by_cases hi : i < ds.length
  · rw [List.getElem?_append_left (by simpa using hi), List.getElem?_map] at q
    cases e : ds[i]? with
    | none => rw [e] at q; cases q
    | some x =>
      rw [e] at q
      have q' : x = d := by simpa using q
      subst q'
      obtain ⟨v, h1, h2⟩ := h.get e
      refine ⟨v, ?_, h2⟩
      unfold L2.start
      rw [List.getElem?_append_left (by rw [List.length_map, ← h.length]; exact hi), List.getElem?_map, h1]; rfl
  · rw [List.getElem?_append_right (by simpa using hi), List.getElem?_replicate] at q
    split at q
    · cases q
    · cases q
theorem XRep.sub {L L' : Addr → Prop} (e : ∀ a, L' a → L a) {c : Str} {ns : List Str} {ws : List D} {cls : Value} {dd : Option Addr} (h : XRep G H L c ns ws cls dd) : XRep G H L' c ns ws cls dd := by
  obtain ⟨ca, h1, h2, h3⟩ := h
  refine ⟨ca, h1, h2, ?_⟩
  rcases h3 with h3 | ⟨d, fs, q1, q2, q3, q4⟩
  · exact .inl h3
  · exact .inr ⟨d, fs, q1, q2, q3, RepL.sub e _ _ q4⟩
/-- a def's end -/
theorem finish_ok {d : SV} {v : V} {Q : VK} {E : XK} {P : Nat → Prop} (hk : N.M.length = hs.length) (h0 : hs.length = N'.k0) (hr : HRel G hs' N' H') (ex : Ext (· < hs.length) H N H' N') (r : RepS G H' N' d v) (h : PostF G H N Q E (finish hs.length d hs')) : Q v H' := by
  cases d with
  | d x => exact h v (N'.take hs.length) H' (hr.take _ h0) (ex.take hk) (Rep.sub (fun a z => z.1) _ _ r)
  | r n =>
    obtain ⟨a, rfl, hn⟩ := r
    simp only [finish] at h
    by_cases hl : n < hs.length
    · rw [if_pos hl] at h; exact h.elim
    · rw [if_neg hl] at h
      obtain ⟨c, hc, q, _⟩ := hr.get hn
      rw [hc] at h
      have nl : ¬ (N'.take hs.length).L a := fun z => hl (z.2 n hn)
      cases c with
      | lst xs =>
        obtain ⟨us, q1, q2⟩ := q
        exact h _ (N'.take hs.length) H' (hr.take _ h0) (ex.take hk) ⟨a, us, rfl, nl, q1, RepL.sub (fun a z => z.1) _ _ q2⟩
      | dct ks ws =>
        obtain ⟨o, kvs, vvs, q1, q2, q3, q4⟩ := q
        exact h _ (N'.take hs.length) H' (hr.take _ h0) (ex.take hk) ⟨a, o, kvs, vvs, rfl, nl, q1, q2, RepL.sub (fun a z => z.1) _ _ q3, RepL.sub (fun a z => z.1) _ _ q4⟩
      | ins C ns ws => exact h.elim
      | dl ks ns => exact h.elim
      | dead => exact h.elim
end
/-- a def's promise where no repr is under way -/
structure FnG (P : Program) (w : World) (K : PySem.W.Frag) (mg : Str → Option Value) (base : Heap) (k : Nat) (f : Addr) (fd : FuncData) (ps : List Str) (sp : Sp) : Prop where
  len : ∀ vs H Q E, sp vs H Q E → vs.length = ps.length
  run : ∀ (A : Around) (outer : List Env) (s : Shared) (H : Hp) (args : Args) (us : List Value) (vs : List V) (Q : VK) (E : XK), A.guards = some [] → Room k A → Env0 P w K mg base A outer s H → BindsTo s fd args (ps.zip us) → Vals vs us →
    sp vs H Q E → codeAny (model P w) A (.call (.ref f) args) (CR (L2.CX P w) outer P w H s Q E) s
theorem FnG.mono {P : Program} {w : World} {K : PySem.W.Frag} {mg : Str → Option Value} {base : Heap} {j k : Nat} {f : Addr} {fd : FuncData} {ps : List Str} {sp : Sp} (F : FnG P w K mg base j f fd ps sp) (h : j ≤ k) : FnG P w K mg base k f fd ps sp :=
  ⟨F.len, fun A outer s H args us vs Q E hg hr => F.run A outer s H args us vs Q E hg (hr.mono h)⟩
theorem FnG.imp {P : Program} {w : World} {K : PySem.W.Frag} {mg : Str → Option Value} {base : Heap} {k : Nat} {f : Addr} {fd : FuncData} {ps : List Str} {sp sp' : Sp} (F : FnG P w K mg base k f fd ps sp) (h : ∀ vs H Q E, sp' vs H Q E → sp vs H Q E) : FnG P w K mg base k f fd ps sp' :=
  ⟨fun vs H Q E q => F.len vs H Q E (h _ _ _ _ q), fun A outer s H args us vs Q E hg hr e0 hb r q => F.run A outer s H args us vs Q E hg hr e0 hb r (h _ _ _ _ q)⟩
section
variable {P : Program} {w : World} {K : PySem.W.Frag} {mg : Str → Option Value} {base : Heap}
theorem fnG_of {x qual : Str} {st : Stmt} {f : Addr} {fd : FuncData} {Ns ps : List Str} {k : Nat} {sp : Sp} (F : Fun K x qual st f fd) (S : FnScope Ns ps (defScope st)) (len : ∀ vs H Q E, sp vs H Q E → vs.length = ps.length)
    (hbody : ∀ (cdv : Value) (A : Around) (outer : List Env) (s : Shared) (H : Hp) (vs : List V) (Q : VK) (E : XK), A.guards = some [] → Room k (A.deeper (envOfC qual (defScope st) s.heap.objs.size f cdv)) → sp vs H Q E →
      ∃ t, PSs (cxOf (L2.CX P w) P w K mg base Ns qual (defScope st) f cdv A outer s H E) (defBody st) t ∧ t { nx := fun _ H' => Q .non H', rt := Q } (L2.start Ns vs) H) : FnG P w K mg base (k + 1) f fd ps sp := by
  obtain ⟨oc, od, kV, doc, pm, an, cdv, ct, osl, rfl, lk, hcd⟩ := F.ex
  refine ⟨len, fun A outer s H args us vs Q E hg hr e0 hb r hsp => ?_⟩
  have there : ∀ b o, base.get? b = some o → s.heap.get? b = some o := fun b o e => (e0.bs b o e).1
  refine _root_.Att.call_fn (e0.mod.kin.keeps there) (e0.mod.nolimit.keeps there) lk hcd hr.depth hb ?_ (fun s1 ic => ?_) S.co S.gen S.kind
  · rw [List.all_eq_true]
    intro y hy
    rcases S.par y.1 (List.of_mem_zip (show (y.1, y.2) ∈ _ from hy)).1 with q | q <;> simp [q]
  · obtain ⟨t, ht, hq⟩ := hbody cdv A outer s H vs Q E hg (hr.deeper _) hsp
    refine wpAny_mono (ht.run [] s1 (L2.start Ns vs) H _ (inv_start S hr.hd e0 (len _ _ _ _ hsp) r ic) hq) (fun fl s' z => ?_) fun e s' z => z
    cases fl with
    | ret u => obtain ⟨v, σ', H', J, rv, q⟩ := z; exact ⟨v, H', J.os, J.bare, J.base, J.hok, rv, q⟩
    | next => obtain ⟨σ', H', J, q⟩ := z; exact ⟨.non, H', J.os, J.bare, J.base, J.hok, rfl, q⟩
    | brk => obtain ⟨_, _, _, q⟩ := z; exact q.elim
    | cont => obtain ⟨_, _, _, q⟩ := z; exact q.elim
end
section
variable {P : Program} {w : World} {K : PySem.W.Frag} {mg : Str → Option Value} {base : Heap}
/-- THE RULE: a def by its body's mirror -/
theorem fn_ok {x qual : Str} {st : Stmt} {f : Addr} {fd : FuncData} {Ns ps : List Str} {k : Nat} {b : MS} {nN : Nat} (F : Fun K x qual st f fd) (S : FnScope Ns ps (defScope st)) (hn : nN = Ns.length)
    (hb : ∀ (cdv : Value) (A : Around) (outer : List Env) (s : Shared) (H : Hp) (E : XK) (Pd : Nat → Prop), A.guards = some [] → Room k (A.deeper (envOfC qual (defScope st) s.heap.objs.size f cdv)) →
      SSs (cxOf (L2.CX P w) P w K mg base Ns qual (defScope st) f cdv A outer s H E) (fun cls d _ H => E cls d H) Pd (defBody st) b) :
    FnG P w K mg base (k + 1) f fd ps (spOf ⟨K, mg, w, base⟩ ps.length (mFn nN b)) := by
  refine fnG_of F S (fun vs H Q E h => h.1) fun cdv A outer s H vs Q E hg hr ⟨_, ds, hs, N, ⟨h1, h0⟩, h2, h3⟩ => ?_
  refine ⟨_, hb cdv A outer s H E (· < hs.length) hg hr, ?_⟩
  refine ⟨startE nN ds, hs, N, h1, ERel.init h2 hn, ?_⟩
  simp only [mFn] at h3
  cases e : b (startE nN ds) hs with
  | nx ρ hs' =>
    rw [e] at h3
    exact fun σ' N' H' a c _ => h3 .non (N'.take hs.length) H' (a.take _ (by rw [c.k0, h0])) (c.take h1.len) rfl
  | rt d hs' =>
    rw [e] at h3
    exact fun v N' H' a c r => finish_ok (P := All) h1.len (by rw [c.k0, h0]) a c r h3
  | exc c ns ws ρ hs' =>
    rw [e] at h3
    exact fun cls dd σ' N' H' a c _ r => h3 cls dd (N'.take hs.length) H' (a.take _ (by rw [c.k0, h0])) (c.take h1.len) (r.sub fun a z => z.1)
  | bk ρ hs' => rw [e] at h3; exact h3.elim
  | ct ρ hs' => rw [e] at h3; exact h3.elim
  | bad => rw [e] at h3; exact h3.elim
theorem fn_okN {x qual : Str} {st : Stmt} {f : Addr} {fd : FuncData} {Ns ps : List Str} {k : Nat} {b : MS} {nN : Nat} (F : Fun K x qual st f fd) (S : FnScope Ns ps (defScope st)) (hn : nN = Ns.length)
    (hb : ∀ (cdv : Value) (A : Around) (outer : List Env) (s : Shared) (H : Hp) (E : XK) (Pd : Nat → Prop), A.guards = some [] → Room k (A.deeper (envOfC qual (defScope st) s.heap.objs.size f cdv)) →
      SSs (cxOf (L2.CX P w) P w K mg base Ns qual (defScope st) f cdv A outer s H E) (fun cls d _ H => E cls d H) Pd (defBody st) b) :
    FnG P w K mg base (k + 1) f fd ps (spOfN ⟨K, mg, w, base⟩ ps.length (mFnN nN b)) := by
  refine fnG_of F S (fun vs H Q E h => h.1) fun cdv A outer s H vs Q E hg hr ⟨_, ds, hs, N, ⟨h1, h0⟩, h2, h3⟩ => ?_
  refine ⟨_, hb cdv A outer s H E (· < hs.length) hg hr, ?_⟩
  refine ⟨startE nN ds, hs, N, h1, ERel.init h2 hn, ?_⟩
  simp only [mFnN] at h3
  cases e : b (startE nN ds) hs with
  | nx ρ hs' => rw [e] at h3; exact h3.elim
  | rt d hs' =>
    rw [e] at h3
    intro v N' H' a c r
    cases d with
    | d x => exact h3.elim
    | r n =>
      obtain ⟨p, rfl, hn⟩ := r
      simp only [finishN] at h3
      by_cases hl : n = hs.length ∧ hs'.length = hs.length + 1
      · rw [if_pos hl] at h3
        obtain ⟨rfl, hl⟩ := hl
        obtain ⟨cc, hc, q, _⟩ := a.get hn
        rw [hc] at h3
        have e1 : hs' = hs'.take hs.length ++ [cc] := by
          have h2 : hs'.take (hs.length + 1) = hs' := List.take_of_length_le (by omega)
          rw [List.take_add_one, hc] at h2
          exact h2.symm
        have e2 : (hs'.take hs.length).length = hs.length := by rw [List.length_take]; omega
        have cE : ExtE H N H' N' := ⟨c.keep, c.new, fun i a _ q => c.pre i a (by have := (List.getElem?_eq_some_iff.mp q).1; have := h1.len; omega) q, fun a l q _ => c.sub a l q fun i z => by have := (List.getElem?_eq_some_iff.mp z).1; have := h1.len; omega, c.old, c.there, c.hid, c.k0⟩
        by_cases hfl : cc.flat = true
        rotate_left 1
        · simp only [if_neg hfl] at h3; exact h3.elim
        simp only [if_pos hfl] at h3
        exact h3 p N' H' hfl (by rw [← e1]; exact a) cE (by rw [e2]; exact hn)
      · rw [if_neg hl] at h3; exact h3.elim
  | exc c ns ws ρ hs' =>
    rw [e] at h3
    exact fun cls dd σ' N' H' a c _ r => h3 cls dd (N'.take hs.length) H' (a.take _ (by rw [c.k0, h0])) (c.take h1.len) (r.sub fun a z => z.1)
  | bk ρ hs' => rw [e] at h3; exact h3.elim
  | ct ρ hs' => rw [e] at h3; exact h3.elim
  | bad => rw [e] at h3; exact h3.elim
end

/-! ### calls -/
/-- the live cells that the arguments name, each once -/
def refsOf : List SV → List Nat
  | [] => []
  | .d _ :: r => refsOf r
  | .r n :: r => if n ∈ refsOf r then refsOf r else n :: refsOf r
theorem refsOf_nodup : ∀ ds : List SV, (refsOf ds).Nodup
  | [] => List.nodup_nil
  | .d _ :: r => refsOf_nodup r
  | .r n :: r => by
    unfold refsOf
    split
    · exact refsOf_nodup r
    · exact List.nodup_cons.mpr ⟨by assumption, refsOf_nodup r⟩
def renum (is : List Nat) : SV → Option SV
  | .d x => some (.d x)
  | .r n => (is.idxOf? n).map .r
def renumL (is : List Nat) : List SV → Option (List SV)
  | [] => some []
  | d :: r => match renum is d, renumL is r with
    | some d', some r' => some (d' :: r')
    | _, _ => none
def getAll (hs : Hs) : List Nat → Option (List Cell)
  | [] => some []
  | i :: is => match hs[i]?, getAll hs is with
    | some c, some cs => if c.flat = true then some (c :: cs) else none
    | _, _ => none
def setAll (hs : Hs) : List Nat → List Cell → Hs
  | i :: is, c :: cs => (setAll hs is cs).set i c
  | _, _ => hs
def callM (fm : FM) (ds : List SV) (hs : Hs) : Out D :=
  match renumL (refsOf ds) ds, getAll hs (refsOf ds) with
  | some ds', some cs => match fm ds' cs with
    | .ok d cs' => if cs'.length = (refsOf ds).length then .ok d (setAll hs (refsOf ds) cs') else .bad
    | .exc c ns ws cs' => if cs'.length = (refsOf ds).length then .exc c ns ws (setAll hs (refsOf ds) cs') else .bad
    | .bad => .bad
  | _, _ => .bad
def callN (fm : FMN) (ds : List SV) (hs : Hs) : Out Cell :=
  match renumL (refsOf ds) ds, getAll hs (refsOf ds) with
  | some ds', some cs => match fm ds' cs with
    | .ok d cs' => if cs'.length = (refsOf ds).length then .ok d (setAll hs (refsOf ds) cs') else .bad
    | .exc c ns ws cs' => if cs'.length = (refsOf ds).length then .exc c ns ws (setAll hs (refsOf ds) cs') else .bad
    | .bad => .bad
  | _, _ => .bad
section
variable {G : Gd} {H H' : Hp} {N N' : Lg} {hs hs' : Hs}
theorem getAll_flat : ∀ {is : List Nat} {cs : List Cell}, getAll hs is = some cs → ∀ c ∈ cs, c.flat = true
  | [], cs, h => by cases h; exact fun _ q => nomatch q
  | i :: is, cs, h => by
    unfold getAll at h
    cases e1 : hs[i]? with
    | none => rw [e1] at h; cases h
    | some c =>
      cases e2 : getAll hs is with
      | none => rw [e1, e2] at h; cases h
      | some r =>
        rw [e1, e2] at h
        by_cases hf : c.flat = true
        · simp only [if_pos hf] at h
          cases h
          intro x hx
          rcases List.mem_cons.mp hx with z | z
          · rw [z]; exact hf
          · exact getAll_flat e2 x z
        · simp only [if_neg hf] at h; cases h
theorem getAll_get : ∀ {is : List Nat} {cs : List Cell}, getAll hs is = some cs → cs.length = is.length ∧ ∀ (j i : Nat), is[j]? = some i → cs[j]? = hs[i]?
  | [], cs, h => by cases h; exact ⟨rfl, fun j i q => by simp at q⟩
  | i :: is, cs, h => by
    unfold getAll at h
    cases e1 : hs[i]? with
    | none => rw [e1] at h; cases h
    | some c =>
      cases e2 : getAll hs is with
      | none => rw [e1, e2] at h; cases h
      | some r =>
        rw [e1, e2] at h
        by_cases hf : c.flat = true
        rotate_left 1
        · simp only [if_neg hf] at h; cases h
        simp only [if_pos hf] at h
        cases h
        obtain ⟨h1, h2⟩ := getAll_get e2
        refine ⟨by simp [h1], fun j k q => ?_⟩
        cases j with
        | zero => simp at q; subst q; rw [e1]; rfl
        | succ j => simpa using h2 j k (by simpa using q)
theorem setAll_length : ∀ (is : List Nat) (cs : List Cell), (setAll hs is cs).length = hs.length
  | [], _ => by unfold setAll; rfl
  | _ :: _, [] => by unfold setAll; rfl
  | i :: is, c :: cs => by unfold setAll; rw [List.length_set, setAll_length is cs]
theorem setAll_out {i : Nat} : ∀ {is : List Nat} {cs : List Cell}, i ∉ is → (setAll hs is cs)[i]? = hs[i]?
  | [], _, _ => by unfold setAll; rfl
  | _ :: _, [], _ => by unfold setAll; rfl
  | k :: is, c :: cs, h => by
    unfold setAll
    rw [List.getElem?_set_ne (fun e => h (by rw [e]; exact List.mem_cons_self))]
    exact setAll_out fun m => h (List.mem_cons_of_mem _ m)
theorem setAll_in : ∀ {is : List Nat} {cs : List Cell} {j i : Nat} {c : Cell}, is.Nodup → is[j]? = some i → cs[j]? = some c → i < hs.length → (setAll hs is cs)[i]? = some c
  | [], _, _, _, _, _, h, _, _ => by simp at h
  | _ :: _, [], _, _, _, _, _, h, _ => by simp at h
  | k :: is, d :: cs, 0, i, c, hn, h1, h2, hl => by
    simp at h1 h2
    subst h1 h2
    unfold setAll
    rw [List.getElem?_set_self (by rw [setAll_length]; exact hl)]
  | k :: is, d :: cs, j + 1, i, c, hn, h1, h2, hl => by
    have h1 : is[j]? = some i := by simpa using h1
    have hne : k ≠ i := by
      rintro rfl
      exact (List.nodup_cons.mp hn).1 (List.mem_of_getElem? h1)
    unfold setAll
    rw [List.getElem?_set_ne hne]
    exact setAll_in (List.nodup_cons.mp hn).2 h1 (by simpa using h2) hl
theorem sel_at {is : List Nat} {hn : is.Nodup} {j i : Nat} {a : Addr} (h : is[j]? = some i) (q : N.M[i]? = some (some a)) : (N.sel is hn).M[j]? = some (some a) := by
  show (is.map fun i => (N.M[i]?).join)[j]? = _
  rw [List.getElem?_map, h]
  show some ((N.M[i]?).join) = _
  rw [q]; rfl
theorem of_sel_at {is : List Nat} {hn : is.Nodup} {j : Nat} {a : Addr} (h : (N.sel is hn).M[j]? = some (some a)) : ∃ i, is[j]? = some i ∧ N.M[i]? = some (some a) := by
  have h : (is.map fun i => (N.M[i]?).join)[j]? = some (some a) := h
  rw [List.getElem?_map] at h
  cases q : is[j]? with
  | none => rw [q] at h; cases h
  | some i =>
    rw [q] at h
    refine ⟨i, rfl, ?_⟩
    have h : (N.M[i]?).join = some a := by simpa using h
    cases z : N.M[i]? with
    | none => rw [z] at h; cases h
    | some o => rw [z] at h; have h : o = some a := h; rw [h]
theorem HRel.sel {is : List Nat} {hn : is.Nodup} {cs : List Cell} (h : HRel G hs N H) (hc : getAll hs is = some cs) : HRel G cs (N.sel is hn) H := by
  obtain ⟨c1, c2⟩ := getAll_get hc
  refine ⟨by simp [Lg.sel, c1], fun j c a h1 h2 => ?_, h.mu, fun j c h1 _ => getAll_flat hc c (List.mem_of_getElem? h1), (by rw [c1]; exact Nat.le_refl _), h.tb⟩
  obtain ⟨i, q1, q2⟩ := of_sel_at h2
  have hf := getAll_flat hc c (List.mem_of_getElem? h1)
  rw [c2 j i q1] at h1
  exact CRel.sub (N := N) (N' := N.sel is hn) (fun _ z => z) hf (h.at_ i c a h1 q2)
theorem idxOf_some {is : List Nat} {n j : Nat} (h : is.idxOf? n = some j) : is[j]? = some n := by
  rw [List.idxOf?_eq_some_iff] at h
  obtain ⟨h1, h2⟩ := h
  simp [h1, h2.1]
theorem renum_rep {is : List Nat} {hn : is.Nodup} {d d' : SV} {v : V} (h : RepS G H N d v) (e : renum is d = some d') : RepS G H (N.sel is hn) d' v := by
  cases d with
  | d x => cases e; exact h
  | r n =>
    obtain ⟨a, rfl, hn⟩ := h
    simp only [renum] at e
    cases q : is.idxOf? n with
    | none => rw [q] at e; cases e
    | some j =>
      rw [q] at e
      cases e
      exact ⟨a, rfl, sel_at (idxOf_some q) hn⟩
theorem renumL_rep {is : List Nat} {hn : is.Nodup} : ∀ {ds ds' : List SV} {vs : List V}, RepSL G H N ds vs → renumL is ds = some ds' → RepSL G H (N.sel is hn) ds' vs
  | [], ds', _, h, e => by cases e; exact h
  | d :: r, ds', _, ⟨v, w, h1, h2, h3⟩, e => by
    unfold renumL at e
    cases q1 : renum is d with
    | none => rw [q1] at e; cases e
    | some d' =>
      cases q2 : renumL is r with
      | none => rw [q1, q2] at e; cases e
      | some r' =>
        rw [q1, q2] at e
        cases e
        exact ⟨v, w, h1, renum_rep h2 q1, renumL_rep h3 q2⟩
/-- back from a callee -/
theorem Ext.unsel {is : List Nat} {hn : is.Nodup} (e : ExtE H (N.sel is hn) H' N') : ExtE H N H' N := by
  refine ⟨e.keep, fun a h => .inl h, fun i a _ h => h, fun a h _ _ => h, fun i a _ _ h => h, e.there, fun a h n m => e.hid a h (fun z => n ?_) m, rfl⟩
  obtain ⟨j, hj⟩ := List.getElem?_of_mem z
  obtain ⟨i, _, q⟩ := of_sel_at hj
  exact List.mem_of_getElem? q
theorem HRel.unsel {is : List Nat} {hn : is.Nodup} {cs cs' : List Cell} {k : Nat} (h : HRel G hs N H) (e : ExtE H (N.sel is hn) H' N') (h' : HRel G cs' N' H') (hl : is.length ≤ cs'.length) (hi : ∀ i ∈ is, i < hs.length) : HRel G (setAll hs is cs') N H' := by
  have up : ∀ a, N.L a → N'.L a := fun a l => e.sub a l (h.there l) fun _ _ => trivial
  have fl' : ∀ c ∈ cs', cs'.length ≤ N'.k0 → c.flat = true := fun c hc hz => by
    obtain ⟨j, hj⟩ := List.getElem?_of_mem hc
    exact h'.fl j c hj (by have := (List.getElem?_eq_some_iff.mp hj).1; omega)
  have k0' : N'.k0 = is.length := e.k0
  have flj : ∀ (j : Nat) (c : Cell), cs'[j]? = some c → j < is.length → c.flat = true := fun j c hj hl => h'.fl j c hj (by rw [k0']; exact hl)
  refine ⟨by rw [setAll_length]; exact h.len, fun i c a h1 h2 => ?_, fun a ha => h'.mu a (up a ha), fun i c h1 h2 => ?_, (by rw [setAll_length]; exact h.le), fun p' hp' => ⟨(h'.tb p' hp').1, (h'.tb p' hp').2.sub up⟩⟩
  rotate_left 1
  · by_cases m : i ∈ is
    · obtain ⟨j, hj⟩ := List.getElem?_of_mem m
      have hjl : j < cs'.length := by have := (List.getElem?_eq_some_iff.mp hj).1; omega
      have e1 : cs'[j]? = some cs'[j] := by simp [hjl]
      rw [setAll_in hn hj e1 (hi i m)] at h1
      cases h1
      exact flj j _ e1 (List.getElem?_eq_some_iff.mp hj).1
    · rw [setAll_out m] at h1
      exact h.fl i c h1 h2
  by_cases m : i ∈ is
  · obtain ⟨j, hj⟩ := List.getElem?_of_mem m
    have hjl : j < cs'.length := by have := (List.getElem?_eq_some_iff.mp hj).1; omega
    have e1 : cs'[j]? = some cs'[j] := by simp [hjl]
    rw [setAll_in hn hj e1 (hi i m)] at h1
    cases h1
    exact (h'.at_ j _ a e1 (e.pre j a trivial (sel_at hj h2))).sub up (flj j _ e1 (List.getElem?_eq_some_iff.mp hj).1)
  · rw [setAll_out m] at h1
    refine CRel.ext (Ext.unsel e) (e.hid a (N.liv a (List.mem_of_getElem? h2)) (fun z => m ?_) (h.there (N.liv a (List.mem_of_getElem? h2)))) (h.at_ i c a h1 h2)
    obtain ⟨j, hj⟩ := List.getElem?_of_mem z
    obtain ⟨i', q1, q2⟩ := of_sel_at hj
    rw [N.nd i i' a h2 q2]
    exact List.mem_of_getElem? q1
theorem getAll_lt : ∀ {is : List Nat} {cs : List Cell}, getAll hs is = some cs → ∀ i ∈ is, i < hs.length
  | [], _, _, i, h => by simp at h
  | k :: is, cs, h, i, hi => by
    unfold getAll at h
    cases e1 : hs[k]? with
    | none => rw [e1] at h; cases h
    | some c =>
      cases e2 : getAll hs is with
      | none => rw [e1, e2] at h; cases h
      | some r =>
        rcases List.mem_cons.mp hi with z | z
        · rw [z]; exact (List.getElem?_eq_some_iff.mp e1).1
        · exact getAll_lt e2 i z
theorem call_sp {n : Nat} {fm : FM} {ds : List SV} {vs : List V} {Q : VK} {W : WX} {σ : St} (h1 : HRel G hs N H) (h2 : RepSL G H N ds vs) (hl : vs.length = n)
    (q : PostO G W σ H N RepS Q ((callM fm ds hs).bind fun d h => .ok (.d d) h)) : spOf G n fm vs H Q (WE W σ) := by
  refine ⟨hl, ?_⟩
  simp only [callM] at q
  cases e1 : renumL (refsOf ds) ds with
  | none => rw [e1] at q; exact q.elim
  | some ds' =>
    cases e2 : getAll hs (refsOf ds) with
    | none => rw [e1, e2] at q; exact q.elim
    | some cs =>
      rw [e1, e2] at q
      refine ⟨ds', cs, N.sel (refsOf ds) (refsOf_nodup ds), ⟨h1.sel e2, (getAll_get e2).1.symm⟩, renumL_rep h2 e1, ?_⟩
      cases e3 : fm ds' cs with
      | bad => simp only [e3] at q; exact q.elim
      | exc c ns ws cs' =>
        simp only [e3] at q
        by_cases hz : cs'.length = (refsOf ds).length
        · rw [if_pos hz] at q
          intro cls dd N' H' a b r
          have up : ∀ a, N.L a → N'.L a := fun a l => b.sub a l (h1.there l) fun _ _ => trivial
          exact q cls dd N H' (h1.unsel (cs := cs) (k := 0) b a (by omega) (getAll_lt e2)) (Ext.unsel b) (r.sub up)
        · rw [if_neg hz] at q; exact q.elim
      | ok d cs' =>
        simp only [e3] at q
        by_cases hz : cs'.length = (refsOf ds).length
        · rw [if_pos hz] at q
          intro v N' H' a b r
          have up : ∀ a, N.L a → N'.L a := fun a l => b.sub a l (h1.there l) fun _ _ => trivial
          exact q v N H' (h1.unsel (cs := cs) (k := 0) b a (by omega) (getAll_lt e2)) (Ext.unsel b) (Rep.sub up _ _ r)
        · rw [if_neg hz] at q; exact q.elim
end
def mCall (fm : FM) (a : MA) : ME := fun ρ hs => (a ρ hs).bind fun ds hs1 => (callM fm ds hs1).bind fun d hs2 => .ok (.d d) hs2
section
variable {X : Cx} {W : WX} {k n : Nat} {f : Addr} {fd : FuncData} {ps : List Str} {fm : FM} {x : Str} {p pos : Pos} {e : Expr} {es : List Expr} {ma : MA}
theorem runG {sp : Sp} {pins : List (Addr × Obj)} {σ : L2.St} {H : Hp} {s : Shared} {Q : VK} {us : List Value} {vs : List V} (F : FnG X.prog X.w X.K X.mg X.base k f fd ps sp) (hg : X.A.guards = some []) (hr : Room k X.A) (hb : Binds X.K fd ps []) (tk : Takes X W)
    (I : Inv X pins σ H s) (r : Vals vs us) (h : sp vs H Q (WE W σ)) : wpAny (model X.prog X.w) X.A (call (.ref f) us) (EP X pins σ Q) X.xe s := by
  have b := hb s us I.kIn (by rw [List.append_nil, ← r.length]; exact F.len _ _ _ _ h)
  rw [List.append_nil] at b
  refine wpAny_call (codeAny_mono (F.run X.A X.stack s H ⟨us, []⟩ us vs Q (WE W σ) hg hr I.env0 b r h) fun o s' q => ?_)
  match o, q with
  | .error e, q => exact passAt tk σ pins H s e s' I q
  | .ok (.ret u), q => exact I.after q
  | .ok .next, q => exact q.elim
  | .ok .brk, q => exact q.elim
  | .ok .cont, q => exact q.elim
theorem pe_callG {sp : Sp} {t : TA} (F : FnG X.prog X.w X.K X.mg X.base k f fd ps sp) (hgd : X.A.guards = some []) (hr : Room k X.A) (hg : Gl X x) (hm : X.mg x = some (.ref f)) (hk : PySem.W.keepIn X.K (.ref f) = true) (hb : Binds X.K fd ps []) (tk : Takes X W)
    (ha : PA X (e :: es) t) (hdb : (x == ("__debug__" : Str)) = false := by decide) (he : starEach (e :: es) X.env = (false, eval e X.env) :: starEach es X.env := by rfl) (hpl : (backTo pos (starEach es X.env)).any (·.1) = false := by rfl) :
    PE X (.Call (.Name x p) (e :: es) [] pos) (fun σ H Q => t σ H fun vs H1 => sp vs H1 Q (WE W σ)) :=
  ⟨fun pins s σ H Q I h => wpAny_Call_Name_kw (ld_glob I hg hm (PySem.W.callWith_K (h₀ := X.base) I.ok.mod.kin hk (thn (ha.run pos pins s σ H _ I h) fun us s1 ⟨vs, H1, I1, r, q⟩ => ⟨I1.kIn, runG F hgd hr hb tk I1 r q⟩) he hpl) hdb)⟩
/-- f(e, ..) -/
theorem se_call (F : FnG X.prog X.w X.K X.mg X.base k f fd ps (spOf (Cx.g X) n fm)) (hgd : X.A.guards = some []) (hr : Room k X.A) (hg : Gl X x) (hm : X.mg x = some (.ref f)) (hk : PySem.W.keepIn X.K (.ref f) = true) (hb : Binds X.K fd ps []) (tk : Takes X W)
    (ha : SA X W (e :: es) ma) (hl : (e :: es).length = n := by rfl) (hdb : (x == ("__debug__" : Str)) = false := by decide) (he : starEach (e :: es) X.env = (false, eval e X.env) :: starEach es X.env := by rfl) (hpl : (backTo pos (starEach es X.env)).any (·.1) = false := by rfl)
    (hal : ∀ ρ hs ds hs', ma ρ hs = .ok ds hs' → ds.length = n) :
    SE X W (.Call (.Name x p) (e :: es) [] pos) (mCall fm ma) := by
  refine pe_of (pe_callG F hgd hr hg hm hk hb tk ha hdb he hpl) fun σ H Q h => ?_
  obtain ⟨ρ, hs, N, hr, hE, q⟩ := h
  refine ⟨ρ, hs, N, hr, hE, ?_⟩
  simp only [mCall] at q
  cases em : ma ρ hs with
  | bad => rw [em] at q; exact q.elim
  | exc c ns ws hs' => rw [em] at q; exact q
  | ok ds hs1 =>
    rw [em] at q
    intro vs N1 H1 a b r
    exact call_sp a r (by rw [← r.length]; exact hal ρ hs ds hs1 em) (PostO.ext b q)
/-- f() -/
theorem se_call0 (F : FnG X.prog X.w X.K X.mg X.base k f fd ps (spOf (Cx.g X) 0 fm)) (hgd : X.A.guards = some []) (hr : Room k X.A) (hg : Gl X x) (hm : X.mg x = some (.ref f)) (hk : PySem.W.keepIn X.K (.ref f) = true) (hb : Binds X.K fd ps []) (tk : Takes X W) (hdb : (x == ("__debug__" : Str)) = false := by decide) :
    SE X W (.Call (.Name x p) [] [] pos) (mCall fm mNil) := by
  refine ⟨fun pins s σ H Q I h => ?_⟩
  refine wpAny_Call_Name_kw (ld_glob I hg hm ?_ hdb)
  obtain ⟨ρ, hs, N, hr', hE, q⟩ := h
  exact PySem.W.callWith_K0 I.kIn hk (runG (us := []) F hgd hr hb tk I .nil (call_sp (ds := []) hr' rfl rfl q))
end
theorem mCons_len {a : ME} {r : MA} {n : Nat} (h : ∀ ρ hs ds hs', r ρ hs = .ok ds hs' → ds.length = n) : ∀ ρ hs ds hs', mCons a r ρ hs = .ok ds hs' → ds.length = n + 1 := by
  intro ρ hs ds hs' e
  simp only [mCons] at e
  cases e1 : a ρ hs with
  | bad => rw [e1] at e; cases e
  | exc c ns ws h => rw [e1] at e; cases e
  | ok x hs1 =>
    rw [e1] at e
    simp only [Out.bind] at e
    cases e2 : r ρ hs1 with
    | bad => rw [e2] at e; cases e
    | exc c ns ws h => rw [e2] at e; cases e
    | ok xs hs2 =>
      rw [e2] at e
      cases e
      rw [List.length_cons, h _ _ _ _ e2]
theorem mNil_len : ∀ ρ hs ds hs', mNil ρ hs = .ok ds hs' → ds.length = 0 := by
  intro ρ hs ds hs' e
  cases e
  rfl
end Py
end L2

set_option Elab.async false
set_option linter.all false
set_option maxRecDepth 100000
/-! Operators, comparisons, subscripts, calls of built-ins. -/
namespace L2
namespace Py
open PySem PySem.Spec PyProof.Rows
variable [Tl]

/-! ### views -/
def viewL (hs : Hs) : SV → Option (List D)
  | .d (.lst xs) => some xs
  | .r n => match hs[n]? with
    | some (.lst xs) => some xs
    | _ => none
  | _ => none
section
variable {G : Gd} {H H' : Hp} {N N' : Lg} {hs hs' : Hs}
theorem viewL_of {x : SV} {v : V} {xs : List D} (h1 : HRel G hs N H) (h2 : RepS G H N x v) (h : viewL hs x = some xs) : ∃ a vs, v = .ref a ∧ H a = some (.lst vs) ∧ RepL G H N.L xs vs := by
  cases x with
  | d z =>
    have h2 : Rep G H N.L z v := h2
    cases z with
    | lst ys =>
      have h : some ys = some xs := h
      cases h
      obtain ⟨a, vs, q1, _, q2, q3⟩ := h2
      exact ⟨a, vs, q1, q2, q3⟩
    | _ => cases h
  | r n =>
    obtain ⟨a, rfl, hn⟩ := h2
    obtain ⟨c, hc, q, _⟩ := h1.get hn
    simp only [viewL, hc] at h
    cases c with
    | lst ys =>
      have h : some ys = some xs := h
      cases h
      obtain ⟨vs, q1, q2⟩ := q
      exact ⟨a, vs, rfl, q1, q2⟩
    | _ => cases h
/-- data of what a name holds, a live list as it stands -/
def dataOf (hs : Hs) : SV → Option D
  | .d x => some x
  | .r n => match hs[n]? with
    | some (.lst xs) => some (.lst xs)
    | _ => none
end

/-! ### data as the library's data -/
mutual
def toPy : D → Option PyData
  | .non => some .none
  | .bl b => some (.bool b)
  | .int i => some (.int i)
  | .str x => some (.str x)
  | .tup xs => (toPyL xs).map .tuple
  | .lst xs => (toPyL xs).map .list
  | .dct _ _ => none
  | .scr _ => none
  | .glo _ => none
  | .ty _ => none
def toPyL : List D → Option (List PyData)
  | [] => some []
  | x :: xs => match toPy x, toPyL xs with
    | some y, some ys => some (y :: ys)
    | _, _ => none
end
section
variable {G : Gd} {H : Hp} {L : Addr → Prop}
mutual
theorem dp_of : ∀ (d : D) (v : V) (p : PyData), Rep G H L d v → toPy d = some p → Dp G.K H v p
  | .non, v, p, h, e => by cases e; rw [show v = .non from h]; exact .non
  | .bl b, v, p, h, e => by cases e; rw [show v = .bl b from h]; exact .bl b
  | .int i, v, p, h, e => by cases e; rw [show v = .int i from h]; exact .int i
  | .str x, v, p, h, e => by cases e; rw [show v = .str x from h]; exact .str x
  | .tup xs, v, p, ⟨a, vs, h1, h2, h3⟩, e => by
    simp only [toPy] at e
    cases q : toPyL xs with
    | none => rw [q] at e; cases e
    | some ys => rw [q] at e; cases e; rw [h1]; exact .tup h2 (dpL_of xs vs ys h3 q)
  | .lst xs, v, p, ⟨a, vs, h1, _, h2, h3⟩, e => by
    simp only [toPy] at e
    cases q : toPyL xs with
    | none => rw [q] at e; cases e
    | some ys => rw [q] at e; cases e; rw [h1]; exact .lst (SqL.of h2) (dpL_of xs vs ys h3 q)
  | .dct _ _, _, _, _, e => by cases e
  | .scr _, _, _, _, e => by cases e
  | .glo _, _, _, _, e => by cases e
  | .ty _, _, _, _, e => by cases e
theorem dpL_of : ∀ (ds : List D) (vs : List V) (ps : List PyData), RepL G H L ds vs → toPyL ds = some ps → DpAll G.K H vs ps
  | [], vs, ps, h, e => by cases e; rw [show vs = [] from h]; exact .nil
  | x :: xs, vs, ps, ⟨v, r, h1, h2, h3⟩, e => by
    simp only [toPyL] at e
    cases q1 : toPy x with
    | none => rw [q1] at e; cases e
    | some y =>
      cases q2 : toPyL xs with
      | none => rw [q1, q2] at e; cases e
      | some ys => rw [q1, q2] at e; cases e; rw [h1]; exact .cons (dp_of x v y h2 q1) (dpL_of xs r ys h3 q2)
end
end
section
variable {G : Gd} {H : Hp} {N : Lg} {hs : Hs}
theorem dataOf_dp {x : SV} {v : V} {d : D} {p : PyData} (h1 : HRel G hs N H) (h2 : RepS G H N x v) (h : dataOf hs x = some d) (e : toPy d = some p) : Dp G.K H v p := by
  cases x with
  | d z =>
    have h : some z = some d := h
    cases h
    exact dp_of _ v p h2 e
  | r n =>
    obtain ⟨a, rfl, hn⟩ := h2
    obtain ⟨c, hc, q, _⟩ := h1.get hn
    simp only [dataOf, hc] at h
    cases c with
    | lst ys =>
      have h : some (D.lst ys) = some d := h
      cases h
      obtain ⟨vs, q1, q2⟩ := q
      simp only [toPy] at e
      cases q : toPyL ys with
      | none => rw [q] at e; cases e
      | some zs => rw [q] at e; cases e; exact .lst (SqL.of q1) (dpL_of ys vs zs q2 q)
    | _ => cases h
end
/-- may be compared -/
def fitEq (p q : PyData) : Bool := p.canLay0 && q.canLay0 && decide (min p.depth q.depth ≤ 150)
def eqF (neg : Bool) : F2 := fun hs x y => match dataOf hs x, dataOf hs y with
  | some d, some e => match toPy d, toPy e with
    | some p, some q => if fitEq p q = true then some (.bl (if neg = true then !PyData.eqv p q else PyData.eqv p q)) else none
    | _, _ => none
  | _, _ => none
theorem eqF_of {neg : Bool} {hs : Hs} {x y : SV} {d : D} (h : eqF neg hs x y = some d) : ∃ d1 e1 p q, dataOf hs x = some d1 ∧ dataOf hs y = some e1 ∧ toPy d1 = some p ∧ toPy e1 = some q ∧ fitEq p q = true ∧ d = .bl (if neg = true then !PyData.eqv p q else PyData.eqv p q) := by
  simp only [eqF] at h
  cases e1 : dataOf hs x with
  | none => rw [e1] at h; cases h
  | some d1 =>
    cases e2 : dataOf hs y with
    | none => rw [e1, e2] at h; cases h
    | some d2 =>
      rw [e1, e2] at h
      simp only at h
      cases e3 : toPy d1 with
      | none => rw [e3] at h; cases h
      | some p =>
        cases e4 : toPy d2 with
        | none => rw [e3, e4] at h; cases h
        | some q =>
          rw [e3, e4] at h
          simp only at h
          by_cases hf : fitEq p q = true
          · rw [if_pos hf] at h
            exact ⟨d1, d2, p, q, rfl, rfl, e3, e4, hf, (Option.some.inj h).symm⟩
          · rw [if_neg hf] at h; cases h
theorem fitEq_of {p q : PyData} (h : fitEq p q = true) : p.canLay0 = true ∧ q.canLay0 = true ∧ min p.depth q.depth ≤ 150 := by
  simp only [fitEq, Bool.and_eq_true, decide_eq_true_eq] at h
  exact ⟨h.1.1, h.1.2, h.2⟩
section
variable {X : Cx} {W : WX} {pos : Pos} {k : Nat}
theorem or_eq (hr : Room k X.A) : OpR X (compareOp .Eq) (r2 (Cx.g X) (eqF false)) := by
  intro pins s σ H x y v u Q I rx ry ⟨hs, N, dx, dy, d, h1, h2, h3, e, q⟩
  obtain ⟨d1, e1, p, p', a1, a2, a3, a4, a5, rfl⟩ := eqF_of e
  obtain ⟨as, r1⟩ := Dp.reads I p x v (dataOf_dp h1 h2 a1 a3) rx
  obtain ⟨bs, r2⟩ := Dp.reads I p' y u (dataOf_dp h1 h3 a2 a4) ry
  obtain ⟨f1, f2, f3⟩ := fitEq_of a5
  have := hr.un
  exact SeqAt.compareEq_reads r1 r2 f1 f2 (by omega) ⟨.bl (PyData.eqv p p'), H, I, rfl, q _ H h1 Ext.refl rfl⟩
theorem or_ne (hr : Room k X.A) : OpR X (compareOp .NotEq) (r2 (Cx.g X) (eqF true)) := by
  intro pins s σ H x y v u Q I rx ry ⟨hs, N, dx, dy, d, h1, h2, h3, e, q⟩
  obtain ⟨d1, e1, p, p', a1, a2, a3, a4, a5, rfl⟩ := eqF_of e
  obtain ⟨as, r1⟩ := Dp.reads I p x v (dataOf_dp h1 h2 a1 a3) rx
  obtain ⟨bs, r2⟩ := Dp.reads I p' y u (dataOf_dp h1 h3 a2 a4) ry
  obtain ⟨f1, f2, f3⟩ := fitEq_of a5
  have := hr.un
  exact SeqAt.compareNe_reads r1 r2 f1 f2 (by omega) ⟨.bl (!PyData.eqv p p'), H, I, rfl, q _ H h1 Ext.refl rfl⟩
/-- in, not in: a text in a text, data among the items of a list, a tuple -/
def inF (neg : Bool) : F2 := fun hs x y => match x, y with
  | .d (.str i), .d (.str j) => some (.bl (if neg = true then !(!(Builtin.Str.occurrences j i 0 j.length 1).isEmpty) else !(Builtin.Str.occurrences j i 0 j.length 1).isEmpty))
  | x, y => match dataOf hs x, dataOf hs y with
    | some d, some (.lst es) => match toPy d, toPyL es with
      | some p, some qs => if (p.canLay0 && PyData.canLayAll0 qs && decide (p.depth ≤ 100)) = true then some (.bl (if neg = true then !qs.any fun z => PyData.eqv z p else qs.any fun z => PyData.eqv z p)) else none
      | _, _ => none
    | some d, some (.tup es) => match toPy d, toPyL es with
      | some p, some qs => if (p.canLay0 && PyData.canLayAll0 qs && decide (p.depth ≤ 100)) = true then some (.bl (if neg = true then !qs.any fun z => PyData.eqv z p else qs.any fun z => PyData.eqv z p)) else none
      | _, _ => none
    | _, _ => none
theorem inF_of {neg : Bool} {hs : Hs} {x y : SV} {d : D} (h : inF neg hs x y = some d) : (∃ i j, x = .d (.str i) ∧ y = .d (.str j) ∧ d = .bl (if neg = true then !(!(Builtin.Str.occurrences j i 0 j.length 1).isEmpty) else !(Builtin.Str.occurrences j i 0 j.length 1).isEmpty)) ∨
    ∃ d1 es p qs, dataOf hs x = some d1 ∧ (dataOf hs y = some (.lst es) ∨ dataOf hs y = some (.tup es)) ∧ toPy d1 = some p ∧ toPyL es = some qs ∧ p.canLay0 = true ∧ PyData.canLayAll0 qs = true ∧ p.depth ≤ 100 ∧ d = .bl (if neg = true then !qs.any fun z => PyData.eqv z p else qs.any fun z => PyData.eqv z p) := by
  unfold inF at h
  split at h
  · exact .inl ⟨_, _, rfl, rfl, (Option.some.inj h).symm⟩
  · right
    split at h
    · rename_i d1 es e1 e2
      split at h
      · rename_i p qs e3 e4
        split at h
        · rename_i hc
          simp only [Bool.and_eq_true, decide_eq_true_eq] at hc
          exact ⟨d1, es, p, qs, e1, .inl e2, e3, e4, hc.1.1, hc.1.2, hc.2, (Option.some.inj h).symm⟩
        · cases h
      · cases h
    · rename_i d1 es e1 e2
      split at h
      · rename_i p qs e3 e4
        split at h
        · rename_i hc
          simp only [Bool.and_eq_true, decide_eq_true_eq] at hc
          exact ⟨d1, es, p, qs, e1, .inr e2, e3, e4, hc.1.1, hc.1.2, hc.2, (Option.some.inj h).symm⟩
        · cases h
      · cases h
    · cases h
theorem or_in (hr : Room k X.A) : OpR X (compareOp .In) (r2 (Cx.g X) (inF false)) := by
  intro pins s σ H x y v u Q I rx ry ⟨hs, N, dx, dy, d, h1, h2, h3, e, q⟩
  have hun := hr.un
  rcases inF_of e with ⟨i, j, rfl, rfl, rfl⟩ | ⟨d1, es, p, qs, a1, a2, a3, a4, a5, a6, a7, rfl⟩
  · exact op_in_str pins s σ H x y v u Q I rx ry ⟨i, j, h2, h3, q _ H h1 Ext.refl rfl⟩
  · obtain ⟨as, r1⟩ := Dp.reads I p x v (dataOf_dp h1 h2 a1 a3) rx
    rcases a2 with a2 | a2
    · obtain ⟨bs, r2⟩ := Dp.reads I (.list qs) y u (dataOf_dp h1 h3 a2 (by simp only [toPy, a4]; rfl)) ry
      exact SeqAt.in_list_reads r2 r1 a6 a5 (by have := Nat.min_le_right (PyData.depthAll qs) p.depth; omega) ⟨.bl (qs.any fun z => PyData.eqv z p), H, I, rfl, q _ H h1 Ext.refl rfl⟩
    · obtain ⟨bs, r2⟩ := Dp.reads I (.tuple qs) y u (dataOf_dp h1 h3 a2 (by simp only [toPy, a4]; rfl)) ry
      exact SeqAt.in_tuple_reads r2 r1 a6 a5 (by have := Nat.min_le_right (PyData.depthAll qs) p.depth; omega) ⟨.bl (qs.any fun z => PyData.eqv z p), H, I, rfl, q _ H h1 Ext.refl rfl⟩
theorem or_notIn (hr : Room k X.A) : OpR X (compareOp .NotIn) (r2 (Cx.g X) (inF true)) := by
  intro pins s σ H x y v u Q I rx ry ⟨hs, N, dx, dy, d, h1, h2, h3, e, q⟩
  have hun := hr.un
  rcases inF_of e with ⟨i, j, rfl, rfl, rfl⟩ | ⟨d1, es, p, qs, a1, a2, a3, a4, a5, a6, a7, rfl⟩
  · exact op_notin_str pins s σ H x y v u Q I rx ry ⟨i, j, h2, h3, q _ H h1 Ext.refl rfl⟩
  · obtain ⟨as, r1⟩ := Dp.reads I p x v (dataOf_dp h1 h2 a1 a3) rx
    rcases a2 with a2 | a2
    · obtain ⟨bs, r2⟩ := Dp.reads I (.list qs) y u (dataOf_dp h1 h3 a2 (by simp only [toPy, a4]; rfl)) ry
      exact SeqAt.notIn_list_reads r2 r1 a6 a5 (by have := Nat.min_le_right (PyData.depthAll qs) p.depth; omega) ⟨.bl (!qs.any fun z => PyData.eqv z p), H, I, rfl, q _ H h1 Ext.refl rfl⟩
    · obtain ⟨bs, r2⟩ := Dp.reads I (.tuple qs) y u (dataOf_dp h1 h3 a2 (by simp only [toPy, a4]; rfl)) ry
      exact SeqAt.notIn_tuple_reads r2 r1 a6 a5 (by have := Nat.min_le_right (PyData.depthAll qs) p.depth; omega) ⟨.bl (!qs.any fun z => PyData.eqv z p), H, I, rfl, q _ H h1 Ext.refl rfl⟩
def isNon : SV → Bool
  | .d .non => true
  | _ => false
/-- is None, is True -/
def isF (neg : Bool) : F2 := fun _ x y => match y with
  | .d .non => some (.bl (if neg = true then !isNon x else isNon x))
  | .d (.bl b) => match x with
    | .d (.bl a) => some (.bl (if neg = true then !decide (a = b) else decide (a = b)))
    | _ => none
  | _ => none
theorem non_iff {G : Gd} {H : Hp} {N : Lg} {x : SV} {v : V} (h : RepS G H N x v) : decide (v = .non) = isNon x := by
  cases x with
  | d z =>
    cases z with
    | non => have e : v = .non := h; subst e; rfl
    | bl b => have e : v = .bl b := h; subst e; rfl
    | int b => have e : v = .int b := h; subst e; rfl
    | str b => have e : v = .str b := h; subst e; rfl
    | tup xs => obtain ⟨a, vs, e, _⟩ := h; subst e; rfl
    | lst xs => obtain ⟨a, vs, e, _⟩ := h; subst e; rfl
    | dct xs ys => obtain ⟨a, _, _, _, e, _⟩ := h; subst e; rfl
    | scr xs => obtain ⟨a, vs, e, _⟩ := h; subst e; rfl
    | glo xs => obtain ⟨a, e, _⟩ := h; subst e; rfl
    | ty n => have e : v = .ty n := h; subst e; rfl
  | r n => obtain ⟨a, e, _⟩ := h; subst e; rfl
theorem or_is : OpR X (compareOp .Is) (r2 (Cx.g X) (isF false)) := by
  intro pins s σ H x y v u Q I rx ry ⟨hs, N, dx, dy, d, h1, h2, h3, e, q⟩
  unfold isF at e
  split at e
  · have hy : y = .non := h3
    subst hy
    refine op_isN pins s σ H x _ v u Q I rx ry ⟨rfl, ?_⟩
    rw [non_iff h2]
    cases e
    exact q _ H h1 Ext.refl rfl
  · rename_i b
    have hy : y = .bl b := h3
    subst hy
    split at e
    · rename_i a
      have hx : x = .bl a := h2
      subst hx
      cases e
      exact op_is_bl pins s σ H _ _ v u Q I rx ry ⟨a, b, rfl, rfl, q _ H h1 Ext.refl rfl⟩
    · cases e
  · cases e
theorem or_isNot : OpR X (compareOp .IsNot) (r2 (Cx.g X) (isF true)) := by
  intro pins s σ H x y v u Q I rx ry ⟨hs, N, dx, dy, d, h1, h2, h3, e, q⟩
  unfold isF at e
  split at e
  · have hy : y = .non := h3
    subst hy
    refine op_notN pins s σ H x _ v u Q I rx ry ⟨rfl, ?_⟩
    rw [non_iff h2]
    cases e
    exact q _ H h1 Ext.refl rfl
  · rename_i b
    have hy : y = .bl b := h3
    subst hy
    split at e
    · rename_i a
      have hx : x = .bl a := h2
      subst hx
      cases e
      exact op_isnot_bl pins s σ H _ _ v u Q I rx ry ⟨a, b, rfl, rfl, q _ H h1 Ext.refl rfl⟩
    · cases e
  · cases e
/-- order of ints, of texts -/
def ordF (f : Int → Int → Bool) (g : List Nat → List Nat → Bool) : F2 := fun _ x y => match x, y with
  | .d (.int i), .d (.int j) => some (.bl (f i j))
  | .d (.str i), .d (.str j) => some (.bl (g i.cps.toList j.cps.toList))
  | _, _ => none
abbrev ltF : F2 := ordF (fun i j => decide (i < j)) fun a b => decide (a < b)
abbrev leF : F2 := ordF (fun i j => decide (i ≤ j)) fun a b => !decide (b < a)
abbrev gtF : F2 := ordF (fun i j => decide (j < i)) fun a b => decide (b < a)
abbrev geF : F2 := ordF (fun i j => decide (j ≤ i)) fun a b => !decide (a < b)
theorem or_ord {op : CmpOp} {f : Int → Int → Bool} {g : List Nat → List Nat → Bool} (hi : OpR X (compareOp op) (rI0 fun i j => .bl (f i j))) (ht : OpR X (compareOp op) (fun x y H Q => ∃ i j, x = .str i ∧ y = .str j ∧ Q (.bl (g i.cps.toList j.cps.toList)) H)) :
    OpR X (compareOp op) (r2 (Cx.g X) (ordF f g)) := by
  intro pins s σ H x y v u Q I rx ry ⟨hs, N, dx, dy, d, h1, h2, h3, e, q⟩
  unfold ordF at e
  split at e
  · cases e
    exact hi pins s σ H x y v u Q I rx ry ⟨_, _, h2, h3, q _ H h1 Ext.refl rfl⟩
  · cases e
    exact ht pins s σ H x y v u Q I rx ry ⟨_, _, h2, h3, q _ H h1 Ext.refl rfl⟩
  · cases e
theorem or_lt : OpR X (compareOp .Lt) (r2 (Cx.g X) ltF) := or_ord op_lt op_lt_str
theorem or_le : OpR X (compareOp .LtE) (r2 (Cx.g X) leF) := or_ord op_le op_le_str
theorem or_gt : OpR X (compareOp .Gt) (r2 (Cx.g X) gtF) := or_ord op_gt op_gt_str
theorem or_ge : OpR X (compareOp .GtE) (r2 (Cx.g X) geF) := or_ord op_ge op_ge_str

/-! ### chains -/
def mChain (f g : F2) (a b c : ME) : ME := fun ρ hs => (a ρ hs).bind fun x hs1 => (b ρ hs1).bind fun y hs2 => match f hs2 x y with
  | some (.bl true) => (c ρ hs2).bind fun z hs3 => ofO hs3 (g hs3 y z)
  | some (.bl false) => .ok (.d (.bl false)) hs2
  | _ => .bad
theorem chain_read {a b c : Expr} {ma mb mc : ME} {f g : F2} {G : Gd} {σ : L2.St} {H : Hp} {Q : VK} (h : TR G W RepS (mChain f g ma mb mc) σ H Q) :
    tChain (r2 G f) (r2 G g) (TR G W RepS ma) (TR G W RepS mb) (TR G W RepS mc) σ H Q := by
  obtain ⟨ρ, hs, N, hr, he, q⟩ := TR.two (R := RepS) h
  refine ⟨ρ, hs, N, hr, he, q.mono fun x H1 ⟨ρ1, hs1, N1, dx, q1, q2, q3, q4⟩ => ?_⟩
  refine ⟨ρ1, hs1, N1, q1, q2, (PostO.bind (R := RepS) q4).mono fun y H2 ⟨hs2, N2, dy, z1, z2, z3, z4⟩ => ?_⟩
  have z5 := q3.ext z2
  have z6 := q2.ext z2
  cases e : f hs2 dx dy with
  | none => simp only [e] at z4; exact z4.elim
  | some d =>
    refine ⟨hs2, N2, dx, dy, d, z1, z5, z3, e, fun v H' w1 w2 w3 => ?_⟩
    cases d with
    | bl k =>
      refine ⟨k, w3, ?_⟩
      cases k with
      | true =>
        simp only [e] at z4
        rw [if_pos rfl]
        refine ⟨ρ1, hs2, N2, w1, z6.ext w2, (PostO.bind (R := RepS) (PostO.ext w2 z4)).mono fun z H4 ⟨hs3, N3, dz, y1, y2, y3, y4⟩ => ?_⟩
        exact r2_of (H0 := H4) (N0 := N3) y1 ((z3.ext w2).ext y2) y3 y4
      | false =>
        simp only [e] at z4
        rw [if_neg Bool.false_ne_true]
        exact z4 _ N2 H' w1 w2 rfl
    | _ => simp only [e] at z4; exact z4.elim
theorem se_chain {op op' : CmpOp} {a b c : Expr} {ma mb mc : ME} {f g : F2} (ho : OpR X (compareOp op) (r2 (Cx.g X) f)) (ho' : OpR X (compareOp op') (r2 (Cx.g X) g)) (ha : SE X W a ma) (hb : SE X W b mb) (hc : SE X W c mc)
    (hm : lastMarks [op, op'] [b, c] = false := by with_unfolding_all rfl) : SE X W (.Compare a [op, op'] [b, c] pos) (mChain f g ma mb mc) :=
  pe_of (pe_chain ho ho' ha hb hc hm) fun _ _ _ h => chain_read (a := a) (b := b) (c := c) h
theorem st_chain {op op' : CmpOp} {a b c : Expr} {ma mb mc : ME} {f g : F2} (ho : OpR X (compareOp op) (r2 (Cx.g X) f)) (ho' : OpR X (compareOp op') (r2 (Cx.g X) g)) (ha : SE X W a ma) (hb : SE X W b mb) (hc : SE X W c mc)
    (hm : lastMarks [op, op'] [b, c] = false := by with_unfolding_all rfl) : ST X W (.Compare a [op, op'] [b, c] pos) (mB (mChain f g ma mb mc)) := by
  refine pt_of (pt_chain ho ho' ha hb hc hm) fun σ H Q h => ?_
  have h2 := TR.two (R := RepS) h
  refine chain_read (a := a) (b := b) (c := c) ?_
  obtain ⟨ρ, hs, N, hr, he, q⟩ := h2
  refine ⟨ρ, hs, N, hr, he, q.mono fun x H1 ⟨ρ1, hs1, N1, a, q1, q2, q3, q4⟩ => ?_⟩
  cases e : asB a with
  | none => rw [e] at q4; exact q4.elim
  | some b => rw [e] at q4; exact ⟨b, asB_of q3 e, q4 b N1 H1 q1 Ext.refl rfl⟩

/-! ### arithmetic -/
def addF : F2 := fun hs x y => match x, y with
  | .d (.int i), .d (.int j) => some (.int (i + j))
  | .d (.str i), .d (.str j) => if i.length + j.length ≤ sizeLine then some (.str (i ++ j)) else none
  | .d (.tup xs), .d (.tup ys) => if xs.length + ys.length ≤ sizeLine then some (.tup (xs ++ ys)) else none
  | x, y => match viewL hs x, viewL hs y with
    | some xs, some ys => if xs.length + ys.length ≤ sizeLine then some (.lst (xs ++ ys)) else none
    | _, _ => none
theorem or_add : OpR X (binaryOp .Add) (r2 (Cx.g X) addF) := by
  intro pins s σ H x y v u Q I rx ry ⟨hs, N, dx, dy, d, h1, h2, h3, e, q⟩
  unfold addF at e
  split at e
  · cases e
    exact op_add pins s σ H x y v u Q I rx ry ⟨_, _, h2, h3, q _ H h1 Ext.refl rfl⟩
  · split at e
    · cases e
      exact op_add_str pins s σ H x y v u Q I rx ry ⟨_, _, h2, h3, by assumption, q _ H h1 Ext.refl rfl⟩
    · cases e
  · rename_i xs ys
    split at e
    · cases e
      obtain ⟨a, vs, rfl, a1, a2⟩ := (show Rep _ _ _ (.tup xs) _ from h2)
      obtain ⟨b, ws, rfl, b1, b2⟩ := (show Rep _ _ _ (.tup ys) _ from h3)
      refine op_catA pins s σ H _ _ v u Q I rx ry ⟨a, b, vs, ws, rfl, rfl, a1, b1, by rw [← a2.length, ← b2.length]; assumption, fun z => ?_, fun _ z => ?_, fun _ _ p hp => ?_⟩
      · subst z
        have e : xs = [] := List.eq_nil_of_length_eq_zero (by rw [a2.length]; rfl)
        subst e
        exact q _ H h1 Ext.refl ⟨b, ws, rfl, b1, b2⟩
      · subst z
        have e : ys = [] := List.eq_nil_of_length_eq_zero (by rw [b2.length]; rfl)
        subst e
        rw [List.append_nil] at q
        exact q _ H h1 Ext.refl ⟨a, vs, rfl, a1, a2⟩
      · exact q _ _ (h1.alloc hp) (Ext.alloc hp) ⟨p, _, rfl, SqT.of upd_same, RepL.ext (P := All) (Ext.alloc hp) _ _ (a2.append b2)⟩
    · cases e
  · split at e
    · rename_i xs ys e1 e2
      split at e
      · cases e
        obtain ⟨a, vs, rfl, a1, a2⟩ := viewL_of h1 h2 e1
        obtain ⟨b, ws, rfl, b1, b2⟩ := viewL_of h1 h3 e2
        refine op_cat pins s σ H _ _ v u Q I rx ry ⟨a, b, vs, ws, rfl, rfl, a1, b1, by rw [← a2.length, ← b2.length]; assumption, fun p hp => ?_⟩
        exact q _ _ (h1.alloc hp) (Ext.alloc hp) ⟨p, _, rfl, h1.fresh hp, upd_same, RepL.ext (P := All) (Ext.alloc hp) _ _ (a2.append b2)⟩
      · cases e
    · cases e
def intF (C : Int → Int → Prop) [∀ i j, Decidable (C i j)] (f : Int → Int → Int) : F2 := fun _ x y => match x, y with
  | .d (.int i), .d (.int j) => if C i j then some (.int (f i j)) else none
  | _, _ => none
theorem or_int {op : Operator} {C : Int → Int → Prop} [∀ i j, Decidable (C i j)] {f : Int → Int → Int} (h : OpR X (binaryOp op) (rI C fun i j => .int (f i j))) : OpR X (binaryOp op) (r2 (Cx.g X) (intF C f)) := by
  intro pins s σ H x y v u Q I rx ry ⟨hs, N, dx, dy, d, h1, h2, h3, e, q⟩
  unfold intF at e
  split at e
  · split at e
    · cases e
      exact h pins s σ H x y v u Q I rx ry ⟨_, _, h2, h3, by assumption, q _ H h1 Ext.refl rfl⟩
    · cases e
  · cases e
instance (i j : Int) : Decidable (CMul i j) := by unfold CMul; infer_instance
instance (i j : Int) : Decidable (CDiv i j) := by unfold CDiv; infer_instance
instance (i j : Int) : Decidable (CPow i j) := by unfold CPow; infer_instance
abbrev subF : F2 := intF (fun _ _ => True) fun i j => i - j
abbrev modF : F2 := intF (fun _ j => 0 < j) fun i j => i % j
abbrev fdivF : F2 := intF CDiv fun i j => i / j
abbrev powF : F2 := intF CPow fun i j => i ^ j.toNat
def mulF : F2 := fun hs x y => match x, y with
  | .d (.int i), .d (.int j) => if CMul i j then some (.int (i * j)) else none
  | .d (.tup xs), .d (.int j) => if xs ≠ [] ∧ 2 ≤ j ∧ j ≤ 1000 ∧ xs.length ≤ 1000 then some (.tup (List.replicate j.toNat xs).flatten) else none
  | _, _ => none
theorem or_sub : OpR X (binaryOp .Sub) (r2 (Cx.g X) subF) := or_int fun pins s σ H x y v u Q I rx ry ⟨i, j, a, b, _, q⟩ => op_sub pins s σ H x y v u Q I rx ry ⟨i, j, a, b, q⟩
theorem or_mod : OpR X (binaryOp .Mod) (r2 (Cx.g X) modF) := or_int op_mod
theorem or_fdiv : OpR X (binaryOp .FloorDiv) (r2 (Cx.g X) fdivF) := or_int op_fdiv
theorem or_pow : OpR X (binaryOp .Pow) (r2 (Cx.g X) powF) := or_int op_pow
theorem RepL.rep {G : Gd} {H : Hp} {L : Addr → Prop} {ds : List D} {vs : List V} (h : RepL G H L ds vs) : ∀ k : Nat, RepL G H L (List.replicate k ds).flatten (List.replicate k vs).flatten
  | 0 => rfl
  | k + 1 => by
    rw [List.replicate_succ, List.replicate_succ, List.flatten_cons, List.flatten_cons]
    exact h.append (h.rep k)
theorem or_mul : OpR X (binaryOp .Mult) (r2 (Cx.g X) mulF) := by
  intro pins s σ H x y v u Q I rx ry ⟨hs, N, dx, dy, d, h1, h2, h3, e, q⟩
  unfold mulF at e
  split at e
  · split at e
    · cases e
      exact op_mul pins s σ H x y v u Q I rx ry ⟨_, _, h2, h3, by assumption, q _ H h1 Ext.refl rfl⟩
    · cases e
  · rename_i xs j
    split at e
    · rename_i hc
      cases e
      obtain ⟨a, vs, rfl, a1, a2⟩ := (show Rep _ _ _ (.tup xs) _ from h2)
      have hy : y = .int j := h3
      subst hy
      refine op_repT pins s σ H _ _ v u Q I rx ry ⟨a, j, vs, rfl, rfl, a1, fun z => hc.1 ?_, hc.2.1, hc.2.2.1, by rw [← a2.length]; exact hc.2.2.2, fun p hp => ?_⟩
      · subst z
        exact List.eq_nil_of_length_eq_zero (by rw [a2.length]; rfl)
      · exact q _ _ (h1.alloc hp) (Ext.alloc hp) ⟨p, _, rfl, SqT.of upd_same, RepL.ext (P := All) (Ext.alloc hp) _ _ (a2.rep _)⟩
    · cases e
  · cases e
def negF : F1 := fun _ x => match x with
  | .d (.int i) => some (.int (-i))
  | _ => none
theorem or_neg : UnR X (unaryOp .USub) (r1 (Cx.g X) negF) := by
  intro pins s σ H x v Q I rx ⟨hs, N, dx, d, h1, h2, e, q⟩
  unfold negF at e
  split at e
  · cases e
    exact un_neg pins s σ H x v Q I rx ⟨_, h2, q _ H h1 Ext.refl rfl⟩
  · cases e
end
end Py
end L2

set_option Elab.async false
set_option linter.all false
set_option maxRecDepth 100000
/-! Built-in calls, subscripts, slices, methods of lists, iterables. -/
namespace L2
namespace Py
open PySem PySem.Spec PyProof.Rows
variable [Tl]

/-! ### built-ins by their name -/
abbrev FL := Hs → List SV → Option D
def rl (G : Gd) (f : FL) : List V → Hp → VK → Prop := fun xs H Q => ∃ hs N ds d, HRel G hs N H ∧ RepSL G H N ds xs ∧ f hs ds = some d ∧ ∀ v H', HRel G hs N H' → ExtE H N H' N → Rep G H' N.L d v → Q v H'
def mBf (f : FL) (a : MA) : ME := fun ρ hs => (a ρ hs).bind fun ds hs1 => ofO hs1 (f hs1 ds)
section
variable {X : Cx} {W : WX} {x : Str} {p pos : Pos} {e : Expr} {es : List Expr} {ma : MA} {id T : String} {f : FL}
theorem bf_read {G : Gd} {σ : L2.St} {H : Hp} {Q : VK} (h : TR G W RepS (mBf f ma) σ H Q) : tCB (rl G f) (TR G W RepSL ma) σ H Q := by
  obtain ⟨ρ, hs, N, hr, he, q⟩ := TR.two (R := RepSL) h
  refine ⟨ρ, hs, N, hr, he, q.mono fun vs H1 ⟨ρ1, hs1, N1, ds, q1, q2, q3, q4⟩ => ?_⟩
  cases e : f hs1 ds with
  | none => rw [e] at q4; exact q4.elim
  | some d => rw [e] at q4; exact ⟨hs1, N1, ds, d, q1, q3, e, fun v H' a b c => q4 v N1 H' a b c⟩
theorem se_callB (hc : CallR X (.builtin id) (rl (Cx.g X) f)) (hg : Gl X x) (hm : X.mg x = none) (hv : bootBuiltins x = some (.builtin id)) (ha : SA X W (e :: es) ma) (hn : x ≠ "__name__" := by decide) (hdb : (x == ("__debug__" : Str)) = false := by decide)
    (he : starEach (e :: es) X.env = (false, eval e X.env) :: starEach es X.env := by rfl) (hpl : (backTo pos (starEach es X.env)).any (·.1) = false := by rfl) : SE X W (.Call (.Name x p) (e :: es) [] pos) (mBf f ma) :=
  pe_of (pe_callB hc hg hm hv ha hn hdb he hpl) fun _ _ _ h => bf_read h
theorem se_callTy (hc : CallR X (.type T) (rl (Cx.g X) f)) (hg : Gl X x) (hm : X.mg x = none) (hv : bootBuiltins x = some (.type T)) (ha : SA X W (e :: es) ma) (hn : x ≠ "__name__" := by decide) (hdb : (x == ("__debug__" : Str)) = false := by decide)
    (he : starEach (e :: es) X.env = (false, eval e X.env) :: starEach es X.env := by rfl) (hpl : (backTo pos (starEach es X.env)).any (·.1) = false := by rfl) : SE X W (.Call (.Name x p) (e :: es) [] pos) (mBf f ma) :=
  pe_of (pe_callTy hc hg hm hv ha hn hdb he hpl) fun _ _ _ h => bf_read h
/-- a built-in type's name as a value -/
theorem se_bltn {n : String} {pos : Pos} (hg : Gl X x) (hm : X.mg x = none) (hv : bootBuiltins x = some (.type n)) (hn : x ≠ "__name__" := by decide) (hd : (x == ("__debug__" : Str)) = false := by decide) : SE X W (.Name x pos) (mC (.ty n)) :=
  se_c (pe_bltn (v := .ty n) hg hm hv rfl hn hd) fun _ _ => rfl
end
/-- one argument's value -/
theorem repSL1 {G : Gd} {H : Hp} {N : Lg} {d : SV} {vs : List V} (h : RepSL G H N [d] vs) : ∃ v, vs = [v] ∧ RepS G H N d v := by
  obtain ⟨v, r, h1, h2, h3⟩ := h
  have h3 : r = [] := h3
  subst h3
  exact ⟨v, h1, h2⟩
theorem repSL2 {G : Gd} {H : Hp} {N : Lg} {d e : SV} {vs : List V} (h : RepSL G H N [d, e] vs) : ∃ v w, vs = [v, w] ∧ RepS G H N d v ∧ RepS G H N e w := by
  obtain ⟨v, r, h1, h2, h3⟩ := h
  obtain ⟨w, h4, h5⟩ := repSL1 h3
  subst h4
  exact ⟨v, w, h1, h2, h5⟩
def tyName : D → Option String
  | .non => some "NoneType"
  | .bl _ => some "bool"
  | .int _ => some "int"
  | .str _ => some "str"
  | .tup _ => some "tuple"
  | .lst _ => some "list"
  | .dct _ _ => none
  | _ => none
/-- isinstance of plain types -/
def isTy (a b : String) : Option Bool :=
  if a ∈ ["NoneType", "bool", "int", "str", "tuple", "list", "dict"] ∧ b ∈ ["bool", "int", "str", "tuple", "list", "dict"] then some (a == b || (a == "bool" && b == "int")) else none
theorem isTy_kit {a b : String} {r : Bool} (h : isTy a b = some r) : kitB a b = some r := by
  unfold isTy at h
  split at h
  · rename_i hc
    have h := Option.some.inj h
    subst h
    obtain ⟨h1, h2⟩ := hc
    simp only [List.mem_cons, List.not_mem_nil, or_false] at h1 h2
    rcases h1 with rfl | rfl | rfl | rfl | rfl | rfl | rfl <;> rcases h2 with rfl | rfl | rfl | rfl | rfl | rfl <;> decide +kernel
  · cases h
def isinstF : FL := fun hs ds => match ds with
  | [x, .d (.ty T)] => match dataOf hs x with
    | some d => match tyName d with
      | some a => (isTy a T).map .bl
      | none => none
    | none => none
  | _ => none
def lenF : FL := fun hs ds => match ds with
  | [.d (.str y)] => if y.length ≤ sizeLine then some (.int y.length) else none
  | [.d (.tup xs)] => some (.int xs.length)
  | [x] => (viewL hs x).map fun xs => .int xs.length
  | _ => none
def allBl : List D → Option (List Bool)
  | [] => some []
  | .bl b :: r => (allBl r).map (b :: ·)
  | _ :: _ => none
def allF (any : Bool) : FL := fun hs ds => match ds with
  | [x] => match viewL hs x with
    | some xs => (allBl xs).map fun bs => .bl (if any = true then bs.any id else bs.all id)
    | none => none
  | _ => none
theorem allBl_of {G : Gd} {H : Hp} {L : Addr → Prop} : ∀ {xs : List D} {bs : List Bool} {vs : List V}, RepL G H L xs vs → allBl xs = some bs → vs = bs.map V.bl
  | [], bs, vs, h, e => by cases e; exact h
  | .bl b :: r, bs, vs, ⟨v, w, h1, h2, h3⟩, e => by
    simp only [allBl] at e
    cases q : allBl r with
    | none => rw [q] at e; cases e
    | some cs =>
      rw [q] at e
      have e : some (b :: cs) = some bs := e
      cases e
      rw [h1, show v = .bl b from h2, allBl_of h3 q]; rfl
  | .non :: _, _, _, _, e => by cases e
  | .int _ :: _, _, _, _, e => by cases e
  | .str _ :: _, _, _, _, e => by cases e
  | .tup _ :: _, _, _, _, e => by cases e
  | .lst _ :: _, _, _, _, e => by cases e
  | .dct _ _ :: _, _, _, _, e => by cases e
  | .scr _ :: _, _, _, _, e => by cases e
  | .glo _ :: _, _, _, _, e => by cases e
  | .ty _ :: _, _, _, _, e => by cases e
def intFn : FL := fun _ ds => match ds with
  | [.d (.int i)] => some (.int i)
  | [.d (.bl k)] => some (.int (if k then 1 else 0))
  | _ => none
def absF : FL := fun _ ds => match ds with
  | [.d (.int i)] => some (.int (if i < 0 then -i else i))
  | _ => none
def listF : FL := fun hs ds => match ds with
  | [.d (.tup xs)] => some (.lst xs)
  | [x] => (viewL hs x).map .lst
  | _ => none
def tupleF : FL := fun hs ds => match ds with
  | [.d (.tup xs)] => some (.tup xs)
  | [x] => (viewL hs x).map .tup
  | _ => none
def min2F (mx : Bool) : FL := fun _ ds => match ds with
  | [.d (.int i), .d (.int j)] => some (.int (if mx = true then (if j > i then j else i) else if j < i then j else i))
  | _ => none
/-- repr of data in a list or a tuple -/
def reprF : FL := fun hs ds => match ds with
  | [x] => match dataOf hs x with
    | some d => match d, toPy d with
      | .lst _, some p => if (p.showable && decide (p.shown.length ≤ sizeLine) && decide (p.depth ≤ 150)) = true then some (.str p.shown) else none
      | .tup _, some p => if (p.showable && decide (p.shown.length ≤ sizeLine) && decide (p.depth ≤ 150)) = true then some (.str p.shown) else none
      | _, _ => none
    | none => none
  | _ => none
section
variable {X : Cx} {k : Nat}
theorem tyX_of {G : Gd} {H : Hp} {N : Lg} {hs : Hs} {x : SV} {v : V} {d : D} {a : String} (h1 : HRel G hs N H) (h2 : RepS G H N x v) (h : dataOf hs x = some d) (e : tyName d = some a) : TyX G.K H v (.type a) := by
  cases x with
  | d z =>
    have h : some z = some d := h
    cases h
    cases d with
    | non => cases e; have q : v = .non := h2; subst q; exact .base .non
    | bl b => cases e; have q : v = .bl b := h2; subst q; exact .base (.bl b)
    | int b => cases e; have q : v = .int b := h2; subst q; exact .base (.int b)
    | str b => cases e; have q : v = .str b := h2; subst q; exact .base (.str b)
    | tup xs =>
      cases e
      obtain ⟨p, vs, q, s, _⟩ := h2
      subst q
      rcases s with (s | ⟨o, s⟩) | ⟨o, its, n, s, c, _⟩
      · exact .base (.tup s)
      · exact .fTuple s
      · exact .kTuple s c
    | lst xs => cases e; obtain ⟨p, vs, q, _, s, _⟩ := h2; subst q; exact .base (.lst s)
    | dct xs ys =>
      cases e
    | scr xs => cases e
    | glo y => cases e
    | ty y => cases e
  | r n =>
    obtain ⟨p, rfl, hn⟩ := h2
    obtain ⟨c, hc, q, _⟩ := h1.get hn
    simp only [dataOf, hc] at h
    cases c with
    | lst ys =>
      have h : some (D.lst ys) = some d := h
      cases h
      cases e
      obtain ⟨vs, q1, q2⟩ := q
      exact .base (.lst q1)
    | _ => cases h
theorem cr_isinst : CallR X (.builtin "isinstance") (rl (Cx.g X) isinstF) := by
  intro pins s σ H xs us Q I r ⟨hs, N, ds, d, h1, h2, e, q⟩
  unfold isinstF at e
  split at e
  · rename_i x T
    obtain ⟨v, w, rfl, r1, r2⟩ := repSL2 h2
    have hw : w = .ty T := r2
    subst hw
    split at e
    · rename_i d1 e1
      split at e
      · rename_i a e2
        cases e3 : isTy a T with
        | none => rw [e3] at e; cases e
        | some b =>
          rw [e3] at e
          have e : some (D.bl b) = some d := e
          cases e
          exact call_isi pins s σ H _ us Q I r ⟨v, .ty T, .type a, .type T, b, rfl, .ty T, tyX_of h1 r1 e1 e2, kit_ty (isTy_kit e3), q _ H h1 Ext.refl rfl⟩
      · cases e
    · cases e
  · cases e
theorem cr_len : CallR X (.builtin "len") (rl (Cx.g X) lenF) := by
  intro pins s σ H xs us Q I r ⟨hs, N, ds, d, h1, h2, e, q⟩
  unfold lenF at e
  split at e
  · rename_i y
    obtain ⟨v, rfl, r1⟩ := repSL1 h2
    have hv : v = .str y := r1
    subst hv
    split at e
    · cases e
      exact call_len pins s σ H _ us Q I r ⟨_, y.length, rfl, ⟨by assumption, rfl⟩, q _ H h1 Ext.refl rfl⟩
    · cases e
  · rename_i ys
    obtain ⟨v, rfl, r1⟩ := repSL1 h2
    obtain ⟨a, vs, rfl, a1, a2⟩ := (show Rep _ _ _ (.tup ys) _ from r1)
    cases e
    exact call_len pins s σ H _ us Q I r ⟨_, ys.length, rfl, .inr ⟨vs, a1, a2.length⟩, q _ H h1 Ext.refl rfl⟩
  · rename_i x _ _
    obtain ⟨v, rfl, r1⟩ := repSL1 h2
    cases e1 : viewL hs x with
    | none => rw [e1] at e; cases e
    | some ys =>
      rw [e1] at e
      have e : some (D.int ys.length) = some d := e
      cases e
      obtain ⟨a, vs, rfl, a1, a2⟩ := viewL_of h1 r1 e1
      exact call_len pins s σ H _ us Q I r ⟨_, ys.length, rfl, .inl ⟨vs, SqL.of a1, a2.length⟩, q _ H h1 Ext.refl rfl⟩
  · cases e
theorem cr_all' (hc : X.calm = true) : CallR X (.builtin "all") (rl (Cx.g X) (allF false)) := by
  intro pins s σ H xs us Q I r ⟨hs, N, ds, d, h1, h2, e, q⟩
  unfold allF at e
  split at e
  · rename_i x
    obtain ⟨v, rfl, r1⟩ := repSL1 h2
    split at e
    · rename_i ys e1
      cases e2 : allBl ys with
      | none => rw [e2] at e; cases e
      | some bs =>
        rw [e2] at e
        cases e
        obtain ⟨a, vs, rfl, a1, a2⟩ := viewL_of h1 r1 e1
        have := allBl_of a2 e2
        subst this
        exact cr_all hc pins s σ H _ us Q I r ⟨a, bs, rfl, SqL.of a1, q _ H h1 Ext.refl rfl⟩
    · cases e
  · cases e
theorem cr_any' (hc : X.calm = true) : CallR X (.builtin "any") (rl (Cx.g X) (allF true)) := by
  intro pins s σ H xs us Q I r ⟨hs, N, ds, d, h1, h2, e, q⟩
  unfold allF at e
  split at e
  · rename_i x
    obtain ⟨v, rfl, r1⟩ := repSL1 h2
    split at e
    · rename_i ys e1
      cases e2 : allBl ys with
      | none => rw [e2] at e; cases e
      | some bs =>
        rw [e2] at e
        cases e
        obtain ⟨a, vs, rfl, a1, a2⟩ := viewL_of h1 r1 e1
        have := allBl_of a2 e2
        subst this
        exact cr_any hc pins s σ H _ us Q I r ⟨a, bs, rfl, SqL.of a1, q _ H h1 Ext.refl rfl⟩
    · cases e
  · cases e
theorem cr_int : CallR X (.type "int") (rl (Cx.g X) intFn) := by
  intro pins s σ H xs us Q I r ⟨hs, N, ds, d, h1, h2, e, q⟩
  unfold intFn at e
  split at e
  · rename_i i
    obtain ⟨v, rfl, r1⟩ := repSL1 h2
    have hv : v = .int i := r1
    subst hv
    cases e
    exact call_int1 pins s σ H _ us Q I r (.inl ⟨i, rfl, q _ H h1 Ext.refl rfl⟩)
  · rename_i i
    obtain ⟨v, rfl, r1⟩ := repSL1 h2
    have hv : v = .bl i := r1
    subst hv
    cases e
    exact call_int1 pins s σ H _ us Q I r (.inr ⟨i, rfl, q _ H h1 Ext.refl rfl⟩)
  · cases e
theorem cr_abs : CallR X (.builtin "abs") (rl (Cx.g X) absF) := by
  intro pins s σ H xs us Q I r ⟨hs, N, ds, d, h1, h2, e, q⟩
  unfold absF at e
  split at e
  · rename_i i
    obtain ⟨v, rfl, r1⟩ := repSL1 h2
    have hv : v = .int i := r1
    subst hv
    cases e
    exact call_abs pins s σ H _ us Q I r ⟨i, rfl, q _ H h1 Ext.refl rfl⟩
  · cases e
theorem cr_max2 (hc : X.calm = true) : CallR X (.builtin "max") (rl (Cx.g X) (min2F true)) := by
  intro pins s σ H xs us Q I r ⟨hs, N, ds, d, h1, h2, e, q⟩
  unfold min2F at e
  split at e
  · rename_i i j
    obtain ⟨v, w, rfl, r1, r2⟩ := repSL2 h2
    have hv : v = .int i := r1
    have hw : w = .int j := r2
    subst hv hw
    cases e
    exact call_max2 hc pins s σ H _ us Q I r ⟨i, j, rfl, q _ H h1 Ext.refl rfl⟩
  · cases e
theorem cr_min2 (hc : X.calm = true) : CallR X (.builtin "min") (rl (Cx.g X) (min2F false)) := by
  intro pins s σ H xs us Q I r ⟨hs, N, ds, d, h1, h2, e, q⟩
  unfold min2F at e
  split at e
  · rename_i i j
    obtain ⟨v, w, rfl, r1, r2⟩ := repSL2 h2
    have hv : v = .int i := r1
    have hw : w = .int j := r2
    subst hv hw
    cases e
    exact call_min2 hc pins s σ H _ us Q I r ⟨i, j, rfl, q _ H h1 Ext.refl rfl⟩
  · cases e
theorem cr_list : CallR X (.type "list") (rl (Cx.g X) listF) := by
  intro pins s σ H xs us Q I r ⟨hs, N, ds, d, h1, h2, e, q⟩
  unfold listF at e
  split at e
  · rename_i ys
    obtain ⟨v, rfl, r1⟩ := repSL1 h2
    obtain ⟨a, vs, rfl, a1, a2⟩ := (show Rep _ _ _ (.tup ys) _ from r1)
    cases e
    exact call_list_of pins s σ H _ us Q I r ⟨a, vs, rfl, .inr a1, fun p hp => q _ _ (h1.alloc hp) (Ext.alloc hp) ⟨p, vs, rfl, h1.fresh hp, upd_same, RepL.ext (P := All) (Ext.alloc hp) _ _ a2⟩⟩
  · rename_i x _
    obtain ⟨v, rfl, r1⟩ := repSL1 h2
    cases e1 : viewL hs x with
    | none => rw [e1] at e; cases e
    | some ys =>
      rw [e1] at e
      have e : some (D.lst ys) = some d := e
      cases e
      obtain ⟨a, vs, rfl, a1, a2⟩ := viewL_of h1 r1 e1
      exact call_list_of pins s σ H _ us Q I r ⟨a, vs, rfl, .inl (SqL.of a1), fun p hp => q _ _ (h1.alloc hp) (Ext.alloc hp) ⟨p, vs, rfl, h1.fresh hp, upd_same, RepL.ext (P := All) (Ext.alloc hp) _ _ a2⟩⟩
  · cases e
theorem cr_tuple : CallR X (.type "tuple") (rl (Cx.g X) tupleF) := by
  intro pins s σ H xs us Q I r ⟨hs, N, ds, d, h1, h2, e, q⟩
  unfold tupleF at e
  split at e
  · rename_i ys
    obtain ⟨v, rfl, r1⟩ := repSL1 h2
    obtain ⟨a, vs, rfl, a1, a2⟩ := (show Rep _ _ _ (.tup ys) _ from r1)
    cases e
    exact call_tuple_of pins s σ H _ us Q I r ⟨a, vs, rfl, .inr ⟨a1, q _ H h1 Ext.refl ⟨a, vs, rfl, a1, a2⟩⟩⟩
  · rename_i x _
    obtain ⟨v, rfl, r1⟩ := repSL1 h2
    cases e1 : viewL hs x with
    | none => rw [e1] at e; cases e
    | some ys =>
      rw [e1] at e
      have e : some (D.tup ys) = some d := e
      cases e
      obtain ⟨a, vs, rfl, a1, a2⟩ := viewL_of h1 r1 e1
      exact call_tuple_of pins s σ H _ us Q I r ⟨a, vs, rfl, .inl ⟨SqL.of a1, fun p hp => q _ _ (h1.alloc hp) (Ext.alloc hp) ⟨p, vs, rfl, SqT.of upd_same, RepL.ext (P := All) (Ext.alloc hp) _ _ a2⟩⟩⟩
  · cases e
theorem reprF_of {hs : Hs} {ds : List SV} {d : D} (h : reprF hs ds = some d) : ∃ x d1 p, ds = [x] ∧ dataOf hs x = some d1 ∧ ((∃ xs, d1 = .lst xs) ∨ ∃ xs, d1 = .tup xs) ∧ toPy d1 = some p ∧ p.showable = true ∧ p.shown.length ≤ sizeLine ∧ p.depth ≤ 150 ∧ d = .str p.shown := by
  unfold reprF at h
  split at h
  · rename_i x
    split at h
    · rename_i d1 e1
      split at h
      · rename_i xs p e2
        split at h
        · rename_i hc
          simp only [Bool.and_eq_true, decide_eq_true_eq] at hc
          exact ⟨x, _, p, rfl, e1, .inl ⟨_, rfl⟩, e2, hc.1.1, hc.1.2, hc.2, (Option.some.inj h).symm⟩
        · cases h
      · rename_i xs p e2
        split at h
        · rename_i hc
          simp only [Bool.and_eq_true, decide_eq_true_eq] at hc
          exact ⟨x, _, p, rfl, e1, .inr ⟨_, rfl⟩, e2, hc.1.1, hc.1.2, hc.2, (Option.some.inj h).symm⟩
        · cases h
      · cases h
    · cases h
  · cases h
mutual
theorem noDict : ∀ (d : D) (p : PyData), toPy d = some p → p.hasDict = false
  | .non, p, e => by cases e; rfl
  | .bl _, p, e => by cases e; rfl
  | .int _, p, e => by cases e; rfl
  | .str _, p, e => by cases e; rfl
  | .tup xs, p, e => by
    simp only [toPy] at e
    cases q : toPyL xs with
    | none => rw [q] at e; cases e
    | some ys => rw [q] at e; cases e; exact noDictL xs ys q
  | .lst xs, p, e => by
    simp only [toPy] at e
    cases q : toPyL xs with
    | none => rw [q] at e; cases e
    | some ys => rw [q] at e; cases e; exact noDictL xs ys q
  | .dct _ _, _, e => by cases e
  | .scr _, _, e => by cases e
  | .glo _, _, e => by cases e
  | .ty _, _, e => by cases e
theorem noDictL : ∀ (ds : List D) (ps : List PyData), toPyL ds = some ps → PyData.hasDictAll ps = false
  | [], ps, e => by cases e; rfl
  | x :: xs, ps, e => by
    simp only [toPyL] at e
    cases q1 : toPy x with
    | none => rw [q1] at e; cases e
    | some y =>
      cases q2 : toPyL xs with
      | none => rw [q1, q2] at e; cases e
      | some ys =>
        rw [q1, q2] at e
        cases e
        simp [PyData.hasDictAll, noDict x y q1, noDictL xs ys q2]
end
theorem cr_repr (hg : X.A.guards = some []) (hr : Room k X.A) : CallR X (.builtin "repr") (rl (Cx.g X) reprF) := by
  intro pins s σ H xs us Q I r ⟨hs, N, ds, d, h1, h2, e, q⟩
  obtain ⟨x, d1, p, rfl, a1, a2, a3, a4, a5, a6, rfl⟩ := reprF_of e
  obtain ⟨v, rfl, r1⟩ := repSL1 h2
  obtain ⟨u, rfl, r2⟩ := vals1 r
  have dp := dataOf_dp h1 r1 a1 a3
  obtain ⟨as, rd⟩ := Dp.reads I p v u dp r2
  have hu : ∃ a, u = .ref a := by
    have hp : (∃ ys, p = .list ys) ∨ ∃ ys, p = .tuple ys := by
      rcases a2 with ⟨ys, rfl⟩ | ⟨ys, rfl⟩
      · simp only [toPy] at a3
        cases q : toPyL ys with
        | none => rw [q] at a3; cases a3
        | some zs => rw [q] at a3; cases a3; exact .inl ⟨_, rfl⟩
      · simp only [toPy] at a3
        cases q : toPyL ys with
        | none => rw [q] at a3; cases a3
        | some zs => rw [q] at a3; cases a3; exact .inr ⟨_, rfl⟩
    rcases hp with ⟨ys, rfl⟩ | ⟨ys, rfl⟩
    · cases dp with | lst _ _ => exact ⟨_, r2⟩
    · cases dp with | tup _ _ => exact ⟨_, r2⟩
  obtain ⟨a, rfl⟩ := hu
  have hun := hr.un
  exact repr_of_reads' rd a4 (fun z => by rw [noDict d1 p a3] at z; cases z) hg (by omega) (fun b o z => z)
    (fun h' t tk hk => ⟨.str p.shown, H, I.kept hk, ⟨_, rfl⟩, q _ H h1 Ext.refl rfl⟩) a5
end

/-! ### subscripts -/
def ixF : F2 := fun hs x y => match x, y with
  | .d (.tup xs), .d (.int i) => atI xs i
  | .d (.str z), .d (.int i) => if z.length ≤ sizeLine then (atI z.cps.toList i).map fun c => .str ⟨#[c]⟩ else none
  | x, .d (.int i) => match viewL hs x with
    | some xs => atI xs i
    | none => none
  | _, _ => none
theorem atI_rep {G : Gd} {H : Hp} {L : Addr → Prop} {xs : List D} {vs : List V} {i : Int} {d : D} (h : RepL G H L xs vs) (e : atI xs i = some d) : ∃ v, atI vs i = some v ∧ Rep G H L d v := by
  unfold atI at e ⊢
  rw [← h.length]
  cases q : ixN xs.length i with
  | none => rw [q] at e; cases e
  | some j =>
    rw [q] at e
    exact h.get (i := j) e
section
variable {X : Cx} {W : WX} {pos p2 : Pos} {a b : Expr} {ma mb : ME}
theorem ir_ix : IxR X (r2 (Cx.g X) ixF) := by
  intro value slice pins s σ H x y v u Q I rx ry ⟨hs, N, dx, dy, d, h1, h2, h3, e, q⟩ hp
  unfold ixF at e
  split at e
  · rename_i xs i
    obtain ⟨a, vs, rfl, a1, a2⟩ := (show Rep _ _ _ (.tup xs) _ from h2)
    obtain ⟨w, e1, e2⟩ := atI_rep a2 e
    exact ix_tup value slice pins s σ H _ y v u Q I rx ry ⟨a, vs, i, w, rfl, h3, a1, e1, q _ H h1 Ext.refl e2⟩ hp
  · rename_i z i
    split at e
    · cases e1 : atI z.cps.toList i with
      | none => rw [e1] at e; cases e
      | some c =>
        rw [e1] at e
        have e : some (D.str ⟨#[c]⟩) = some d := e
        cases e
        exact ix_str value slice pins s σ H _ y v u Q I rx ry ⟨z, i, c, h2, h3, by assumption, e1, q _ H h1 Ext.refl rfl⟩ hp
    · cases e
  · rename_i i _ _
    split at e
    · rename_i xs e1
      obtain ⟨a, vs, rfl, a1, a2⟩ := viewL_of h1 h2 e1
      obtain ⟨w, e2, e3⟩ := atI_rep a2 e
      exact ix_list value slice pins s σ H _ y v u Q I rx ry ⟨a, vs, i, w, rfl, h3, SqL.of a1, e2, q _ H h1 Ext.refl e3⟩ hp
    · cases e
  · cases e
theorem se_ix (ha : SE X W a ma) (hb : SE X W b mb) (hs : PlainIx b := by exact fun _ _ => rfl) : SE X W (.Subscript a b pos) (m2 ixF ma mb) :=
  pe_of (pe_ix ir_ix ha hb hs) fun _ _ _ h => op2_read (a := a) (b := b) h

/-! ### slices -/
abbrev MO := Mx (Option Int)
def RO : Gd → Hp → Lg → Option Int → Option Int → Prop := fun _ _ _ a b => a = b
abbrev SO (X : Cx) (W : WX) (e : Option Expr) (m : MO) : Prop := PO X e (TR (Cx.g X) W RO m)
def mNo : MO := fun _ hs => .ok none hs
def mSo (a : ME) : MO := fun ρ hs => (a ρ hs).bind fun x hs1 => match x with
  | .d (.int i) => .ok (some i) hs1
  | _ => .bad
theorem so_none : SO X W none mNo := ⟨fun pins s σ H Q I ⟨ρ, hs, N, hr, he, q⟩ => po_none.run pins s σ H Q I (q none N H hr Ext.refl rfl)⟩
theorem so_some (ha : SE X W a ma) : SO X W (some a) (mSo ma) := by
  refine ⟨fun pins s σ H Q I h => (po_some ha).run pins s σ H Q I ?_⟩
  obtain ⟨ρ, hs, N, hr, he, q⟩ := TR.two (R := RepS) h
  refine ⟨ρ, hs, N, hr, he, q.mono fun x H1 ⟨ρ1, hs1, N1, d, q1, q2, q3, q4⟩ => ?_⟩
  split at q4
  · rename_i i
    exact ⟨i, q3, q4 (some i) N1 H1 q1 Ext.refl rfl⟩
  · exact q4.elim
def cutL {α : Type} (xs : List α) (lo hi : Option Int) : List α := (xs.drop (HT.sIx xs.length 0 lo)).take (HT.sIx xs.length xs.length hi - HT.sIx xs.length 0 lo)
def slF (hs : Hs) (x : SV) (lo hi : Option Int) : Option D := match x with
  | .d (.tup xs) => some (.tup (cutL xs lo hi))
  | .d (.str z) => if z.length ≤ sizeLine then some (.str (cutS z lo hi)) else none
  | .d (.scr xs) => some (.lst (cutL xs lo hi))
  | x => (viewL hs x).map fun xs => .lst (cutL xs lo hi)
def rS (G : Gd) : V → Option Int → Option Int → Hp → VK → Prop := fun x lo hi H Q => ∃ hs N dx d, HRel G hs N H ∧ RepS G H N dx x ∧ slF hs dx lo hi = some d ∧ ∀ v H', HRel G hs N H' → ExtE H N H' N → Rep G H' N.L d v → Q v H'
theorem cut_rep {G : Gd} {H : Hp} {L : Addr → Prop} {xs : List D} {vs : List V} {lo hi : Option Int} (h : RepL G H L xs vs) : RepL G H L (cutL xs lo hi) (cutV vs lo hi) := by
  unfold cutL cutV
  rw [h.length]
  exact (h.drop _).take _
theorem sr_sl : SlR X (rS (Cx.g X)) := by
  intro pins s σ H x v vl vu lo hi sl Q I rx hsl pl pu ⟨hs, N, dx, d, h1, h2, e, q⟩
  unfold slF at e
  split at e
  · rename_i xs
    obtain ⟨a, vs, rfl, a1, a2⟩ := (show Rep _ _ _ (.tup xs) _ from h2)
    cases e
    refine sl_tupA pins s σ H _ v vl vu lo hi sl Q I rx hsl pl pu ⟨a, vs, rfl, a1, fun z => ?_, fun _ p hp => q _ _ (h1.alloc hp) (Ext.alloc hp) ⟨p, _, rfl, SqT.of upd_same, RepL.ext (P := All) (Ext.alloc hp) _ _ (cut_rep a2)⟩⟩
    refine q _ H h1 Ext.refl ⟨a, vs, rfl, a1, ?_⟩
    have : cutL xs lo hi = xs := by
      unfold cutL
      rw [← a2.length] at z
      rw [z.1, z.2, List.drop_zero, Nat.sub_zero, List.take_length]
    rw [this]; exact a2
  · rename_i z
    split at e
    · cases e
      exact sl_str pins s σ H _ v vl vu lo hi sl Q I rx hsl pl pu ⟨z, h2, by assumption, q _ H h1 Ext.refl rfl⟩
    · cases e
  · rename_i xs
    obtain ⟨a, vs, rfl, a1, a2⟩ := (show Rep _ _ _ (.scr xs) _ from h2)
    cases e
    exact sl_list pins s σ H _ v vl vu lo hi sl Q I rx hsl pl pu ⟨a, vs, rfl, a1.sq, fun p hp => q _ _ (h1.alloc hp) (Ext.alloc hp) ⟨p, _, rfl, h1.fresh hp, upd_same, RepL.ext (P := All) (Ext.alloc hp) _ _ (cut_rep a2)⟩⟩
  · cases e1 : viewL hs dx with
    | none => rw [e1] at e; cases e
    | some xs =>
      rw [e1] at e
      have e : some (D.lst (cutL xs lo hi)) = some d := e
      cases e
      obtain ⟨a, vs, rfl, a1, a2⟩ := viewL_of h1 h2 e1
      exact sl_list pins s σ H _ v vl vu lo hi sl Q I rx hsl pl pu ⟨a, vs, rfl, SqL.of a1, fun p hp => q _ _ (h1.alloc hp) (Ext.alloc hp) ⟨p, _, rfl, h1.fresh hp, upd_same, RepL.ext (P := All) (Ext.alloc hp) _ _ (cut_rep a2)⟩⟩
def mSl (a : ME) (l h : MO) : ME := fun ρ hs => (a ρ hs).bind fun x hs1 => (l ρ hs1).bind fun lo hs2 => (h ρ hs2).bind fun hi hs3 => ofO hs3 (slF hs3 x lo hi)
theorem se_slice {lo hi : Option Expr} {ml mh : MO} (ha : SE X W a ma) (hl : SO X W lo ml) (hh : SO X W hi mh) : SE X W (.Subscript a (.Slice lo hi none p2) pos) (mSl ma ml mh) := by
  refine pe_of (pe_slice sr_sl ha hl hh) fun σ H Q h => ?_
  obtain ⟨ρ, hs, N, hr, he, q⟩ := TR.two (R := RepS) h
  refine ⟨ρ, hs, N, hr, he, q.mono fun x H1 ⟨ρ1, hs1, N1, d, q1, q2, q3, q4⟩ => ?_⟩
  refine ⟨ρ1, hs1, N1, q1, q2, (PostO.bind (R := RO) q4).mono fun lo' H2 ⟨hs2, N2, l', z1, z2, z3, z4⟩ => ?_⟩
  have z3 : l' = lo' := z3
  subst z3
  refine ⟨ρ1, hs2, N2, z1, q2.ext z2, (PostO.bind (R := RO) z4).mono fun hi' H3 ⟨hs3, N3, h', y1, y2, y3, y4⟩ => ?_⟩
  have y3 : h' = hi' := y3
  subst y3
  cases e : slF hs3 d l' h' with
  | none => simp only [e] at y4; exact y4.elim
  | some r => simp only [e] at y4; exact ⟨hs3, N3, d, r, y1, (q3.ext z2).ext y2, e, fun v H' a b c => y4 v N3 H' a b c⟩

/-! ### methods of live lists -/
abbrev FMt := Hs → SV → List SV → Option (D × Hs)
def mMt (f : FMt) (o : ME) (a : MA) : ME := fun ρ hs => (o ρ hs).bind fun x hs1 => (a ρ hs1).bind fun ds hs2 => match f hs2 x ds with
  | some (d, hs3) => .ok (.d d) hs3
  | none => .bad
def rM (G : Gd) (f : FMt) : V → List V → Hp → VK → Prop := fun x vs H Q => ∃ hs N dx ds d hs', HRel G hs N H ∧ RepS G H N dx x ∧ RepSL G H N ds vs ∧ f hs dx ds = some (d, hs') ∧ ∀ v H', HRel G hs' N H' → ExtE H N H' N → Rep G H' N.L d v → Q v H'
def appendF : FMt := fun hs x ds => match x, ds with
  | .r n, [.d d] => match hs[n]? with
    | some (.lst xs) => if xs.length < sizeLine then some (.non, hs.set n (.lst (xs ++ [d]))) else none
    | _ => none
  | _, _ => none
def extendF : FMt := fun hs x ds => match x, ds with
  | .r n, [y] => match hs[n]?, viewL hs y with
    | some (.lst xs), some ys => if xs.length + ys.length ≤ sizeLine then some (.non, hs.set n (.lst (xs ++ ys))) else none
    | _, _ => none
  | _, _ => none
def popF : FMt := fun hs x ds => match x, ds with
  | .r n, [] => match hs[n]? with
    | some (.lst xs) => match xs[xs.length - 1]? with
      | some d => some (d, hs.set n (.lst xs.dropLast))
      | none => none
    | _ => none
  | _, _ => none
def popAtF : FMt := fun hs x ds => match x, ds with
  | .r n, [.d (.int i)] => match hs[n]? with
    | some (.lst xs) => if -(2 ^ 63) ≤ i ∧ i < 2 ^ 63 then match seqIndex? i xs.length with
        | some k => match xs[k]? with
          | some d => some (d, hs.set n (.lst (xs.eraseIdx k)))
          | none => none
        | none => none
      else none
    | _ => none
  | _, _ => none
theorem mm_append : MtM X "list.append" (rM (Cx.g X) appendF) := by
  intro pins s σ H x xs v us Q I rx rxs ⟨hs, N, dx, ds, d, hs', h1, h2, h3, e, q⟩
  unfold appendF at e
  split at e
  · rename_i n d0
    split at e
    · rename_i ys e1
      split at e
      · cases e
        obtain ⟨a, rfl, hn⟩ := h2
        obtain ⟨w, rfl, r1⟩ := repSL1 h3
        obtain ⟨c, hc, qc, _⟩ := h1.get hn
        rw [e1] at hc; cases hc
        obtain ⟨vs, q1, q2⟩ := qc
        have r1 : Rep _ H N.L d0 w := r1
        have ew := Ext.write (P := All) (o := .lst (vs ++ [w])) (List.mem_of_getElem? hn) (h1.mu a (N.liv a (List.mem_of_getElem? hn)))
        obtain ⟨hr', ex'⟩ := h1.write (o := .lst (vs ++ [w])) (c := .lst (ys ++ [d0])) hn trivial ⟨_, upd_same, (RepL.ext ew _ _ q2).append (RepL.one (Rep.ext ew _ _ r1))⟩
        exact mt_append pins s σ H _ _ v us Q I rx rxs ⟨a, vs, w, rfl, rfl, q1, by rw [← q2.length]; assumption, q _ _ hr' ex' rfl⟩
      · cases e
    · cases e
  · cases e
theorem mm_extend : MtM X "list.extend" (rM (Cx.g X) extendF) := by
  intro pins s σ H x xs v us Q I rx rxs ⟨hs, N, dx, ds, d, hs', h1, h2, h3, e, q⟩
  unfold extendF at e
  split at e
  · rename_i n y
    split at e
    · rename_i ys zs e1 e2
      split at e
      · cases e
        obtain ⟨a, rfl, hn⟩ := h2
        obtain ⟨w, rfl, r1⟩ := repSL1 h3
        obtain ⟨c, hc, qc, _⟩ := h1.get hn
        rw [e1] at hc; cases hc
        obtain ⟨vs, q1, q2⟩ := qc
        obtain ⟨b, ws, rfl, b1, b2⟩ := viewL_of h1 r1 e2
        have ew := Ext.write (P := All) (o := .lst (vs ++ ws)) (List.mem_of_getElem? hn) (h1.mu a (N.liv a (List.mem_of_getElem? hn)))
        obtain ⟨hr', ex'⟩ := h1.write (o := .lst (vs ++ ws)) (c := .lst (ys ++ zs)) hn trivial ⟨_, upd_same, (RepL.ext ew _ _ q2).append (RepL.ext ew _ _ b2)⟩
        exact mt_extend pins s σ H _ _ v us Q I rx rxs ⟨a, b, vs, ws, rfl, rfl, q1, b1, by rw [← q2.length, ← b2.length]; assumption, q _ _ hr' ex' rfl⟩
      · cases e
    · cases e
  · cases e
theorem mm_pop : MtM X "list.pop" (rM (Cx.g X) popF) := by
  intro pins s σ H x xs v us Q I rx rxs ⟨hs, N, dx, ds, d, hs', h1, h2, h3, e, q⟩
  unfold popF at e
  split at e
  · rename_i n
    split at e
    · rename_i ys e1
      split at e
      · rename_i d0 e2
        cases e
        obtain ⟨a, rfl, hn⟩ := h2
        have h3 : xs = [] := h3
        subst h3
        obtain ⟨c, hc, qc, _⟩ := h1.get hn
        rw [e1] at hc; cases hc
        obtain ⟨vs, q1, q2⟩ := qc
        obtain ⟨w, w1, w2⟩ := q2.get e2
        rw [q2.length] at w1
        have ew := Ext.write (P := All) (o := .lst vs.dropLast) (List.mem_of_getElem? hn) (h1.mu a (N.liv a (List.mem_of_getElem? hn)))
        obtain ⟨hr', ex'⟩ := h1.write (o := .lst vs.dropLast) (c := .lst ys.dropLast) hn trivial ⟨_, upd_same, RepL.ext ew _ _ q2.dropLast⟩
        exact mt_pop pins s σ H _ _ v us Q I rx rxs ⟨a, vs, w, rfl, rfl, q1, w1, q _ _ hr' ex' (Rep.ext ew _ _ w2)⟩
      · cases e
    · cases e
  · cases e
theorem mm_popAt : MtM X "list.pop" (rM (Cx.g X) popAtF) := by
  intro pins s σ H x xs v us Q I rx rxs ⟨hs, N, dx, ds, d, hs', h1, h2, h3, e, q⟩
  unfold popAtF at e
  split at e
  · rename_i n i
    split at e
    · rename_i ys e1
      split at e
      · rename_i hb
        split at e
        · rename_i k e3
          split at e
          · rename_i d0 e2
            cases e
            obtain ⟨a, rfl, hn⟩ := h2
            obtain ⟨wi, rfl, r1⟩ := repSL1 h3
            have r1 : wi = .int i := r1
            subst r1
            obtain ⟨c, hc, qc, _⟩ := h1.get hn
            rw [e1] at hc; cases hc
            obtain ⟨vs, q1, q2⟩ := qc
            obtain ⟨w, w1, w2⟩ := q2.get e2
            have ew := Ext.write (P := All) (o := .lst (vs.eraseIdx k)) (List.mem_of_getElem? hn) (h1.mu a (N.liv a (List.mem_of_getElem? hn)))
            obtain ⟨hr', ex'⟩ := h1.write (o := .lst (vs.eraseIdx k)) (c := .lst (ys.eraseIdx k)) hn trivial ⟨_, upd_same, RepL.ext ew _ _ (q2.eraseIdx k)⟩
            exact mt_popAt pins s σ H _ _ v us Q I rx rxs ⟨a, vs, i, k, w, rfl, rfl, q1, hb.1, hb.2, by rw [← q2.length]; exact e3, w1, q _ _ hr' ex' (Rep.ext ew _ _ w2)⟩
          · cases e
        · cases e
      · cases e
    · cases e
  · cases e
end
end Py
end L2

set_option Elab.async false
set_option linter.all false
set_option maxRecDepth 100000
/-! Methods called, items stored, iterables; new live things handed back. -/
namespace L2
namespace Py
open PySem PySem.Spec PyProof.Rows RZ
variable [Tl]

def isL (hs : Hs) : SV → Bool
  | .r n => match hs[n]? with
    | some (.lst _) => true
    | _ => false
  | _ => false
def mMtL (f : FMt) (o : ME) (a : MA) : ME := fun ρ hs => (o ρ hs).bind fun x hs1 => if isL hs1 x = true then (a ρ hs1).bind fun ds hs2 => match f hs2 x ds with
    | some (d, hs3) => .ok (.d d) hs3
    | none => .bad
  else .bad
section
variable {X : Cx} {W : WX} {P : Nat → Prop} {o e : Expr} {es : List Expr} {mo me : ME} {ma : MA} {name : Str} {apos cpos pos : Pos} {id : String} {f : FMt}
theorem isL_ty {G : Gd} {H : Hp} {N : Lg} {hs : Hs} {x : SV} {v : V} (h1 : HRel G hs N H) (h2 : RepS G H N x v) (h : isL hs x = true) : tyV G.K "list" v H := by
  cases x with
  | d z => cases h
  | r n =>
    obtain ⟨a, rfl, hn⟩ := h2
    obtain ⟨c, hc, q, _⟩ := h1.get hn
    simp only [isL, hc] at h
    cases c with
    | lst ys => obtain ⟨vs, q1, _⟩ := q; exact .inl ⟨rfl, vs, SqL.of q1⟩
    | dct _ _ => cases h
    | ins _ _ _ => cases h
    | dl _ _ => cases h
    | dead => cases h
theorem mt_fin {G : Gd} {hs : Hs} {N : Lg} {H : Hp} {dx : SV} {x : V} {ds : List SV} {vs : List V} {σ : L2.St} {Q : VK} (h1 : HRel G hs N H) (h2 : RepS G H N dx x) (h3 : RepSL G H N ds vs)
    (q : PostO G W σ H N RepS Q (match f hs dx ds with | some (d, hs3) => .ok (.d d) hs3 | none => .bad)) : rM G f x vs H Q := by
  cases e : f hs dx ds with
  | none => rw [e] at q; exact q.elim
  | some r =>
    obtain ⟨d, hs3⟩ := r
    rw [e] at q
    exact ⟨hs, N, dx, ds, d, hs3, h1, h2, h3, e, fun v H' a b c => q v N H' a b c⟩
theorem se_bmL (slot : Slot "list" name id) (hty : typeOf (.builtin id) = pure (.type "method_descriptor")) (hm : MtM X id (rM (Cx.g X) f)) (ho : SE X W o mo) (ha : SA X W (e :: es) ma)
    (hbase : attributeBase o name X.env (eval o X.env) = eval o X.env := by rfl)
    (hfew : ((backTo cpos (starEach (e :: es) X.env)).all (fun x => !x.1) && (backToKw cpos (keywordEach [] X.env)).all (fun x => x.1.isSome)
      && decide ((e :: es).length + ([] : List Keyword).length + (if ([] : List Keyword).isEmpty then 0 else 1) < 30)) = true := by rfl)
    (hline : (apos.endLine == cpos.line) = true := by rfl) (hs : starEach (e :: es) X.env = (false, eval e X.env) :: starEach es X.env := by rfl) (hplain : (backTo cpos (starEach es X.env)).any (·.1) = false := by rfl) :
    SE X W (.Call (.Attribute o name apos) (e :: es) [] cpos) (mMtL f mo ma) := by
  refine pe_of (pe_bm PySem.F.plainAttrs_list slot hty hm ho ha hbase hfew hline hs hplain) fun σ H Q h => ?_
  obtain ⟨ρ, hs, N, hr, he, q⟩ := TR.two (R := RepS) h
  refine ⟨ρ, hs, N, hr, he, q.mono fun x H1 ⟨ρ1, hs1, N1, d, q1, q2, q3, q4⟩ => ?_⟩
  by_cases hL : isL hs1 d = true
  · simp only [if_pos hL] at q4
    refine ⟨isL_ty q1 q3 hL, ρ1, hs1, N1, q1, q2, (PostO.bind (R := RepSL) q4).mono fun vs H2 ⟨hs2, N2, ds, z1, z2, z3, z4⟩ => ?_⟩
    exact mt_fin z1 (q3.ext z2) z3 z4
  · simp only [if_neg hL] at q4; exact q4.elim
theorem se_bmL0 (slot : Slot "list" name id) (hty : typeOf (.builtin id) = pure (.type "method_descriptor")) (hm : MtM X id (rM (Cx.g X) f)) (ho : SE X W o mo)
    (hbase : attributeBase o name X.env (eval o X.env) = eval o X.env := by rfl) (hline : (apos.endLine == cpos.line) = true := by rfl) : SE X W (.Call (.Attribute o name apos) [] [] cpos) (mMtL f mo mNil) := by
  refine pe_of (pe_bm0 PySem.F.plainAttrs_list slot hty hm ho hbase hline) fun σ H Q h => ?_
  obtain ⟨ρ, hs, N, hr, he, q⟩ := TR.two (R := RepS) h
  refine ⟨ρ, hs, N, hr, he, q.mono fun x H1 ⟨ρ1, hs1, N1, d, q1, q2, q3, q4⟩ => ?_⟩
  by_cases hL : isL hs1 d = true
  · simp only [if_pos hL] at q4
    exact ⟨isL_ty q1 q3 hL, mt_fin (ds := []) q1 q3 rfl q4⟩
  · simp only [if_neg hL] at q4; exact q4.elim

/-! ### o[i] = e, o[i] op= e of a live list -/
def setF (hs : Hs) (o i : SV) (d : SV) : Option Hs := match o, i, d with
  | .r n, .d (.int k), .d x => match hs[n]? with
    | some (.lst xs) => match ixN xs.length k with
      | some j => some (hs.set n (.lst (xs.set j x)))
      | none => none
    | _ => none
  | _, _, _ => none
theorem setF_of {G : Gd} {hs hs' : Hs} {N : Lg} {H : Hp} {o i d : SV} {ov iv v : V} {Q : Hp → Prop} (h1 : HRel G hs N H) (ro : RepS G H N o ov) (ri : RepS G H N i iv) (rd : RepS G H N d v) (e : setF hs o i d = some hs')
    (q : ∀ H', HRel G hs' N H' → ExtE H N H' N → Q H') : rSetL ov iv v H Q := by
  unfold setF at e
  split at e
  · rename_i n k x
    split at e
    · rename_i xs e1
      split at e
      · rename_i j e2
        cases e
        obtain ⟨a, rfl, hn⟩ := ro
        have ri : iv = .int k := ri
        subst ri
        obtain ⟨c, hc, qc, _⟩ := h1.get hn
        rw [e1] at hc; cases hc
        obtain ⟨vs, q1, q2⟩ := qc
        have rd : Rep G H N.L x v := rd
        have ew := Ext.write (P := All) (o := .lst (vs.set j v)) (List.mem_of_getElem? hn) (h1.mu a (N.liv a (List.mem_of_getElem? hn)))
        obtain ⟨hr', ex'⟩ := h1.write (o := .lst (vs.set j v)) (c := .lst (xs.set j x)) hn trivial ⟨_, upd_same, RepL.set (Rep.ext ew _ _ rd) j (RepL.ext ew _ _ q2)⟩
        exact ⟨a, vs, k, j, rfl, rfl, q1, by rw [← q2.length]; exact e2, q _ hr' ex'⟩
      · cases e
    · cases e
  · cases e
def mSetI (a o i : ME) : MS := fun ρ hs => (a ρ hs).bindS ρ fun d hs1 => (o ρ hs1).bindS ρ fun ov hs2 => (i ρ hs2).bindS ρ fun iv hs3 => match setF hs3 ov iv d with
  | some hs4 => .nx ρ hs4
  | none => .bad
variable {i : Expr} {mi : ME}
theorem ss_setI {tpos : Pos} (he : SE X W e me) (ho : SE X W o mo) (hi : SE X W i mi)
    (hs : swapsWithSole [.Subscript o i tpos] e pos.line X.env = pure false := by rfl) (hw : swappedStores [.Subscript o i tpos] e X.env = pure none := by rfl)
    (h1 : (assignEach [.Subscript o i tpos] X.env).map (·.2) = [assign (.Subscript o i tpos) X.env] := by rfl)
    (hA : ∀ v, assign (.Subscript o i tpos) X.env v = (do
      let ov ← holding [v] (eval o X.env)
      let iv ← holding [v, ov] (eval i X.env)
      standAt tpos
      holding [v, ov, iv] (setItem ov iv v)
      release [v, ov, iv] []) := by intro _; rfl) : SS X W P (.Assign [.Subscript o i tpos] e pos) (mSetI me mo mi) := by
  refine ps_of (ps_asg he (pg_sub ho hi set_list hA) hs hw h1) fun D σ H h => ?_
  obtain ⟨ρ, hs, N, hr, hE, q⟩ := TS'.two (R := RepS) h
  refine ⟨ρ, hs, N, hr, hE, q.mono fun x H1 ⟨ρ1, hs1, N1, d, _, _, q1, q2, _, q3, q4⟩ => ?_⟩
  refine ⟨ρ1, hs1, N1, q1, q2, (PostO.bindS (R := RepS) q2 q4).mono fun ov H2 ⟨hs2, N2, od, z1, z2, z3, z4⟩ => ?_⟩
  refine ⟨ρ1, hs2, N2, z1, q2.ext z2, (PostO.bindS (R := RepS) (q2.ext z2) z4).mono fun iv H3 ⟨hs3, N3, id', y1, y2, y3, y4⟩ => ?_⟩
  cases ef : setF hs3 od id' d with
  | none => simp only [ef] at y4; exact y4.elim
  | some hs4 =>
    simp only [ef] at y4
    exact setF_of y1 (z3.ext y2) y3 ((q3.ext z2).ext y2) ef fun H' a b => y4 σ N3 H' a b.toP (((q2.ext z2).ext y2).ext b)
/-- xs[i] by values -/
theorem pget_list : PGet X (rIxL X.K) := by
  intro pins s σ H x y v u Q I rx ry ⟨p, xs, i, z, ex, ey, hq, he, q⟩
  subst ex ey
  cases rx
  obtain ⟨t, rfl⟩ := ry
  obtain ⟨its, r, pl, hz⟩ := I.list hq
  obtain ⟨j, h1, h2, h3, h4, h5⟩ := atI_get he
  obtain ⟨w, ew, rw'⟩ := r.get h2
  have hl := r.length
  have hn := line63
  have fin : EP X pins σ Q w s := ⟨z, H, I, rw', q⟩
  by_cases h0 : 0 ≤ i
  · have hj : i.toNat = j := Option.some.inj ((seqIndex_of h0 h5).symm.trans h1)
    exact wpAny_getItem_list pl.isList h0 (by omega) (by rw [hj]; simpa using ew) fin
  · have hj : (i + (its.toArray.size : Int)).toNat = j := by
      have z := (seqIndex_neg (by omega) h4).symm.trans h1
      rw [List.size_toArray, ← hl]
      exact Option.some.inj z
    exact wpAny_getItem_list_neg pl.isList (by omega) (by rw [List.size_toArray] <;> omega) (by omega) (by rw [hj]; simpa using ew) fin
/-- in-place operators on ints -/
def ipF (f : Int → Int → Int) (x y : D) : Option D := match x, y with
  | .int i, .int j => some (.int (f i j))
  | _, _ => none
theorem ipF_of {f : Int → Int → Int} {x y z : D} (h : ipF f x y = some z) : ∃ i j, x = .int i ∧ y = .int j ∧ z = .int (f i j) := by
  unfold ipF at h
  split at h
  · exact ⟨_, _, rfl, rfl, (Option.some.inj h).symm⟩
  · cases h
def mAugI (f : Int → Int → Int) (o i a : ME) : MS := fun ρ hs => (o ρ hs).bindS ρ fun ov hs1 => (i ρ hs1).bindS ρ fun iv hs2 => match viewL hs2 ov with
  | some xs => match iv with
   | .d (.int k) => match atI xs k with
    | some old => (a ρ hs2).bindS ρ fun d hs3 => match d with
      | .d y => match ipF f old y with
        | some z => match setF hs3 ov iv (.d z) with
          | some hs4 => .nx ρ hs4
          | none => .bad
        | none => .bad
      | .r _ => .bad
    | none => .bad
   | _ => .bad
  | none => .bad
theorem ss_augI {op : Operator} {f : Int → Int → Int} {tpos : Pos} (hop : PIp X op (ipI f)) (ho : SE X W o mo) (hi : SE X W i mi) (he : SE X W e me)
    (hA : ∀ ov iv new, augStore i ov iv new = (do holding [new, ov, iv] (setItem ov iv new); release [new, ov, iv] []; pure .next) := by intros; rfl) : SS X W P (.AugAssign (.Subscript o i tpos) op e pos) (mAugI f mo mi me) := by
  refine ps_of (ps_augS ho hi pget_list he hop set_list hA) fun D σ H h => ?_
  obtain ⟨ρ, hs, N, hr, hE, q⟩ := TS'.two (R := RepS) h
  refine ⟨ρ, hs, N, hr, hE, q.mono fun ov H1 ⟨ρ1, hs1, N1, od, _, _, q1, q2, _, q3, q4⟩ => ?_⟩
  refine ⟨ρ1, hs1, N1, q1, q2, (PostO.bindS (R := RepS) q2 q4).mono fun iv H2 ⟨hs2, N2, id', z1, z2, z3, z4⟩ => ?_⟩
  cases e1 : viewL hs2 od with
  | none => simp only [e1] at z4; exact z4.elim
  | some xs =>
    simp only [e1] at z4
    split at z4
    · rename_i k
      obtain ⟨a, vs, rfl, a1, a2⟩ := viewL_of z1 (q3.ext z2) e1
      have hiv : iv = .int k := z3
      subst hiv
      cases e2 : atI xs k with
      | none => simp only [e2] at z4; exact z4.elim
      | some old =>
        simp only [e2] at z4
        obtain ⟨w, w1, w2⟩ := atI_rep a2 e2
        refine ⟨a, vs, k, w, rfl, rfl, SqL.of a1, w1, ρ1, hs2, N2, z1, q2.ext z2, (PostO.bindS (R := RepS) (q2.ext z2) z4).mono fun y H3 ⟨hs3, N3, d, y1, y2, y3, y4⟩ => ?_⟩
        cases d with
        | r n => exact y4.elim
        | d y' =>
          simp only at y4
          cases e3 : ipF f old y' with
          | none => simp only [e3] at y4; exact y4.elim
          | some zz =>
            simp only [e3] at y4
            · obtain ⟨i1, j1, rfl, rfl, rfl⟩ := ipF_of e3
              have hw : w = .int i1 := w2
              have hy : y = .int j1 := y3
              subst hw hy
              cases ef : setF hs3 od (.d (.int k)) (.d (.int (f i1 j1))) with
              | none => simp only [ef] at y4; exact y4.elim
              | some hs4 =>
                simp only [ef] at y4
                refine ⟨i1, j1, rfl, rfl, ?_⟩
                exact setF_of y1 ((q3.ext z2).ext y2) (show RepS _ _ _ (.d (.int k)) _ from rfl) (show RepS _ _ _ (.d (.int (f i1 j1))) (.int (f i1 j1)) from rfl) ef fun H' a b => y4 σ N3 H' a b.toP (((q2.ext z2).ext y2).ext b)
    · exact z4.elim
/-- name op= e of ints -/
def mAug (k : Nat) (f : Int → Int → Int) (a : ME) : MS := fun ρ hs => match ρ[k]? with
  | some (some (.d x)) => (a ρ hs).bindS ρ fun d hs1 => match d with
    | .d y => match ipF f x y with
      | some z => .nx (ρ.set k (some (.d z))) hs1
      | none => .bad
    | .r _ => .bad
  | _ => .bad
theorem ss_aug {k : Nat} {x : Str} {op : Operator} {f : Int → Int → Int} {pos' : Pos} (hN : X.N.Nodup) (hi : X.N[k]? = some x) (hx : Loc X.env.scope x) (he : SE X W e me) (hop : PIp X op (ipI f)) (hf : X.fn x = true ∨ X.env.scope.names.lookup x = some .local := by first | exact .inl rfl | exact .inr rfl | assumption) :
    SS X W P (.AugAssign (.Name x pos') op e pos) (mAug k f me) := by
  refine ps_of (ps_aug hN hi hx he hop hf) fun D σ H ⟨ρ, hs, N, hr, hE, q⟩ => ?_
  unfold mAug at q
  split at q
  · rename_i d hd
    obtain ⟨v, h1, h2⟩ := hE.2 k _ hd
    refine ⟨v, h1, ρ, hs, N, hr, hE, (PostO.bindS (R := RepS) hE q).mono fun y H1 ⟨hs1, N1, dy, z1, z2, z3, z4⟩ => ?_⟩
    cases dy with
    | r n => exact z4.elim
    | d y' =>
      simp only at z4
      cases e3 : ipF f d y' with
      | none => simp only [e3] at z4; exact z4.elim
      | some zz =>
        simp only [e3] at z4
        · obtain ⟨i1, j1, rfl, rfl, rfl⟩ := ipF_of e3
          have hv : v = .int i1 := h2
          have hy : y = .int j1 := z3
          subst hv hy
          exact ⟨i1, j1, rfl, rfl, z4 _ N1 H1 z1 Ext.refl ((hE.ext z2).set (show RepS _ _ _ (.d (.int (f i1 j1))) (.int (f i1 j1)) from rfl))⟩
  · exact q.elim
end

/-! ### new live things handed back -/
/-- return [..], kept live -/
def mRetNewL (a : MA) : MS := fun ρ hs => (a ρ hs).bindS ρ fun xs hs1 => match datas xs with
  | some ds => if ds.length ≤ sizeLine then .rt (.r hs1.length) (hs1 ++ [.lst ds]) else .bad
  | none => .bad
section
variable {X : Cx} {W : WX} {P : Nat → Prop}
theorem ss_retNewL {es : List Expr} {ma : MA} {pos pos2 : Pos} (he : SA X W es ma) : SS X W P (.Return (some (.List es pos)) pos2) (mRetNewL ma) := by
  refine ps_of (ps_ret (pe_lst he)) fun D σ H h => ?_
  obtain ⟨ρ, hs, N, hr, hE, q⟩ := TS'.two (R := RepSL) h
  refine ⟨ρ, hs, N, hr, hE, q.mono fun ys H1 ⟨ρ1, hs1, N1, a, _, _, q1, q2, _, q3, q4⟩ => ?_⟩
  cases e : datas a with
  | none => rw [e] at q4; exact q4.elim
  | some ds =>
    rw [e] at q4
    have rl := datas_of q3 e
    by_cases hl : ds.length ≤ sizeLine
    · simp only [if_pos hl] at q4
      refine ⟨by rw [← rl.length]; exact hl, fun p hp => ?_⟩
      have ex : ExtE H1 N1 (upd H1 p (.lst ys)) (N1.push p (q1.fresh hp)) := Ext.push hp (q1.fresh hp)
      exact q4 _ (N1.push p (q1.fresh hp)) _ (q1.push hp trivial ⟨ys, upd_same, RepL.ext ex _ _ rl⟩) ex.toP ⟨p, rfl, Lg.push_at q1.len⟩
    · simp only [if_neg hl] at q4; exact q4.elim
def mSetNew (i : Nat) (fm : FMN) (a : MA) : MS := fun ρ hs => (a ρ hs).bindS ρ fun ds hs1 => (callN fm ds hs1).bindS ρ fun c hs2 => .nx (ρ.set i (some (.r hs2.length))) (hs2 ++ [c])
theorem callN_sp {G : Gd} {H : Hp} {N : Lg} {hs : Hs} {n : Nat} {fm : FMN} {ds : List SV} {vs : List V} {D : Ends} {σ : L2.St} {ρ : Env'} {i : Nat} (h1 : HRel G hs N H) (hE : ERel G H N ρ σ) (h2 : RepSL G H N ds vs) (hl : vs.length = n)
    (q : PostS G W P H N D ((callN fm ds hs).bindS ρ fun c hs2 => .nx (ρ.set i (some (.r hs2.length))) (hs2 ++ [c]))) : spOfN G n fm vs H (fun v H' => D.nx (σ.set i (some v)) H') (WE W σ) := by
  refine ⟨hl, ?_⟩
  simp only [callN] at q
  cases e1 : renumL (refsOf ds) ds with
  | none => rw [e1] at q; exact q.elim
  | some ds' =>
    cases e2 : getAll hs (refsOf ds) with
    | none => rw [e1, e2] at q; exact q.elim
    | some cs =>
      rw [e1, e2] at q
      refine ⟨ds', cs, N.sel (refsOf ds) (refsOf_nodup ds), ⟨h1.sel e2, (getAll_get e2).1.symm⟩, renumL_rep h2 e1, ?_⟩
      cases e3 : fm ds' cs with
      | bad => simp only [e3] at q; exact q.elim
      | exc c ns ws cs' =>
        simp only [e3] at q
        by_cases hz : cs'.length = (refsOf ds).length
        · rw [if_pos hz] at q
          intro cls dd N' H' a b r
          have up : ∀ a, N.L a → N'.L a := fun a l => b.sub a l (h1.there l) fun _ _ => trivial
          exact q cls dd σ N H' (h1.unsel (cs := cs) (k := 0) b a (by omega) (getAll_lt e2)) (Ext.unsel b).toP (hE.ext (Ext.unsel b)) (r.sub up)
        · rw [if_neg hz] at q; exact q.elim
      | ok c cs' =>
        simp only [e3] at q
        by_cases hz : cs'.length = (refsOf ds).length
        · rw [if_pos hz] at q
          intro p N' H' hfl a b hp
          have up : ∀ a, N.L a → N'.L a := fun a l => b.sub a l (h1.there l) fun _ _ => trivial
          have np : ¬ N.L p := fun l => by
            have z := b.old cs'.length p l (h1.there l) hp
            have z2 := (List.getElem?_eq_some_iff.mp z).1
            have : (N.sel (refsOf ds) (refsOf_nodup ds)).M.length = (refsOf ds).length := by simp [Lg.sel]
            omega
          have hcs : HRel G (setAll hs (refsOf ds) cs') N H' := by
            have h := h1.unsel (cs := cs) (cs' := cs' ++ [c]) (k := 0) b a (by simp; omega) (getAll_lt e2)
            have e : setAll hs (refsOf ds) (cs' ++ [c]) = setAll hs (refsOf ds) cs' := by
              have key : ∀ (is : List Nat) (l : List Cell), l.length = is.length → setAll hs is (l ++ [c]) = setAll hs is l := by
                intro is
                induction is with
                | nil => intro l _; cases l <;> (unfold setAll; rfl)
                | cons j js ih =>
                  intro l hl
                  cases l with
                  | nil => simp at hl
                  | cons x xs =>
                    show (setAll hs js (xs ++ [c])).set j x = (setAll hs js xs).set j x
                    rw [ih xs (by simpa using hl)]
              exact key _ _ hz
            rw [e] at h; exact h
          have ex := Ext.unsel b
          have hn : H p = none := by
            rcases b.new p (N'.liv p (List.mem_of_getElem? hp)) with z | z
            · exact absurd z np
            · exact z
          -- p becomes ours
          have exP : ExtE H N H' (N.push p np) := by
            refine ⟨ex.keep, fun a h => ?_, fun i a _ h => ?_, fun a h _ _ => .inl h, fun i a h1 h2 h3 => ?_, ex.there, ex.hid, rfl⟩
            · rcases h with z | z
              · exact .inl z
              · right; rw [z]; exact hn
            · show (N.M ++ [some p])[i]? = _
              rw [List.getElem?_append_left (List.getElem?_eq_some_iff.mp h).1]; exact h
            · have hk : (N.M ++ [some p])[i]? = some (some a) := h3
              by_cases hi : i < N.M.length
              · rw [List.getElem?_append_left hi] at hk; exact hk
              · have hk' : i < (N.M ++ [some p]).length := (List.getElem?_eq_some_iff.mp hk).1
                have e : i = N.M.length := by simp at hk'; omega
                subst e
                rw [List.getElem?_append_right (Nat.le_refl _)] at hk
                simp at hk
                subst hk
                exact absurd h1 np
          have upP : ∀ a, (N.push p np).L a → N'.L a := fun a h => by
            rcases h with z | z
            · exact up a z
            · rw [z]; exact N'.liv p (List.mem_of_getElem? hp)
          have hrP : HRel G (setAll hs (refsOf ds) cs' ++ [c]) (N.push p np) H' := by
            refine ⟨by simp [Lg.push, hcs.len], fun j c' a' g1 g2 => ?_, fun a' ha' => a.mu a' (upP a' ha'), fun j c' g1 g2 => ?_, (by rw [List.length_append]; exact Nat.le_trans hcs.le (Nat.le_add_right _ _)), fun p' hp' => ⟨(a.tb p' hp').1, (a.tb p' hp').2.sub upP⟩⟩
            rotate_left 1
            · by_cases hj : j < (setAll hs (refsOf ds) cs').length
              · rw [List.getElem?_append_left hj] at g1
                exact hcs.fl j c' g1 g2
              · have hl : j < (setAll hs (refsOf ds) cs' ++ [c]).length := (List.getElem?_eq_some_iff.mp g1).1
                have hj' : j = (setAll hs (refsOf ds) cs').length := by simp at hl; omega
                subst hj'
                simp at g1
                rw [← g1]; exact hfl
            have g2' : (N.M ++ [some p])[j]? = some (some a') := g2
            by_cases hj : j < (setAll hs (refsOf ds) cs').length
            · rw [List.getElem?_append_left hj] at g1
              rw [List.getElem?_append_left (by rw [hcs.len]; exact hj)] at g2'
              -- the cell's content, with p live too
              by_cases m : j ∈ refsOf ds
              · obtain ⟨t, ht⟩ := List.getElem?_of_mem m
                have htl : t < cs'.length := by have := (List.getElem?_eq_some_iff.mp ht).1; omega
                have e1 : cs'[t]? = some cs'[t] := by simp [htl]
                rw [setAll_in (refsOf_nodup ds) ht e1 (getAll_lt e2 j m)] at g1
                cases g1
                exact (a.at_ t _ a' (by rw [List.getElem?_append_left htl]; exact e1) (b.pre t a' trivial (sel_at ht g2'))).sub upP (a.fl t _ (by rw [List.getElem?_append_left htl]; exact e1) (by rw [b.k0]; exact (List.getElem?_eq_some_iff.mp ht).1))
              · rw [setAll_out m] at g1
                refine CRel.ext exP (b.hid a' (N.liv a' (List.mem_of_getElem? g2')) (fun z => m ?_) (h1.there (N.liv a' (List.mem_of_getElem? g2')))) (h1.at_ j c' a' g1 g2')
                obtain ⟨t, ht⟩ := List.getElem?_of_mem z
                obtain ⟨i', q1, q2⟩ := of_sel_at ht
                rw [N.nd j i' a' g2' q2]
                exact List.mem_of_getElem? q1
            · have hl : j < (setAll hs (refsOf ds) cs' ++ [c]).length := (List.getElem?_eq_some_iff.mp g1).1
              have hj' : j = (setAll hs (refsOf ds) cs').length := by simp at hl; omega
              subst hj'
              rw [List.getElem?_append_right (Nat.le_refl _)] at g1
              rw [← hcs.len, List.getElem?_append_right (Nat.le_refl _)] at g2'
              simp at g1 g2'
              subst g1 g2'
              exact (a.at_ cs'.length c p (by rw [List.getElem?_append_right (Nat.le_refl _)]; simp) hp).sub upP hfl
          exact q _ (N.push p np) H' hrP exP.toP ((hE.ext exP).set ⟨p, rfl, Lg.push_at hcs.len⟩)
        · rw [if_neg hz] at q; exact q.elim
theorem ss_setNew {k n i : Nat} {f : Addr} {fd : FuncData} {ps : List Str} {fm : FMN} {x y : Str} {p pos py spos : Pos} {e : Expr} {es : List Expr} {ma : MA} (F : FnG X.prog X.w X.K X.mg X.base k f fd ps (spOfN (Cx.g X) n fm)) (hgd : X.A.guards = some []) (hr : Room k X.A) (hg : Gl X x) (hm : X.mg x = some (.ref f)) (hk : PySem.W.keepIn X.K (.ref f) = true) (hb : Binds X.K fd ps []) (tk : Takes X W)
    (hN : X.N.Nodup) (hi : X.N[i]? = some y) (hx : Loc X.env.scope y) (ha : SA X W (e :: es) ma)
    (hal : ∀ ρ hs ds hs', ma ρ hs = .ok ds hs' → ds.length = n) (hs : swapsWith (.Call (.Name x p) (e :: es) [] pos) (some (.Name y py)) spos.line X.env = pure false := by rfl)
    (hf : X.fn y = true ∨ X.env.scope.names.lookup y = some .local := by first | exact .inl rfl | exact .inr rfl | assumption)
    (hdb : (x == ("__debug__" : Str)) = false := by decide) (he : starEach (e :: es) X.env = (false, eval e X.env) :: starEach es X.env := by rfl) (hpl : (backTo pos (starEach es X.env)).any (·.1) = false := by rfl) :
    SS X W P (.Assign [.Name y py] (.Call (.Name x p) (e :: es) [] pos) spos) (mSetNew i fm ma) := by
  refine ps_of (ps_set hN hi hx (pe_callG F hgd hr hg hm hk hb tk ha hdb he hpl) hs hf) fun D σ H h => ?_
  obtain ⟨ρ, hs, N, hr', hE, q⟩ := h
  refine ⟨ρ, hs, N, hr', hE, ?_⟩
  simp only [mSetNew] at q
  cases em : ma ρ hs with
  | bad => rw [em] at q; exact q.elim
  | exc c ns ws hs' => rw [em] at q; exact fun cls dd N' H' a b r => q cls dd σ N' H' a b.toP (hE.ext b) r
  | ok ds hs1 =>
    rw [em] at q
    intro vs N1 H1 a b r
    exact callN_sp a (hE.ext b) r (by rw [← r.length]; exact hal ρ hs ds hs1 em) (PostS.ext b.toP q)
end

/-! ### iterables -/
/-- a list, a tuple (frozen), the script -/
def itemsOf : SV → Option (List D)
  | .d (.lst xs) => some xs
  | .d (.tup xs) => some xs
  | .d (.scr xs) => some xs
  | _ => none
def mItL (a : ME) : MI := fun ρ hs => (a ρ hs).bind fun x hs1 => match x with
  | .d (.lst xs) => .ok xs hs1
  | .d (.scr xs) => .ok xs hs1
  | _ => .bad
def mItT (a : ME) : MI := fun ρ hs => (a ρ hs).bind fun x hs1 => match x with
  | .d (.tup xs) => .ok xs hs1
  | _ => .bad
section
variable {X : Cx} {W : WX} {tg it : Expr} {me : ME} {p pos : Pos}
theorem si_list (h : SE X W it me) : SI X W tg it (mItL me) := by
  refine pi_of (pi_list h) fun σ H R ⟨ρ, hs, N, hr, he, q⟩ => ?_
  refine ⟨ρ, hs, N, hr, he, ?_⟩
  simp only [mItL] at q
  cases em : me ρ hs with
  | bad => rw [em] at q; exact q.elim
  | exc c ns ws hs' => rw [em] at q; exact q
  | ok x hs1 =>
    rw [em] at q
    intro v N1 H1 a b r
    simp only [Out.bind] at q
    split at q
    · rename_i xs e
      split at e
      · cases e
        obtain ⟨p, vs, rfl, q1, q2, q3⟩ := (show Rep _ _ _ (.lst _) _ from r)
        exact ⟨p, rfl, ⟨vs, SqL.of q2⟩, q _ N1 H1 a b fun P => wk_list q2 q1 q3⟩
      · cases e
        obtain ⟨p, vs, rfl, q1, q3⟩ := (show Rep _ _ _ (.scr _) _ from r)
        exact ⟨p, rfl, ⟨vs, q1.sq⟩, q _ N1 H1 a b fun P => wk_scr q1 q3⟩
      · cases e
    · rename_i e
      split at e <;> cases e
    · exact q.elim
theorem si_tup (h : SE X W it me) : SI X W tg it (mItT me) := by
  refine pi_of (pi_tup h) fun σ H R ⟨ρ, hs, N, hr, he, q⟩ => ?_
  refine ⟨ρ, hs, N, hr, he, ?_⟩
  simp only [mItT] at q
  cases em : me ρ hs with
  | bad => rw [em] at q; exact q.elim
  | exc c ns ws hs' => rw [em] at q; exact q
  | ok x hs1 =>
    rw [em] at q
    intro v N1 H1 a b r
    simp only [Out.bind] at q
    split at q
    · rename_i xs e
      split at e
      · cases e
        obtain ⟨p, vs, rfl, q1, q3⟩ := (show Rep _ _ _ (.tup _) _ from r)
        exact ⟨p, rfl, ⟨vs, q1⟩, q _ N1 H1 a b fun P => wk_tup q1 q3⟩
      · cases e
    · rename_i e
      split at e <;> cases e
    · exact q.elim
def mRg1 (a : MA) : MI := fun ρ hs => (a ρ hs).bind fun ds hs1 => match ds with
  | [.d (.int j)] => if -(2 ^ 62) ≤ j ∧ j < 2 ^ 62 then .ok (rangeD 0 j.toNat) hs1 else .bad
  | _ => .bad
def mRg2 (a : MA) : MI := fun ρ hs => (a ρ hs).bind fun ds hs1 => match ds with
  | [.d (.int i), .d (.int j)] => if -(2 ^ 62) ≤ i ∧ i < 2 ^ 62 ∧ -(2 ^ 62) ≤ j ∧ j < 2 ^ 62 then .ok (rangeD i (j - i).toNat) hs1 else .bad
  | _ => .bad
theorem TIo.bindA {G : Gd} {ma : MA} {f : List SV → Hs → Out (List D)} {σ : L2.St} {H : Hp} {R : It → Hp → Prop} (h : TIo G W (fun ρ hs => (ma ρ hs).bind f) σ H R) :
    TR G W RepSL ma σ H fun vs H1 => ∃ hs1 N1 ds, HRel G hs1 N1 H1 ∧ RepSL G H1 N1 ds vs ∧ match f ds hs1 with
      | .ok items hs' => ∀ J N' H', HRel G hs' N' H' → ExtE H1 N1 H' N' → (∀ P, Wk G P J H' N' items) → R J H'
      | .exc c ns ws hs' => ∀ cls dd N' H', HRel G hs' N' H' → ExtE H1 N1 H' N' → XRep G H' N'.L c ns ws cls dd → W cls dd σ H'
      | .bad => False := by
  obtain ⟨ρ, hs, N, hr, he, q⟩ := h
  refine ⟨ρ, hs, N, hr, he, ?_⟩
  cases em : ma ρ hs with
  | bad => simp only [em] at q; exact q.elim
  | exc c ns ws hs' => simp only [em] at q; exact q
  | ok ds hs1 =>
    simp only [em, Out.bind] at q
    intro vs N1 H1 a b r
    refine ⟨hs1, N1, ds, a, r, ?_⟩
    cases ef : f ds hs1 with
    | bad => simp only [ef] at q
    | exc c ns ws hs' => simp only [ef] at q; exact fun cls dd N' H' x y z => q cls dd N' H' x (b.trans y) z
    | ok items hs' => simp only [ef] at q; exact fun J N' H' x y z => q J N' H' x (b.trans y) z
theorem si_range1 {a : Expr} {ma : MA} (hg : Gl X "range") (hm : X.mg "range" = none) (ha : SA X W [a] ma) (hs : starEach [a] X.env = [(false, eval a X.env)] := by rfl) : SI X W tg (.Call (.Name "range" p) [a] [] pos) (mRg1 ma) := by
  refine pi_of (pi_range1 hg hm ha hs) fun σ H R h => ?_
  obtain ⟨ρ, hs, N, hr, he, q⟩ := TIo.bindA h
  refine ⟨ρ, hs, N, hr, he, q.mono fun vs H1 ⟨hs1, N1, ds, a, r, z⟩ => ?_⟩
  split at z
  · rename_i items hs' e
    split at e
    · rename_i j
      split at e
      · rename_i hb
        cases e
        obtain ⟨v, rfl, r1⟩ := repSL1 r
        exact ⟨j, by rw [show v = .int j from r1], hb.1, hb.2, z _ N1 H1 a Ext.refl fun P => wk_range⟩
      · cases e
    · cases e
  · rename_i e
    split at e
    · split at e <;> cases e
    · cases e
  · exact z.elim
theorem si_range2 {a b : Expr} {ma : MA} (hg : Gl X "range") (hm : X.mg "range" = none) (ha : SA X W [a, b] ma) (hs : starEach [a, b] X.env = [(false, eval a X.env), (false, eval b X.env)] := by rfl) (hs2 : starEach [b] X.env = [(false, eval b X.env)] := by rfl) :
    SI X W tg (.Call (.Name "range" p) [a, b] [] pos) (mRg2 ma) := by
  refine pi_of (pi_range2 hg hm ha hs hs2) fun σ H R h => ?_
  obtain ⟨ρ, hs, N, hr, he, q⟩ := TIo.bindA h
  refine ⟨ρ, hs, N, hr, he, q.mono fun vs H1 ⟨hs1, N1, ds, a, r, z⟩ => ?_⟩
  split at z
  · rename_i items hs' e
    split at e
    · rename_i i j
      split at e
      · rename_i hb
        cases e
        obtain ⟨v, w, rfl, r1, r2⟩ := repSL2 r
        exact ⟨i, j, by rw [show v = .int i from r1, show w = .int j from r2], hb, z _ N1 H1 a Ext.refl fun P => wk_range⟩
      · cases e
    · cases e
  · rename_i e
    split at e
    · split at e <;> cases e
    · cases e
  · exact z.elim
/-- zip of two tuples, of two lists -/
def zipD : List D → List D → List D
  | x :: xs, y :: ys => .tup [x, y] :: zipD xs ys
  | _, _ => []
theorem zipD_get : ∀ {xs ys : List D} {i : Nat}, (zipD xs ys)[i]? = match xs[i]?, ys[i]? with | some x, some y => some (.tup [x, y]) | _, _ => none
  | [], ys, i => by simp [zipD]
  | x :: xs, [], i => by
    simp only [zipD, List.getElem?_nil]
    split <;> simp_all
  | x :: xs, y :: ys, 0 => by simp [zipD]
  | x :: xs, y :: ys, i + 1 => by simpa [zipD] using zipD_get (xs := xs) (ys := ys) (i := i)
theorem zipD_len : ∀ xs ys : List D, (zipD xs ys).length = min xs.length ys.length
  | [], ys => by simp [zipD]
  | x :: xs, [] => by simp [zipD]
  | x :: xs, y :: ys => by simp [zipD, zipD_len xs ys]
theorem wk_zipT {G : Gd} {H : Hp} {N : Lg} {P : Nat → Prop} {a b : Addr} {vs ws : List V} {xs ys : List D} (h : SqT G.K H a vs) (r : RepL G H N.L xs vs) (h' : SqT G.K H b ws) (r' : RepL G H N.L ys ws) : Wk G P (ItzT G.K a b) H N (zipD xs ys) where
  go := fun i hs H' N' _ e hi => by
    rw [zipD_len, r.length, r'.length] at hi
    exact ⟨vs, ws, vs[i]'(by omega), ws[i]'(by omega), e.sqT h, e.sqT h', by simp <;> omega, by simp <;> omega⟩
  yld := fun i hs H' N' x H'' d hr e hd ⟨T, u, v, h1, h2, h3, h4, h5⟩ => by
    subst h1 h3
    rw [zipD_get] at hd
    cases e1 : xs[i]? with
    | none => rw [e1] at hd; cases hd
    | some p =>
      cases e2 : ys[i]? with
      | none => rw [e1, e2] at hd; cases hd
      | some q =>
        rw [e1, e2] at hd
        cases hd
        obtain ⟨v1, q1, q2⟩ := r.get e1
        obtain ⟨v2, q3, q4⟩ := r'.get e2
        have k1 := h4 vs (e.sqT h)
        have k2 := h5 ws (e.sqT h')
        rw [q1] at k1; rw [q3] at k2
        cases k1; cases k2
        have ea := Ext.alloc (P := All) (N := N') (o := .tup [u, v]) h2
        exact ⟨hr.alloc h2, ea, T, [u, v], rfl, SqT.of upd_same, u, [v], rfl, Rep.ext ea _ _ (Rep.ext e _ _ q2), v, [], rfl, Rep.ext ea _ _ (Rep.ext e _ _ q4), rfl⟩
  stop := fun i hs H' N' _ e hi => by
    rw [zipD_len, r.length, r'.length] at hi
    exact ⟨vs, ws, e.sqT h, e.sqT h', by omega⟩
theorem wk_zipL {G : Gd} {H : Hp} {N : Lg} {P : Nat → Prop} {a b : Addr} {vs ws : List V} {xs ys : List D} (h : H a = some (.lst vs)) (hl : ¬ N.L a) (r : RepL G H N.L xs vs) (h' : H b = some (.lst ws)) (hl' : ¬ N.L b) (r' : RepL G H N.L ys ws) : Wk G P (Itz G.K a b) H N (zipD xs ys) where
  go := fun i hs H' N' _ e hi => by
    rw [zipD_len, r.length, r'.length] at hi
    exact ⟨vs, ws, vs[i]'(by omega), ws[i]'(by omega), SqL.of (e.keep _ _ h (fun _ z => nomatch z) (.inl hl)), SqL.of (e.keep _ _ h' (fun _ z => nomatch z) (.inl hl')), by simp <;> omega, by simp <;> omega⟩
  yld := fun i hs H' N' x H'' d hr e hd ⟨T, u, v, h1, h2, h3, h4, h5⟩ => by
    subst h1 h3
    rw [zipD_get] at hd
    cases e1 : xs[i]? with
    | none => rw [e1] at hd; cases hd
    | some p =>
      cases e2 : ys[i]? with
      | none => rw [e1, e2] at hd; cases hd
      | some q =>
        rw [e1, e2] at hd
        cases hd
        obtain ⟨v1, q1, q2⟩ := r.get e1
        obtain ⟨v2, q3, q4⟩ := r'.get e2
        have k1 := h4 vs (SqL.of (e.keep _ _ h (fun _ z => nomatch z) (.inl hl)))
        have k2 := h5 ws (SqL.of (e.keep _ _ h' (fun _ z => nomatch z) (.inl hl')))
        rw [q1] at k1; rw [q3] at k2
        cases k1; cases k2
        have ea := Ext.alloc (P := All) (N := N') (o := .tup [u, v]) h2
        exact ⟨hr.alloc h2, ea, T, [u, v], rfl, SqT.of upd_same, u, [v], rfl, Rep.ext ea _ _ (Rep.ext e _ _ q2), v, [], rfl, Rep.ext ea _ _ (Rep.ext e _ _ q4), rfl⟩
  stop := fun i hs H' N' _ e hi => by
    rw [zipD_len, r.length, r'.length] at hi
    exact ⟨vs, ws, SqL.of (e.keep _ _ h (fun _ z => nomatch z) (.inl hl)), SqL.of (e.keep _ _ h' (fun _ z => nomatch z) (.inl hl')), by omega⟩
def mZip (a : MA) : MI := fun ρ hs => (a ρ hs).bind fun ds hs1 => match ds with
  | [.d (.tup xs), .d (.tup ys)] => .ok (zipD xs ys) hs1
  | [.d (.lst xs), .d (.lst ys)] => .ok (zipD xs ys) hs1
  | _ => .bad
theorem si_zip {e e2 : Expr} {ma : MA} {tpos : Pos} {elts : List Expr} {kk : Nat} (hg : Gl X "zip") (hm : X.mg "zip" = none) (ha : SA X W [e, e2] ma)
    (hs : starEach [e, e2] X.env = (false, eval e X.env) :: starEach [e2] X.env := by rfl) (hpl : (backTo pos (starEach [e2] X.env)).any (·.1) = false := by rfl) : SI X W (.Tuple elts kk tpos) (.Call (.Name "zip" p) [e, e2] [] pos) (mZip ma) := by
  refine pi_of (pi_zipA hg hm ha hs hpl) fun σ H R h => ?_
  obtain ⟨ρ, hs, N, hr, he, q⟩ := TIo.bindA h
  refine ⟨ρ, hs, N, hr, he, q.mono fun vs H1 ⟨hs1, N1, ds, a, r, z⟩ => ?_⟩
  split at z
  · rename_i items hs' e
    split at e
    · rename_i xs ys
      cases e
      obtain ⟨v, w, rfl, r1, r2⟩ := repSL2 r
      obtain ⟨p1, vs1, rfl, s1, t1⟩ := (show Rep _ _ _ (.tup xs) _ from r1)
      obtain ⟨p2, vs2, rfl, s2, t2⟩ := (show Rep _ _ _ (.tup ys) _ from r2)
      exact ⟨p1, p2, vs1, vs2, rfl, .inr ⟨s1, s2, z _ N1 H1 a Ext.refl fun P => wk_zipT s1 t1 s2 t2⟩⟩
    · rename_i xs ys
      cases e
      obtain ⟨v, w, rfl, r1, r2⟩ := repSL2 r
      obtain ⟨p1, vs1, rfl, n1, s1, t1⟩ := (show Rep _ _ _ (.lst xs) _ from r1)
      obtain ⟨p2, vs2, rfl, n2, s2, t2⟩ := (show Rep _ _ _ (.lst ys) _ from r2)
      exact ⟨p1, p2, vs1, vs2, rfl, .inl ⟨SqL.of s1, SqL.of s2, z _ N1 H1 a Ext.refl fun P => wk_zipL s1 n1 t1 s2 n2 t2⟩⟩
    · cases e
  · rename_i e
    split at e <;> cases e
  · exact z.elim
/-- the signs of a text -/
def signsD (z : Str) : List D := z.cps.toList.map fun c => .str ⟨#[c]⟩
def mItS (a : ME) : MI := fun ρ hs => (a ρ hs).bind fun x hs1 => match x with
  | .d (.str z) => .ok (signsD z) hs1
  | _ => .bad
theorem wk_str {G : Gd} {H : Hp} {N : Lg} {P : Nat → Prop} {z : Str} : Wk G P (Its z) H N (signsD z) where
  go := fun i hs H' N' _ e hi => by
    show i < z.cps.size
    simpa [signsD] using hi
  yld := fun i hs H' N' x H'' d hr e hd ⟨h1, c, h2, h3⟩ => by
    subst h1 h3
    have : (signsD z)[i]? = some (.str ⟨#[c]⟩) := by
      simp only [signsD, List.getElem?_map, Array.getElem?_toList, h2]; rfl
    rw [this] at hd; cases hd
    exact ⟨hr, Ext.refl, rfl⟩
  stop := fun i hs H' N' _ e hi => by
    show z.cps.size ≤ i
    simpa [signsD] using hi
theorem si_str (h : SE X W it me) : SI X W tg it (mItS me) := by
  refine pi_of (pi_str h) fun σ H R ⟨ρ, hs, N, hr, he, q⟩ => ?_
  refine ⟨ρ, hs, N, hr, he, ?_⟩
  simp only [mItS] at q
  cases em : me ρ hs with
  | bad => rw [em] at q; exact q.elim
  | exc c ns ws hs' => rw [em] at q; exact q
  | ok x hs1 =>
    rw [em] at q
    intro v N1 H1 a b r
    simp only [Out.bind] at q
    split at q
    · rename_i xs e
      split at e
      · rename_i ys
        cases e
        exact ⟨ys, r, q _ N1 H1 a b fun P => wk_str⟩
      · cases e
    · rename_i e
      split at e <;> cases e
    · exact q.elim
end
end Py
end L2

set_option Elab.async false
set_option linter.all false
set_option maxRecDepth 100000
/-! What a module has: defs, values; calls of them; the end of a law. -/
namespace L2
namespace Py
open PySem PySem.Spec PyProof.Rows
variable [Tl]

/-- the module has the def x, with this mirror -/
def CalG (P : Program) (w : World) (K : PySem.W.Frag) (mg : Str → Option Value) (base : Heap) (k : Nat) (x : Str) (n : Nat) (fm : FM) : Prop :=
  ∃ f fd ps, FnG P w K mg base k f fd ps (spOf ⟨K, mg, w, base⟩ n fm) ∧ mg x = some (.ref f) ∧ PySem.W.keepIn K (.ref f) = true ∧ Binds K fd ps []
def CalN (P : Program) (w : World) (K : PySem.W.Frag) (mg : Str → Option Value) (base : Heap) (k : Nat) (x : Str) (n : Nat) (fm : FMN) : Prop :=
  ∃ f fd ps, FnG P w K mg base k f fd ps (spOfN ⟨K, mg, w, base⟩ n fm) ∧ mg x = some (.ref f) ∧ PySem.W.keepIn K (.ref f) = true ∧ Binds K fd ps []
theorem CalG.mono {P : Program} {w : World} {K : PySem.W.Frag} {mg : Str → Option Value} {base : Heap} {k j n : Nat} {x : Str} {fm : FM} (h : CalG P w K mg base k x n fm) (hk : k ≤ j := by decide) : CalG P w K mg base j x n fm := by
  obtain ⟨f, fd, ps, h1, h2⟩ := h
  exact ⟨f, fd, ps, h1.mono hk, h2⟩
theorem CalN.mono {P : Program} {w : World} {K : PySem.W.Frag} {mg : Str → Option Value} {base : Heap} {k j n : Nat} {x : Str} {fm : FMN} (h : CalN P w K mg base k x n fm) (hk : k ≤ j := by decide) : CalN P w K mg base j x n fm := by
  obtain ⟨f, fd, ps, h1, h2⟩ := h
  exact ⟨f, fd, ps, h1.mono hk, h2⟩
/-- a def as it stands in the module -/
def DefG (K : PySem.W.Frag) (mg : Str → Option Value) (x : Str) (st : Stmt) (ps : List Str) : Prop :=
  ∃ f fd, Fun K x x st f fd ∧ mg x = some (.ref f) ∧ Binds K fd ps []
/-- a value of the module -/
def GvR (K : PySem.W.Frag) (mg : Str → Option Value) (x : Str) (d : D) : Prop :=
  ∃ v u, mg x = some u ∧ RelV v u ∧ ∀ w base H L, Rep ⟨K, mg, w, base⟩ H L d v
section
variable {X : Cx} {W : WX} {k n : Nat} {x : Str} {p pos : Pos} {e : Expr} {es : List Expr} {ma : MA} {fm : FM}
theorem se_gv {d : D} (h : GvR X.K X.mg x d) (hg : Gl X x) (hd : (x == ("__debug__" : Str)) = false := by decide) : SE X W (.Name x pos) (mC d) := by
  obtain ⟨v, u, h1, h2, h3⟩ := h
  exact se_glob hg h1 h2 (h3 X.w X.base) hd
theorem se_fn (h : CalG X.prog X.w X.K X.mg X.base k x n fm) (hg : Gl X x) (hd : (x == ("__debug__" : Str)) = false := by decide) : SE X W (.Name x pos) (mC (.glo x)) := by
  obtain ⟨f, fd, ps, _, h1, _⟩ := h
  exact se_glob (v := .ref f) hg h1 rfl (fun _ _ => ⟨f, rfl, h1⟩) hd
theorem se_defG {st : Stmt} {ps : List Str} (h : DefG X.K X.mg x st ps) (hg : Gl X x) (hd : (x == ("__debug__" : Str)) = false := by decide) : SE X W (.Name x pos) (mC (.glo x)) := by
  obtain ⟨f, fd, _, h1, _⟩ := h
  exact se_glob (v := .ref f) hg h1 rfl (fun _ _ => ⟨f, rfl, h1⟩) hd
theorem se_callG (h : CalG X.prog X.w X.K X.mg X.base k x n fm) (hgd : X.A.guards = some []) (hr : Room k X.A) (tk : Takes X W) (hg : Gl X x) (ha : SA X W (e :: es) ma)
    (hal : ∀ ρ hs ds hs', ma ρ hs = .ok ds hs' → ds.length = n) (hdb : (x == ("__debug__" : Str)) = false := by decide) (he : starEach (e :: es) X.env = (false, eval e X.env) :: starEach es X.env := by rfl) (hpl : (backTo pos (starEach es X.env)).any (·.1) = false := by rfl) :
    SE X W (.Call (.Name x p) (e :: es) [] pos) (mCall fm ma) := by
  obtain ⟨f, fd, ps, h1, h2, h3, h4⟩ := h
  refine pe_of (pe_callG h1 hgd hr hg h2 h3 h4 tk ha hdb he hpl) fun σ H Q h => ?_
  obtain ⟨ρ, hs, N, hr, hE, q⟩ := h
  refine ⟨ρ, hs, N, hr, hE, ?_⟩
  simp only [mCall] at q
  cases em : ma ρ hs with
  | bad => rw [em] at q; exact q.elim
  | exc c ns ws hs' => rw [em] at q; exact q
  | ok ds hs1 =>
    rw [em] at q
    intro vs N1 H1 a b r
    exact call_sp a r (by rw [← r.length]; exact hal ρ hs ds hs1 em) (PostO.ext b q)
theorem se_callG0 (h : CalG X.prog X.w X.K X.mg X.base k x 0 fm) (hgd : X.A.guards = some []) (hr : Room k X.A) (tk : Takes X W) (hg : Gl X x) (hdb : (x == ("__debug__" : Str)) = false := by decide) :
    SE X W (.Call (.Name x p) [] [] pos) (mCall fm mNil) := by
  obtain ⟨f, fd, ps, h1, h2, h3, h4⟩ := h
  exact se_call0 h1 hgd hr hg h2 h3 h4 tk hdb
theorem ss_setNewG {P : Nat → Prop} {i : Nat} {y : Str} {py spos : Pos} {fn : FMN} (h : CalN X.prog X.w X.K X.mg X.base k x n fn) (hgd : X.A.guards = some []) (hr : Room k X.A) (tk : Takes X W) (hg : Gl X x)
    (hN : X.N.Nodup) (hi : X.N[i]? = some y) (hx : Loc X.env.scope y) (ha : SA X W (e :: es) ma) (hal : ∀ ρ hs ds hs', ma ρ hs = .ok ds hs' → ds.length = n)
    (hs : swapsWith (.Call (.Name x p) (e :: es) [] pos) (some (.Name y py)) spos.line X.env = pure false := by rfl)
    (hf : X.fn y = true ∨ X.env.scope.names.lookup y = some .local := by first | exact .inl rfl | exact .inr rfl | assumption)
    (hdb : (x == ("__debug__" : Str)) = false := by decide) (he : starEach (e :: es) X.env = (false, eval e X.env) :: starEach es X.env := by rfl) (hpl : (backTo pos (starEach es X.env)).any (·.1) = false := by rfl) :
    SS X W P (.Assign [.Name y py] (.Call (.Name x p) (e :: es) [] pos) spos) (mSetNew i fn ma) := by
  obtain ⟨f, fd, ps, h1, h2, h3, h4⟩ := h
  exact ss_setNew h1 hgd hr hg h2 h3 h4 tk hN hi hx ha hal hs hf hdb he hpl
/-- a call of a local name that holds one of some defs -/
def mCallV (i : Nat) (tb : List (Str × FM)) (ma : MA) : ME := fun ρ hs => match ρ[i]? with
  | some (some (.d (.glo y))) => match tb.lookup y with
    | some fm => mCall fm ma ρ hs
    | none => .bad
  | _ => .bad
theorem se_callV {i : Nat} {tb : List (Str × FM)} (h : ∀ y fm, tb.lookup y = some fm → CalG X.prog X.w X.K X.mg X.base k y n fm) (hgd : X.A.guards = some []) (hr : Room k X.A) (tk : Takes X W) (ha : SA X W (e :: es) ma)
    (hal : ∀ ρ hs ds hs', ma ρ hs = .ok ds hs' → ds.length = n) (hN : X.N[i]? = some x := by rfl) (hv : Vis X.env.scope x := by first | exact Or.inl rfl | exact Or.inr (Or.inl rfl) | exact Or.inr (Or.inr rfl))
    (hdb : (x == ("__debug__" : Str)) = false := by decide) (hcd : (x == ("__classdict__" : Str)) = false := by decide) (he : starEach (e :: es) X.env = (false, eval e X.env) :: starEach es X.env := by rfl) (hpl : (backTo pos (starEach es X.env)).any (·.1) = false := by rfl) :
    SE X W (.Call (.Name x p) (e :: es) [] pos) (mCallV i tb ma) := by
  refine ⟨fun pins s σ H Q I hh => ?_⟩
  obtain ⟨ρ, hs, N, hrl, hE, q⟩ := hh
  unfold mCallV at q
  split at q
  · rename_i y hy
    cases ef : tb.lookup y with
    | none => simp only [ef] at q; exact q.elim
    | some fm =>
      simp only [ef] at q
      obtain ⟨f, fd, ps, h1, h2, h3, h4⟩ := h y fm ef
      obtain ⟨v, g1, g2⟩ := hE.2 i _ hy
      obtain ⟨a, rfl, g3⟩ := (show Rep (Cx.g X) H N.L (.glo y) v from g2)
      have ea : f = a := by
        have := h2.symm.trans g3
        cases this; rfl
      subst ea
      refine wpAny_Call_Name_kw (thn ((pe_var (pos := p) hN hv hdb hcd).run pins s σ H (fun v H1 => v = .ref f ∧ H1 = H) I ⟨.ref f, g1, rfl, rfl⟩) fun u s1 ⟨v, H1, I1, r1, q1⟩ => ?_)
      obtain ⟨rfl, rfl⟩ := q1
      cases r1
      have qa : TR (Cx.g X) W RepSL ma σ H1 fun vs H1 => spOf (Cx.g X) n fm vs H1 Q (WE W σ) := by
        refine ⟨ρ, hs, N, hrl, hE, ?_⟩
        simp only [mCall] at q
        cases em : ma ρ hs with
        | bad => rw [em] at q; exact q.elim
        | exc c ns ws hs' => rw [em] at q; exact q
        | ok ds hs1 =>
          rw [em] at q
          intro vs N1 H1 a b r
          exact call_sp a r (by rw [← r.length]; exact hal ρ hs ds hs1 em) (PostO.ext b q)
      refine PySem.W.callWith_K (h₀ := X.base) I.ok.mod.kin h3 (thn (ha.run pos pins s1 σ _ _ I1 qa) fun us s2 ⟨vs, H2, I2, r, q⟩ => ⟨I2.kIn, ?_⟩) he hpl
      exact runG h1 hgd hr h4 tk I2 r q
  · exact q.elim
end

theorem tb_one {P : Program} {w : World} {K : PySem.W.Frag} {mg : Str → Option Value} {base : Heap} {k n : Nat} {x : Str} {fm : FM} (h : CalG P w K mg base k x n fm) : ∀ y fn, [(x, fm)].lookup y = some fn → CalG P w K mg base k y n fn := by
  intro y fn e
  simp only [List.lookup] at e
  split at e
  · rename_i e1
    cases e
    rw [eq_of_beq e1]
    exact h
  · cases e

/-! ### the module's plain values -/
def atomD : Value → Option D
  | .none => some .non
  | .bool b => some (.bl b)
  | .int i _ => some (.int i)
  | .str x _ => some (.str x)
  | _ => none
def atomsD : List Value → Option (List D)
  | [] => some []
  | v :: r => match atomD v, atomsD r with
    | some d, some ds => some (d :: ds)
    | _, _ => none
theorem atomD_of {u : Value} {d : D} (h : atomD u = some d) : ∃ v, RelV v u ∧ ∀ G H L, Rep G H L d v := by
  cases u with
  | none => cases h; exact ⟨.non, rfl, fun _ _ _ => rfl⟩
  | bool b => cases h; exact ⟨.bl b, rfl, fun _ _ _ => rfl⟩
  | int i t => cases h; exact ⟨.int i, ⟨t, rfl⟩, fun _ _ _ => rfl⟩
  | str x t => cases h; exact ⟨.str x, ⟨t, rfl⟩, fun _ _ _ => rfl⟩
  | _ => cases h
theorem atomsD_of : ∀ {us : List Value} {ds : List D}, atomsD us = some ds → ∃ vs, Vals vs us ∧ ∀ G H L, RepL G H L ds vs
  | [], ds, h => by cases h; exact ⟨[], .nil, fun _ _ _ => rfl⟩
  | u :: us, ds, h => by
    unfold atomsD at h
    cases e1 : atomD u with
    | none => rw [e1] at h; cases h
    | some d =>
      cases e2 : atomsD us with
      | none => rw [e1, e2] at h; cases h
      | some r =>
        rw [e1, e2] at h
        cases h
        obtain ⟨v, a1, a2⟩ := atomD_of e1
        obtain ⟨vs, b1, b2⟩ := atomsD_of e2
        exact ⟨v :: vs, .cons a1 b1, fun G H L => ⟨v, vs, rfl, a2 G H L, b2 G H L⟩⟩
section
variable {K : PySem.W.Frag} {mg : Str → Option Value} {x : Str} {h : Heap}
theorem gv_atom {u : Value} {d : D} (X : K.In h) (G : h.Ns mainGlobals mg) (a : PySem.W.nsIn K mainGlobals x = some (some u)) (e : atomD u = some d) : GvR K mg x d := by
  obtain ⟨v, h1, h2⟩ := atomD_of e
  exact ⟨v, u, PySem.W.mg_of X G a, h1, fun w base => h2 _⟩
theorem gv_tup {b : Addr} {o : Obj} {ds : List D} (X : K.In h) (G : h.Ns mainGlobals mg) (a : PySem.W.nsIn K mainGlobals x = some (some (.ref b))) (l : K.lookup b = some o)
    (e : (match o.cls, o.data with | .type t, .seq its _ => decide (t = "tuple" ∧ its.size ≤ 1000) | _, _ => false) = true)
    (e2 : (match o.data with | .seq its _ => atomsD its.toList | _ => none) = some ds) : GvR K mg x (.tup ds) := by
  split at e
  · rename_i t its n ec ed
    rw [ed] at e2
    obtain ⟨rfl, hz⟩ := of_decide_eq_true e
    obtain ⟨vs, h1, h2⟩ := atomsD_of e2
    refine ⟨.ref b, _, PySem.W.mg_of X G a, rfl, fun w base H L => ⟨b, vs, rfl, .inr ⟨o, its, n, l, ec, ed, ?_, h1⟩, h2 _ _ _⟩⟩
    exact Nat.le_of_lt (small1000 hz)
  · cases e
theorem defG_mk {qs : List Str} {st : Stmt} {f : Addr} {oc : Value} {od an : Option Addr} {osl : Array (Option Value)} {kV doc pm cdv ct : Value} (X : K.In h) (G : h.Ns mainGlobals mg) (a : PySem.W.nsIn K mainGlobals x = some (some (.ref f)))
    (l : K.lookup f = some ⟨oc, od, .func (PySem.W.fnOf x x (defArgs st) (defBody st) (defScope st) .none kV doc pm an cdv ct), osl⟩)
    (c : PySem.W.codeIn K cdv x = true) (k : PySem.W.keepIn K (.ref f) = true)
    (b : ∀ (kV doc pm : Value) (an : Option Addr) (cdv ct : Value) (us : List Value), us.length = qs.length → bindArgs (PySem.W.fnOf x x (defArgs st) (defBody st) (defScope st) .none kV doc pm an cdv ct) ⟨us, []⟩ = pure (qs.zip us)) : DefG K mg x st qs :=
  ⟨f, _, fun_mk l c k, PySem.W.mg_of X G a, (fun_mk l c k).binds b⟩
end

/-! ### the end -/
section
variable {P : Program} {w : World} {K : PySem.W.Frag} {mg mb : Str → Option Value}
/-- the places of the tables -/
abbrev tabPl : List Addr := Tl.T.map fun p => p.2.1
/-- what the tables' heap says at the start -/
structure TabOk (K : PySem.W.Frag) (h : Heap) : Prop where
  nil : ∀ p ∈ Tl.T, h.get? p.2.1 = some { cls := .none, data := .fields #[] }
  out : ∀ p ∈ Tl.T, K.lookup p.2.1 = none
  hd : ∀ p ∈ Tl.T, PySem.W.CodeHd h p.1 p.2.1
/-- the law's own def, called with the script -/
theorem law_callG {k : Nat} {fa a : Addr} {fd : FuncData} {x : Str} {fm : FM} {s₁ : Shared} {vs : List Value} {ns : List Int}
    (KX : K.In s₁.heap) (hns : s₁.heap.Ns mainGlobals mg) (hb : s₁.heap.Ns builtinsNs mb) (hbb : ∀ x : Str, x ≠ "__name__" → mb x = bootBuiltins x) (hlim : s₁.heap.NoLimit) (hg : s₁.gens = #[])
    (hbm : ∃ (bm : Addr) (ob : Obj), mg "__builtins__" = some (.ref bm) ∧ bm ≠ builtinsNs ∧ s₁.heap.get? bm = some ob ∧ ob.cls = .type "module" ∧ ob.dict = some builtinsNs ∧ ob.data = .plain) (hT : TabOk K s₁.heap)
    (ha : s₁.heap.get? a = some { cls := .type "list", data := .seq vs.toArray }) (hi : IntsAre vs ns) (hl : ns.length ≤ sizeLine) (hr : Room k callerA)
    (F : ∀ base : Heap, K.In base → base.Ns mainGlobals mg → FnG P w K mg base k fa fd [x] (spOf ⟨K, mg, w, base⟩ 1 fm)) (hbind : ∀ (s : Shared) (u : Value), BindsTo s fd ⟨[u], []⟩ [(x, u)])
    (hsp : fm [.d (.scr (ns.map .int))] [] = .ok (.bl true) []) :
    codeAny (model P w) callerA (.call (.ref fa) ⟨[.ref a], []⟩) (fun r s' => r = .ok (.ret (.bool true)) ∧ OldK s₁.heap s'.heap ∧ s'.os = s₁.os ∧ AllBare s'.gens) s₁ := by
  have rv := vals_ints hi
  have lenV := hi.length
  have tabAt : ∀ b, b ∈ tabPl → s₁.heap.get? b = some { cls := .none, data := .fields #[] } := fun b hb => by
    obtain ⟨p, hp, e⟩ := List.mem_map.mp hb
    rw [← e]; exact hT.nil p hp
  have tabMem : ∀ p ∈ Tl.T, p.2.1 ∈ tabPl := fun p hp => List.mem_map.mpr ⟨p, hp, rfl⟩
  have aNot : a ∉ tabPl := fun z => by
    have q := tabAt a z
    rw [ha] at q
    cases q
  have core : ∀ H : Hp, (∀ p ∈ Tl.T, H p.2.1 = some (.tbl #[])) → (∀ b, H b = none ∨ b ∈ tabPl ∨ ∃ o xs, H b = some (.frz o (.lst xs))) → ScrAt K H a (ns.map V.int) → HOk P w H s₁.heap → (∀ b, H b ≠ none → b = a ∨ b ∈ tabPl) → (H a ≠ none → K.lookup a = none) →
      codeAny (model P w) callerA (.call (.ref fa) ⟨[.ref a], []⟩) (fun r s' => r = .ok (.ret (.bool true)) ∧ OldK s₁.heap s'.heap ∧ s'.os = s₁.os ∧ AllBare s'.gens) s₁ := by
    intro H hH hO hS hok hA hK
    have free : ∀ {b : Addr} {o : Obj}, s₁.heap.get? b = some o → (∀ vs n, o.data ≠ .seq vs n) → o.data ≠ .fields #[] → H b = none := fun {b o} e h1 h2 => by
      cases q : H b with
      | none => rfl
      | some u =>
        rcases hA b (by rw [q]; simp) with z | z
        · subst z
          rw [ha] at e; cases e
          exact absurd rfl (h1 _ _)
        · rw [tabAt b z] at e; cases e
          exact absurd rfl h2
    have nsK : ∀ {b : Addr} {m : Str → Option Value}, s₁.heap.Ns b m → (hidT s₁.heap H).Ns b m := fun {b m} ⟨o, es, ep, e, d, r⟩ =>
      ⟨o, es, ep, hidT_get e (free e (fun vs n z => by rw [d] at z; cases z) fun z => by rw [d] at z; cases z), d, r⟩
    have hKb : K.In (hidT s₁.heap H) := fun b o e => hidT_get (KX b o e) (by
      cases q : H b with
      | none => rfl
      | some u =>
        rcases hA b (by rw [q]; simp) with z | z
        · subst z
          rw [hK (by rw [q]; simp)] at e; cases e
        · obtain ⟨p, hp, ep⟩ := List.mem_map.mp z
          rw [← ep, hT.out p hp] at e; cases e)
    have hM : Mod K mg (hidT s₁.heap H) := ⟨hKb, nsK hns, ⟨mb, nsK hb, hbb⟩, let ⟨mc, h1, h2⟩ := hlim; ⟨mc, nsK h1, h2⟩⟩
    have tB : ∀ p ∈ Tl.T, LamX.TabB (hidT s₁.heap H) mg p.1 p.2.1 := fun p hp => by
      refine ⟨?_, ?_, ?_⟩
      · obtain ⟨o, us, f1, f2, f3, f4, f5, f6, f7, e1, r1, r2, r3, more⟩ := hT.hd p hp
        refine ⟨o, us, f1, f2, f3, f4, f5, f6, f7, hidT_get e1 (free e1 (fun vs n z => ?_) fun z => ?_), r1, r2, r3, more⟩
        · rw [r2] at z; cases z
        · rw [r2] at z; cases z; simp at r3
      · obtain ⟨bm, ob, b1, b2, b3, b4, b5, b6⟩ := hbm
        refine ⟨bm, ob, b1, b2, fun q => ?_, fun q => ?_, hidT_get b3 (free b3 (fun vs n z => ?_) fun z => ?_), b4, b5, b6⟩
        · obtain ⟨o, es, ep, e, d, _⟩ := hns
          rw [q, e] at b3; cases b3
          rw [d] at b6; cases b6
        · rw [q, hT.nil p hp] at b3; cases b3
          cases b6
        · rw [b6] at z; cases z
        · rw [b6] at z; cases z
      · intro z
        obtain ⟨o, es, ep, e, d, _⟩ := hns
        rw [z, hT.nil p hp] at e; cases e
        cases d
    have sp : spOf ⟨K, mg, w, hidT s₁.heap H⟩ 1 fm [.ref a] H (fun v _ => v = .bl true) fun _ _ _ => False := by
      refine ⟨rfl, [.d (.scr (ns.map .int))], [], ⟨[], fun _ => False, 0, fun a q => (by simp at q), fun i j a q => (by simp at q)⟩, ⟨⟨rfl, fun i c a q => (by simp at q), fun a q => q.elim, fun i c q => (by simp at q), Nat.le_refl _, fun p hp => ⟨tB p hp, #[], hH p hp, True.intro, fun pos cv z => ?_⟩⟩, rfl⟩, ?_, ?_⟩
      · have z' : codeAmong pos [] = some cv := z
        simp [codeAmong] at z'
      · refine ⟨.ref a, [], rfl, ⟨a, ns.map V.int, rfl, hS, ?_⟩, rfl⟩
        clear hi hl hsp hS rv lenV
        induction ns with
        | nil => rfl
        | cons n r ih => exact ⟨.int n, r.map V.int, rfl, rfl, ih⟩
      · rw [hsp]
        exact fun v N' H' _ _ r => r
    have e0 : Env0 P w K mg (hidT s₁.heap H) callerA [] s₁ H := ⟨rfl, hM, fun b o e => of_hidT e, Nat.le_of_eq (hidT_size _ _), trivial, fun b hb => absurd (show b ∈ ([] : List Addr) from hb) (by simp), hok, .of_eq hg⟩
    refine codeAny_mono ((F _ hKb (nsK hns)).run callerA [] s₁ H ⟨[.ref a], []⟩ [.ref a] [.ref a] _ _ rfl hr e0 (hbind s₁ (.ref a)) (.cons rfl .nil) sp) fun r s' h => ?_
    match r, h with
    | .error e, h =>
      obtain ⟨_, _, _, _, _, _, _, _, _, _, _, z⟩ := h
      exact z.2.elim
    | .ok .next, h => exact False.elim h
    | .ok .brk, h => exact False.elim h
    | .ok .cont, h => exact False.elim h
    | .ok (.ret u), h =>
      obtain ⟨v, H', os, bare, un, hok', r', q⟩ := h
      obtain rfl : v = .bl true := q
      obtain rfl : u = Value.bool true := r'
      have same : ∀ b o, b ∉ tabPl → s₁.heap.get? b = some o → s'.heap.get? b = some o := fun b o nb e => by
        rcases hO b with z | z | ⟨ob, xs, z⟩
        · exact un.keep b o e z (fun m => absurd (show b ∈ ([] : List Addr) from m) (by simp)) (by simp)
        · exact absurd z nb
        · obtain ⟨e1, _⟩ := hok b _ z
          obtain ⟨e2, _⟩ := hok' b _ (un.frzs b ob _ z)
          rw [e] at e1; cases e1
          exact e2
      have more : ∀ p ∈ Tl.T, ∃ ms : Array Value, s'.heap.get? p.2.1 = some { cls := .none, data := .fields ms } := fun p hp => by
        obtain ⟨ms, z⟩ := un.tbls p.2.1 #[] (hH p hp)
        exact ⟨_, hok' p.2.1 _ z⟩
      refine ⟨rfl, ⟨fun b o e => ?_, fun b o e => ?_⟩, os, bare⟩
      · by_cases hb : b ∈ tabPl
        · obtain ⟨p, hp, ep⟩ := List.mem_map.mp hb
          obtain ⟨ms, hm⟩ := more p hp
          have ep : p.2.1 = b := ep
          subst ep
          rw [hT.nil p hp] at e; cases e
          exact .inr (.inl ⟨((hT.hd p hp).tab (hT.nil p hp)).isCodeTable, rfl, #[], ms, rfl, by rw [Array.empty_append]; exact hm⟩)
        · exact .inl (same b o hb e)
      · by_cases hb : b ∈ tabPl
        · obtain ⟨p, hp, ep⟩ := List.mem_map.mp hb
          obtain ⟨ms, hm⟩ := more p hp
          have ep : p.2.1 = b := ep
          subst ep
          exact ⟨_, hm⟩
        · exact ⟨o, same b o hb e⟩
  cases hk : K.lookup a with
  | some o =>
    have e := KX a o hk
    rw [ha] at e
    cases e
    have hq : ∀ H : Hp, SqL K H a (ns.map V.int) := fun H => .inr ⟨_, vs.toArray, _, hk, rfl, rfl, rfl, by rw [List.size_toArray, lenV]; exact hl, by simpa using rv⟩
    refine core (fun b => if b ∈ tabPl then some (.tbl #[]) else none) (fun p hp => if_pos (tabMem p hp)) (fun b => ?_) (.inr ⟨hq _, _, hk, hq⟩) (fun b u z => ?_) (fun b z => ?_) fun z => absurd (if_neg aNot) z
    · by_cases hb : b ∈ tabPl
      · exact .inr (.inl hb)
      · exact .inl (if_neg hb)
    · by_cases hb : b ∈ tabPl
      · have z' := (if_pos hb).symm.trans z
        cases z'
        exact tabAt b hb
      · have z' := (if_neg hb).symm.trans z
        cases z'
    · by_cases hb : b ∈ tabPl
      · exact .inr hb
      · exact absurd (if_neg hb) z
  | none =>
    refine core (fun b => if b = a then some (.frz { cls := .type "list", data := .seq vs.toArray } (.lst (ns.map V.int))) else if b ∈ tabPl then some (.tbl #[]) else none)
      (fun p hp => (if_neg (fun z : p.2.1 = a => aNot (by rw [← z]; exact tabMem p hp))).trans (if_pos (tabMem p hp))) (fun b => ?_) (.inl ⟨{ cls := .type "list", data := .seq vs.toArray }, if_pos rfl⟩) (fun b u z => ?_) (fun b z => ?_) fun _ => hk
    · by_cases hb : b = a
      · exact .inr (.inr ⟨_, _, if_pos hb⟩)
      · by_cases hb2 : b ∈ tabPl
        · exact .inr (.inl hb2)
        · exact .inl ((if_neg hb).trans (if_neg hb2))
    · by_cases hb : b = a
      · have z' := (if_pos hb).symm.trans z
        cases z'
        subst hb
        exact ⟨ha, by rw [List.length_map]; exact hl, vs, _, rv, ha⟩
      · have z1 := (if_neg hb).symm.trans z
        by_cases hb2 : b ∈ tabPl
        · have z' := (if_pos hb2).symm.trans z1
          cases z'
          exact tabAt b hb2
        · have z' := (if_neg hb2).symm.trans z1
          cases z'
    · by_cases hb : b = a
      · exact .inl hb
      · by_cases hb2 : b ∈ tabPl
        · exact .inr hb2
        · exact absurd ((if_neg hb).trans (if_neg hb2)) z
end
/-- what k_head leaves -/
theorem walk_ofG {l : PySem.W.OpenLaw} {n k : Nat} {q : Program} {loose : List Str} {XP : (Str → Option Value) → Heap → Prop} {YP : World → Heap → Prop} {d : DefRec} {K : Params → PySem.W.Frag} {x : Str} {fm : FM}
    (hn : l.most = some n) (hn2 : n ≤ sizeLine) (hdf : d.params.defaults = []) (hr : Room k callerA)
    (hY : ∀ (w : World) (h : Heap), YP w h → (K w.params).In h) (hT : ∀ (w : World) (h : Heap), YP w h → TabOk (K w.params) h)
    (F : ∀ (w : World) (mg : Str → Option Value) (fa : Addr) (h : Heap), (K w.params).In h → h.Ns mainGlobals mg → mg d.name = some (.ref fa) →
      ∃ fd : FuncData, (∀ (s : Shared) (u : Value), BindsTo s fd ⟨[u], []⟩ [(x, u)]) ∧
        ∀ base : Heap, (K w.params).In base → base.Ns mainGlobals mg → FnG l.prog w (K w.params) mg base k fa fd [x] (spOf ⟨K w.params, mg, w, base⟩ 1 fm))
    (hsp : ∀ ns : List Int, ns.length ≤ n → fm [.d (.scr (ns.map .int))] [] = .ok (.bl true) []) :
    PySem.W.WalkO q loose XP YP l.row.toRowW d [] (fun f vs => PySem.call f vs) := by
  refine Att.attach_call hn hdf fun w s₀ s₁ mg mb fa o pm cd doc a vs ns G Y ho hd hcd hmg hobj hints hlen hg => ?_
  have KX := hY w _ Y
  obtain ⟨fd, hb, hF⟩ := F w mg fa _ KX G.T.g hmg
  exact law_callG KX G.T.g G.T.b G.T.builtins G.T.nolimit hg G.T.bmain (hT w _ Y) hobj hints (Nat.le_trans hlen hn2) hr hF hb (hsp ns hlen)
end Py
end L2

set_option Elab.async false
set_option linter.all false
set_option maxRecDepth 100000
/-! What the laws draw. -/
namespace L2
namespace Py
open PySem PySem.Spec PyProof.Rows
variable [Tl]
def b__law_bag : MS :=
  (mRetNewL (mCons (mC (.int 0)) (mCons (mC (.int 1234567891)) (mCons (mC (.int 0)) (mCons (mLcE [1] (.nm 1) (mItL (mSl (mVar 0) mNo (mSo (mC (.int 63))))) mYes (mBf absF (mCons (mVar 1) mNil))) mNil)))))
def f__law_bag : FMN := mFnN 2 (b__law_bag)
def b__law_take : MS :=
  (mSeq (mIfS (mB (m2 (eqF false) (m2 ixF (mVar 0) (mC (.int 0))) (mC (.int 0)))) (mSeq (mSet 2 (m2 ixF (m2 addF (mSl (m2 ixF (mVar 0) (mC (.int 3))) (mSo (m2 ixF (mVar 0) (mC (.int 2)))) mNo) (mLst (mCons (mC (.int 0)) mNil))) (mC (.int 0))))
  (mSeq (mAugI (· + ·) (mVar 0) (mC (.int 2)) (mC (.int 1)))
  (mSeq (mIfS (mB (m2 geF (mVar 2) (m2 powF (mC (.int 10)) (mC (.int 18))))) (mSetI (mVar 2) (mVar 0) (mC (.int 0))) mSkip)
  (mSeq (mSet 3 (m2 addF (m2 addF (m2 mulF (m2 ixF (mVar 0) (mC (.int 1))) (mC (.int 48271))) (m2 modF (mBf intFn (mCons (mVar 2) mNil)) (mC (.int 2147483647)))) (m2 mulF (mC (.int 7919)) (m2 ixF (mVar 0) (mC (.int 2))))))
  (mSetI (m2 modF (mBf intFn (mCons (mVar 3) mNil)) (mC (.int 2147483647))) (mVar 0) (mC (.int 1))))))) mSkip)
  (mSeq (mIfS (mB (m2 gtF (m2 ixF (mVar 0) (mC (.int 0))) (mC (.int 0)))) (mSeq (mSet 4 (m2 modF (mBf intFn (mCons (m2 ixF (mVar 0) (mC (.int 0))) mNil)) (mVar 1)))
  (mSeq (mSetI (m2 fdivF (mBf intFn (mCons (m2 ixF (mVar 0) (mC (.int 0))) mNil)) (mVar 1)) (mVar 0) (mC (.int 0)))
  (mRet (mVar 4)))) mSkip)
  (mSeq (mSet 5 (m2 modF (mBf intFn (mCons (m2 mulF (m2 addF (m2 ixF (mVar 0) (mC (.int 1))) (mC (.int 1))) (mC (.int 39373))) mNil)) (mC (.int 1000000007))))
  (mSeq (mSet 6 (m2 modF (mBf intFn (mCons (m2 mulF (m2 modF (mBf intFn (mCons (m2 mulF (mVar 5) (mVar 5)) mNil)) (mC (.int 998244353))) (mC (.int 30011))) mNil)) (mC (.int 998244353))))
  (mRet (m2 modF (mBf intFn (mCons (m2 fdivF (mVar 6) (mC (.int 7))) mNil)) (mVar 1)))))))
def f__law_take : FM := mFn 7 (b__law_take)
def b__law_some : MS :=
  (mRet (m2 ixF (mVar 1) (mCall f__law_take (mCons (mVar 0) (mCons (mBf lenF (mCons (mVar 1) mNil)) mNil)))))
def f__law_some : FM := mFn 2 (b__law_some)

def bagC (a b c : Int) (ns : List Int) : Cell := .lst [.int a, .int b, .int c, .lst (ns.map .int)]
section
variable {ρ ρ1 : Env'} {hs hs1 hs2 : Hs} {x y : SV} {d : D} {a b : ME} {f : F2}
theorem m2_ok (h1 : a ρ hs = .ok x hs1) (h2 : b ρ hs1 = .ok y hs2) (h3 : f hs2 x y = some d) : m2 f a b ρ hs = .ok (.d d) hs2 := by
  simp only [m2, h1, Out.bind, h2, h3, ofO]
theorem seq_nx {s t : MS} (h : s ρ hs = .nx ρ1 hs1) : mSeq s t ρ hs = t ρ1 hs1 := by simp only [mSeq, h, OutS.bind]
theorem seq_rt {s t : MS} (h : s ρ hs = .rt x hs1) : mSeq s t ρ hs = .rt x hs1 := by simp only [mSeq, h, OutS.bind]
theorem if_true {c : MT} {s t : MS} (h : c ρ hs = .ok true hs1) : mIfS c s t ρ hs = s ρ hs1 := by simp only [mIfS, h, Out.bindS]; exact if_pos trivial
theorem if_false {c : MT} {s t : MS} (h : c ρ hs = .ok false hs1) : mIfS c s t ρ hs = t ρ hs1 := by simp only [mIfS, h, Out.bindS, if_neg Bool.false_ne_true]
theorem set_ok {i : Nat} (h : a ρ hs = .ok x hs1) : mSet i a ρ hs = .nx (ρ.set i (some x)) hs1 := by simp only [mSet, h, Out.bindS]
theorem ret_ok (h : a ρ hs = .ok x hs1) : mRet a ρ hs = .rt x hs1 := by simp only [mRet, h, Out.bindS]
theorem b_ok {k : Bool} (h : a ρ hs = .ok (.d (.bl k)) hs1) : mB a ρ hs = .ok k hs1 := by simp only [mB, h, Out.bind, asB, ofB]
end
theorem eqF_int {hs : Hs} (i j : Int) : eqF false hs (.d (.int i)) (.d (.int j)) = some (.bl (i == j)) := rfl
theorem toInt {xs : List D} {d : D} (h : d ∈ xs ++ [D.int 0]) (h2 : ∀ x ∈ xs, ∃ n, x = .int n) : ∃ n, d = .int n := by
  rcases List.mem_append.mp h with h | h
  · exact h2 d h
  · exact ⟨0, by simpa using h⟩
/-- the cell that is read -/
theorem cell_ok (a b c m : Int) (ns : List Int) (hl : ns.length ≤ 1000) (x2 x3 x4 x5 x6 : Option SV) : ∃ z : Int,
    (m2 ixF (m2 addF (mSl (m2 ixF (mVar 0) (mC (.int 3))) (mSo (m2 ixF (mVar 0) (mC (.int 2)))) mNo) (mLst (mCons (mC (.int 0)) mNil))) (mC (.int 0))) [some (.r 0), some (.d (.int m)), x2, x3, x4, x5, x6] [bagC a b c ns] = .ok (.d (.int z)) [bagC a b c ns] := by
  have e1 : (mSl (m2 ixF (mVar 0) (mC (.int 3))) (mSo (m2 ixF (mVar 0) (mC (.int 2)))) mNo) [some (.r 0), some (.d (.int m)), x2, x3, x4, x5, x6] [bagC a b c ns] = .ok (.d (.lst (cutL (ns.map .int) (some c) none))) [bagC a b c ns] := rfl
  have hz : (cutL (ns.map D.int) (some c) none).length ≤ 1000 := by
    unfold cutL
    rw [List.length_take, List.length_drop, List.length_map]
    omega
  have e2 : (m2 addF (mSl (m2 ixF (mVar 0) (mC (.int 3))) (mSo (m2 ixF (mVar 0) (mC (.int 2)))) mNo) (mLst (mCons (mC (.int 0)) mNil))) [some (.r 0), some (.d (.int m)), x2, x3, x4, x5, x6] [bagC a b c ns] = .ok (.d (.lst (cutL (ns.map .int) (some c) none ++ [.int 0]))) [bagC a b c ns] := by
    refine m2_ok e1 (y := .d (.lst [.int 0])) rfl ?_
    show (if _ then _ else _) = _
    exact if_pos (Nat.le_of_lt (Nat.lt_of_le_of_lt (Nat.add_le_add_right hz 1) (by decide : 1000 + 1 < sizeLine)))
  obtain ⟨d, hd⟩ : ∃ d, (cutL (ns.map D.int) (some c) none ++ [D.int 0])[0]? = some d := ⟨_, List.getElem?_eq_getElem (by simp)⟩
  have hm := List.mem_of_getElem? hd
  obtain ⟨z, rfl⟩ := toInt hm fun x hx => by
    have := List.mem_of_mem_drop (List.mem_of_mem_take hx)
    obtain ⟨n, _, rfl⟩ := List.mem_map.mp this
    exact ⟨n, rfl⟩
  refine ⟨z, m2_ok e2 (y := .d (.int 0)) rfl ?_⟩
  show atI _ 0 = _
  unfold atI ixN
  rw [if_pos (by decide), if_pos (by simp <;> omega)]
  exact hd

theorem intF_ok {C : Int → Int → Prop} [∀ i j, Decidable (C i j)] {f : Int → Int → Int} {hs : Hs} {i j : Int} (h : C i j) : intF C f hs (.d (.int i)) (.d (.int j)) = some (.int (f i j)) := if_pos h
theorem mulF_ok {hs : Hs} {i j : Int} (h : CMul i j) : mulF hs (.d (.int i)) (.d (.int j)) = some (.int (i * j)) := if_pos h
theorem setI_ok {ρ : Env'} {hs hs1 hs2 hs3 hs4 : Hs} {x y z : SV} {a b c : ME} (h1 : a ρ hs = .ok x hs1) (h2 : b ρ hs1 = .ok y hs2) (h3 : c ρ hs2 = .ok z hs3) (h4 : setF hs3 y z x = some hs4) : mSetI a b c ρ hs = .nx ρ hs4 := by
  simp only [mSetI, h1, h2, h3, h4, Out.bindS]
theorem int_ok {ρ : Env'} {hs hs1 : Hs} {i : Int} {a : ME} (h : a ρ hs = .ok (.d (.int i)) hs1) : mBf intFn (mCons a mNil) ρ hs = .ok (.d (.int i)) hs1 := by
  simp only [mBf, mCons, mNil, h, Out.bind, intFn, ofO]
theorem small_mul {i j : Int} (h : -(2 ^ 64) < j ∧ j < 2 ^ 64) : CMul i j := .inr h
theorem gt_true {hs : Hs} {i j : Int} (h : i > j) : gtF hs (.d (.int i)) (.d (.int j)) = some (.bl true) := by
  show some (D.bl (decide (i > j))) = _
  rw [decide_eq_true h]
theorem ge_true {hs : Hs} {i j : Int} (h : i ≥ j) : geF hs (.d (.int i)) (.d (.int j)) = some (.bl true) := by
  show some (D.bl (decide (i ≥ j))) = _
  rw [decide_eq_true h]
theorem ge_false {hs : Hs} {i j : Int} (h : ¬ i ≥ j) : geF hs (.d (.int i)) (.d (.int j)) = some (.bl false) := by
  show some (D.bl (decide (i ≥ j))) = _
  rw [decide_eq_false h]
theorem eq_false {hs : Hs} {i j : Int} (h : ¬ i = j) : eqF false hs (.d (.int i)) (.d (.int j)) = some (.bl false) := by
  rw [eqF_int]
  simp [h]
set_option maxHeartbeats 4000000 in
/-- what comes behind the first test -/
theorem take_main (m : Int) (ns : List Int) (hm : 0 < m) (hm2 : m ≤ 1000000) : ∀ (a b c : Int) (x2 x3 : Option SV), 0 ≤ a → ∃ v a', (mSeq (mIfS (mB (m2 gtF (m2 ixF (mVar 0) (mC (.int 0))) (mC (.int 0)))) (mSeq (mSet 4 (m2 modF (mBf intFn (mCons (m2 ixF (mVar 0) (mC (.int 0))) mNil)) (mVar 1)))
      (mSeq (mSetI (m2 fdivF (mBf intFn (mCons (m2 ixF (mVar 0) (mC (.int 0))) mNil)) (mVar 1)) (mVar 0) (mC (.int 0)))
      (mRet (mVar 4)))) mSkip)
      (mSeq (mSet 5 (m2 modF (mBf intFn (mCons (m2 mulF (m2 addF (m2 ixF (mVar 0) (mC (.int 1))) (mC (.int 1))) (mC (.int 39373))) mNil)) (mC (.int 1000000007))))
      (mSeq (mSet 6 (m2 modF (mBf intFn (mCons (m2 mulF (m2 modF (mBf intFn (mCons (m2 mulF (mVar 5) (mVar 5)) mNil)) (mC (.int 998244353))) (mC (.int 30011))) mNil)) (mC (.int 998244353))))
      (mRet (m2 modF (mBf intFn (mCons (m2 fdivF (mVar 6) (mC (.int 7))) mNil)) (mVar 1)))))) [some (.r 0), some (.d (.int m)), x2, x3, none, none, none] [bagC a b c ns] = .rt (.d (.int v)) [bagC a' b c ns] ∧ 0 ≤ v ∧ v < m ∧ 0 ≤ a' := by
  intro a b c x2 x3 ha
  by_cases h : a > 0
  · refine ⟨a % m, a / m, ?_, Int.emod_nonneg _ (by omega), Int.emod_lt_of_pos _ hm, Int.ediv_nonneg ha (by omega)⟩
    refine seq_rt ?_
    refine Eq.trans (if_true (hs1 := [bagC a b c ns]) (b_ok (m2_ok (x := .d (.int a)) (y := .d (.int 0)) rfl rfl (gt_true h)))) ?_
    refine Eq.trans (seq_nx (set_ok (m2_ok (int_ok (i := a) rfl) (y := .d (.int m)) rfl (intF_ok hm)))) ?_
    refine Eq.trans (seq_nx (setI_ok (hs4 := [bagC (a / m) b c ns]) (m2_ok (int_ok (i := a) rfl) (y := .d (.int m)) rfl (intF_ok ⟨hm, by omega⟩)) rfl rfl rfl)) ?_
    rfl
  · obtain rfl : a = 0 := by omega
    refine ⟨(((b + 1) * 39373 % 1000000007) * ((b + 1) * 39373 % 1000000007) % 998244353 * 30011 % 998244353 / 7) % m, 0, ?_, Int.emod_nonneg _ (Int.ne_of_gt hm), Int.emod_lt_of_pos _ hm, Int.le_refl 0⟩
    refine Eq.trans (seq_nx (if_false (hs1 := [bagC 0 b c ns]) (b_ok (m2_ok (x := .d (.int 0)) (y := .d (.int 0)) rfl rfl rfl)))) ?_
    · rw [seq_nx (set_ok (m2_ok (int_ok (m2_ok (m2_ok (x := .d (.int b)) (y := .d (.int 1)) rfl rfl rfl) (y := .d (.int 39373)) rfl (mulF_ok (small_mul (by decide))))) (y := .d (.int 1000000007)) rfl (intF_ok (by decide))))]
      have hb : 0 ≤ (b + 1) * 39373 % 1000000007 ∧ (b + 1) * 39373 % 1000000007 < 1000000007 := ⟨Int.emod_nonneg _ (by decide), Int.emod_lt_of_pos _ (by decide)⟩
      generalize (b + 1) * 39373 % 1000000007 = q at hb
      refine Eq.trans (seq_nx (set_ok (m2_ok (int_ok (m2_ok (m2_ok (int_ok (m2_ok (x := .d (.int q)) (y := .d (.int q)) rfl rfl (mulF_ok (small_mul ⟨by omega, by omega⟩)))) (y := .d (.int 998244353)) rfl (intF_ok (by decide))) (y := .d (.int 30011)) rfl (mulF_ok (small_mul (by decide))))) (y := .d (.int 998244353)) rfl (intF_ok (by decide))))) ?_
      exact ret_ok (m2_ok (int_ok (m2_ok (x := .d (.int _)) (y := .d (.int 7)) rfl rfl (intF_ok ⟨by decide, by decide⟩))) (y := .d (.int m)) rfl (intF_ok hm))
set_option maxHeartbeats 4000000 in
theorem take_ok (a b c m : Int) (ns : List Int) (hl : ns.length ≤ 1000) (ha : 0 ≤ a) (hm : 0 < m) (hm2 : m ≤ 1000000) : ∃ v a' b' c', f__law_take [.r 0, .d (.int m)] [bagC a b c ns] = .ok (.int v) [bagC a' b' c' ns] ∧ 0 ≤ v ∧ v < m ∧ 0 ≤ a' := by
  have fin : ∀ (o : OutS) (v a' b' c' : Int), o = .rt (.d (.int v)) [bagC a' b' c' ns] → (match o with
      | .rt d hs' => finish 1 d hs'
      | .nx _ hs' => .ok .non (hs'.take 1)
      | .exc c ns ws _ hs' => .exc c ns ws (hs'.take 1)
      | _ => .bad : Out D) = .ok (.int v) [bagC a' b' c' ns] := by
    rintro _ v a' b' c' rfl
    rfl
  by_cases h0 : a = 0
  · subst h0
    obtain ⟨z, hz⟩ := cell_ok 0 b c m ns hl none none none none none
    obtain ⟨a1, ha1, e1⟩ : ∃ a1 : Int, 0 ≤ a1 ∧ (mIfS (mB (m2 geF (mVar 2) (m2 powF (mC (.int 10)) (mC (.int 18))))) (mSetI (mVar 2) (mVar 0) (mC (.int 0))) mSkip) [some (.r 0), some (.d (.int m)), some (.d (.int z)), none, none, none, none] [bagC 0 b (c + 1) ns] = .nx [some (.r 0), some (.d (.int m)), some (.d (.int z)), none, none, none, none] [bagC a1 b (c + 1) ns] := by
      by_cases h : z ≥ 10 ^ 18
      · refine ⟨z, by omega, ?_⟩
        refine Eq.trans (if_true (hs1 := [bagC 0 b (c + 1) ns]) (b_ok (m2_ok (x := .d (.int z)) (y := .d (.int (10 ^ 18))) rfl rfl (ge_true h)))) ?_
        rfl
      · refine ⟨0, Int.le_refl 0, ?_⟩
        refine Eq.trans (if_false (hs1 := [bagC 0 b (c + 1) ns]) (b_ok (m2_ok (x := .d (.int z)) (y := .d (.int (10 ^ 18))) rfl rfl (ge_false h)))) ?_
        rfl
    obtain ⟨v, a', q1, q2, q3, q4⟩ := take_main m ns hm hm2 a1 ((b * 48271 + z % 2147483647 + 7919 * (c + 1)) % 2147483647) (c + 1) (some (.d (.int z))) (some (.d (.int (b * 48271 + z % 2147483647 + 7919 * (c + 1))))) ha1
    refine ⟨v, a', (b * 48271 + z % 2147483647 + 7919 * (c + 1)) % 2147483647, c + 1, fin _ v a' _ _ ?_, q2, q3, q4⟩
    show b__law_take [some (.r 0), some (.d (.int m)), none, none, none, none, none] [bagC 0 b c ns] = _
    unfold b__law_take
    refine Eq.trans (seq_nx (Eq.trans (if_true (hs1 := [bagC 0 b c ns]) (b_ok (m2_ok (x := .d (.int 0)) (y := .d (.int 0)) rfl rfl rfl))) ?_)) q1
    refine Eq.trans (seq_nx (set_ok hz)) ?_
    refine Eq.trans (seq_nx (ρ1 := [some (.r 0), some (.d (.int m)), some (.d (.int z)), none, none, none, none]) (hs1 := [bagC 0 b (c + 1) ns]) rfl) ?_
    refine Eq.trans (seq_nx e1) ?_
    refine Eq.trans (seq_nx (set_ok (m2_ok (m2_ok (m2_ok (x := .d (.int b)) (y := .d (.int 48271)) rfl rfl (mulF_ok (small_mul (by decide)))) (m2_ok (int_ok (i := z) rfl) (y := .d (.int 2147483647)) rfl (intF_ok (by decide))) rfl) (m2_ok (x := .d (.int 7919)) (y := .d (.int (c + 1))) rfl rfl (mulF_ok (.inl (by decide)))) rfl))) ?_
    exact setI_ok (m2_ok (int_ok (i := b * 48271 + z % 2147483647 + 7919 * (c + 1)) rfl) (y := .d (.int 2147483647)) rfl (intF_ok (by decide))) rfl rfl rfl
  · obtain ⟨v, a', q1, q2, q3, q4⟩ := take_main m ns hm hm2 a b c none none ha
    refine ⟨v, a', b, c, fin _ v a' _ _ ?_, q2, q3, q4⟩
    show b__law_take [some (.r 0), some (.d (.int m)), none, none, none, none, none] [bagC a b c ns] = _
    unfold b__law_take
    exact Eq.trans (seq_nx (Eq.trans (if_false (hs1 := [bagC a b c ns]) (b_ok (m2_ok (x := .d (.int a)) (y := .d (.int 0)) rfl rfl (eq_false h0)))) rfl)) q1

/-! ### calls: the bag alone, data alone -/
theorem callM_bag2 {f : FM} {c c' : Cell} {x : D} {d : D} (h : f [.r 0, .d x] [c] = .ok d [c']) (hf : c.flat = true := by rfl) : callM f [.r 0, .d x] [c] = .ok d [c'] := by
  have g : getAll [c] [0] = some [c] := by simp [getAll, hf]
  unfold callM
  rw [show refsOf [SV.r 0, .d x] = [0] from rfl, show renumL [0] [SV.r 0, .d x] = some [.r 0, .d x] from rfl, g]
  simp only [h]
  rfl
theorem callM_bag1 {f : FM} {c c' : Cell} {d : D} (h : f [.r 0] [c] = .ok d [c']) (hf : c.flat = true := by rfl) : callM f [.r 0] [c] = .ok d [c'] := by
  have g : getAll [c] [0] = some [c] := by simp [getAll, hf]
  unfold callM
  rw [show refsOf [SV.r 0] = [0] from rfl, show renumL [0] [SV.r 0] = some [.r 0] from rfl, g]
  simp only [h]
  rfl
theorem call_ok {f : FM} {m : MA} {ρ : Env'} {hs hs1 hs2 : Hs} {ds : List SV} {d : D} (h : m ρ hs = .ok ds hs1) (h2 : callM f ds hs1 = .ok d hs2) : mCall f m ρ hs = .ok (.d d) hs2 := by
  simp only [mCall, h, Out.bind, h2]
/-- one of the things -/
theorem some_ok (a b c : Int) (ns : List Int) (hl : ns.length ≤ 1000) (ha : 0 ≤ a) (things : List D) (h0 : things ≠ []) (h1 : things.length ≤ 1000000) :
    ∃ d a' b' c', d ∈ things ∧ f__law_some [.r 0, .d (.lst things)] [bagC a b c ns] = .ok d [bagC a' b' c' ns] ∧ 0 ≤ a' := by
  have hp : 0 < things.length := List.length_pos_iff.mpr h0
  obtain ⟨v, a', b', c', e, v0, v1, q⟩ := take_ok a b c things.length ns hl ha (by omega) (by omega)
  have hv : v.toNat < things.length := by omega
  refine ⟨things[v.toNat], a', b', c', List.getElem_mem hv, ?_, q⟩
  have e2 : (m2 ixF (mVar 1) (mCall f__law_take (mCons (mVar 0) (mCons (mBf lenF (mCons (mVar 1) mNil)) mNil)))) [some (.r 0), some (.d (.lst things))] [bagC a b c ns] = .ok (.d things[v.toNat]) [bagC a' b' c' ns] := by
    refine m2_ok (x := .d (.lst things)) rfl (call_ok (ds := [.r 0, .d (.int things.length)]) rfl (callM_bag2 e)) ?_
    show atI things v = _
    unfold atI ixN
    rw [if_pos v0, if_pos v1]
    exact List.getElem?_eq_getElem hv
  show (match (mRet _ : MS) [some (.r 0), some (.d (.lst things))] [bagC a b c ns] with
    | .rt d hs' => finish 1 d hs'
    | .nx _ hs' => .ok .non (hs'.take 1)
    | .exc c ns ws _ hs' => .exc c ns ws (hs'.take 1)
    | _ => .bad : Out D) = _
  rw [ret_ok e2]
  rfl
/-! ### comprehensions -/
theorem lcL_map {t : Tg} {tt : MT} {te : ME} {ρw : Env'} {hs : Hs} {g : D → D} : ∀ (items acc : List D), (∀ x ∈ items, ∃ ρ1, mTg t (.d x) ρw = some ρ1 ∧ tt ρ1 hs = .ok true hs ∧ te ρ1 hs = .ok (.d (g x)) hs) → acc.length + items.length ≤ 16777216 →
    mLcL t tt te ρw items acc hs = .ok (acc ++ items.map g) hs
  | [], acc, _, _ => by simp [mLcL]
  | x :: xs, acc, h, hl => by
    obtain ⟨ρ1, h1, h2, h3⟩ := h x List.mem_cons_self
    have hz : acc.length < sizeLine := Nat.lt_of_lt_of_le (by simp at hl; omega : acc.length < 16777216) (by decide)
    simp only [mLcL, h1, h2, h3, Out.bind0, if_pos, hz]
    rw [lcL_map xs (acc ++ [g x]) (fun y hy => h y (List.mem_cons_of_mem _ hy)) (by simp at hl ⊢; omega)]
    simp
/-- the law's bag -/
theorem bag_ok (ns : List Int) (hn : ns.length ≤ 63) : ∃ ms : List Int, ms.length ≤ 63 ∧ (∀ m ∈ ms, 0 ≤ m) ∧ f__law_bag [.d (.scr (ns.map .int))] [] = .ok (bagC 0 1234567891 0 ms) [] := by
  refine ⟨ns.map fun i => if i < 0 then -i else i, by simpa using hn, fun m hm => ?_, ?_⟩
  · obtain ⟨i, _, rfl⟩ := List.mem_map.mp hm
    split <;> omega
  · have e0 : cutL (ns.map D.int) none (some 63) = ns.map D.int := by
      unfold cutL
      rw [HT.sIx_none, show (63 : Int) = ((63 : Nat) : Int) from rfl, HT.sIx_nat, List.length_map, List.drop_zero, Nat.sub_zero]
      exact List.take_of_length_le (by rw [List.length_map]; omega)
    have e1 : (mLcE [1] (.nm 1) (mItL (mSl (mVar 0) mNo (mSo (mC (.int 63))))) mYes (mBf absF (mCons (mVar 1) mNil))) [some (.d (.scr (ns.map .int))), none] [] = .ok (.d (.lst ((ns.map fun i => if i < 0 then -i else i).map .int))) [] := by
      show ((mLcL (.nm 1) mYes (mBf absF (mCons (mVar 1) mNil)) [some (.d (.scr (ns.map .int))), none] (cutL (ns.map D.int) none (some 63)) [] []).bind fun xs hs1 => .ok (SV.d (.lst xs)) hs1) = _
      rw [e0, lcL_map (g := fun x => match x with | .int i => .int (if i < 0 then -i else i) | x => x) _ _ (fun x hx => ?_) (by simp; omega)]
      · simp [Out.bind, List.map_map, Function.comp_def]
      · obtain ⟨i, _, rfl⟩ := List.mem_map.mp hx
        exact ⟨_, rfl, rfl, rfl⟩
    have e2 : (mCons (mC (.int 0)) (mCons (mC (.int 1234567891)) (mCons (mC (.int 0)) (mCons (mLcE [1] (.nm 1) (mItL (mSl (mVar 0) mNo (mSo (mC (.int 63))))) mYes (mBf absF (mCons (mVar 1) mNil))) mNil)))) [some (.d (.scr (ns.map .int))), none] [] = .ok [.d (.int 0), .d (.int 1234567891), .d (.int 0), .d (.lst ((ns.map fun i => if i < 0 then -i else i).map .int))] [] := by
      simp only [mCons, e1, Out.bind, mC, mNil]
    show (match b__law_bag [some (.d (.scr (ns.map .int))), none] [] with
      | .rt d hs' => finishN 0 d hs'
      | .exc c ns ws _ hs' => .exc c ns ws (hs'.take 0)
      | _ => .bad : Out Cell) = _
    unfold b__law_bag mRetNewL
    rw [e2]
    rfl
end Py
end L2

set_option Elab.async false
set_option linter.all false
set_option maxRecDepth 100000
set_option maxHeartbeats 2000000
/-! An own exception's __init__ that says super().__init__(..) first. -/
namespace L2
namespace Py
open PySem PySem.Spec PyProof.Rows PySem.W NdefX
variable [Tl]

abbrev clsS : Str := "__class__"
/-- what the written part says of a class C over ValueError (through others) and of its __init__ at f -/
structure SupC (P : Program) (K : Frag) (C f : Addr) (F : NF) (doc pm ct : Value) (ps : List Str) : Prop where
  T : OexC K C
  lk : ∃ oc od osl, K.lookup f = some ⟨oc, od, .func (F.fd doc pm ct), osl⟩
  hcd : codeIn K (.ref F.c) F.qual = true
  S : NScope (ps ++ [clsS]) ps [clsS] F.scope
  hks : F.scope.names.lookup ("super" : Str) = some .globalImplicit
  self : ∃ ar qs, (F.params.posonlyargs ++ F.params.args).head? = some ar ∧ ps = ar.arg :: qs
  code : ∃ ccl cdd vs ccs file tf, K.lookup F.c = some ⟨ccl, cdd, .fields vs, ccs⟩ ∧ vs[2]? = some (.str file tf) ∧ ((P.main.file : Str) == file) = true
  htop : (P.main.scope.names.lookup ("super" : Str)).isSome = false
  cell : ∃ cc cl cld csl, F.cl = [(clsS, cc)] ∧ K.lookup cc = some ⟨cl, cld, .cell (some (.ref C)), csl⟩
  cls : ∃ cd, clsIn K C = some cd
  sub : mroIn K C (.ref C) = some true
  hsuper : nsIn K mainGlobals "super" = some none
  hm : ks_superIn K C C "__init__" = some (some (.builtin "ValueError.__init__"))
  hB : subIn K (.ref C) (.type "ValueError") = some true
  hop : nsIn K cStatics "thirdparty.any" = some none

section
variable {P : Program} {w : World} {K : Frag} {mg : Str → Option Value} {base : Heap} {C f : Addr} {F : NF} {doc pm ct : Value} {ps : List Str} {t : TS} {ta : TA} {k : Nat}
/-- what is called: the built-in's __init__, bound to the exception in the making -/
theorem call_mw {X : Cx} {pins : List (Addr × Obj)} {σ : St} {H : Hp} {s : Shared} {a C u : Addr} {us : List Value} {A : Around} {E : Value → Shared → Prop} {Q : Value → Shared → Prop} (T : OexC X.K C) (I : Inv X pins σ H s) (e : H a = some (exo a C none)) (hu : s.heap.get? u = some (kxs_mw "ValueError.__init__" a)) (hl : us.length ≤ sizeLine)
    (h : ∀ s', Inv X pins σ H s' → Q .none s') : wpAny (model X.prog X.w) A (call (.ref u) us) Q E s := by
  obtain ⟨nm, q, N, bs, bm, sn, sub, ab, col, dd, k0, k1, k2, k3, k5, hC, hbm⟩ := T.cls
  obtain ⟨t1, ho⟩ := exo_at I.hok e
  obtain ⟨hp, g, d, tk, os⟩ := s
  have FB := F.excBase_ValueError
  refine wpAny_call (codeAny_of_tree ?_)
  show wpAny _ A.in1 (callAny (.ref u) ⟨us, []⟩) _ _ _
  simp only [callAny]
  refine wpAny_bind (wpAny_load hu ?_)
  simp only [kxs_mw, show (Value.type "method-wrapper" == Value.type "method" || Value.type "method-wrapper" == Value.type "builtin_function_or_method" || Value.type "method-wrapper" == Value.type "method-wrapper") = true by decide, _root_.if_true]
  refine KFB.if_so (by decide) ?_
  refine wpAny_bind (check_bound_init FB.toExcCallFacts (I.kIn _ _ hC) ho rfl ?_)
  refine wpAny_bind (wpAny_pure (wpAny_pure ?_))
  refine ⟨plainId_quiet FB.init.plain _, codeAny_builtin FB.initEntry ?_⟩
  refine exc_init_tree (cls := .ref C) (t0 := t1) (dv := none) (c2 := .none) (c3 := .none) (b4 := .bool false) ho hl fun h' k hx _ => ?_
  have J := I.write (t' := tk) (x := a) (e := a) (o := exo a C none) (by rw [e]; exact True.intro) (.inl rfl) k ⟨_, hx⟩ (exo_ok hx)
  have eu : upd H a (exo a C none) = H := by
    funext b
    by_cases hb : b = a
    · rw [hb, upd_same, e]
    · rw [upd_ne hb]
  rw [eu] at J
  exact h _ J
/-- super().__init__(..) of a method whose object is an exception in the making -/
theorem sup_stmt {X : Cx} {σ : St} {H : Hp} {s : Shared} {a C f cda cc : Addr} {fd : FuncData} {oc ccl cl : Value} {od cdd cld : Option Addr} {osl ccs csl : Array (Option Value)} {ar : Arg} {vs : Array Value} {file : Str} {tf : Tok} {cd : ClassData} {m : Str → Option Value} {body : List Stmt} {ta : TA}
    {p0 p1 p2 p3 p4 : Pos} {e : Expr} {es : List Expr} {pl : Sem Bool} (T : OexC X.K C) (I : Inv X [] σ H s) (ea : H a = some (exo a C none)) (hk : X.env.scope.kind = .function)
    (hks : X.env.kindOf "super" = some .globalImplicit) (hkc : X.env.kindOf "__class__" = some .free) (hka : X.env.kindOf ar.arg = some .local) (hfu : X.env.func = some f) (hf : X.K.lookup f = some ⟨oc, od, .func fd, osl⟩) (hp : (fd.params.posonlyargs ++ fd.params.args).head? = some ar)
    (hco : X.env.code = .ref cda) (hcode : X.K.lookup cda = some ⟨ccl, cdd, .fields vs, ccs⟩) (hvs : vs[2]? = some (.str file tf)) (hfile : ((X.prog.main.file : Str) == file) = true) (htop : (X.prog.main.scope.names.lookup ("super" : Str)).isSome = false)
    (hns : s.heap.Ns X.env.locals m) (hm : m ar.arg = some (.ref a)) (hcl : X.env.cells.lookup clsS = some cc) (hcell : X.K.lookup cc = some ⟨cl, cld, .cell (some (.ref C)), csl⟩) (hD : clsIn X.K C = some cd) (hsub : mroIn X.K C (.ref C) = some true) (hsuper : X.mg "super" = none)
    (hal : ks_superIn X.K C C "__init__" = some (some (.builtin "ValueError.__init__"))) (hB : subIn X.K (.ref C) (.type "ValueError") = some true) (hop : nsIn X.K cStatics "thirdparty.any" = some none)
    (ha : PA X (e :: es) ta) (hta : ∀ R : List V → Hp → Prop, (∀ us : List V, us.length ≤ 1000 → R us H) → ta σ H R) (hi : interactive X.env = false)
    (hst : starEach (e :: es) X.env = (false, eval e X.env) :: starEach es X.env) (hpl : (backTo p3 (starEach es X.env)).any (·.1) = false)
    (hsw : swapsWith (.Call (.Attribute (.Call (.Name "super" p0) [] [] p1) "__init__" p2) (e :: es) [] p3) none p4.line X.env = pure false)
    (hev : eval (.Call (.Attribute (.Call (.Name "super" p0) [] [] p1) "__init__" p2) (e :: es) [] p3) X.env = (do
      let ov ← attributeBase (.Call (.Name "super" p0) [] [] p1) "__init__" X.env (eval (.Call (.Name "super" p0) [] [] p1) X.env)
      standAt p2.atName
      let (f, first) ← holding [ov] (getMethod ov "__init__" pl)
      callWith p3 f first (backTo p3 (starEach (e :: es) X.env)) [])) :
    _root_.PySem.wpAt (model X.prog X.w) X.A (.func body X.env) (exec (.Expr (.Call (.Attribute (.Call (.Name "super" p0) [] [] p1) "__init__" p2) (e :: es) [] p3) p4) X.env)
      (fun fl s' => fl = .next ∧ ∃ pins, Inv X pins σ H s') X.xe s := by
  have KX := I.kIn
  obtain ⟨mb, hmb, hbb⟩ := I.mod.blt
  refine ks_wpAt_Expr_any (ks_wpAt_MethodCall ?_ hev) hi hsw
  refine ks_wpAt_super_base hks hkc rfl hfu (KX _ _ hf) rfl hp hco (KX _ _ hcode) rfl hvs hfile htop ?_
  refine ks_loadName_global hk hks (PySem.Calls.loadGlobal_builtin (by rw [I.ok.glob]; exact I.mod.glob.keeps I.bk) hsuper (by rw [I.ok.blt]; exact hmb.keeps I.bk) (v := .type "super") ((hbb _ (by decide)).trans (by decide +kernel)) ⟨rfl, ?_⟩)
  refine wpAny_loadName_free hk hkc hcl ⟨_, KX _ _ hcell, rfl⟩ ?_
  refine wpAny_loadName_local hk hka hns hm ?_
  obtain ⟨oD, hD1, hD2⟩ : ∃ oD, s.heap.get? C = some oD ∧ oD.data = .cls cd := by
    unfold clsIn at hD
    split at hD
    · rename_i c d cd' sl ho
      cases hD
      exact ⟨_, KX _ _ ho, rfl⟩
    · cases hD
  refine ks_wpAny_isType_cls hD1 hD2 ⟨rfl, ?_⟩
  obtain ⟨t1, ho⟩ := exo_at I.hok ea
  have hne : a ≠ C := fun z => by
    rw [z, hD1] at ho
    have z2 := Option.some.inj ho
    rw [z2] at hD2
    cases hD2
  obtain ⟨hh, g, d, tk, os⟩ := s
  refine ks_wpAny_call_super hD1 hD2 ho rfl (fun c z => by cases z) (looks_mroIn KX hsub) (fun h2 e2 k2 => ?_)
  have I2 : Inv X [] σ H ⟨h2, g, d, tk, os⟩ := I.kept (t' := tk) k2
  have KX2 := I2.kIn
  have hI : Looks (model X.prog X.w) h2 (isInstance (.ref a) (.type "ValueError")) true := (show InstAt h2 a _ C none from ⟨k2 _ _ ho, rfl, rfl, trivial⟩).type.andThen (looks_subIn KX2 hB)
  unfold ks_superIn at hal
  rw [hD] at hal
  refine kxs_getMethod kxs_ValueError e2 (looks_opaque KX2 hop) (l₀ := cd.mro) (fun A Q E s k q => wpAny_bind ((looks_clsIn KX2 hD) A _ E s k (wpAny_pure q))) rfl KX2 hal hI hne rfl ?_
  -- the arguments
  have hu : (h2.push (kxs_mw "ValueError.__init__" a)).get? h2.objs.size = some (kxs_mw "ValueError.__init__" a) := Heap.get?_push_at rfl rfl
  have k3 : ∀ b o, h2.get? b = some o → (h2.push (kxs_mw "ValueError.__init__" a)).get? b = some o := fun b o e => Heap.get?_push_of_some _ e
  have I3 : Inv X [] σ H ⟨h2.push (kxs_mw "ValueError.__init__" a), g, d, tk + 1, os⟩ := I2.kept (t' := tk + 1) k3
  have I4 : Inv X [(h2.objs.size, kxs_mw "ValueError.__init__" a)] σ H ⟨h2.push (kxs_mw "ValueError.__init__" a), g, d, tk + 1, os⟩ := I3.pins_of fun p hp => by
    obtain rfl : p = (h2.objs.size, kxs_mw "ValueError.__init__" a) := by simpa using hp
    refine ⟨hu, I2.hok.fresh (Nat.le_refl _), fun z => ?_, fun z => ?_, fun v z => by cases z⟩
    · obtain ⟨m2, ⟨o, _, _, ho2, _⟩, _⟩ := I2.loc
      have := Heap.lt_size ho2
      rw [← z] at this
      exact absurd this (Nat.lt_irrefl _)
    · obtain ⟨_, o, ho2, _⟩ := I2.ok.funs.mem z
      obtain ⟨o', ho3⟩ := I2.base.there _ o ho2 fun z2 => I2.ok.exfs _ z2 z
      exact absurd (Heap.lt_size ho3) (Nat.lt_irrefl _)
  show wpAny (model X.prog X.w) X.A (callWith p3 (.ref h2.objs.size) [] (backTo p3 (starEach (e :: es) X.env)) []) _ _ _
  have hA : wpAny (model X.prog X.w) X.A (spliced (backTo p3 (starEach (e :: es) X.env))) (fun us s3 => KxsAt "ValueError.__init__" h2.objs.size a s3.heap ∧ wpAny (model X.prog X.w) X.A (call (.ref h2.objs.size) us) (fun _ s' => Flow.next = Flow.next ∧ ∃ pins, Inv X pins σ H s') X.xe s3) X.xe ⟨h2.push (kxs_mw "ValueError.__init__" a), g, d, tk + 1, os⟩ := by
    refine thn (ha.run p3 _ _ σ H _ I4 (hta (fun us H1 => us.length ≤ 1000 ∧ H1 = H) fun us hu => ⟨hu, rfl⟩)) fun us s3 hh => ?_
    obtain ⟨vs2, H1, I5, r5, hl5, rfl⟩ := hh
    have hu5 := (I5.pin (h2.objs.size, kxs_mw "ValueError.__init__" a) (by simp)).1
    refine ⟨hu5, ?_⟩
    have hlus : us.length ≤ sizeLine := by
      rw [← Paired.length r5, sizeLine_eq]
      omega
    exact call_mw T I5 ea hu5 hlus fun s' J => ⟨rfl, _, J⟩
  rw [hst] at hA ⊢
  refine kxs_callWith (i := "ValueError.__init__") (x := a) (by show (false || (backTo p3 (starEach es X.env)).any (·.1)) = false; rw [hpl]; rfl) ?_
  exact PySem.Calls.evalArgs_plain hA
theorem sup_fn (Z : SupC P K C f F doc pm ct ps) (mgs : mg "super" = none) {p0 p1 p2 p3 p4 : Pos} {e : Expr} {es : List Expr} {rest : List Stmt}
    (hbody : F.body = .Expr (.Call (.Attribute (.Call (.Name "super" p0) [] [] p1) "__init__" p2) (e :: es) [] p3) p4 :: rest)
    (hrest : ∀ (A : Around) (outer : List Env) (s : Shared) (H : Hp) (E : XK), PSs (ncx (L2.CX P w) P w K mg base (ps ++ [clsS]) F f A outer s H E) rest t)
    (hargs : ∀ (A : Around) (outer : List Env) (s : Shared) (H : Hp) (E : XK), PA (ncx (L2.CX P w) P w K mg base (ps ++ [clsS]) F f A outer s H E) (e :: es) ta)
    (hta : ∀ (a : Addr) (ws : List V) (H : Hp) (R : List V → Hp → Prop), ws.length + 1 = ps.length → R ws H → ta (startF (ps ++ [clsS]) (.ref a :: ws) [some (.ref C)]) H R)
    (hst : ∀ env : Env, starEach (e :: es) env = (false, eval e env) :: starEach es env) (hpl : ∀ env : Env, (backTo p3 (starEach es env)).any (·.1) = false)
    (hsw : ∀ env : Env, swapsWith (.Call (.Attribute (.Call (.Name "super" p0) [] [] p1) "__init__" p2) (e :: es) [] p3) none p4.line env = pure false)
    (hev : ∃ pl : Sem Bool, ∀ env : Env, eval (.Call (.Attribute (.Call (.Name "super" p0) [] [] p1) "__init__" p2) (e :: es) [] p3) env = (do
      let ov ← attributeBase (.Call (.Name "super" p0) [] [] p1) "__init__" env (eval (.Call (.Name "super" p0) [] [] p1) env)
      standAt p2.atName
      let (f, first) ← holding [ov] (getMethod ov "__init__" pl)
      callWith p3 f first (backTo p3 (starEach (e :: es) env)) [])) :
    FnOk P w K mg base (L2.CX P w) (k + 1) f (F.fd doc pm ct) ps
      (fun vs H Q E => ∃ a ws, vs = .ref a :: ws ∧ ws.length + 1 = ps.length ∧ ws.length ≤ 1000 ∧ H a = some (exo a C none) ∧ t { nx := fun _ H' => Q .non H', rt := Q } (startF (ps ++ [clsS]) vs [some (.ref C)]) H) := by
  obtain ⟨oc, od, osl, lk⟩ := Z.lk
  obtain ⟨ar, qs, har, hps⟩ := Z.self
  obtain ⟨ccl, cdd, cvs, ccs, file, tf, hcode, hvs, hfile⟩ := Z.code
  obtain ⟨cc, cl, cld, csl, hcl, hcell⟩ := Z.cell
  obtain ⟨cd, hD⟩ := Z.cls
  obtain ⟨pl, hev⟩ := hev
  refine ⟨fun vs H Q E ⟨a, ws, e, hl, _⟩ => by rw [e]; exact hl, fun A outer s H args us vs Q E hr e0 hb r hsp => ?_⟩
  obtain ⟨a, ws, rfl, hl, hz, ea, ht⟩ := hsp
  have there : ∀ b o, base.get? b = some o → s.heap.get? b = some o := fun b o e => (e0.bs b o e).1
  have KX : K.In s.heap := e0.mod.kin.keeps there
  refine ks_codeAny_call_defAt hr.depth (KX _ _ lk) rfl (e0.mod.nolimit.keeps there) (codeRec_of KX Z.hcd) rfl hb Z.S.nocell (fun y hy => Z.S.par y.1 (List.of_mem_zip (show (y.1, y.2) ∈ _ from hy)).1) (fun h₁ hns hk => ?_) Z.S.co Z.S.gen Z.S.kind
  have CA : CellsAt F.cl [clsS] [some (.ref C)] s.heap H := by
    rw [hcl]
    have one : ∀ {y c}, List.lookup y [(clsS, cc)] = some c → y = clsS ∧ c = cc := fun {y c} q => by
      simp only [List.lookup] at q
      split at q
      · rename_i e1
        cases q
        exact ⟨eq_of_beq e1, rfl⟩
      · cases q
    refine ⟨rfl, fun y c q => ?_, fun y z c q1 q2 => ?_, fun i y q => ?_⟩
    · obtain ⟨_, rfl⟩ := one q
      exact ⟨(e0.bs _ _ (e0.mod.kin _ _ hcell)).2, _, _, KX _ _ hcell, rfl⟩
    · exact (one q1).1.trans (one q2).1.symm
    · match i, q with
      | 0, q =>
        cases q
        exact ⟨cc, rfl, fun v q2 => by cases q2; exact ⟨.ref C, rfl, _, KX _ _ hcell, rfl⟩⟩
      | i + 1, q => simp at q
  have I : Inv (ncx (L2.CX P w) P w K mg base (ps ++ [clsS]) F f A outer s H E) [] (startF (ps ++ [clsS]) (.ref a :: ws) [some (.ref C)]) H { s with heap := h₁, toks := s.toks + (ps.zip us).length } :=
    inv_startN Z.S hr.hd e0 hl r CA hns hk
  have hm0 : (ps.zip us).reverse.lookup ar.arg = some (.ref a) := by
    cases r with
    | cons h t =>
      obtain rfl := h
      have nd : ps.Nodup := by
        have := Z.S.nd
        exact (List.nodup_append.mp this).1
      exact zip_look (i := 0) nd (by rw [hps]; rfl) rfl
  have hka : F.scope.names.lookup ar.arg = some .local := Z.S.par _ (by rw [hps]; exact List.mem_cons_self)
  have hkc : F.scope.names.lookup clsS = some .free := Z.S.frk _ List.mem_cons_self
  rw [hbody]
  refine ks_wpAt_execs_cons (ks_wpAt_mono (sup_stmt (X := ncx (L2.CX P w) P w K mg base (ps ++ [clsS]) F f A outer s H E) (σ := startF (ps ++ [clsS]) (.ref a :: ws) [some (.ref C)]) (H := H) (a := a) (C := C) (f := f) (cda := F.c) (cc := cc) (pl := pl) Z.T I ea Z.S.kind Z.hks hkc hka rfl lk har rfl hcode hvs hfile Z.htop hns hm0 (by show List.lookup clsS F.cl = some cc; rw [hcl]; rfl) hcell hD Z.sub mgs Z.hm Z.hB Z.hop
    (hargs A outer s H E) (fun R h => hta a ws H R hl (h ws hz)) (by unfold interactive; rw [show (ncx (L2.CX P w) P w K mg base (ps ++ [clsS]) F f A outer s H E).env.scope.kind = .function from Z.S.kind]; rfl) (hst _) (hpl _) (hsw _) (hev _)) (fun fl s' hh => ?_) fun e s' z => z)
  obtain ⟨rfl, pins, J⟩ := hh
  refine wpAt_of_wpAny (wpAny_mono ((hrest A outer s H E).run pins s' _ H _ J ht) (fun fl s'' z => ?_) fun e s'' z => z)
  cases fl with
  | ret u => obtain ⟨v, σ', H', J, rv, q⟩ := z; exact ⟨v, H', J.os, J.bare, J.base, J.hok, rv, q⟩
  | next => obtain ⟨σ', H', J, q⟩ := z; exact ⟨.non, H', J.os, J.bare, J.base, J.hok, rfl, q⟩
  | brk => obtain ⟨_, _, _, q⟩ := z; exact q.elim
  | cont => obtain ⟨_, _, _, q⟩ := z; exact q.elim
end
end Py
end L2

set_option Elab.async false
set_option linter.all false
set_option maxRecDepth 100000
set_option maxHeartbeats 2000000
/-! Own exceptions held as values. -/
namespace L2
namespace Py
open PySem PySem.Spec PyProof.Rows
variable [Tl]

/-- at a: an exception of the class at C with these fields -/
def ExAt (H : Hp) (a C : Addr) (fs : List (Str × V)) : Prop := (fs = [] ∧ H a = some (ExO (.ref C) a)) ∨ ∃ d, H a = some (exo a C (some d)) ∧ H d = some (exd d fs)
section
variable {X : Cx} {p pos : Pos} {x : Str} {e : Expr} {es : List Expr} {ta : TA} {C fI : Addr} {k : Nat} {fd : FuncData} {ps : List Str} {sp : Sp}
/-- C(e, ..) as a value, C's own __init__ keeping sp -/
theorem pe_oexV (T : OexC X.K C) (iC : PySem.W.findIn X.K (.ref C) "__init__" = some (some (.ref fI))) (tI : PySem.W.typeIn X.K (.ref fI) = some (.type "function"))
    (F1 : FnOk X.prog X.w X.K X.mg X.base (L2.CX X.prog X.w) k fI fd ps sp) (hr : Room (k + 1) X.A) (hb : Binds X.K fd ps []) (hg : Gl X x) (hm : X.mg x = some (.ref C)) (ha : PA X (e :: es) ta)
    (hdb : (x == ("__debug__" : Str)) = false := by decide) (he : starEach (e :: es) X.env = (false, eval e X.env) :: starEach es X.env := by rfl) (hpl : (backTo pos (starEach es X.env)).any (·.1) = false := by rfl) :
    PE X (.Call (.Name x p) (e :: es) [] pos) (fun σ H Q => ta σ H fun vs H1 => vs.length ≤ 1000 ∧ ∀ a, H1 a = none → sp (.ref a :: vs) (upd H1 a (exo a C none)) (fun v H2 => v = .non ∧ Q (.ref a) H2) (fun _ _ _ => False)) := by
  refine ⟨fun pins s σ H Q I h => ?_⟩
  obtain ⟨nm, q, N, bs, bm, sn, sub, ab, col, dd, k0, k1, k2, k3, k5, hC, hbm⟩ := T.cls
  refine wpAny_Call_Name_kw (ld_glob I hg hm ?_ hdb)
  refine PySem.W.callWith_K (h₀ := X.base) I.ok.mod.kin T.kC (thn (ha.run pos pins s σ H _ I h) fun us s1 ⟨vs, H1, I1, r1, hz, q1⟩ => ⟨I1.kIn, ?_⟩) he hpl
  show wpAny _ _ (call (.ref C) us) _ _ _
  obtain ⟨hp, g, dr, tk, os⟩ := s1
  have hsz : hp.objs.size ≤ hp.objs.size + 1 := Nat.le_succ _
  have hq := q1 (hp.objs.size + 1) (I1.hok.fresh hsz)
  have kk : ∀ b o, hp.get? b = some o → ((hp.push (PySem.W.kdv_tup us)).push (PySem.HandSPX.excO C hp.objs.size)).get? b = some o := fun b o e => Heap.get?_push_of_some _ (Heap.get?_push_of_some _ e)
  have hget : ((hp.push (PySem.W.kdv_tup us)).push (PySem.HandSPX.excO C hp.objs.size)).get? (hp.objs.size + 1) = some (PySem.HandSPX.excO C hp.objs.size) := by heap_get
  have I2 : Inv X pins σ (upd H1 (hp.objs.size + 1) (exo (hp.objs.size + 1) C none)) ⟨(hp.push (PySem.W.kdv_tup us)).push (PySem.HandSPX.excO C hp.objs.size), g, dr, tk, os⟩ :=
    I1.laid (t' := tk) (a := hp.objs.size + 1) (o := exo (hp.objs.size + 1) C none) (h' := (hp.push (PySem.W.kdv_tup us)).push (PySem.HandSPX.excO C hp.objs.size)) kk hsz (exo_ok hget)
  have r2 : Vals (V.ref (hp.objs.size + 1) :: vs) (Value.ref (hp.objs.size + 1) :: us) := .cons rfl r1
  have hl : (Value.ref (hp.objs.size + 1) :: us ++ []).length = ps.length := by
    have e := r2.length
    rw [F1.len _ _ _ _ hq] at e
    simpa using e.symm
  have hus : us.length ≤ sizeLine := by
    rw [← Paired.length r1, sizeLine_eq]
    omega
  have hbb := hb ⟨(hp.push (PySem.W.kdv_tup us)).push (PySem.HandSPX.excO C hp.objs.size), g, dr, tk, os⟩ (Value.ref (hp.objs.size + 1) :: us) I2.kIn hl
  rw [List.append_nil] at hbb
  refine wpAny_call (PySem.HandSPX.call_own F.excBase_ValueError (fun Y => PySem.HandSPX.refsVE_contains Y bm hbm) (I1.kIn _ _ hC) (PySem.W.looks_findIn I1.kIn iC) (fun self => PySem.W.bind_fn I1.kIn self tI) hus
    (codeAny_mono (F1.run _ X.stack _ _ ⟨Value.ref (hp.objs.size + 1) :: us, []⟩ (Value.ref (hp.objs.size + 1) :: us) _ _ (fun _ _ _ => False) (hr.make C us []) (I2.env0.make C us []) hbb r2 hq) fun r s' hq' => ?_))
  match r, hq' with
  | .error er, hq' =>
    obtain ⟨_, _, _, _, _, _, _, _, _, _, _, z⟩ := hq'
    exact z.2.elim
  | .ok (.ret u), hq' =>
    obtain ⟨v, H2, os2, bare2, un2, hok2, rv, rfl, q2⟩ := hq'
    obtain ⟨h2, g2, d2, t2, os'⟩ := s'
    exact ⟨rv, .ref (hp.objs.size + 1), H2, I2.call' (ch := []) os2 un2 hok2 bare2 (fun b z => absurd z (by simp)), rfl, q2⟩
  | .ok .next, hq' => exact False.elim hq'
  | .ok .brk, hq' => exact False.elim hq'
  | .ok .cont, hq' => exact False.elim hq'
/-- C() as a value, no __init__ of the program's -/
theorem pe_oex0 {bmB : List Value} {B newId initId : String} (FB : ExcBaseFacts B newId initId bmB) (q : PySem.W.excIn X.K C bmB newId = true) (gC : X.mg x = some (.ref C)) (kC : PySem.W.keepIn X.K (.ref C) = true) (hg : Gl X x) (hdb : (x == ("__debug__" : Str)) = false := by decide) :
    PE X (.Call (.Name x p) [] [] pos) (fun σ H Q => ∀ a, H a = none → Q (.ref a) (upd H a (ExO (.ref C) a))) := by
  refine ⟨fun pins s σ H Q I h => ?_⟩
  refine wpAny_Call_Name_kw (ld_glob I hg gC ?_ hdb)
  refine PySem.W.callWith_K0 I.kIn kC ?_
  obtain ⟨bm, N, nm, qn, bs, hdct, sn, sub, ab, col, dd, k0, k1, k2, k3, k5, mN, hC, hN, hni, T⟩ := exc_obj I.kIn q
  refine wpAny_call_exc_subT FB T hC hN hni (fun h' a hm => ?_) (by show 0 ≤ sizeLine; rw [sizeLine_eq]; omega)
  have hn : H a = none := I.hok.gone hm.new
  obtain ⟨t, ht, _, _⟩ := hm.there
  exact ⟨.ref a, upd H a (ExO (.ref C) a), I.laidN hm.keeps hm.new hn (exO_ok ht ⟨rfl, rfl⟩ rfl rfl rfl (show 4 < 6 by decide)), rfl, h a hn⟩
end

section
variable {X : Cx} {C : Addr} {n : Str} {e : Expr} {te : TE} {pos : Pos}
/-- e.n of an exception held -/
theorem pe_fld (T : XfC X.K C) (hno : PySem.W.findIn X.K (.ref C) n = some none) (he : PE X e te) (hb : attributeBase e n X.env (eval e X.env) = eval e X.env := by rfl) :
    PE X (.Attribute e n pos) (fun σ H Q => te σ H fun x H1 => ∃ a d fs v, x = .ref a ∧ H1 a = some (exo a C (some d)) ∧ H1 d = some (exd d fs) ∧ fs.lookup n = some v ∧ Q v H1) := by
  refine ⟨fun pins s σ H Q I h => ?_⟩
  refine attr_of hb (thn (he.run pins s σ H _ I h) fun u s1 hh => ?_)
  obtain ⟨x, H1, I1, rx, a, d, fs, v, ex, ea, ed, l, q⟩ := hh
  subst ex
  obtain rfl : u = Value.ref a := rx
  obtain ⟨t1, ho⟩ := exo_at I1.hok ea
  obtain ⟨mA, hns, hr⟩ := exd_at I1.hok ed
  obtain ⟨od, ho2, hl⟩ := lookIn_ns hns
  obtain ⟨u, hu, ru⟩ := RelO.some_of (v := v) (o := mA n) (by rw [← l]; exact hr n)
  have J : PySem.W.InstAt s1.heap a _ C (some od) := ⟨ho, rfl, rfl, ho2⟩
  exact HandSPX.exc_get I1.kIn J T.ga T.gg T.exC (PySem.W.findObj_own T.hdC hno rfl (by rw [hl, hu])) (handed_of ru) ⟨v, H1, I1.tok _, ru, q⟩
/-- isinstance(e, c) of an exception held -/
def rIsX (K : PySem.W.Frag) : List V → Hp → VK → Prop := fun xs H Q => ∃ (a C : Addr) (fs : List (Str × V)) (c : V) (cv : Value) (b : Bool), xs = [.ref a, c] ∧ ExAt H a C fs ∧ ExcC K C ∧ (∀ u, RelV c u → u = cv) ∧ PySem.W.kitOne K (.ref C) cv = some b ∧ Q (.bl b) H
theorem exAt_inst {pins : List (Addr × Obj)} {σ : St} {H : Hp} {s : Shared} {a : Addr} {fs : List (Str × V)} (I : Inv X pins σ H s) (h : ExAt H a C fs) : ∃ ox od, PySem.W.InstAt s.heap a ox C od := by
  rcases h with ⟨_, h⟩ | ⟨d, h1, h2⟩
  · obtain ⟨⟨oe, vs, ho, ⟨hz1, hz2⟩, hd, _⟩, _, _⟩ := I.hok a _ h
    refine ⟨oe, none, ho, hz1, by unfold PySem.W.notCls; rw [hd] <;> rfl, by rw [hz2]; trivial⟩
  · obtain ⟨t1, ho⟩ := exo_at I.hok h1
    obtain ⟨mA, hns, hr⟩ := exd_at I.hok h2
    obtain ⟨od, ho2, hl⟩ := lookIn_ns hns
    exact ⟨_, some od, ho, rfl, rfl, ho2⟩
theorem call_isX : CallR X (.builtin "isinstance") (rIsX X.K) := by
  intro pins s σ H xs us Q I r h
  obtain ⟨a, C, fs, c, cv, b, rfl, ea, T, hcv, e, q⟩ := h
  cases r with
  | cons rx rr =>
    cases rr with
    | cons rt rr =>
      cases rr
      cases rx
      have ec := hcv _ rt
      subst ec
      obtain ⟨ox, od, J⟩ := exAt_inst I ea
      obtain ⟨cd, hcd, _⟩ := PySem.W.any_some T.hd
      exact PySem.W.kia_one (PySem.W.kitx_exc (by rw [hcd]; rfl) T.hg T.hk T.hs T.ha T.hn T.ht T.hm) I.kIn J e (fun z => nomatch z) fun tk => ⟨.bl b, H, I.kept (t' := tk) fun _ _ z => z, rfl, q⟩
end
end Py
end L2
namespace L2
namespace Py
section
open PySem PySem.Calls PyProof.Rows Builtin Builtin.ObjectAttr Builtin.Getset_descriptor PySem.W
variable {prog : Program} {w : World} {A : Around} {E : Value → Shared → Prop} {s : Shared} {K : Frag} {C : Addr} {R : Result → Shared → Prop}
theorem dga_ref (d tp : Value) (C : Addr) : descrGetArgs ⟨[d, .ref C, tp], []⟩ = pure (d, some (.ref C), given tp) := by kernel_rfl
theorem cname_get {tp : Value} {o : Obj} {nm : Str} {tk : Tok} (X : K.In s.heap) (ht : typeIn K (.ref C) = some (.type "type")) (lC : K.lookup C = some o) (hs : (o.slots[2]?).join = some (.str nm tk)) (h : R (.ok (.ret (.str nm tk))) s) :
    codeAny (model prog w) A (.call (.builtin "getset_descriptor.__get__") ⟨[.builtin "type.__name__", .ref C, tp], []⟩) R s := by
  obtain ⟨hh, g, dr, t, os⟩ := s
  have L0 : Looks (model prog w) hh (typeOf (.ref C)) (.type "type") := looks_typeIn X ht
  have L1 : Looks (model prog w) hh (isSubtype (.type "type") (.type "type")) true := Looks.of_pure (by rw [isSubtype_type]; kernel_rfl)
  refine codeAny_call_builtin KF.slot_gs.plain KF.entry_gs (KF.slot_gs.check _ _ _ _ _ _ _ _ ktyn_type (KF.args_gs _ _ _) ?_)
  unfold Builtin.«getset_descriptor.__get__» descrGet
  rw [dga_ref]
  refine wpAny_bind (wpAny_pure ?_)
  unfold descrGetter descrCheckInstance descrNameAndClass isInstance
  simp only [ktyn_owner]
  repeat lk
  refine ⟨Code.quiet_builtin _ (by decide +kernel), codeAny_builtin ktyn_entry ?_⟩
  unfold Builtin.«type.__name__»
  dsimp only
  unfold keptObject PySem.slotAt
  refine wpAny_bind (wpAny_bind (wpAny_loadPart (X _ _ lC) (wpAny_pure ?_)))
  rw [hs]
  exact wpAny_pure h
theorem exc_class {x : Addr} {ox : Obj} {od : Option Obj} {expr : Bool} {Q : Value → Shared → Prop} {gt : Option Value} (X : K.In s.heap) (I : InstAt s.heap x ox C od) (hga : findIn K (.ref C) "__getattribute__" = some (some (.builtin "BaseException.__getattribute__"))) (hgt : findIn K (.ref C) "__getattr__" = some gt)
    (hsub : subIn K (.ref C) (.type "BaseException") = some true) (hf : findObj K C od "__class__" = some (.bind (.builtin "getset_descriptor.__get__") (.builtin "object.__class__"))) (hm : mroIn K C (.type "object") = some true)
    (h : Q (.ref C) { s with toks := s.toks + 1 }) : wpAny (model prog w) A (getAttr (.ref x) "__class__" expr) Q E s := by
  obtain ⟨hp, g, d, t, os⟩ := s
  have L0 := I.type (M := model prog w)
  have L1 := looks_findIn (M := model prog w) X hga
  have L2 := looks_findIn (M := model prog w) X hgt
  have L3 := looks_find (M := model prog w) X I hf
  have sub : Looks (model prog w) hp (isInstance (.ref x) (.type "BaseException")) true := L0.andThen (looks_subIn X hsub)
  have hx0 : (expr && onTheHeap (Value.builtin "BaseException.__getattribute__")) = false := by cases expr <;> rfl
  have hx2 : (Value.builtin "BaseException.__getattribute__" == Value.builtin "object.__getattribute__") = false := by decide +kernel
  have hx1 : (onTheHeap (Value.ref C) && Value.builtin "BaseException.__getattribute__" == Value.builtin "object.__getattribute__") = false := by rw [hx2]; rfl
  unfold getAttr getAttrBy
  refine wpAny_bind (wpAny_mkText (wpAny_holding (wpAny_bind (L0.at (wpAny_bind (L1.at ?_))))))
  show wpAny _ _ (if (onTheHeap (Value.ref C) && Value.builtin "BaseException.__getattribute__" == Value.builtin "object.__getattribute__") = true then _ else _) _ _ _
  rw [hx1, if_neg Bool.false_ne_true]
  unfold getAttrByItsOwn hookBefore
  refine wpAny_bind ?_
  rw [if_pos (show onTheHeap (Value.ref C) = true from rfl)]
  refine L2.at ?_
  refine wpAny_bind (wpAny_attempt (wpAny_holding ?_))
  unfold callGetattribute
  rw [hx0, if_neg Bool.false_ne_true]
  unfold boundAndCalled
  rw [PySem.F.excAttr_ValueError.ga.bind (.ref x)]
  refine wpAny_bind (wpAny_pure ?_)
  show wpAny _ _ (call (.builtin "BaseException.__getattribute__") [.ref x, .str "__class__" t]) _ _ _
  refine wpAny_call (codeAny_call_builtin PySem.F.excAttr_ValueError.ga.plain PySem.F.entry_bexc_ga ?_)
  refine @PySem.W.check_slot (model prog w) _ _ ⟨hp, g, d, t + 1, os⟩ "BaseException.__getattribute__" "BaseException" "__getattribute__" (.ref x) [.str "__class__" t] [] _ (by decide +kernel) (by decide +kernel) sub (PySem.F.args_bexc_ga (.ref x) (.str "__class__" t)) ?_
  unfold Builtin.«object.__getattribute__»
  refine wpAny_bind (wpAny_of_eq (a := ((Value.ref x : Value), [Value.str "__class__" t])) (by first | rfl | (simp only [slotArgs]; rfl)) ?_)
  refine wpAny_bind (wpAny_pure (wpAny_bind (L0.at (wpAny_bind (L3.at ?_)))))
  refine wpAny_bind (wpAny_holding (wpAny_call (class_get (s := ⟨hp, g, d, t + 1, os⟩) (ox := ox) (od := od) X I hm ?_)))
  refine wpAny_pure ?_
  show wpAny _ _ (handedOut (.ref C)) _ _ _
  rw [handedOut_of (show handedIn (.ref C) = true from rfl)]
  first | exact wpAny_pure h | exact wpAny_pure (wpAny_pure h)
theorem cls_name {o : Obj} {nm : Str} {tk : Tok} {expr : Bool} {Q : Value → Shared → Prop} (X : K.In s.heap) (ht : typeIn K (.ref C) = some (.type "type")) (lC : K.lookup C = some o) (hs : (o.slots[2]?).join = some (.str nm tk)) (hop : nsIn K cStatics "thirdparty.any" = some none)
    (e : findCls K (.ref C) (.type "type") "__name__" = some (.get (.builtin "getset_descriptor.__get__") (.builtin "type.__name__") (.ref C) (.type "type"))) (h : ∀ u, Q (.str nm tk) { s with toks := u }) :
    wpAny (model prog w) A (getAttr (.ref C) "__name__" expr) Q E s := by
  refine cls_open X (looks_opaque X hop) (looks_typeIn X ht) type_tga (looks_hook X (r := none) (by rfl)) (by show subIn K _ _ = _; rfl) e ?_
  show wpAny _ _ (do ret (← holding [Value.builtin "type.__name__"] (call (.builtin "getset_descriptor.__get__") [.builtin "type.__name__", .ref C, .type "type"]))) _ _ _
  refine wpAny_bind (wpAny_holding (wpAny_call (cname_get (s := { s with toks := s.toks + 1 }) X ht lC hs ?_)))
  exact wpAny_pure (handed_on rfl (h _))
end
end Py
end L2

set_option Elab.async false
set_option linter.all false
set_option maxRecDepth 100000
set_option maxHeartbeats 2000000
/-! Own exceptions held as values: the rules. -/
namespace L2
namespace Py
open PySem PySem.Spec PyProof.Rows
variable [Tl]

/-- the class at C tells its name -/
structure NameC (K : PySem.W.Frag) (C : Addr) (nm : Str) : Prop where
  ty : PySem.W.typeIn K (.ref C) = some (.type "type")
  sl : ∃ o tk, K.lookup C = some o ∧ (o.slots[2]?).join = some (.str nm tk)
  op : PySem.W.nsIn K cStatics "thirdparty.any" = some none
  fc : PySem.W.findCls K (.ref C) (.type "type") "__name__" = some (.get (.builtin "getset_descriptor.__get__") (.builtin "type.__name__") (.ref C) (.type "type"))
section
variable {X : Cx} {C : Addr} {n : Str} {e : Expr} {te : TE} {pos : Pos}
theorem pe_cls (he : PE X e te) (hb : attributeBase e "__class__" X.env (eval e X.env) = eval e X.env := by rfl) :
    PE X (.Attribute e "__class__" pos) (fun σ H Q => te σ H fun x H1 => ∃ a C fs, x = .ref a ∧ ExAt H1 a C fs ∧ ExcC X.K C ∧ Q (.ref C) H1) := by
  refine ⟨fun pins s σ H Q I h => ?_⟩
  refine attr_of hb (thn (he.run pins s σ H _ I h) fun u s1 hh => ?_)
  obtain ⟨x, H1, I1, rx, a, C, fs, rfl, ea, T, q⟩ := hh
  obtain rfl : u = Value.ref a := rx
  obtain ⟨ox, od, J⟩ := exAt_inst I1 ea
  obtain ⟨cd, hcd, _⟩ := PySem.W.any_some T.hd
  have hc : (PySem.W.clsIn X.K C).isSome = true := by rw [hcd]; rfl
  have hf : PySem.W.findObj X.K C od "__class__" = some (.bind (.builtin "getset_descriptor.__get__") (.builtin "object.__class__")) := by
    cases od with
    | none => exact PySem.W.findObj_dataN hc T.ha T.hn T.ht
    | some o => exact PySem.W.findObj_data hc T.ha T.hn T.ht
  exact exc_class I1.kIn J T.hg T.hk T.hs hf T.hm ⟨.ref C, H1, I1.tok _, rfl, q⟩
theorem pe_cname (he : PE X e te) (hb : attributeBase e "__name__" X.env (eval e X.env) = eval e X.env := by rfl) :
    PE X (.Attribute e "__name__" pos) (fun σ H Q => te σ H fun x H1 => ∃ C nm, x = .ref C ∧ NameC X.K C nm ∧ Q (.str nm) H1) := by
  refine ⟨fun pins s σ H Q I h => ?_⟩
  refine attr_of hb (thn (he.run pins s σ H _ I h) fun u s1 hh => ?_)
  obtain ⟨x, H1, I1, rx, C, nm, rfl, T, q⟩ := hh
  obtain rfl : u = Value.ref C := rx
  obtain ⟨o, tk, lC, hs⟩ := T.sl
  exact cls_name I1.kIn T.ty lC hs T.op T.fc fun u => ⟨.str nm, H1, I1.tok u, ⟨tk, rfl⟩, q⟩
/-- e.n(), n a def of a class above the exception's -/
structure MethC (K : PySem.W.Frag) (C : Addr) (n : Str) (f : Addr) : Prop where
  ga : PySem.W.findIn K (.ref C) "__getattribute__" = some (some (.builtin "BaseException.__getattribute__"))
  gn : PySem.W.findIn K (.ref C) "__getattr__" = some none
  hf : PySem.W.findIn K (.ref C) n = some (some (.ref f))
  ht : PySem.W.isFn K (.ref f) = true
theorem pe_xmeth {k : Nat} {f : Addr} {fd : FuncData} {ps : List Str} {sp : Sp} {pl : Sem Bool} {apos : Pos} (F : FnOk X.prog X.w X.K X.mg X.base (L2.CX X.prog X.w) k f fd ps sp) (hr : Room k X.A) (hb : Binds X.K fd ps []) (kF : PySem.W.keepIn X.K (.ref f) = true) (he : PE X e te)
    (hev : eval (.Call (.Attribute e n apos) [] [] pos) X.env = (do
      let ov ← eval e X.env
      standAt apos.atName
      let (f, first) ← holding [ov] (getMethod ov n pl)
      callWith pos f first (backTo pos (starEach [] X.env)) (backToKw pos (keywordEach [] X.env))) := by rfl) :
    PE X (.Call (.Attribute e n apos) [] [] pos) (fun σ H Q => te σ H fun x H1 => ∃ a C fs, x = .ref a ∧ ExAt H1 a C fs ∧ MethC X.K C n f ∧ fs.lookup n = none ∧ sp [.ref a] H1 Q (fun _ _ _ => False)) := by
  refine ⟨fun pins s σ H Q I h => ?_⟩
  refine PySem.W.methodCall_KW (thn (he.run pins s σ H _ I h) fun u s1 hh => ?_) hev
  obtain ⟨x, H1, I1, rx, a, C, fs, rfl, ea, T, hl, q⟩ := hh
  obtain rfl : u = Value.ref a := rx
  obtain ⟨m, fr⟩ := I1.fr
  have go : ∀ od, PySem.W.shadowIn od n = some false → ∀ ox, PySem.W.InstAt s1.heap a ox C od → wpAny (model X.prog X.w) X.A (getMethod (.ref a) n pl) (fun fx s₂ => wpAny (model X.prog X.w) X.A (callWith pos fx.1 fx.2 (backTo pos (starEach [] X.env)) (backToKw pos (keywordEach [] X.env))) (EP X pins σ Q) X.xe s₂) X.xe s1 := fun od hs ox J => by
    refine PySem.W.method_exc fr I1.ok.mod.kin J T.ga T.gn T.hf T.ht hs ?_
    show wpAny _ _ (callWith pos (.ref f) [.ref a] (backTo pos (starEach [] X.env)) []) _ _ _
    refine PySem.W.callWith_K0 I1.kIn kF ?_
    show wpAny _ _ (call (.ref f) [.ref a]) _ _ _
    have q' : sp ([.ref a] ++ []) H1 Q (fun _ _ _ => False) := q
    exact run_fn (ds := []) (dvs := []) (E := fun _ _ _ => False) F hr hb .nil (fun pins σ H s e s' I z => by
      obtain ⟨_, _, _, _, _, _, _, _, _, _, _, z⟩ := z
      exact z.2.elim) I1 (show Vals [V.ref a] [Value.ref a] from .cons rfl .nil) q'
  rcases ea with ⟨rfl, h1⟩ | ⟨d, h1, h2⟩
  · obtain ⟨⟨oe, vs, ho, ⟨hz1, hz2⟩, hd, _⟩, _, _⟩ := I1.hok a _ h1
    exact go none rfl oe ⟨ho, hz1, by unfold PySem.W.notCls; rw [hd] <;> rfl, by rw [hz2]; trivial⟩
  · obtain ⟨t1, ho⟩ := exo_at I1.hok h1
    obtain ⟨mA, hns, hrel⟩ := exd_at I1.hok h2
    obtain ⟨od, ho2, hlk⟩ := lookIn_ns hns
    refine go (some od) ?_ _ ⟨ho, rfl, rfl, ho2⟩
    have hm : mA n = none := by
      have := hrel n
      rw [hl] at this
      cases e : mA n with
      | none => rfl
      | some u => rw [e] at this; exact this.elim
    show (PySem.W.lookIn n od).map (·.isSome) = some false
    rw [hlk, hm]
    rfl
end
/-- what class_name keeps -/
def spCN (K : PySem.W.Frag) : Sp := fun vs H Q _ => ∃ a C fs nm, vs = [.ref a] ∧ ExAt H a C fs ∧ ExcC K C ∧ NameC K C nm ∧ nm.length ≤ sizeLine ∧ Q (.str nm) H
end Py
end L2

set_option Elab.async false
set_option linter.all false
set_option maxRecDepth 100000
set_option maxHeartbeats 2000000
/-! Own exceptions of one and two fields: made as values. -/
namespace L2
namespace Py
open PySem PySem.Spec PyProof.Rows NdefX
variable [Tl]

/-- what is tracked stays -/
def Sm (H H' : Hp) : Prop := ∀ b x, H b = some x → H' b = some x
theorem Sm.refl {H : Hp} : Sm H H := fun _ _ e => e
theorem Sm.trans {H H1 H2 : Hp} (a : Sm H H1) (b : Sm H1 H2) : Sm H H2 := fun x o e => b x o (a x o e)
theorem Sm.upd {H H1 : Hp} {p : Addr} {o : HO} (a : Sm H H1) (h : H p = none) : Sm H (upd H1 p o) := fun b x e => by
  rw [upd_ne (ne_of_none e h)]
  exact a b x e
theorem Sm.new {H : Hp} {p : Addr} {o : HO} (h : H p = none) : Sm H (L2.upd H p o) := Sm.upd Sm.refl h
theorem Sm.none {H H1 : Hp} {p : Addr} (a : Sm H H1) (h : H1 p = none) : H p = none := by
  cases e : H p with
  | none => rfl
  | some x => rw [a p x e] at h; cases h
theorem ExAt.sm {H H1 : Hp} {a C : Addr} {fs : List (Str × V)} (h : ExAt H a C fs) (s : Sm H H1) : ExAt H1 a C fs := by
  rcases h with ⟨h1, h2⟩ | ⟨d, h1, h2⟩
  · exact .inl ⟨h1, s _ _ h2⟩
  · exact .inr ⟨d, s _ _ h1, s _ _ h2⟩

/-- the class at C has an __init__ at f whose fd this is -/
structure IniC (P : Program) (K : PySem.W.Frag) (C f : Addr) (F : NF) (doc pm ct : Value) (ps : List Str) : Prop where
  Z : SupC P K C f F doc pm ct ps
  iC : PySem.W.findIn K (.ref C) "__init__" = some (some (.ref f))
  tI : PySem.W.typeIn K (.ref f) = some (.type "function")
  b : Binds K (F.fd doc pm ct) ps []
section
variable {P : Program} {w : World} {K : PySem.W.Frag} {mg : Str → Option Value} {base : Heap} {C f : Addr} {F : NF} {doc pm ct : Value} {k : Nat} {f1 f2 : Str}
def spI2 (C : Addr) (f1 f2 : Str) : Sp := fun vs H Q _ => ∃ a v1 v2, vs = [.ref a, v1, v2] ∧ H a = some (exo a C none) ∧ ∀ d, H d = none → d ≠ a → Q .non (upd (upd (upd H d (exd d [(f1, v1)])) a (exo a C (some d))) d (exd d [(f2, v2), (f1, v1)]))
def spI1 (C : Addr) (f1 : Str) : Sp := fun vs H Q _ => ∃ a v1, vs = [.ref a, v1] ∧ H a = some (exo a C none) ∧ ∀ d, H d = none → d ≠ a → Q .non (upd (upd H d (exd d [(f1, v1)])) a (exo a C (some d)))
theorem init2 {p1 p2 : Str} (Z : SupC P K C f F doc pm ct ["self", p1, p2]) (mgs : mg "super" = none) (n1 : PySem.W.findIn K (.ref C) f1 = some none) (n2 : PySem.W.findIn K (.ref C) f2 = some none)
    {q0 q1 q2 q3 q4 q5 q6 r1 r2 r3 r4 r5 r6 r7 r8 : Pos}
    (hbody : F.body = [.Expr (.Call (.Attribute (.Call (.Name "super" q0) [] [] q1) "__init__" q2) [.Name p1 q5, .Name p2 q6] [] q3) q4, .Assign [.Attribute (.Name "self" r1) f1 r2] (.Name p1 r3) r4, .Assign [.Attribute (.Name "self" r5) f2 r6] (.Name p2 r7) r8])
    (hd1 : (p1 == ("__debug__" : Str)) = false) (hd2 : (p2 == ("__debug__" : Str)) = false) (hc1 : (p1 == ("__classdict__" : Str)) = false) (hc2 : (p2 == ("__classdict__" : Str)) = false)
    (hst : ∀ env : Env, starEach [.Name p1 q5, .Name p2 q6] env = (false, eval (.Name p1 q5) env) :: starEach [.Name p2 q6] env) (hst2 : ∀ env : Env, starEach [.Name p2 q6] env = (false, eval (.Name p2 q6) env) :: starEach [] env) (hpl : ∀ env : Env, (backTo q3 (starEach [.Name p2 q6] env)).any (·.1) = false)
    (hsw : ∀ env : Env, swapsWith (.Call (.Attribute (.Call (.Name "super" q0) [] [] q1) "__init__" q2) [.Name p1 q5, .Name p2 q6] [] q3) none q4.line env = pure false)
    (hsw1 : ∀ env : Env, swapsWith (.Name p1 r3) (some (.Attribute (.Name "self" r1) f1 r2)) r4.line env = pure false) (hsw2 : ∀ env : Env, swapsWith (.Name p2 r7) (some (.Attribute (.Name "self" r5) f2 r6)) r8.line env = pure false)
    (hev : ∃ pl : Sem Bool, ∀ env : Env, eval (.Call (.Attribute (.Call (.Name "super" q0) [] [] q1) "__init__" q2) [.Name p1 q5, .Name p2 q6] [] q3) env = (do
      let ov ← attributeBase (.Call (.Name "super" q0) [] [] q1) "__init__" env (eval (.Call (.Name "super" q0) [] [] q1) env)
      standAt q2.atName
      let (f, first) ← holding [ov] (getMethod ov "__init__" pl)
      callWith q3 f first (backTo q3 (starEach [.Name p1 q5, .Name p2 q6] env)) [])) :
    FnOk P w K mg base (L2.CX P w) (k + 1) f (F.fd doc pm ct) ["self", p1, p2] (spI2 C f1 f2) := by
  have lc : ∀ x ∈ (["self", p1, p2] : List Str), F.scope.names.lookup x = some .local := Z.S.par
  have s0 := lc "self" (by simp)
  have s1 := lc p1 (by simp)
  have s2 := lc p2 (by simp)
  have v0 : ∀ (A : Around) (outer : List Env) (s : Shared) (H : Hp) (E : XK) (pos : Pos), PE (ncx (L2.CX P w) P w K mg base ((["self", p1, p2] : List Str) ++ [clsS]) F f A outer s H E) (.Name "self" pos) (tVar 0) := fun A outer s H E pos => pv 0 rfl (.inl s0)
  have v1 : ∀ (A : Around) (outer : List Env) (s : Shared) (H : Hp) (E : XK) (pos : Pos), PE (ncx (L2.CX P w) P w K mg base ((["self", p1, p2] : List Str) ++ [clsS]) F f A outer s H E) (.Name p1 pos) (tVar 1) := fun A outer s H E pos => pv 1 rfl (.inl s1) hd1 hc1
  have v2 : ∀ (A : Around) (outer : List Env) (s : Shared) (H : Hp) (E : XK) (pos : Pos), PE (ncx (L2.CX P w) P w K mg base ((["self", p1, p2] : List Str) ++ [clsS]) F f A outer s H E) (.Name p2 pos) (tVar 2) := fun A outer s H E pos => pv 2 rfl (.inl s2) hd2 hc2
  refine FnOk.imp (sup_fn (t := tSeq (tOst K f1 (tVar 0) (tVar 1)) (tOst K f2 (tVar 0) (tVar 2))) (ta := tCons (tVar 1) (tCons (tVar 2) tNil)) Z mgs hbody (fun A outer s H E => pss_cons (ps_ost (v0 A outer s H E _) (v1 A outer s H E _) (hsw1 _)) (pss_one (ps_ost (v0 A outer s H E _) (v2 A outer s H E _) (hsw2 _)))) (fun A outer s H E => pa_cons (v1 A outer s H E _) (pa_cons (v2 A outer s H E _) pa_nil (hst2 _)) (hst _)) (fun a ws H R hl h => ?_) hst hpl hsw hev) fun vs H Q E h => ?_
  · match ws, hl with
    | [x, y], _ => exact ⟨x, rfl, y, rfl, h⟩
  · obtain ⟨a, x, y, rfl, ea, q⟩ := h
    refine ⟨a, [x, y], rfl, rfl, (by decide : 2 ≤ 1000), ea, ?_⟩
    exact ⟨x, rfl, .ref a, rfl, a, C, rfl, Z.T, n1, .inl ⟨ea, fun d hn hne => ⟨y, rfl, .ref a, rfl, a, C, rfl, Z.T, n2, .inr ⟨d, [(f1, x)], upd_same, (upd_ne hne).trans upd_same, by simp, q d hn hne⟩⟩⟩⟩
theorem init1 {p1 : Str} (Z : SupC P K C f F doc pm ct ["self", p1]) (mgs : mg "super" = none) (n1 : PySem.W.findIn K (.ref C) f1 = some none)
    {q0 q1 q2 q3 q4 q5 q6 r1 r2 r3 r4 r5 r6 r7 r8 : Pos}
    (hbody : F.body = [.Expr (.Call (.Attribute (.Call (.Name "super" q0) [] [] q1) "__init__" q2) [.Name p1 q5] [] q3) q4, .Assign [.Attribute (.Name "self" r1) f1 r2] (.Name p1 r3) r4])
    (hd1 : (p1 == ("__debug__" : Str)) = false) (hc1 : (p1 == ("__classdict__" : Str)) = false)
    (hst : ∀ env : Env, starEach [.Name p1 q5] env = (false, eval (.Name p1 q5) env) :: starEach [] env) (hpl : ∀ env : Env, (backTo q3 (starEach [] env)).any (·.1) = false)
    (hsw : ∀ env : Env, swapsWith (.Call (.Attribute (.Call (.Name "super" q0) [] [] q1) "__init__" q2) [.Name p1 q5] [] q3) none q4.line env = pure false)
    (hsw1 : ∀ env : Env, swapsWith (.Name p1 r3) (some (.Attribute (.Name "self" r1) f1 r2)) r4.line env = pure false)
    (hev : ∃ pl : Sem Bool, ∀ env : Env, eval (.Call (.Attribute (.Call (.Name "super" q0) [] [] q1) "__init__" q2) [.Name p1 q5] [] q3) env = (do
      let ov ← attributeBase (.Call (.Name "super" q0) [] [] q1) "__init__" env (eval (.Call (.Name "super" q0) [] [] q1) env)
      standAt q2.atName
      let (f, first) ← holding [ov] (getMethod ov "__init__" pl)
      callWith q3 f first (backTo q3 (starEach [.Name p1 q5] env)) [])) :
    FnOk P w K mg base (L2.CX P w) (k + 1) f (F.fd doc pm ct) ["self", p1] (spI1 C f1) := by
  have lc : ∀ x ∈ (["self", p1] : List Str), F.scope.names.lookup x = some .local := Z.S.par
  have s0 := lc "self" (by simp)
  have s1 := lc p1 (by simp)
  have v0 : ∀ (A : Around) (outer : List Env) (s : Shared) (H : Hp) (E : XK) (pos : Pos), PE (ncx (L2.CX P w) P w K mg base ((["self", p1] : List Str) ++ [clsS]) F f A outer s H E) (.Name "self" pos) (tVar 0) := fun A outer s H E pos => pv 0 rfl (.inl s0)
  have v1 : ∀ (A : Around) (outer : List Env) (s : Shared) (H : Hp) (E : XK) (pos : Pos), PE (ncx (L2.CX P w) P w K mg base ((["self", p1] : List Str) ++ [clsS]) F f A outer s H E) (.Name p1 pos) (tVar 1) := fun A outer s H E pos => pv 1 rfl (.inl s1) hd1 hc1
  refine FnOk.imp (sup_fn (t := tOst K f1 (tVar 0) (tVar 1)) (ta := tCons (tVar 1) tNil) Z mgs hbody (fun A outer s H E => pss_one (ps_ost (v0 A outer s H E _) (v1 A outer s H E _) (hsw1 _))) (fun A outer s H E => pa_cons (v1 A outer s H E _) pa_nil (hst _)) (fun a ws H R hl h => ?_) hst hpl hsw hev) fun vs H Q E h => ?_
  · match ws, hl with
    | [x], _ => exact ⟨x, rfl, h⟩
  · obtain ⟨a, x, rfl, ea, q⟩ := h
    refine ⟨a, [x], rfl, rfl, (by decide : 1 ≤ 1000), ea, ?_⟩
    exact ⟨x, rfl, .ref a, rfl, a, C, rfl, Z.T, n1, .inl ⟨ea, fun d hn hne => q d hn hne⟩⟩
end
section
variable {C : Addr} {f1 f2 : Str} {v1 v2 : V} {H1 : Hp} {Q : VK}
theorem mk2_read (q : ∀ a H2, Sm H1 H2 → H1 a = none → ExAt H2 a C [(f2, v2), (f1, v1)] → Q (.ref a) H2) : [v1, v2].length ≤ 1000 ∧ ∀ a, H1 a = none → spI2 C f1 f2 (.ref a :: [v1, v2]) (upd H1 a (exo a C none)) (fun v H2 => v = .non ∧ Q (.ref a) H2) (fun _ _ _ => False) := by
  refine ⟨(by decide : 2 ≤ 1000), fun a hn => ⟨a, v1, v2, rfl, upd_same, fun d hd hne => ⟨rfl, q a _ ?_ hn (.inr ⟨d, ?_, upd_same⟩)⟩⟩⟩
  · have hd' : H1 d = none := by rw [upd_ne hne] at hd; exact hd
    exact Sm.upd (Sm.upd (Sm.upd (Sm.new hn) hd') hn) hd'
  · rw [upd_ne hne.symm, upd_same]
theorem mk1_read (q : ∀ a H2, Sm H1 H2 → H1 a = none → ExAt H2 a C [(f1, v1)] → Q (.ref a) H2) : [v1].length ≤ 1000 ∧ ∀ a, H1 a = none → spI1 C f1 (.ref a :: [v1]) (upd H1 a (exo a C none)) (fun v H2 => v = .non ∧ Q (.ref a) H2) (fun _ _ _ => False) := by
  refine ⟨(by decide : 1 ≤ 1000), fun a hn => ⟨a, v1, rfl, upd_same, fun d hd hne => ⟨rfl, q a _ ?_ hn (.inr ⟨d, upd_same, ?_⟩)⟩⟩⟩
  · have hd' : H1 d = none := by rw [upd_ne hne] at hd; exact hd
    exact Sm.upd (Sm.upd (Sm.new hn) hd') hn
  · rw [upd_ne hne, upd_same]
end
/-- all that is tracked stayed: the ledger stands as it stood -/
theorem ext_sm {G : Gd} {hs : Hs} {N : Lg} {H H' : Hp} (h : HRel G hs N H) (s : Sm H H') : HRel G hs N H' ∧ ExtE H N H' N := by
  have same : ∀ a, H a ≠ none → H' a = H a := fun a hn => by
    cases e : H a with
    | none => exact absurd e hn
    | some o => exact s a o e
  have e : ExtE H N H' N := ⟨fun a o q _ _ => s a o q, fun a l => .inl l, fun i a _ q => q, fun a l _ _ => l, fun i a _ _ q => q, fun a q => by rw [same a q]; exact q, fun a l _ q => same a q, rfl⟩
  refine ⟨⟨h.len, fun i c a q1 q2 => CRel.ext e (same a (h.there (N.liv a (List.mem_of_getElem? q2)))) (h.at_ i c a q1 q2), fun a l => ?_, h.fl, h.le, fun p hp => ⟨(h.tb p hp).1, (h.tb p hp).2.mono s⟩⟩, e⟩
  rw [same a (h.there l)]
  exact h.mu a l
end Py
end L2

set_option Elab.async false
set_option linter.all false
set_option maxRecDepth 100000
set_option maxHeartbeats 2000000
/-! raise of own exceptions. -/
namespace L2
namespace Py
open PySem PySem.Spec PyProof.Rows
variable [Tl]

/-- raise C() -/
def mRaise0 (c : Str) : MS := fun ρ hs => .exc c [] [] ρ hs
/-- raise C(e, ..), its fields by these names (the last first) -/
def mRaise (c : Str) (ns : List Str) (a : MA) : MS := fun ρ hs => (a ρ hs).bindS ρ fun ds hs1 => match datas ds with
  | some xs => if xs.length = ns.length then .exc c ns xs.reverse ρ hs1 else .bad
  | none => .bad
section
variable {X : Cx} {W : WX} {P : Nat → Prop} {x : Str} {p pos pos2 : Pos} {e e2 : Expr} {ma : MA} {C f : Addr} {F : NdefX.NF} {doc pm ct : Value} {ps : List Str} {k : Nat} {f1 f2 : Str}
theorem pmk_oex0 {bmB : List Value} {B newId initId : String} (FB : ExcBaseFacts B newId initId bmB) (q : PySem.W.excIn X.K C bmB newId = true) (gC : X.mg x = some (.ref C)) (kC : PySem.W.keepIn X.K (.ref C) = true) (r : Raises X (.ref C)) (hg : Gl X x) (hdb : (x == ("__debug__" : Str)) = false := by decide) :
    PMk X (.Call (.Name x p) [] [] pos) (fun _ H Q => Q (.ref C) none H) := by
  intro pins s σ H Q I h
  refine wpAny_Call_Name_kw (ld_glob I hg gC ?_ hdb)
  refine PySem.W.callWith_K0 I.kIn kC ?_
  obtain ⟨bm, N, nm, qn, bs, hdct, sn, sub, ab, col, dd, k0, k1, k2, k3, k5, mN, hC, hN, hni, T⟩ := exc_obj I.kIn q
  refine wpAny_call_exc_subT FB T hC hN hni (fun h' a hm => ?_) (by show 0 ≤ sizeLine; rw [sizeLine_eq]; omega)
  obtain ⟨t, ht, _, _⟩ := hm.there
  exact ⟨a, _, _, s, H, .ref C, none, rfl, I, hm.keeps, hm.new, ht, ⟨rfl, rfl⟩, rfl, rfl, I.hok.gone hm.new, rfl, I.bare, r, h⟩
theorem ss_raise0 {bmB : List Value} {B newId initId : String} (hc : X.calm = true) (tk : Takes X W) (FB : ExcBaseFacts B newId initId bmB) (q : PySem.W.excIn X.K C bmB newId = true) (gC : X.mg x = some (.ref C)) (kC : PySem.W.keepIn X.K (.ref C) = true) (r : Raises X (.ref C)) (hg : Gl X x)
    (hdb : (x == ("__debug__" : Str)) = false := by decide) : SS X W P (.Raise (some (.Call (.Name x p) [] [] pos)) none pos2) (mRaise0 x) := by
  refine ps_of (ps_raise hc tk (pmk_oex0 FB q gC kC r hg hdb)) fun D σ H ⟨ρ, hs, N, hr, hE, q⟩ => ?_
  exact q (.ref C) none σ N H hr Ext.refl hE ⟨C, gC, rfl, .inl ⟨rfl, rfl, rfl⟩⟩
theorem ss_raise2 (I : IniC X.prog X.K C f F doc pm ct ps) (F1 : FnOk X.prog X.w X.K X.mg X.base (L2.CX X.prog X.w) k f (F.fd doc pm ct) ps (spI2 C f1 f2)) (hr : Room (k + 1) X.A) (hc : X.calm = true) (tk : Takes X W) (hg : Gl X x) (hm : X.mg x = some (.ref C)) (ha : SA X W [e, e2] ma)
    (hdb : (x == ("__debug__" : Str)) = false := by decide) (he : starEach [e, e2] X.env = (false, eval e X.env) :: starEach [e2] X.env := by rfl) (hpl : (backTo pos (starEach [e2] X.env)).any (·.1) = false := by rfl) :
    SS X W P (.Raise (some (.Call (.Name x p) [e, e2] [] pos)) none pos2) (mRaise x [f2, f1] ma) := by
  refine ps_of (ps_raise hc tk (pmk_oex I.Z.T I.iC I.tI F1 hr I.b .nil (fun pins σ H s e s' I z => by
      obtain ⟨_, _, _, _, _, _, _, _, _, _, _, z⟩ := z
      exact z.2.elim) hg hm ha hdb he hpl)) fun D σ H h => ?_
  obtain ⟨ρ, hs, N, hrl, hE, q⟩ := TS'.two (R := RepSL) h
  refine ⟨ρ, hs, N, hrl, hE, q.mono fun vs H1 ⟨ρ1, hs1, N1, a, _, _, q1, q2, ex, q3, q4⟩ => ?_⟩
  cases ed : datas a with
  | none => simp only [ed] at q4; exact q4.elim
  | some xs =>
    simp only [ed] at q4
    have rl := datas_of q3 ed
    by_cases hl : xs.length = [f2, f1].length
    · rw [if_pos hl] at q4
      match xs, hl, rl, q4 with
      | [d1, d2], _, rl, q4 =>
        obtain ⟨v1, w1, e1, r1, v2, w2, e2, r2, e3⟩ := rl
        have e3 : w2 = [] := e3
        subst e3 e2 e1
        refine ⟨(by decide : 2 ≤ 1000), fun b hn => ⟨b, v1, v2, rfl, upd_same, fun d hd hne => ⟨rfl, d, [(f2, v2), (f1, v1)], ?_, upd_same, ?_, ?_⟩⟩⟩
        · rw [upd_ne hne.symm, upd_same]
        · rw [upd_ne hne] at hd; exact hd
        · have hd1 : H1 d = none := by rw [upd_ne hne] at hd; exact hd
          have eH : upd (L2.del (upd (upd (upd (upd H1 b (exo b C none)) d (exd d [(f1, v1)])) b (exo b C (some d))) d (exd d [(f2, v2), (f1, v1)])) b) d (.xd [(f2, v2), (f1, v1)]) = upd H1 d (.xd [(f2, v2), (f1, v1)]) := by
            funext z
            by_cases z1 : z = d
            · subst z1; rw [upd_same, upd_same]
            · rw [upd_ne z1, upd_ne z1]
              by_cases z2 : z = b
              · subst z2; rw [del_same, hn]
              · rw [del_ne z2, upd_ne z1, upd_ne z2, upd_ne z1, upd_ne z2]
          rw [eH]
          have ea : ExtE H1 N1 (upd H1 d (.xd [(f2, v2), (f1, v1)])) N1 := Ext.alloc hd1
          exact q4 (.ref C) (some d) σ N1 _ (q1.alloc hd1) (Ext.toP ea) (q2.ext ea) ⟨C, hm, rfl, .inr ⟨d, _, rfl, upd_same, rfl, ⟨v2, _, rfl, Rep.ext ea _ _ r2, v1, _, rfl, Rep.ext ea _ _ r1, rfl⟩⟩⟩
    · rw [if_neg hl] at q4; exact q4.elim
end

/-! ### try, one clause without a name -/
def noExc : OutS → OutS
  | .exc _ _ _ _ _ => .bad
  | o => o
theorem PostS.noExc {G : Gd} {W W' : WX} {P : Nat → Prop} {H : Hp} {N : Lg} {D : Ends} {o : OutS} (q : PostS G W P H N D (Py.noExc o)) : PostS G W' P H N D o := by
  cases o with
  | nx ρ hs => exact q
  | rt d hs => exact q
  | bk ρ hs => exact q
  | ct ρ hs => exact q
  | exc c ns ws ρ hs => exact q.elim
  | bad => exact q
/-- mt: does a class of this name meet the clause -/
def mTry1 (mt : Str → Option Bool) (body suite : MS) : MS := fun ρ hs => match body ρ hs with
  | .exc c ns ws ρ1 hs1 => match mt c with
    | some true => noExc (suite ρ1 hs1)
    | some false => .exc c ns ws ρ1 hs1
    | none => .bad
  | o => o
section
variable {X : Cx} {W : WX} {P : Nat → Prop} {x : Str} {np pos pos' : Pos} {c : Value} {body suite : List Stmt} {b₀ : Stmt} {mb ms : MS} {mt : Str → Option Bool}
theorem ss_try1 (hs : X.stack = X.env :: X.outer) (hf : X.env.frame = some X.env.locals) (hc : Names X x c) (tk : Takes X W)
    (hb : ∀ (W' : WX) (pn : List (Addr × Obj)) (xe : Value → Shared → Prop), Takes (X.tr pn xe) W' → PassesOwn (model X.prog X.w) X.A X.env xe → SSs (X.tr pn xe) W' P body mb)
    (hsu : ∀ (a : Addr) (oe : Obj) (pn : List (Addr × Obj)), SSs (X.suite a ((a, oe) :: pn)) W0 P (b₀ :: suite) ms)
    (hmt : ∀ n b, mt n = some b → ∀ ca, X.mg n = some (.ref ca) → PySem.W.exmOne X.K (.ref ca) c = some b) :
    SS X W P (.Try body [.ExceptHandler (some (.Name x np)) none (b₀ :: suite) pos'] [] [] pos) (mTry1 mt mb ms) := by
  refine ps_of (ps_try_only (tb := fun W' => TS' (Cx.g X) W' P mb) (ts := fun _ _ _ => TS' (Cx.g X) W0 P ms) hs hf hc tk hb (fun a oe _ _ pn _ _ => hsu a oe pn)) fun D σ H ⟨ρ, hs', N, hr, hE, q⟩ => ?_
  refine ⟨ρ, hs', N, hr, hE, ?_⟩
  simp only [mTry1] at q
  cases eb : mb ρ hs' with
  | exc n ns ws ρ1 hs1 =>
    simp only [eb] at q
    intro cls dd σ' N' H' a b e xr
    obtain ⟨ca, g1, rfl, x2⟩ := xr
    cases em : mt n with
    | none => simp only [em] at q; exact q.elim
    | some k =>
      simp only [em] at q
      refine ⟨k, hmt n k em ca g1, fun hk a' _ => ?_, fun hk => ?_⟩
      · subst hk
        exact ⟨ρ1, hs1, N', a, e, PostS.noExc (PostS.ext b q)⟩
      · subst hk
        exact q (.ref ca) dd σ' N' H' a b e ⟨ca, g1, rfl, x2⟩
  | nx ρ hs => simp only [eb] at q; exact q
  | rt d hs => simp only [eb] at q; exact q
  | bk ρ hs => simp only [eb] at q; exact q
  | ct ρ hs => simp only [eb] at q; exact q
  | bad => simp only [eb] at q; exact q.elim
end

/-! ### enumerate(a list) -/
def enumD : Int → List D → List D
  | _, [] => []
  | i, x :: xs => .tup [.int i, x] :: enumD (i + 1) xs
theorem enumD_len : ∀ (i : Int) (xs : List D), (enumD i xs).length = xs.length
  | _, [] => rfl
  | i, x :: xs => by simp [enumD, enumD_len (i + 1) xs]
theorem enumD_get : ∀ {i : Int} {xs : List D} {j : Nat}, (enumD i xs)[j]? = (xs[j]?).map fun x => .tup [.int (i + j), x]
  | i, [], j => by simp [enumD]
  | i, x :: xs, 0 => by simp [enumD]
  | i, x :: xs, j + 1 => by
    simp only [enumD, List.getElem?_cons_succ]
    rw [enumD_get (i := i + 1) (xs := xs) (j := j)]
    congr 1
    funext y
    rw [show i + 1 + (j : Int) = i + ((j + 1 : Nat) : Int) by omega]
theorem wk_enum {G : Gd} {H : Hp} {N : Lg} {P : Nat → Prop} {a : Addr} {vs : List V} {xs : List D} (h : H a = some (.lst vs)) (hl : ¬ N.L a) (r : RepL G H N.L xs vs) : Wk G P (Ite G.K a) H N (enumD 0 xs) where
  go := fun i hs H' N' _ e hi => by
    rw [enumD_len, r.length] at hi
    exact ⟨vs, vs[i], SqL.of (e.keep _ _ h (fun _ z => nomatch z) (.inl hl)), by simp [hi]⟩
  yld := fun i hs H' N' x H'' d hr e hd hy => by
    obtain ⟨T, u, h1, h2, h3, h4⟩ := hy
    subst h1 h3
    rw [enumD_get] at hd
    cases e1 : xs[i]? with
    | none => rw [e1] at hd; cases hd
    | some p =>
      rw [e1] at hd
      cases hd
      obtain ⟨v1, q1, q2⟩ := r.get e1
      have k1 := h4 vs (SqL.of (e.keep _ _ h (fun _ z => nomatch z) (.inl hl)))
      rw [q1] at k1
      cases k1
      have ea := Ext.alloc (P := All) (N := N') (o := .tup [.int (i : Nat), u]) h2
      exact ⟨hr.alloc h2, ea, T, _, rfl, SqT.of upd_same, _, _, rfl, (by show V.int (i : Nat) = V.int (0 + (i : Int)); rw [Int.zero_add]), _, _, rfl, Rep.ext ea _ _ (Rep.ext e _ _ q2), rfl⟩
  stop := fun i hs H' N' _ e hi => by
    rw [enumD_len, r.length] at hi
    exact ⟨vs, SqL.of (e.keep _ _ h (fun _ z => nomatch z) (.inl hl)), hi⟩
def mEnum (a : MA) : MI := fun ρ hs => (a ρ hs).bind fun ds hs1 => match ds with
  | [.d (.lst xs)] => .ok (enumD 0 xs) hs1
  | _ => .bad
section
variable {X : Cx} {W : WX} {p pos : Pos}
theorem si_enum {e : Expr} {ma : MA} {tpos : Pos} {elts : List Expr} {kk : Nat} (hg : Gl X "enumerate") (hm : X.mg "enumerate" = none) (ha : SA X W [e] ma) (hs : starEach [e] X.env = [(false, eval e X.env)] := by rfl) :
    SI X W (.Tuple elts kk tpos) (.Call (.Name "enumerate" p) [e] [] pos) (mEnum ma) := by
  refine pi_of (pi_enum hg hm ha hs) fun σ H R h => ?_
  obtain ⟨ρ, hs, N, hr, he, q⟩ := TIo.bindA h
  refine ⟨ρ, hs, N, hr, he, q.mono fun vs H1 ⟨hs1, N1, ds, a, r, z⟩ => ?_⟩
  split at z
  · rename_i items hs' e
    split at e
    · cases e
      obtain ⟨v, rfl, r1⟩ := repSL1 r
      obtain ⟨p1, vs1, rfl, n1, s1, t1⟩ := (show Rep _ _ _ (.lst _) _ from r1)
      exact ⟨p1, vs1, rfl, SqL.of s1, z _ N1 H1 a Ext.refl fun P => wk_enum s1 n1 t1⟩
    · cases e
  · rename_i e
    split at e <;> cases e
  · exact z.elim
end
/-! ### defs that call themselves: the bottom -/
theorem cal_bad {P : Program} {w : World} {K : PySem.W.Frag} {mg : Str → Option Value} {base : Heap} {x : Str} {st : Stmt} {ps : List Str} {n k : Nat} (D : DefG K mg x st ps) (hl : ps.length = n) : CalG P w K mg base k x n (fun _ _ => .bad) := by
  obtain ⟨f, fd, F, g, b⟩ := D
  exact ⟨f, fd, ps, ⟨fun vs H Q E h => by rw [h.1, hl], fun A outer s H args us vs Q E _ _ _ _ _ h => by
    obtain ⟨_, ds, hs, N, _, _, z⟩ := h
    exact z.elim⟩, g, F.kp, b⟩

/-! ### xs[::-1] of a list -/
theorem RepL.rev {G : Gd} {H : Hp} {L : Addr → Prop} : ∀ {ds : List D} {vs : List V}, RepL G H L ds vs → RepL G H L ds.reverse vs.reverse
  | [], _, h => by
    have h : _ = [] := h
    rw [h]; rfl
  | d :: ds, _, ⟨v, r, h1, h2, h3⟩ => by
    rw [h1, List.reverse_cons, List.reverse_cons]
    exact (RepL.rev h3).append (RepL.one h2)
def mRev (a : ME) : ME := fun ρ hs => (a ρ hs).bind fun x hs1 => ofO hs1 ((viewL hs1 x).map fun xs => .lst xs.reverse)
section
variable {X : Cx} {W : WX}
theorem se_rev {e : Expr} {me : ME} {k : Nat} {p1 p2 p3 pos : Pos} (he : SE X W e me) : SE X W (.Subscript e (.Slice none none (some (.UnaryOp .USub (.Constant (.int 1) k p1) p2)) p3) pos) (mRev me) := by
  refine pe_of (pe_revL he) fun σ H Q h => ?_
  obtain ⟨ρ, hs, N, hr, hE, q⟩ := TR.two (R := RepS) h
  refine ⟨ρ, hs, N, hr, hE, q.mono fun v H1 ⟨ρ1, hs1, N1, d, q1, q2, q3, q4⟩ => ?_⟩
  cases ev : viewL hs1 d with
  | none => simp only [ev] at q4; exact q4.elim
  | some xs =>
    simp only [ev] at q4
    obtain ⟨a, vs, rfl, h1, h2⟩ := viewL_of q1 q3 ev
    refine ⟨a, vs, rfl, SqL.of h1, fun p hp => ?_⟩
    have ea : ExtE H1 N1 (upd H1 p (.lst vs.reverse)) N1 := Ext.alloc hp
    exact q4 _ N1 _ (q1.alloc hp) ea ⟨p, _, rfl, q1.fresh hp, upd_same, RepL.ext ea _ _ (RepL.rev h2)⟩
end

/-! ### sum, greatest, least of a list of ints -/
def allInt : List D → Option (List Int)
  | [] => some []
  | .int i :: r => (allInt r).map (i :: ·)
  | _ :: _ => none
theorem allInt_rep {G : Gd} {H : Hp} {L : Addr → Prop} : ∀ {ds : List D} {ns : List Int} {vs : List V}, allInt ds = some ns → RepL G H L ds vs → vs = ns.map V.int
  | [], ns, vs, e, h => by cases e; exact h
  | d :: ds, ns, vs, e, ⟨v, r, h1, h2, h3⟩ => by
    cases d with
    | int i =>
      unfold allInt at e
      cases e1 : allInt ds with
      | none => rw [e1] at e; cases e
      | some ms =>
        rw [e1] at e
        cases e
        have h2 : v = .int i := h2
        rw [h1, h2, allInt_rep e1 h3]; rfl
    | _ => cases e
def sumFn : FL := fun hs ds => match ds with
  | [x] => match (viewL hs x).bind allInt with
    | some ns => some (.int ns.sum)
    | none => none
  | _ => none
section
variable {X : Cx}
theorem cr_sum' (hc : X.calm = true) : CallR X (.builtin "sum") (rl (Cx.g X) sumFn) := by
  intro pins s σ H xs us Q I r ⟨hs, N, ds, d, h1, h2, e, q⟩
  unfold sumFn at e
  split at e
  · rename_i x
    obtain ⟨v, rfl, r1⟩ := repSL1 h2
    cases e1 : viewL hs x with
    | none => simp only [e1, Option.bind_none] at e; cases e
    | some ys =>
      cases e2 : allInt ys with
      | none => simp only [e1, Option.bind_some, e2] at e; cases e
      | some ns =>
        simp only [e1, Option.bind_some, e2] at e
        cases e
        obtain ⟨a, vs, rfl, a1, a2⟩ := viewL_of h1 r1 e1
        rw [allInt_rep e2 a2] at a1
        exact cr_sum hc pins s σ H _ us Q I r ⟨a, ns, rfl, SqL.of a1, q _ H h1 Ext.refl rfl⟩
  · cases e
end
theorem fold_ends (f : Int → Int → Int) (le : Int → Int → Prop) (h1 : ∀ a b, f a b = a ∨ f a b = b) (h2 : ∀ a b, le a (f a b) ∧ le b (f a b)) (ht : ∀ a b c, le a b → le b c → le a c) (hr : ∀ a, le a a) :
    ∀ (r : List Int) (i : Int), (∀ y ∈ i :: r, le y (r.foldl f i)) ∧ r.foldl f i ∈ i :: r
  | [], i => ⟨fun y hy => by rw [List.mem_singleton.mp hy]; exact hr _, List.mem_cons_self⟩
  | x :: r, i => by
    obtain ⟨q1, q2⟩ := fold_ends f le h1 h2 ht hr r (f i x)
    have q0 := q1 (f i x) List.mem_cons_self
    refine ⟨fun y hy => ?_, ?_⟩
    · rcases List.mem_cons.mp hy with e | hy
      · rw [e]; exact ht _ _ _ (h2 i x).1 q0
      · rcases List.mem_cons.mp hy with e | hy
        · rw [e]; exact ht _ _ _ (h2 i x).2 q0
        · exact q1 y (List.mem_cons_of_mem _ hy)
    · rcases List.mem_cons.mp q2 with e | q2
      · show r.foldl f (f i x) ∈ _
        rw [e]
        rcases h1 i x with z | z
        · rw [z]; exact List.mem_cons_self
        · rw [z]; exact List.mem_cons_of_mem _ List.mem_cons_self
      · exact List.mem_cons_of_mem _ (List.mem_cons_of_mem _ q2)
def endFn (mx : Bool) : FL := fun hs ds => match ds with
  | [x] => match (viewL hs x).bind allInt with
    | some (i :: r) => some (.int (if mx = true then r.foldl max i else r.foldl min i))
    | _ => none
  | _ => none
section
variable {X : Cx}
theorem endFn_of {mx : Bool} {hs : Hs} {ds : List SV} {d : D} (e : endFn mx hs ds = some d) : ∃ x ys i r, ds = [x] ∧ viewL hs x = some ys ∧ allInt ys = some (i :: r) ∧ d = .int (if mx = true then r.foldl max i else r.foldl min i) := by
  unfold endFn at e
  split at e
  · rename_i x
    cases e1 : viewL hs x with
    | none => simp only [e1, Option.bind_none] at e; cases e
    | some ys =>
      cases e2 : allInt ys with
      | none => simp only [e1, Option.bind_some, e2] at e; cases e
      | some ns =>
        cases ns with
        | nil => simp only [e1, Option.bind_some, e2] at e; cases e
        | cons i r =>
          simp only [e1, Option.bind_some, e2] at e
          exact ⟨x, ys, i, r, rfl, e1, e2, (Option.some.inj e).symm⟩
  · cases e
theorem cr_max1 (hc : X.calm = true) : CallR X (.builtin "max") (rl (Cx.g X) (endFn true)) := by
  intro pins s σ H xs us Q I r ⟨hs, N, ds, d, h1, h2, e, q⟩
  obtain ⟨x, ys, i, rr, rfl, e1, e2, rfl⟩ := endFn_of e
  obtain ⟨v, rfl, r1⟩ := repSL1 h2
  obtain ⟨a, vs, rfl, a1, a2⟩ := viewL_of h1 r1 e1
  rw [allInt_rep e2 a2] at a1
  obtain ⟨f1, f2⟩ := fold_ends max (· ≤ ·) (fun a b => by omega) (fun a b => by constructor <;> omega) (fun a b c => Int.le_trans) Int.le_refl rr i
  refine cr_max hc pins s σ H _ us Q I r ⟨a, i :: rr, rfl, SqL.of a1, by simp, fun m hm hy => ?_⟩
  have em : m = rr.foldl max i := Int.le_antisymm (f1 m hm) (hy _ f2)
  rw [em]
  exact q _ H h1 Ext.refl rfl
theorem cr_min1 (hc : X.calm = true) : CallR X (.builtin "min") (rl (Cx.g X) (endFn false)) := by
  intro pins s σ H xs us Q I r ⟨hs, N, ds, d, h1, h2, e, q⟩
  obtain ⟨x, ys, i, rr, rfl, e1, e2, rfl⟩ := endFn_of e
  obtain ⟨v, rfl, r1⟩ := repSL1 h2
  obtain ⟨a, vs, rfl, a1, a2⟩ := viewL_of h1 r1 e1
  rw [allInt_rep e2 a2] at a1
  obtain ⟨f1, f2⟩ := fold_ends min (fun a b => b ≤ a) (fun a b => by omega) (fun a b => by constructor <;> omega) (fun a b c h1 h2 => Int.le_trans h2 h1) Int.le_refl rr i
  refine cr_min hc pins s σ H _ us Q I r ⟨a, i :: rr, rfl, SqL.of a1, by simp, fun m hm hy => ?_⟩
  have em : m = rr.foldl min i := Int.le_antisymm (hy _ f2) (f1 m hm)
  rw [em]
  exact q _ H h1 Ext.refl rfl
end
end Py
end L2

set_option Elab.async false
set_option linter.all false
set_option maxRecDepth 100000
/-! Dicts: keys ints and texts, or nested tuples; what stands there, looked up and put. -/
namespace L2
namespace Py
open PySem PySem.Spec PyProof.Rows
variable [Tl]

def toKey : D → Key
  | .int i => .inl i
  | .str x => .inr x
  | _ => .inl 0
def keq (a b : D) : Bool := (nkD a).beq (nkD b)
def hasK (ks : List D) (k : D) : Bool := ks.any fun x => keq x k
def lookA {α : Type} : List D → List α → D → Option α
  | x :: ks, v :: vs, k => if keq x k then some v else lookA ks vs k
  | _, _, _ => none
def setA {α : Type} : List D → List α → D → α → List α
  | x :: ks, y :: vs, k, v => (if keq x k then v else y) :: setA ks vs k v
  | _, _, _, _ => []
def putA {α : Type} (ks : List D) (vs : List α) (k : D) (v : α) : List α := if hasK ks k then setA ks vs k v else vs ++ [v]
def putK (ks : List D) (k : D) : List D := if hasK ks k then ks else ks ++ [k]
/-- the key is of the kind of the others -/
def fitK (ks : List D) (k : D) : Bool := match ks with
  | [] => isVK k || isTK k
  | x :: _ => (isVK k && isVK x) || (isTK k && isTK x)

theorem keq_eq {a b : D} : keq a b = decide (nkD a = nkD b) := (NestedKey.decide_eq _ _).symm
theorem vk_inj {a b : D} (ha : isVK a = true) (hb : isVK b = true) : (nkD a = nkD b) ↔ toKey a = toKey b := by
  cases a <;> simp [isVK] at ha <;> cases b <;> simp [isVK] at hb <;> simp [nkD, toKey]
theorem keq_vk {a b : D} (ha : isVK a = true) (hb : isVK b = true) : keq a b = decide (toKey a = toKey b) := by
  rw [keq_eq]; exact decide_eq_decide.mpr (vk_inj ha hb)
theorem vk_tk {a : D} (ha : isVK a = true) (hb : isTK a = true) : False := by
  cases a <;> simp [isVK] at ha <;> simp [isTK] at hb
theorem vk_hash {w : World} {a : D} (ha : isVK a = true) : (nkD a).hash w = keyH w (toKey a) := by
  cases a <;> simp [isVK] at ha <;> simp [nkD, toKey, NestedKey.hash, keyH]
theorem fitK_split {ks : List D} {k : D} (h : fitK ks k = true) (hm : (∀ x ∈ ks, isVK x = true) ∨ ∀ x ∈ ks, isTK x = true) :
    (isVK k = true ∧ ∀ x ∈ ks, isVK x = true) ∨ (isTK k = true ∧ ∀ x ∈ ks, isTK x = true) := by
  cases ks with
  | nil =>
    simp only [fitK, Bool.or_eq_true] at h
    rcases h with h | h
    · exact .inl ⟨h, fun _ hx => nomatch hx⟩
    · exact .inr ⟨h, fun _ hx => nomatch hx⟩
  | cons x xs =>
    simp only [fitK, Bool.or_eq_true, Bool.and_eq_true] at h
    rcases h with ⟨h, hx⟩ | ⟨h, hx⟩ <;> rcases hm with hm | hm
    · exact .inl ⟨h, hm⟩
    · exact (vk_tk hx (hm x List.mem_cons_self)).elim
    · exact (vk_tk (hm x List.mem_cons_self) hx).elim
    · exact .inr ⟨h, hm⟩
theorem lookA_length {α : Type} : ∀ {ks : List D} {vs : List α} {k : D}, ks.length = vs.length → (lookA ks vs k).isSome = hasK ks k
  | [], _, _, _ => rfl
  | _ :: _, [], _, h => by simp at h
  | x :: ks, v :: vs, k, h => by
    have ih := lookA_length (ks := ks) (vs := vs) (k := k) (by simpa using h)
    simp only [lookA, hasK, List.any_cons] at ih ⊢
    cases q : keq x k <;> simp [q, ih, hasK]
theorem setA_length {α : Type} : ∀ {ks : List D} {vs : List α} {k : D} {v : α}, ks.length = vs.length → (setA ks vs k v).length = ks.length
  | [], [], _, _, _ => rfl
  | [], _ :: _, _, _, h => by simp at h
  | _ :: _, [], _, _, h => by simp at h
  | x :: ks, y :: vs, k, v, h => by simp [setA, setA_length (ks := ks) (vs := vs) (k := k) (v := v) (by simpa using h)]
theorem putA_length {α : Type} {ks : List D} {vs : List α} {k : D} {v : α} (h : ks.length = vs.length) : (putA ks vs k v).length = (putK ks k).length := by
  unfold putA putK
  by_cases q : hasK ks k = true
  · rw [if_pos q, if_pos q]; exact setA_length h
  · rw [if_neg q, if_neg q]; simp [h]
theorem putK_le (ks : List D) (k : D) : (putK ks k).length ≤ ks.length + 1 := by
  unfold putK; split <;> simp

section
variable {G : Gd} {H : Hp} {L : Addr → Prop}
theorem RepL.look : ∀ {ks ws : List D} {vs : List V} {k : D}, RepL G H L ws vs → (lookA ks ws k = none ∧ lookA ks vs k = none) ∨ ∃ d v, lookA ks ws k = some d ∧ lookA ks vs k = some v ∧ Rep G H L d v
  | [], _, _, _, _ => .inl ⟨rfl, rfl⟩
  | x :: ks, [], _, _, h => by rw [show _ = ([] : List V) from h]; exact .inl ⟨rfl, rfl⟩
  | x :: ks, d :: ws, _, k, ⟨v, r, h1, h2, h3⟩ => by
    subst h1
    simp only [lookA]
    by_cases q : keq x k = true
    · rw [if_pos q, if_pos q]; exact .inr ⟨d, v, rfl, rfl, h2⟩
    · rw [if_neg q, if_neg q]; exact RepL.look h3
theorem RepL.setA {d : D} {v : V} (q : Rep G H L d v) {k : D} : ∀ {ks ws : List D} {vs : List V}, RepL G H L ws vs → RepL G H L (setA ks ws k d) (setA ks vs k v)
  | [], _, _, _ => by simp [Py.setA, RepL]
  | x :: ks, [], _, h => by rw [show _ = ([] : List V) from h]; simp [Py.setA, RepL]
  | x :: ks, e :: ws, _, ⟨u, r, h1, h2, h3⟩ => by
    subst h1
    refine ⟨_, _, rfl, ?_, RepL.setA q h3⟩
    by_cases z : keq x k = true
    · rw [if_pos z, if_pos z]; exact q
    · rw [if_neg z, if_neg z]; exact h2
theorem RepL.putA {d : D} {v : V} (q : Rep G H L d v) {k : D} {ks ws : List D} {vs : List V} (h : RepL G H L ws vs) : RepL G H L (putA ks ws k d) (putA ks vs k v) := by
  unfold Py.putA
  by_cases z : hasK ks k = true
  · rw [if_pos z, if_pos z]; exact RepL.setA q h
  · rw [if_neg z, if_neg z]; exact RepL.append h (RepL.one q)
/-- a key by value -/
theorem vk_rep {k : D} {v : V} (hk : isVK k = true) (h : Rep G H L k v) : v = kV (toKey k) := by
  cases k <;> simp [isVK] at hk
  · exact h
  · exact h
theorem vk_repL : ∀ {ks : List D} {vs : List V}, (∀ k ∈ ks, isVK k = true) → RepL G H L ks vs → vs = ks.map fun k => kV (toKey k)
  | [], vs, _, h => h
  | k :: ks, _, hk, ⟨v, r, h1, h2, h3⟩ => by
    rw [h1, vk_rep (hk k List.mem_cons_self) h2, vk_repL (fun x hx => hk x (List.mem_cons_of_mem _ hx)) h3]; rfl
theorem vk_repL' : ∀ {ks : List D}, (∀ k ∈ ks, isVK k = true) → RepL G H L ks (ks.map fun k => kV (toKey k))
  | [], _ => rfl
  | k :: ks, hk => ⟨_, _, rfl, by
      have := hk k List.mem_cons_self
      cases k <;> simp [isVK] at this <;> exact rfl, vk_repL' fun x hx => hk x (List.mem_cons_of_mem _ hx)⟩
end

theorem vals_map {α : Type} {f : α → V} {g : α → Value} : ∀ {l : List α}, (∀ x ∈ l, RelV (f x) (g x)) → Vals (l.map f) (l.map g)
  | [], _ => .nil
  | x :: l, h => .cons (h x List.mem_cons_self) (vals_map fun y hy => h y (List.mem_cons_of_mem _ hy))
theorem Vals.lookA : ∀ {ks : List D} {vs : List V} {us : List Value} {k : D}, Vals vs us → RelO (lookA ks vs k) (lookA ks us k)
  | [], _, _, _, _ => trivial
  | x :: ks, _, _, _, .nil => trivial
  | x :: ks, v :: vs, u :: us, k, .cons r t => by
    simp only [Py.lookA]
    by_cases q : keq x k = true
    · rw [if_pos q, if_pos q]; exact r
    · rw [if_neg q, if_neg q]; exact Vals.lookA t
theorem Vals.setA {v : V} {u : Value} (r : RelV v u) {k : D} : ∀ {ks : List D} {vs : List V} {us : List Value}, Vals vs us → Vals (setA ks vs k v) (setA ks us k u)
  | [], _, _, _ => by simp only [Py.setA]; exact .nil
  | x :: ks, _, _, .nil => by simp only [Py.setA]; exact .nil
  | x :: ks, _, _, .cons q t => by
    simp only [Py.setA]
    refine .cons ?_ (Vals.setA r t)
    by_cases z : keq x k = true
    · rw [if_pos z, if_pos z]; exact r
    · rw [if_neg z, if_neg z]; exact q
theorem Vals.putA {v : V} {u : Value} (r : RelV v u) {k : D} {ks : List D} {vs : List V} {us : List Value} (h : Vals vs us) : Vals (putA ks vs k v) (putA ks us k u) := by
  unfold Py.putA
  by_cases z : hasK ks k = true
  · rw [if_pos z, if_pos z]; exact Vals.setA r h
  · rw [if_neg z, if_neg z]; exact Vals.append h (.cons r .nil)

/-! ### ints and texts -/
section
variable {P : Program} {w : World}
theorem pairs_vk : ∀ {ks : List D} {es : List DictEntry}, (∀ k ∈ ks, isVK k = true) → es.map (·.hash) = ks.map (fun k => (nkD k).hash w) → Vals (ks.map fun k => kV (toKey k)) (es.map (·.key)) →
    Pairs (mixKind P w) es ((ks.map toKey).zip (es.map (·.val))) ∧ ∀ e ∈ es, ∃ k, (mixKind P w).is k e.key = true ∧ e.hash = (mixKind P w).hash k
  | [], [], _, _, _ => ⟨.nil, fun _ h => nomatch h⟩
  | [], _ :: _, _, h, _ => by simp at h
  | _ :: _, [], _, h, _ => by simp at h
  | k :: ks, e :: es, hv, hh, hk => by
    simp only [List.map_cons, List.cons.injEq] at hh hk
    cases hk with
    | cons r t =>
      obtain ⟨h1, h2⟩ := pairs_vk (ks := ks) (es := es) (fun x hx => hv x (List.mem_cons_of_mem _ hx)) hh.2 t
      refine ⟨.cons (kV_is r) rfl h1, fun x hx => ?_⟩
      rcases List.mem_cons.mp hx with q | hx
      · subst q
        exact ⟨toKey k, kV_is r, by rw [hh.1, vk_hash (hv k List.mem_cons_self)]; rfl⟩
      · exact h2 x hx
theorem nodup_vk : ∀ {ks : List D}, (∀ k ∈ ks, isVK k = true) → ((ks.map nkD).Nodup ↔ (ks.map toKey).Nodup)
  | [], _ => by simp
  | k :: ks, hv => by
    have hv' : ∀ x ∈ ks, isVK x = true := fun x hx => hv x (List.mem_cons_of_mem _ hx)
    have hk := hv k List.mem_cons_self
    rw [List.map_cons, List.map_cons, List.nodup_cons, List.nodup_cons, nodup_vk hv']
    have : nkD k ∈ ks.map nkD ↔ toKey k ∈ ks.map toKey := by
      constructor
      · intro h
        obtain ⟨x, hx, e⟩ := List.mem_map.mp h
        exact List.mem_map.mpr ⟨x, hx, (vk_inj (hv' x hx) hk).mp e⟩
      · intro h
        obtain ⟨x, hx, e⟩ := List.mem_map.mp h
        exact List.mem_map.mpr ⟨x, hx, (vk_inj (hv' x hx) hk).mpr e⟩
    rw [this]
theorem raw_vk {ks : List D} {vvs : List V} {o : Obj} {hp : Heap} {a : Addr} (h : RawD w ks (ks.map fun k => kV (toKey k)) vvs o) (hv : ∀ k ∈ ks, isVK k = true) (ho : hp.get? a = some o) :
    ∃ us, hp.DictOf (mixKind P w) a ((ks.map toKey).zip us) ∧ Vals vvs us ∧ us.length = ks.length ∧ us.length ≤ sizeLine := by
  obtain ⟨h1, _, h3, es, ep, h4, h5, h6, h7, h8⟩ := h
  obtain ⟨p1, p2⟩ := pairs_vk (P := P) hv h6 h7
  have hl : es.toList.length = ks.length := by simpa using congrArg List.length h6
  refine ⟨es.toList.map (·.val), ⟨o, es, ep, ho, h1, h4, fun e he => p2 e (by simpa using he), p1, ?_⟩, h8, by simpa using hl, by simpa using h5⟩
  rw [List.map_fst_zip (by simp; simp at hl; omega)]
  exact (nodup_vk hv).mp h3
theorem pairs_back : ∀ {es : List DictEntry} {pv : List (Key × Value)} {ks : List D}, Pairs (mixKind P w) es pv → (∀ e ∈ es, ∃ k, (mixKind P w).is k e.key = true ∧ e.hash = (mixKind P w).hash k) → pv.map (·.1) = ks.map toKey →
    (∀ k ∈ ks, isVK k = true) → es.map (·.hash) = ks.map (fun k => (nkD k).hash w) ∧ Vals (ks.map fun k => kV (toKey k)) (es.map (·.key)) ∧ es.map (·.val) = pv.map (·.2)
  | _, _, [], .nil, _, _, _ => ⟨rfl, .nil, rfl⟩
  | _, _, _ :: _, .nil, _, h, _ => by simp at h
  | _, _, [], .cons _ _ _, _, h, _ => by simp at h
  | e :: es, kv :: pv, k :: ks, .cons a b c, hk, h, hv => by
    simp only [List.map_cons, List.cons.injEq] at h
    obtain ⟨q1, q2, q3⟩ := pairs_back (ks := ks) c (fun x hx => hk x (List.mem_cons_of_mem _ hx)) h.2 fun x hx => hv x (List.mem_cons_of_mem _ hx)
    obtain ⟨k', z1, z2⟩ := hk e List.mem_cons_self
    have ek : k' = toKey k := ((mixKind P w).inj _ _ _ z1 a).trans h.1
    refine ⟨?_, ?_, ?_⟩
    · simp only [List.map_cons, q1, List.cons.injEq, and_true]
      rw [z2, ek, vk_hash (hv k List.mem_cons_self)]; rfl
    · refine .cons ?_ q2
      rw [h.1] at a
      have a' : keyIs (toKey k) e.key = true := a
      show RelV (kV (toKey k)) e.key
      rcases keyIs_shape a' with ⟨i, t, e1, e2⟩ | ⟨x, t, e1, e2⟩
      · rw [e1, e2]; exact ⟨t, rfl⟩
      · rw [e1, e2]; exact ⟨t, rfl⟩
    · simp [b, q3]
theorem raw_vk_back {ks : List D} {vvs : List V} {hp : Heap} {a : Addr} {pv : List (Key × Value)} (h : hp.DictOf (mixKind P w) a pv) (hv : ∀ k ∈ ks, isVK k = true) (e1 : pv.map (·.1) = ks.map toKey) (r : Vals vvs (pv.map (·.2))) (hl : pv.length ≤ sizeLine) :
    ∃ o, hp.get? a = some o ∧ RawD w ks (ks.map fun k => kV (toKey k)) vvs o := by
  obtain ⟨o, es, ep, ho, hc, hd, hk, hp, hn⟩ := h
  obtain ⟨q1, q2, q3⟩ := pairs_back (ks := ks) hp (fun e he => hk e (by simpa using he)) e1 hv
  refine ⟨o, ho, hc, .inl hv, ?_, es, ep, hd, ?_, q1, q2, ?_⟩
  · rw [nodup_vk hv, ← e1]; exact hn
  · have := hp.length
    simp at this; omega
  · rw [q3]; exact r
theorem any_vk {ks : List D} {us : List Value} {k : D} (hv : ∀ x ∈ ks, isVK x = true) (hk : isVK k = true) : us.length = ks.length → (((ks.map toKey).zip us).any fun kv => decide (kv.1 = toKey k)) = hasK ks k := by
  induction ks generalizing us with
  | nil => intro _; rfl
  | cons x ks ih =>
    intro hl
    cases us with
    | nil => simp at hl
    | cons u us =>
      have := ih (us := us) (fun y hy => hv y (List.mem_cons_of_mem _ hy)) (by simpa using hl)
      simp only [List.map_cons, List.zip_cons_cons, List.any_cons, this, hasK]
      rw [keq_vk (hv x List.mem_cons_self) hk]
theorem valueAt_vk {ks : List D} {us : List Value} {k : D} (hv : ∀ x ∈ ks, isVK x = true) (hk : isVK k = true) : valueAt ((ks.map toKey).zip us) (toKey k) = lookA ks us k := by
  induction ks generalizing us with
  | nil => rfl
  | cons x ks ih =>
    cases us with
    | nil => rfl
    | cons u us =>
      have := ih (us := us) (fun y hy => hv y (List.mem_cons_of_mem _ hy))
      simp only [valueAt, List.map_cons, List.zip_cons_cons, List.find?_cons, lookA] at this ⊢
      rw [keq_vk (hv x List.mem_cons_self) hk]
      by_cases q : toKey x = toKey k
      · simp [q]
      · simp only [decide_eq_false q]
        simpa using this
theorem stored_vk {ks : List D} {us : List Value} {k : D} {v : Value} (hv : ∀ x ∈ ks, isVK x = true) (hk : isVK k = true) (hl : us.length = ks.length) :
    (stored ((ks.map toKey).zip us) (toKey k) v).map (·.1) = (putK ks k).map toKey ∧ (stored ((ks.map toKey).zip us) (toKey k) v).map (·.2) = putA ks us k v := by
  unfold stored putK putA
  rw [any_vk hv hk hl]
  by_cases q : hasK ks k = true
  · rw [if_pos q, if_pos q, if_pos q]
    clear q
    induction ks generalizing us with
    | nil => exact ⟨rfl, rfl⟩
    | cons x ks ih =>
      cases us with
      | nil => simp at hl
      | cons u us =>
        obtain ⟨i1, i2⟩ := ih (us := us) (fun y hy => hv y (List.mem_cons_of_mem _ hy)) (by simpa using hl)
        simp only [List.map_cons, List.zip_cons_cons, setA]
        rw [keq_vk (hv x List.mem_cons_self) hk]
        refine ⟨?_, ?_⟩
        · rw [i1]; by_cases z : toKey x = toKey k <;> simp [z]
        · rw [i2]; by_cases z : toKey x = toKey k <;> simp [z]
  · rw [if_neg q, if_neg q, if_neg q]
    refine ⟨?_, ?_⟩
    · rw [List.map_append, List.map_append, List.map_fst_zip (by simp; omega)]; rfl
    · rw [List.map_append, List.map_snd_zip (by simp; omega)]; rfl
end

/-! ### tuples -/
section
variable {X : Cx} {pins : List (Addr × Obj)} {σ : St} {H : Hp} {s : Shared} {L : Addr → Prop}
mutual
theorem nested_of (I : Inv X pins σ H s) : ∀ (n : Nat) (d : D) (v : V) (u : Value), keyIn n d = true → Rep (Cx.g X) H L d v → RelV v u → NestedIs s.heap (nkD d) u ∧ (nkD d).depth ≤ n
  | _, .non, v, u, _, h, r => by
    rw [show v = .non from h] at r; rw [show u = Value.none from r]; exact ⟨.none, Nat.zero_le _⟩
  | _, .int i, v, u, _, h, r => by
    rw [show v = .int i from h] at r; obtain ⟨t, e⟩ := (show ∃ t, u = Value.int i t from r); rw [e]; exact ⟨.int _ _, Nat.zero_le _⟩
  | _, .str x, v, u, _, h, r => by
    rw [show v = .str x from h] at r; obtain ⟨t, e⟩ := (show ∃ t, u = Value.str x t from r); rw [e]; exact ⟨.text _ _, Nat.zero_le _⟩
  | n + 1, .tup xs, v, u, k, ⟨a, vs, h1, h2, h3⟩, r => by
    rw [h1] at r
    rw [show u = Value.ref a from r]
    obtain ⟨its, r2, ⟨o, e1, e2, m, e3⟩, _⟩ := I.tuple h2
    obtain ⟨q1, q2⟩ := nestedL_of I n xs vs its (by simpa [keyIn] using k) h3 r2
    refine ⟨.tup e1 e2 e3 (by simpa using q1), ?_⟩
    simp only [nkD, NestedKey.depth]
    omega
  | 0, .tup xs, _, _, k, _, _ => by simp [keyIn] at k
  | _, .bl _, _, _, k, _, _ => by simp [keyIn] at k
  | _, .lst _, _, _, k, _, _ => by simp [keyIn] at k
  | _, .dct _ _, _, _, k, _, _ => by simp [keyIn] at k
  | _, .scr _, _, _, k, _, _ => by simp [keyIn] at k
  | _, .glo _, _, _, k, _, _ => by simp [keyIn] at k
  | _, .ty _, _, _, k, _, _ => by simp [keyIn] at k
theorem nestedL_of (I : Inv X pins σ H s) : ∀ (n : Nat) (ds : List D) (vs : List V) (us : List Value), keyInL n ds = true → RepL (Cx.g X) H L ds vs → Vals vs us → NestedAll s.heap (nkL ds) us ∧ NestedKey.depthAll (nkL ds) ≤ n
  | n, [], vs, us, _, h, r => by
    rw [show vs = [] from h] at r; cases r; exact ⟨.nil, Nat.zero_le _⟩
  | n, d :: ds, _, us, k, ⟨v, r, h1, h2, h3⟩, q => by
    subst h1
    cases q with
    | cons q1 q2 =>
      simp only [keyInL, Bool.and_eq_true] at k
      obtain ⟨z1, z2⟩ := nested_of I n d v _ k.1 h2 q1
      obtain ⟨y1, y2⟩ := nestedL_of I n ds r _ k.2 h3 q2
      refine ⟨.cons z1 y1, ?_⟩
      simp only [nkL, NestedKey.depthAll]
      omega
end
theorem tk_is (I : Inv X pins σ H s) {d : D} {v : V} {u : Value} (k : isTK d = true) (h : Rep (Cx.g X) H L d v) (r : RelV v u) : ∃ b, v = .ref b ∧ u = .ref b ∧ (nestedKind X.prog X.w).is s.heap (nkD d) b := by
  cases d <;> simp [isTK] at k
  rename_i xs
  have hn : keyIn 8 (.tup xs) = true := by simpa [keyIn] using k
  obtain ⟨q1, q2⟩ := nested_of I 8 (.tup xs) v u hn h r
  obtain ⟨a, vs, h1, h2, h3⟩ := h
  subst h1
  have e : u = .ref a := r
  subst e
  exact ⟨a, rfl, rfl, q1, q2⟩
theorem xs_of (I : Inv X pins σ H s) : ∀ {ks : List D} {kvs : List V} {es : List DictEntry}, (∀ k ∈ ks, isTK k = true) → RepL (Cx.g X) H L ks kvs → es.map (·.hash) = ks.map (fun k => (nkD k).hash X.w) → Vals kvs (es.map (·.key)) →
    ∃ xs : List (NestedKey × Addr × Value), es = xs.map (entryOfKey (nestedKind X.prog X.w)) ∧ xs.map (·.1) = ks.map nkD ∧ kvs = xs.map (fun x => V.ref x.2.1) ∧ es.map (·.val) = xs.map (·.2.2) ∧ ∀ x ∈ xs, (nestedKind X.prog X.w).is s.heap x.1 x.2.1
  | [], _, [], _, h, _, _ => ⟨[], rfl, rfl, h, rfl, fun _ hx => nomatch hx⟩
  | [], _, _ :: _, _, _, h, _ => by simp at h
  | _ :: _, _, [], _, _, h, _ => by simp at h
  | k :: ks, _, e :: es, hv, ⟨v, r, h1, h2, h3⟩, hh, q => by
    subst h1
    simp only [List.map_cons, List.cons.injEq] at hh q
    cases q with
    | cons q1 q2 =>
      obtain ⟨xs, x1, x2, x3, x4, x5⟩ := xs_of I (fun y hy => hv y (List.mem_cons_of_mem _ hy)) h3 hh.2 q2
      obtain ⟨b, e1, e2, e3⟩ := tk_is I (hv k List.mem_cons_self) h2 q1
      refine ⟨(nkD k, b, e.val) :: xs, ?_, ?_, ?_, ?_, fun x hx => ?_⟩
      · rw [List.map_cons, ← x1]
        congr 1
        obtain ⟨eh, ek, ev⟩ := e
        simp only at hh e2
        rw [e2, hh.1]
        rfl
      · simp [x2]
      · simp [x3, e1]
      · simp [x4]
      · rcases List.mem_cons.mp hx with z | hx
        · subst z; exact e3
        · exact x5 x hx
theorem raw_tk (I : Inv X pins σ H s) {ks : List D} {kvs vvs : List V} {o : Obj} {a : Addr} (h : RawD X.w ks kvs vvs o) (hv : ∀ k ∈ ks, isTK k = true) (hr : RepL (Cx.g X) H L ks kvs) (ho : s.heap.get? a = some o) :
    ∃ xs : List (NestedKey × Addr × Value), s.heap.DictOfH (nestedKind X.prog X.w) a xs ∧ xs.map (·.1) = ks.map nkD ∧ kvs = xs.map (fun x => V.ref x.2.1) ∧ Vals vvs (xs.map (·.2.2)) ∧ xs.length ≤ sizeLine := by
  obtain ⟨h1, _, h3, es, ep, h4, h5, h6, h7, h8⟩ := h
  obtain ⟨xs, x1, x2, x3, x4, x5⟩ := xs_of I hv hr h6 h7
  refine ⟨xs, ⟨o, es, ep, ho, h1, h4, x1, x5, by rw [x2]; exact h3⟩, x2, x3, by rw [← x4]; exact h8, ?_⟩
  have := congrArg List.length x1
  simp at this; omega
theorem raw_tk_back {P : Program} {w : World} {ks : List D} {vvs : List V} {hp : Heap} {a : Addr} {xs : List (NestedKey × Addr × Value)} (h : hp.DictOfH (nestedKind P w) a xs) (hv : ∀ k ∈ ks, isTK k = true) (e1 : xs.map (·.1) = ks.map nkD)
    (r : Vals vvs (xs.map (·.2.2))) (hl : xs.length ≤ sizeLine) : ∃ o, hp.get? a = some o ∧ RawD w ks (xs.map fun x => V.ref x.2.1) vvs o := by
  obtain ⟨o, es, ep, ho, hc, hd, he, hk, hn⟩ := h
  refine ⟨o, ho, hc, .inr hv, by rw [← e1]; exact hn, es, ep, hd, ?_, ?_, ?_, ?_⟩
  · have := congrArg List.length he
    simp at this; omega
  · have : (xs.map (·.1)).map (NestedKey.hash w) = (ks.map nkD).map (NestedKey.hash w) := by rw [e1]
    rw [he]
    simpa [entryOfKey, nestedKind, Function.comp_def] using this
  · rw [he, List.map_map]
    exact vals_map fun x _ => rfl
  · rw [he, List.map_map]; exact r
theorem atKey_tk {xs : List (NestedKey × Addr × Value)} : ∀ {ks : List D} {k : D}, xs.map (·.1) = ks.map nkD → (atKey xs (nkD k)).map (·.2) = lookA ks (xs.map (·.2.2)) k := by
  induction xs with
  | nil => intro ks k h; cases ks <;> simp at h; rfl
  | cons x xs ih =>
    intro ks k h
    cases ks with
    | nil => simp at h
    | cons y ks =>
      simp only [List.map_cons, List.cons.injEq] at h
      have := ih (k := k) h.2
      simp only [atKey, List.find?_cons, List.map_cons, lookA] at this ⊢
      rw [keq_eq, h.1]
      by_cases q : nkD y = nkD k
      · simp [q]
      · simp only [decide_eq_false q]
        simpa using this
theorem storedH_tk {xs : List (NestedKey × Addr × Value)} {ks : List D} {k : D} {b : Addr} {v : Value} (h : xs.map (·.1) = ks.map nkD) :
    (storedH xs (nkD k) b v).map (·.1) = (putK ks k).map nkD ∧ (storedH xs (nkD k) b v).map (·.2.2) = putA ks (xs.map (·.2.2)) k v ∧
      (storedH xs (nkD k) b v).map (fun x => V.ref x.2.1) = (if hasK ks k then xs.map (fun x => V.ref x.2.1) else xs.map (fun x => V.ref x.2.1) ++ [.ref b]) := by
  have hs : (atKey xs (nkD k)).isSome = hasK ks k := by
    have hl : ks.length = (xs.map (·.2.2)).length := by simpa using (congrArg List.length h).symm
    rw [← lookA_length hl, ← atKey_tk h, Option.isSome_map]
  unfold storedH putK putA
  rw [hs]
  by_cases q : hasK ks k = true
  · rw [if_pos q, if_pos q, if_pos q, if_pos q]
    clear hs q
    induction xs generalizing ks with
    | nil => cases ks <;> simp at h; exact ⟨rfl, rfl, rfl⟩
    | cons x xs ih =>
      cases ks with
      | nil => simp at h
      | cons y ks =>
        simp only [List.map_cons, List.cons.injEq] at h
        obtain ⟨i1, i2, i3⟩ := ih h.2
        simp only [List.map_cons, setA, putAt, i1, i2, i3]
        rw [keq_eq, h.1]
        by_cases z : nkD y = nkD k <;> simp [z, h.1]
  · rw [if_neg q, if_neg q, if_neg q, if_neg q]
    simp [h]
end

/-! ### what stands at a key; what is put there -/
section
variable {X : Cx} {pins : List (Addr × Obj)} {σ : St} {H : Hp} {s : Shared} {L : Addr → Prop} {a : Addr} {o : Obj} {ks : List D} {kvs vvs : List V} {k : D} {kv : V} {u : Value} {A : Around} {E : Value → Shared → Prop}
theorem raw_at (I : Inv X pins σ H s) (e : H a = some (rawO a o)) : s.heap.get? a = some o ∧ (a == sysModules) = false := by
  obtain ⟨⟨h1, h2⟩, _⟩ := I.hok a _ e
  exact ⟨h1, h2⟩
theorem raw_ok {P : Program} {w : World} {hp : Heap} (h : hp.get? a = some o) (hd : (a == sysModules) = false) : ObjOk P w H hp a (rawO a o) :=
  ⟨⟨h, hd⟩, ⟨o, h⟩, fun _ _ p q => ⟨q _ p.1, p.2⟩⟩
/-- the dict at a has r at the key u (by value, or a tuple) -/
def RG (X : Cx) (h : Heap) (a : Addr) (u : Value) (r : Option Value) : Prop :=
  (a == sysModules) = false ∧ ((∃ (pv : List (Key × Value)) (k : Key), h.DictOf (mixKind X.prog X.w) a pv ∧ (mixKind X.prog X.w).is k u = true ∧ r = valueAt pv k) ∨
  ∃ xs k b, u = .ref b ∧ h.DictOfH (nestedKind X.prog X.w) a xs ∧ (nestedKind X.prog X.w).is h k b ∧ r = (atKey xs k).map (·.2))
/-- the dict at a may be written at the key u: C tells what stands there then -/
def RP (X : Cx) (s : Shared) (a : Addr) (u : Value) (r0 : Option Value) (C : Value → Heap → Prop) : Prop :=
  (∃ (pv : List (Key × Value)) (k : Key), s.heap.DictOf (mixKind X.prog X.w) a pv ∧ (mixKind X.prog X.w).is k u = true ∧ r0 = valueAt pv k ∧ pv.length ≤ sizeLine ∧ ∀ r h', h'.DictOf (mixKind X.prog X.w) a (stored pv k r) → C r h') ∨
  ∃ xs k b, u = .ref b ∧ s.heap.DictOfH (nestedKind X.prog X.w) a xs ∧ (nestedKind X.prog X.w).is s.heap k b ∧ r0 = (atKey xs k).map (·.2) ∧ xs.length ≤ sizeLine ∧ ∀ r h', h'.DictOfH (nestedKind X.prog X.w) a (storedH xs k b r) → C r h'
theorem vals_back : ∀ {vs ws : List V} {us : List Value}, vs = ws → Vals vs us → Vals ws us
  | _, _, _, rfl, h => h
theorem raw_get (I : Inv X pins σ H s) (e : H a = some (rawO a o)) (rd : RawD X.w ks kvs vvs o) (hr : RepL (Cx.g X) H L ks kvs) (hk : Rep (Cx.g X) H L k kv) (ru : RelV kv u) (hf : fitK ks k = true) :
    ∃ r, RG X s.heap a u r ∧ RelO (lookA ks vvs k) r := by
  obtain ⟨ho, hd⟩ := raw_at I e
  rcases fitK_split hf rd.2.1 with ⟨h1, h2⟩ | ⟨h1, h2⟩
  · have e1 := vk_repL h2 hr
    subst e1
    obtain ⟨us, d1, d2, d3, _⟩ := raw_vk (P := X.prog) rd h2 ho
    rw [vk_rep h1 hk] at ru
    exact ⟨_, ⟨hd, .inl ⟨_, toKey k, d1, kV_is ru, rfl⟩⟩, by rw [valueAt_vk h2 h1]; exact Vals.lookA d2⟩
  · obtain ⟨xs, d1, d2, d3, d4, _⟩ := raw_tk I rd h2 hr ho
    obtain ⟨b, e1, e2, e3⟩ := tk_is I h1 hk ru
    exact ⟨_, ⟨hd, .inr ⟨xs, nkD k, b, e2, d1, e3, rfl⟩⟩, by rw [atKey_tk d2]; exact Vals.lookA d4⟩
/-- what is known behind a[k] = v -/
def PutOk (X : Cx) (H : Hp) (L : Addr → Prop) (a : Addr) (ks : List D) (vvs : List V) (k : D) (r : Value) (h' : Heap) : Prop :=
  ∀ v, RelV v r → ∃ o' kvs', h'.get? a = some o' ∧ RawD X.w (putK ks k) kvs' (putA ks vvs k v) o' ∧ RepL (Cx.g X) H L (putK ks k) kvs'
theorem raw_put (I : Inv X pins σ H s) (e : H a = some (rawO a o)) (rd : RawD X.w ks kvs vvs o) (hr : RepL (Cx.g X) H L ks kvs) (hk : Rep (Cx.g X) H L k kv) (ru : RelV kv u) (hf : fitK ks k = true) (hz : ks.length < sizeLine) :
    ∃ r0, RP X s a u r0 (PutOk X H L a ks vvs k) ∧ RelO (lookA ks vvs k) r0 := by
  obtain ⟨ho, hd⟩ := raw_at I e
  rcases fitK_split hf rd.2.1 with ⟨h1, h2⟩ | ⟨h1, h2⟩
  · have e1 := vk_repL h2 hr
    subst e1
    obtain ⟨us, d1, d2, d3, d4⟩ := raw_vk (P := X.prog) rd h2 ho
    rw [vk_rep h1 hk] at ru
    have hl : ((ks.map toKey).zip us).length = ks.length := by simp; omega
    refine ⟨_, .inl ⟨_, toKey k, d1, kV_is ru, rfl, by omega, fun r h' dd v rv => ?_⟩, by rw [valueAt_vk h2 h1]; exact Vals.lookA d2⟩
    obtain ⟨s1, s2⟩ := stored_vk (v := r) h2 h1 d3
    have hv' : ∀ x ∈ putK ks k, isVK x = true := by
      unfold putK
      split
      · exact h2
      · intro x hx
        rcases List.mem_append.mp hx with z | z
        · exact h2 x z
        · rw [List.mem_singleton.mp z]; exact h1
    have hlen := putK_le ks k
    have hl2 : (stored ((ks.map toKey).zip us) (toKey k) r).length = (putK ks k).length := by simpa using congrArg List.length s1
    obtain ⟨o', q1, q2⟩ := raw_vk_back (w := X.w) dd hv' s1 (by rw [s2]; exact Vals.putA rv d2) (by omega)
    exact ⟨o', _, q1, q2, vk_repL' hv'⟩
  · obtain ⟨xs, d1, d2, d3, d4, d5⟩ := raw_tk I rd h2 hr ho
    obtain ⟨b, e1, e2, e3⟩ := tk_is I h1 hk ru
    subst e1
    have hl : xs.length = ks.length := by simpa using congrArg List.length d2
    refine ⟨_, .inr ⟨xs, nkD k, b, e2, d1, e3, rfl, d5, fun r h' dd v rv => ?_⟩, by rw [atKey_tk d2]; exact Vals.lookA d4⟩
    obtain ⟨s1, s2, s3⟩ := storedH_tk (b := b) (v := r) d2
    have hv' : ∀ x ∈ putK ks k, isTK x = true := by
      unfold putK
      split
      · exact h2
      · intro x hx
        rcases List.mem_append.mp hx with z | z
        · exact h2 x z
        · rw [List.mem_singleton.mp z]; exact h1
    have hlen := putK_le ks k
    have hl2 : (storedH xs (nkD k) b r).length = (putK ks k).length := by simpa using congrArg List.length s1
    obtain ⟨o', q1, q2⟩ := raw_tk_back (w := X.w) dd hv' s1 (by rw [s2]; exact Vals.putA rv d4) (by omega)
    refine ⟨o', _, q1, q2, ?_⟩
    rw [s3, ← d3]
    unfold putK
    by_cases z : hasK ks k = true
    · rw [if_pos z, if_pos z]; exact hr
    · rw [if_neg z, if_neg z]; exact hr.append (RepL.one hk)
/-- a new, empty dict -/
theorem raw_nil {w : World} : RawD w [] [] [] { cls := .type "dict", data := .dict #[] } :=
  ⟨⟨rfl, rfl, rfl⟩, .inl (fun _ h => nomatch h), List.nodup_nil, #[], 0, rfl, Nat.zero_le _, rfl, .nil, .nil⟩

/-! ### the operations on such a dict -/
variable {B : Around}
theorem w_in {Q : Value → Shared → Prop} (hu : B.units + 64 < cLine) {r : Option Value} (g : RG X s.heap a u r) (h : ∀ t, Q (.bool r.isSome) { s with toks := t }) : wpAny (model X.prog X.w) B (compareOp .In u (.ref a)) Q E s := by
  rcases g with ⟨hd, ⟨pv, k, dd, hk, rfl⟩ | ⟨xs, k, b, rfl, dd, hk, rfl⟩⟩
  · exact wpAny_in_of hk hd dd.mapOf (h _)
  · refine wpAny_in_heap (knd := nestedKind X.prog X.w) (show B.in1.units + 8 < cLine by simp only [Around.in1_units]; omega) hk hd dd ?_
    have := h (s.toks + (nestedKind X.prog X.w).draws k)
    rwa [Option.isSome_map] at this
theorem w_notIn {Q : Value → Shared → Prop} (hu : B.units + 64 < cLine) {r : Option Value} (g : RG X s.heap a u r) (h : ∀ t, Q (.bool (!r.isSome)) { s with toks := t }) : wpAny (model X.prog X.w) B (compareOp .NotIn u (.ref a)) Q E s := by
  rcases g with ⟨hd, ⟨pv, k, dd, hk, rfl⟩ | ⟨xs, k, b, rfl, dd, hk, rfl⟩⟩
  · exact wpAny_notIn_of hk hd dd.mapOf (h _)
  · refine wpAny_notIn_heap (knd := nestedKind X.prog X.w) (show B.in1.units + 8 < cLine by simp only [Around.in1_units]; omega) hk hd dd ?_
    have := h (s.toks + (nestedKind X.prog X.w).draws k)
    rwa [Option.isSome_map] at this
theorem w_getItem {Q : Value → Shared → Prop} (hu : B.units + 64 < cLine) {v : Value} (g : RG X s.heap a u (some v)) (h : ∀ t, Q v { s with toks := t }) : wpAny (model X.prog X.w) B (getItem (.ref a) u) Q E s := by
  rcases g with ⟨hd, ⟨pv, k, dd, hk, e⟩ | ⟨xs, k, b, rfl, dd, hk, e⟩⟩
  · exact wpAny_getItem_of hk dd.mapOf e.symm (h _)
  · obtain ⟨p, hp, hp2⟩ := Option.map_eq_some_iff.mp e.symm
    refine wpAny_getItem_heap (knd := nestedKind X.prog X.w) (show B.in1.units + 8 < cLine by simp only [Around.in1_units]; omega) hk dd hp ?_
    rw [hp2]; exact h _
theorem w_setItem {Q : Unit → Shared → Prop} {C : Value → Heap → Prop} (hu : B.units + 64 < cLine) {r : Value} {r0 : Option Value} (g : RP X s a u r0 C) (h : ∀ h' t, C r h' → Heap.SameBut a s.heap h' → Q () { s with heap := h', toks := t }) :
    wpAny (model X.prog X.w) B (setItem (.ref a) u r) Q E s := by
  rcases g with ⟨pv, k, dd, hk, _, hz, hC⟩ | ⟨xs, k, b, rfl, dd, hk, _, hz, hC⟩
  · exact wpAny_setItem_pairs (hsz := hz) hk dd fun h' d' sb => h h' _ (hC _ _ d') sb
  · exact wpAny_setItem_heap (knd := nestedKind X.prog X.w) (hsz := hz) (show B.in1.units + 8 < cLine by simp only [Around.in1_units]; omega) hk dd fun h' d' sb => h h' _ (hC _ _ d') sb
theorem w_dictSet {Q : Unit → Shared → Prop} {C : Value → Heap → Prop} (hu : B.units + 64 < cLine) {r : Value} {r0 : Option Value} (g : RP X s a u r0 C) (h : ∀ h' t, C r h' → Heap.SameBut a s.heap h' → Q () { s with heap := h', toks := t }) :
    wpAny (model X.prog X.w) B (dictSet a u r) Q E s := by
  rcases g with ⟨pv, k, dd, hk, _, hz, hC⟩ | ⟨xs, k, b, rfl, dd, hk, _, hz, hC⟩
  · exact wpAny_dictSet_pairs (hsz := hz) hk dd fun h' d' sb => h h' _ (hC _ _ d') sb
  · exact wpAny_dictSet_heap (knd := nestedKind X.prog X.w) (hsz := hz) (show B.units + 8 < cLine by omega) hk dd fun h' d' sb => h h' _ (hC _ _ d') sb
theorem Inv.rawW {h' : Heap} {t : Nat} {o' : Obj} (I : Inv X pins σ H s) (e : H a = some (rawO a o)) (ho : h'.get? a = some o') (sb : Heap.SameBut a s.heap h') : Inv X pins σ (upd H a (rawO a o')) { s with heap := h', toks := t } :=
  I.write (x := a) (e := a) (by rw [e]; exact rawO_mut) (.inl rfl) (fun b q hb z => (sb.2 b hb).trans z) ⟨o', ho⟩ (raw_ok ho (raw_at I e).2)
end
end Py
end L2

set_option Elab.async false
set_option linter.all false
set_option maxRecDepth 100000
/-! Dicts in the text: made, asked, written; dicts of live lists. -/
namespace L2
namespace Py
open PySem PySem.Spec PyProof.Rows
variable [Tl]

section
variable {X : Cx} {pins : List (Addr × Obj)} {σ : St} {H : Hp} {s : Shared} {L : Addr → Prop} {a : Addr} {u : Value} {B : Around} {E : Value → Shared → Prop}
theorem w_ty {r : Option Value} (g : RG X s.heap a u r) : s.TypeIs (.ref a) "dict" := by
  rcases g with ⟨_, ⟨pv, k, dd, _⟩ | ⟨xs, k, b, _, dd, _⟩⟩
  · exact dd.typeIs
  · exact dd.typeIs
/-- d.get(k, r) -/
theorem w_get2 {Q : Value → Shared → Prop} (hu : B.units + 64 < cLine) {r0 : Option Value} {r : Value} (g : RG X s.heap a u r0) (h : ∀ t, Q (r0.getD r) { s with toks := t }) :
    wpAny (model X.prog X.w) B (call (.builtin "dict.get") [.ref a, u, r]) Q E s := by
  rcases g with ⟨hd, ⟨pv, k, dd, hk, rfl⟩ | ⟨xs, k, b, rfl, dd, hk, rfl⟩⟩
  · exact call_meetsIn PySem.F.slot_dict_get dd.typeIs PySem.F.entry_dict_get (PySem.F.args_dict_get_3 _ _ _) (meets_dict_get_default (mixKind X.prog X.w) a hk hd r) ⟨_, dd.mapOf, h _⟩
  · exact call_meetsIn PySem.F.slot_dict_get dd.typeIs PySem.F.entry_dict_get (PySem.F.args_dict_get_3 _ _ _) (meetsH_dict_get_default (nestedKind X.prog X.w) a b hd r) ⟨(show B.in1.units + 8 < cLine by simp only [Around.in1_units]; omega), k, xs, hk, dd, h _⟩
/-- d.get(k) -/
theorem w_get1 {Q : Value → Shared → Prop} (hu : B.units + 64 < cLine) {r0 : Option Value} (g : RG X s.heap a u r0) (h : ∀ t, Q (r0.getD .none) { s with toks := t }) :
    wpAny (model X.prog X.w) B (call (.builtin "dict.get") [.ref a, u]) Q E s := by
  rcases g with ⟨hd, ⟨pv, k, dd, hk, rfl⟩ | ⟨xs, k, b, rfl, dd, hk, rfl⟩⟩
  · exact call_meetsIn PySem.F.slot_dict_get dd.typeIs PySem.F.entry_dict_get (PySem.F.args_dict_get_2 _ _) (meets_dict_get (mixKind X.prog X.w) a hk hd) ⟨_, dd.mapOf, h _⟩
  · exact call_meetsIn PySem.F.slot_dict_get dd.typeIs PySem.F.entry_dict_get (PySem.F.args_dict_get_2 _ _) (meetsH_dict_get (nestedKind X.prog X.w) a b hd) ⟨(show B.in1.units + 8 < cLine by simp only [Around.in1_units]; omega), k, xs, hk, dd, h _⟩
/-- d.setdefault(k, r) -/
theorem w_setd {Q : Value → Shared → Prop} {C : Value → Heap → Prop} (hu : B.units + 64 < cLine) (hd : (a == sysModules) = false) {r0 : Option Value} {r : Value} (g : RP X s a u r0 C) (h1 : ∀ v t, r0 = some v → Q v { s with toks := t })
    (h2 : r0 = none → ∀ h' t, C r h' → Heap.SameBut a s.heap h' → Q r { s with heap := h', toks := t }) : wpAny (model X.prog X.w) B (call (.builtin "dict.setdefault") [.ref a, u, r]) Q E s := by
  rcases g with ⟨pv, k, dd, hk, e, hz, hC⟩ | ⟨xs, k, b, rfl, dd, hk, e, hz, hC⟩
  · refine call_meetsIn PySem.F.slot_dict_setdefault dd.typeIs PySem.F.entry_dict_setdefault (PySem.F.args_dict_setdefault_3 _ _ _) (kt_meets_setdefault (mixKind X.prog X.w) a hk hd r) ⟨pv, dd, hz, fun v hv => h1 v _ (e.trans hv), fun hn h' dd' hs => h2 (e.trans hn) h' _ (hC _ _ dd') hs⟩
  · refine call_meetsIn PySem.F.slot_dict_setdefault dd.typeIs PySem.F.entry_dict_setdefault (PySem.F.args_dict_setdefault_3 _ _ _) (meetsH_dict_setdefault (nestedKind X.prog X.w) a b hd r)
      ⟨(show B.in1.units + 8 < cLine by simp only [Around.in1_units]; omega), k, xs, hk, dd, hz, fun p hp => h1 p.2 _ (by rw [e, hp]; rfl), fun hn h' dd' hs => h2 (by rw [e, hn]; rfl) h' _ (hC _ _ dd') hs⟩
theorem raw_ty {o : Obj} {w : World} {ks : List D} {kvs vvs : List V} (I : Inv X pins σ H s) (e : H a = some (rawO a o)) (rd : RawD w ks kvs vvs o) : s.TypeIs (.ref a) "dict" ∧ ∀ b, Value.ref a = .ref b → ∃ ob, s.heap.get? b = some ob ∧ ob.dict = none := by
  obtain ⟨ho, _⟩ := raw_at I e
  exact ⟨⟨o, ho, rd.1.1⟩, fun b q => by cases q; exact ⟨o, ho, rd.1.2.1⟩⟩
end

/-! ### a dict as it stands -/
def viewD (hs : Hs) : SV → Option (List D × List D)
  | .d (.dct ks ws) => some (ks, ws)
  | .r n => match hs[n]? with
    | some (.dct ks ws) => some (ks, ws)
    | _ => none
  | _ => none
section
variable {G : Gd} {H H' : Hp} {N N' : Lg} {hs hs' : Hs}
theorem viewD_of {x : SV} {v : V} {ks ws : List D} (h1 : HRel G hs N H) (h2 : RepS G H N x v) (h : viewD hs x = some (ks, ws)) :
    ∃ a o kvs vvs, v = .ref a ∧ H a = some (rawO a o) ∧ RawD G.w ks kvs vvs o ∧ RepL G H N.L ks kvs ∧ RepL G H N.L ws vvs := by
  cases x with
  | d z =>
    cases z with
    | dct ks' ws' =>
      have h : some (ks', ws') = some (ks, ws) := h
      cases h
      obtain ⟨a, o, kvs, vvs, q1, _, q2⟩ := (show Rep G H N.L (.dct ks ws) v from h2)
      exact ⟨a, o, kvs, vvs, q1, q2⟩
    | _ => cases h
  | r n =>
    obtain ⟨a, rfl, hn⟩ := h2
    obtain ⟨c, hc, q, _⟩ := h1.get hn
    simp only [viewD, hc] at h
    cases c with
    | dct ks' ws' =>
      have h : some (ks', ws') = some (ks, ws) := h
      cases h
      obtain ⟨o, kvs, vvs, q2⟩ := q
      exact ⟨a, o, kvs, vvs, rfl, q2⟩
    | _ => cases h
end
/-- what stands at a key -/
def dgF (hs : Hs) (x k : SV) : Option (Option D) := match viewD hs x, k with
  | some (ks, ws), .d k => if fitK ks k = true then some (lookA ks ws k) else none
  | _, _ => none
theorem dgF_of {X : Cx} {pins : List (Addr × Obj)} {σ : St} {H : Hp} {s : Shared} {N : Lg} {hs : Hs} {x k : SV} {v y : V} {u : Value} {r : Option D} (I : Inv X pins σ H s) (h1 : HRel (Cx.g X) hs N H) (h2 : RepS (Cx.g X) H N x v) (h3 : RepS (Cx.g X) H N k y) (ru : RelV y u) (h : dgF hs x k = some r) :
    ∃ a r0, v = .ref a ∧ RG X s.heap a u r0 ∧ ((r = none ∧ r0 = none) ∨ ∃ d w z, r = some d ∧ r0 = some z ∧ RelV w z ∧ Rep (Cx.g X) H N.L d w) := by
  unfold dgF at h
  split at h
  · rename_i ks ws k' e
    split at h
    · cases h
      obtain ⟨a, o, kvs, vvs, rfl, q1, q2, q3, q4⟩ := viewD_of h1 h2 e
      obtain ⟨r0, g, rr⟩ := raw_get I q1 q2 q3 (show Rep _ H N.L k' y from h3) ru (by assumption)
      refine ⟨a, r0, rfl, g, ?_⟩
      rcases q4.look (ks := ks) (k := k') with ⟨z1, z2⟩ | ⟨d, w, z1, z2, z3⟩
      · rw [z2] at rr
        left
        refine ⟨z1, ?_⟩
        cases r0 with
        | none => rfl
        | some _ => exact (show False from rr).elim
      · rw [z2] at rr
        right
        cases r0 with
        | none => exact (show False from rr).elim
        | some z => exact ⟨d, w, z, z1, rfl, rr, z3⟩
    · cases h
  · cases h
def inFD (neg : Bool) : F2 := fun hs x y => match viewD hs y with
  | some _ => (dgF hs y x).map fun r => .bl (if neg = true then !r.isSome else r.isSome)
  | none => inF neg hs x y
def ixFD : F2 := fun hs x y => match viewD hs x with
  | some _ => (dgF hs x y).join
  | none => ixF hs x y
section
variable {X : Cx} {W : WX} {k : Nat}
theorem or_inD (hr : Room k X.A) : OpR X (compareOp .In) (r2 (Cx.g X) (inFD false)) := by
  intro pins s σ H x y v u Q I rx ry ⟨hs, N, dx, dy, d, h1, h2, h3, e, q⟩
  have hun := hr.un
  unfold inFD at e
  split at e
  · cases e1 : dgF hs dy dx with
    | none => rw [e1] at e; cases e
    | some r =>
      rw [e1] at e
      cases e
      obtain ⟨a, r0, rfl, g, c⟩ := dgF_of I h1 h3 h2 rx e1
      obtain rfl : u = Value.ref a := ry
      have hs : r.isSome = r0.isSome := by rcases c with ⟨z1, z2⟩ | ⟨_, _, _, z1, z2, _⟩ <;> rw [z1, z2] <;> rfl
      exact w_in (by omega) g fun t => ⟨.bl r0.isSome, H, I.tok _, rfl, q _ H h1 Ext.refl (by rw [← hs]; exact rfl)⟩
  · exact or_in hr pins s σ H x y v u Q I rx ry ⟨hs, N, dx, dy, d, h1, h2, h3, e, q⟩
theorem or_notInD (hr : Room k X.A) : OpR X (compareOp .NotIn) (r2 (Cx.g X) (inFD true)) := by
  intro pins s σ H x y v u Q I rx ry ⟨hs, N, dx, dy, d, h1, h2, h3, e, q⟩
  have hun := hr.un
  unfold inFD at e
  split at e
  · cases e1 : dgF hs dy dx with
    | none => rw [e1] at e; cases e
    | some r =>
      rw [e1] at e
      cases e
      obtain ⟨a, r0, rfl, g, c⟩ := dgF_of I h1 h3 h2 rx e1
      obtain rfl : u = Value.ref a := ry
      have hs : r.isSome = r0.isSome := by rcases c with ⟨z1, z2⟩ | ⟨_, _, _, z1, z2, _⟩ <;> rw [z1, z2] <;> rfl
      exact w_notIn (by omega) g fun t => ⟨.bl (!r0.isSome), H, I.tok _, rfl, q _ H h1 Ext.refl (by rw [← hs]; exact rfl)⟩
  · exact or_notIn hr pins s σ H x y v u Q I rx ry ⟨hs, N, dx, dy, d, h1, h2, h3, e, q⟩
theorem ir_ixD (hr : Room k X.A) : IxR X (r2 (Cx.g X) ixFD) := by
  intro value slice pins s σ H x y v u Q I rx ry ⟨hs, N, dx, dy, d, h1, h2, h3, e, q⟩ hp
  have hun := hr.un
  unfold ixFD at e
  split at e
  · cases e1 : dgF hs dx dy with
    | none => rw [e1] at e; cases e
    | some r =>
      rw [e1] at e
      have e : r = some d := e
      subst e
      obtain ⟨a, r0, rfl, g, c⟩ := dgF_of I h1 h2 h3 ry e1
      obtain rfl : v = Value.ref a := rx
      rcases c with ⟨z1, _⟩ | ⟨d', w, z, z1, rfl, z3, z4⟩
      · cases z1
      · cases z1
        exact subscriptTail_builtinR (x := z) (w_ty g) PySem.F.slot_dict_getitem.lookup (w_getItem (by omega) g fun t => ⟨rfl, w, H, I.tok _, z3, q _ H h1 Ext.refl z4⟩) hp
  · exact ir_ix value slice pins s σ H x y v u Q I rx ry ⟨hs, N, dx, dy, d, h1, h2, h3, e, q⟩ hp
theorem se_ixD {a b : Expr} {ma mb : ME} {pos : Pos} (hr : Room k X.A) (ha : SE X W a ma) (hb : SE X W b mb) (hs : PlainIx b := by exact fun _ _ => rfl) : SE X W (.Subscript a b pos) (m2 ixFD ma mb) :=
  pe_of (pe_ix (ir_ixD hr) ha hb hs) fun _ _ _ h => op2_read (a := a) (b := b) h
end

/-! ### new live things, as values -/
def mNewD : ME := fun _ hs => .ok (.r hs.length) (hs ++ [.dct [] []])
def mNewDL : ME := fun _ hs => .ok (.r hs.length) (hs ++ [.dl [] []])
def mNewL' (a : MA) : ME := fun ρ hs => (a ρ hs).bind fun xs hs1 => match datas xs with
  | some ds => if ds.length ≤ sizeLine then .ok (.r hs1.length) (hs1 ++ [.lst ds]) else .bad
  | none => .bad
section
variable {X : Cx} {W : WX} {pos : Pos}
/-- {}: a new object -/
def tDNewR : TE := fun _ H Q => ∀ p o, H p = none → o = ({ cls := .type "dict", data := .dict #[] } : Obj) → Q (.ref p) (upd H p (rawO p o))
theorem pe_dnewR : PE X (.Dict [] [] pos) tDNewR := ⟨fun pins s σ H Q I h =>
  wpAny_Dict_empty ⟨.ref s.heap.objs.size, _, I.laid (a := s.heap.objs.size) (o := rawO s.heap.objs.size _) (t' := s.toks) (fun _ _ q => Heap.get?_push_of_some _ q) (Nat.le_refl _)
    (raw_ok (Heap.get?_push_size _ rfl) (beq_eq_false_iff_ne.mpr (Ne.symm (Nat.ne_of_lt I.big)))), rfl, h _ _ (I.hok.fresh (Nat.le_refl _)) rfl⟩⟩
theorem se_newD : SE X W (.Dict [] [] pos) mNewD := pe_of pe_dnewR fun σ H Q ⟨ρ, hs, N, hr, he, q⟩ p o hp ho => by
  have ex : ExtE H N (upd H p (rawO p o)) (N.push p (hr.fresh hp)) := Ext.push hp (hr.fresh hp)
  exact q _ (N.push p (hr.fresh hp)) _ (hr.push hp rawO_mut ⟨o, [], [], upd_same, by rw [ho]; exact raw_nil, rfl, rfl⟩) ex ⟨p, rfl, Lg.push_at hr.len⟩
theorem se_newDL : SE X W (.Dict [] [] pos) mNewDL := pe_of pe_dnewR fun σ H Q ⟨ρ, hs, N, hr, he, q⟩ p o hp ho => by
  have ex : ExtE H N (upd H p (rawO p o)) (N.push p (hr.fresh hp)) := Ext.push hp (hr.fresh hp)
  exact q _ (N.push p (hr.fresh hp)) _ (hr.push hp rawO_mut ⟨o, [], [], upd_same, by rw [ho]; exact raw_nil, rfl, .nil⟩) ex ⟨p, rfl, Lg.push_at hr.len⟩
theorem se_newL' {es : List Expr} {ma : MA} (h : SA X W es ma) : SE X W (.List es pos) (mNewL' ma) := by
  refine pe_of (pe_lst h) fun σ H Q h => ?_
  obtain ⟨ρ, hs, N, hr, he, q⟩ := TR.two (R := RepSL) h
  refine ⟨ρ, hs, N, hr, he, q.mono fun ys H1 ⟨ρ1, hs1, N1, a, q1, q2, q3, q4⟩ => ?_⟩
  cases e : datas a with
  | none => simp only [e] at q4; exact q4.elim
  | some ds =>
    simp only [e] at q4
    have rl := datas_of q3 e
    by_cases hl : ds.length ≤ sizeLine
    · simp only [if_pos hl] at q4
      refine ⟨by rw [← rl.length]; exact hl, fun p hp => ?_⟩
      have ex : ExtE H1 N1 (upd H1 p (.lst ys)) (N1.push p (q1.fresh hp)) := Ext.push hp (q1.fresh hp)
      exact q4 _ (N1.push p (q1.fresh hp)) _ (q1.push hp trivial ⟨ys, upd_same, RepL.ext ex _ _ rl⟩) ex ⟨p, rfl, Lg.push_at q1.len⟩
    · simp only [if_neg hl] at q4; exact q4.elim
end
end Py
end L2

set_option Elab.async false
set_option linter.all false
set_option maxRecDepth 100000
/-! Dicts written and asked by methods; dicts of live lists. -/
namespace L2
namespace Py
open PySem PySem.Spec PyProof.Rows
variable [Tl]

/-! ### methods that may hand back or make live things -/
abbrev FMs := Hs → SV → List SV → Option (SV × Hs)
def isDk (hs : Hs) : SV → Bool
  | .d (.dct _ _) => true
  | .r n => match hs[n]? with
    | some (.dct _ _) => true
    | some (.dl _ _) => true
    | _ => false
  | _ => false
def mMtD (f : FMs) (o : ME) (a : MA) : ME := fun ρ hs => (o ρ hs).bind fun x hs1 => if isDk hs1 x = true then (a ρ hs1).bind fun ds hs2 => match f hs2 x ds with
    | some (d, hs3) => .ok d hs3
    | none => .bad
  else .bad
def rMs (G : Gd) (f : FMs) : V → List V → Hp → VK → Prop := fun x vs H Q => ∃ hs N dx ds d hs', HRel G hs N H ∧ RepS G H N dx x ∧ RepSL G H N ds vs ∧ f hs dx ds = some (d, hs') ∧ ∀ v N' H', HRel G hs' N' H' → ExtE H N H' N' → RepS G H' N' d v → Q v H'
/-- a dict by its one object -/
def IsRaw (H : Hp) (x : V) : Prop := ∃ (a : Addr) (o : Obj) (w : World) (ks : List D) (kvs vvs : List V), x = .ref a ∧ H a = some (rawO a o) ∧ RawD w ks kvs vvs o
theorem isDk_raw {G : Gd} {hs : Hs} {N : Lg} {H : Hp} {x : SV} {v : V} (h1 : HRel G hs N H) (h2 : RepS G H N x v) (h : isDk hs x = true) : IsRaw H v := by
  cases x with
  | d z =>
    cases z with
    | dct ks ws =>
      obtain ⟨a, o, kvs, vvs, q1, _, q2, q3, _⟩ := (show Rep G H N.L (.dct ks ws) v from h2)
      exact ⟨a, o, _, _, _, _, q1, q2, q3⟩
    | _ => cases h
  | r n =>
    obtain ⟨a, rfl, hn⟩ := h2
    obtain ⟨c, hc, q, _⟩ := h1.get hn
    simp only [isDk, hc] at h
    cases c with
    | dct ks ws => obtain ⟨o, kvs, vvs, q1, q2, _⟩ := q; exact ⟨a, o, _, _, _, _, rfl, q1, q2⟩
    | dl ks ns => obtain ⟨o, kvs, bs, q1, q2, _⟩ := q; exact ⟨a, o, _, _, _, _, rfl, q1, q2⟩
    | _ => cases h
def tBMr (r : V → List V → Hp → VK → Prop) (to : TE) (t : TA) : TE := fun σ H Q => to σ H fun x H1 => IsRaw H1 x ∧ t σ H1 fun xs H2 => r x xs H2 Q
section
variable {X : Cx} {W : WX} {o e : Expr} {es : List Expr} {mo : ME} {ma : MA} {name : Str} {apos cpos : Pos} {id : String} {r : V → List V → Hp → VK → Prop} {to : TE} {t : TA} {f : FMs}
theorem pe_bmr (slot : Slot "dict" name id) (hty : typeOf (.builtin id) = pure (.type "method_descriptor")) (hm : MtM X id r) (ho : PE X o to) (ha : PA X (e :: es) t)
    (hb : attributeBase o name X.env (eval o X.env) = eval o X.env)
    (hw : ((backTo cpos (starEach (e :: es) X.env)).all (fun x => !x.1) && (backToKw cpos (keywordEach [] X.env)).all (fun x => x.1.isSome) && decide ((e :: es).length + ([] : List Keyword).length + (if ([] : List Keyword).isEmpty then 0 else 1) < 30)) = true)
    (hl : (apos.endLine == cpos.line) = true) (hs : starEach (e :: es) X.env = (false, eval e X.env) :: starEach es X.env) (hp : (backTo cpos (starEach es X.env)).any (·.1) = false) :
    PE X (.Call (.Attribute o name apos) (e :: es) [] cpos) (tBMr r to t) := by
  constructor
  intro pins s σ H Q I h
  refine wpAny_Call_method_late hb hw hl rfl (thn (ho.run pins s σ H _ I h) fun v s1 z => ?_)
  obtain ⟨x, H1, I1, r1, ⟨a, ob, w', ks, kvs, vvs, ex, eH, rd⟩, q1⟩ := z
  subst ex
  cases (show v = Value.ref a from r1)
  obtain ⟨t1, t2⟩ := raw_ty I1 eH rd
  refine ⟨"dict", id, PySem.F.plainAttrs_dict, slot, hty, t1, t2, ?_⟩
  have run := ha.run cpos pins s1 σ H1 _ I1 q1
  rw [hs] at run ⊢
  refine Calls.callWith_builtin ?_ (Calls.evalArgs_plain ?_)
  · show (false || (backTo cpos (starEach es X.env)).any (·.1)) = false
    rw [hp]; rfl
  · exact thn run fun us s2 ⟨vs, H2, I2, r2, q2⟩ => hm pins s2 σ H2 _ vs _ us Q I2 r1 r2 q2
/-- o.name(e, ..) of a dict -/
theorem se_bmD (slot : Slot "dict" name id) (hty : typeOf (.builtin id) = pure (.type "method_descriptor")) (hm : MtM X id (rMs (Cx.g X) f)) (ho : SE X W o mo) (ha : SA X W (e :: es) ma)
    (hb : attributeBase o name X.env (eval o X.env) = eval o X.env := by rfl)
    (hw : ((backTo cpos (starEach (e :: es) X.env)).all (fun x => !x.1) && (backToKw cpos (keywordEach [] X.env)).all (fun x => x.1.isSome) && decide ((e :: es).length + ([] : List Keyword).length + (if ([] : List Keyword).isEmpty then 0 else 1) < 30)) = true := by rfl)
    (hl : (apos.endLine == cpos.line) = true := by rfl) (hs : starEach (e :: es) X.env = (false, eval e X.env) :: starEach es X.env := by rfl) (hp : (backTo cpos (starEach es X.env)).any (·.1) = false := by rfl) :
    SE X W (.Call (.Attribute o name apos) (e :: es) [] cpos) (mMtD f mo ma) := by
  refine pe_of (pe_bmr slot hty hm ho ha hb hw hl hs hp) fun σ H Q h => ?_
  obtain ⟨ρ, hs, N, hr, he, q⟩ := TR.two (R := RepS) h
  refine ⟨ρ, hs, N, hr, he, q.mono fun x H1 ⟨ρ1, hs1, N1, d, q1, q2, q3, q4⟩ => ?_⟩
  by_cases hD : isDk hs1 d = true
  · simp only [if_pos hD] at q4
    refine ⟨isDk_raw q1 q3 hD, ρ1, hs1, N1, q1, q2, (PostO.bind (R := RepSL) q4).mono fun vs H2 ⟨hs2, N2, ds, z1, z2, z3, z4⟩ => ?_⟩
    cases ef : f hs2 d ds with
    | none => rw [ef] at z4; exact z4.elim
    | some p =>
      obtain ⟨y, hs3⟩ := p
      rw [ef] at z4
      exact ⟨hs2, N2, d, ds, y, hs3, z1, q3.ext z2, z3, ef, fun v N' H' a b c => z4 v N' H' a b c⟩
  · simp only [if_neg hD] at q4; exact q4.elim
end

/-! ### get -/
def getFD : FMs := fun hs x ds => match ds with
  | [k] => (dgF hs x k).map fun r => (.d (r.getD .non), hs)
  | [k, .d z] => (dgF hs x k).map fun r => (.d (r.getD z), hs)
  | _ => none
section
variable {X : Cx} {W : WX} {k : Nat}
theorem mm_getD (hr : Room k X.A) : MtM X "dict.get" (rMs (Cx.g X) getFD) := by
  intro pins s σ H x xs v us Q I rx rxs ⟨hs, N, dx, ds, d, hs', h1, h2, h3, e, q⟩
  have hun := hr.un
  unfold getFD at e
  split at e
  · rename_i k'
    cases e1 : dgF hs dx k' with
    | none => rw [e1] at e; cases e
    | some r =>
      rw [e1] at e
      cases e
      obtain ⟨w, rfl, r1⟩ := repSL1 h3
      obtain ⟨u, rfl, ru⟩ := Vals.one rxs
      obtain ⟨a, r0, rfl, g, c⟩ := dgF_of I h1 h2 r1 ru e1
      obtain rfl : v = Value.ref a := rx
      refine w_get1 (by omega) g fun t => ?_
      rcases c with ⟨rfl, rfl⟩ | ⟨d', w', z, rfl, rfl, z3, z4⟩
      · exact ⟨.non, H, I.tok _, rfl, q _ N H h1 Ext.refl rfl⟩
      · exact ⟨w', H, I.tok _, z3, q _ N H h1 Ext.refl z4⟩
  · rename_i k' y
    cases e1 : dgF hs dx k' with
    | none => rw [e1] at e; cases e
    | some r =>
      rw [e1] at e
      cases e
      obtain ⟨w, w2, rfl, r1, r2⟩ := repSL2 h3
      obtain ⟨u, u2, rfl, ru, ru2⟩ := vals2 rxs
      obtain ⟨a, r0, rfl, g, c⟩ := dgF_of I h1 h2 r1 ru e1
      obtain rfl : v = Value.ref a := rx
      refine w_get2 (by omega) g fun t => ?_
      rcases c with ⟨rfl, rfl⟩ | ⟨d', w', z, rfl, rfl, z3, z4⟩
      · exact ⟨w2, H, I.tok _, ru2, q _ N H h1 Ext.refl r2⟩
      · exact ⟨w', H, I.tok _, z3, q _ N H h1 Ext.refl z4⟩
  · cases e
end

/-! ### d[k] = v -/
def setFD (hs : Hs) (o i : SV) (d : SV) : Option Hs := match o, i, d with
  | .r n, .d k, .d x => match hs[n]? with
    | some (.dct ks ws) => if fitK ks k = true ∧ ks.length < sizeLine then some (hs.set n (.dct (putK ks k) (putA ks ws k x))) else none
    | _ => none
  | _, _, _ => none
def rSetR (G : Gd) : TSet := fun o i v H Q => ∃ hs N do' di dv hs', HRel G hs N H ∧ RepS G H N do' o ∧ RepS G H N di i ∧ RepS G H N dv v ∧ setFD hs do' di dv = some hs' ∧ ∀ H', HRel G hs' N H' → ExtE H N H' N → Q H'
section
variable {X : Cx} {W : WX} {P : Nat → Prop} {k : Nat} {o e i : Expr} {mo me mi : ME} {pos : Pos}
theorem set_raw (hr : Room k X.A) : PSet X (rSetR (Cx.g X)) := by
  intro pins s σ H ov iv v uo ui u Q I ro ri rv ⟨hs, N, d1, d2, d3, hs', h1, h2, h3, h4, e, q⟩
  have hun := hr.un
  unfold setFD at e
  split at e
  · rename_i n kk x
    split at e
    · rename_i ks ws e1
      split at e
      · rename_i hc
        cases e
        obtain ⟨a, rfl, hn⟩ := h2
        obtain rfl : uo = Value.ref a := ro
        obtain ⟨c, hcc, qc, _⟩ := h1.get hn
        rw [e1] at hcc; cases hcc
        obtain ⟨ob, kvs, vvs, q1, q2, q3, q4⟩ := qc
        obtain ⟨r0, g, _⟩ := raw_put I q1 q2 q3 (show Rep _ H N.L kk iv from h3) ri hc.1 hc.2
        refine w_setItem (by omega) g fun h' t hC sb => ?_
        obtain ⟨o', kvs', z1, z2, z3⟩ := hC v rv
        have I' := Inv.rawW (t := t) I q1 z1 sb
        have ew := Ext.write (P := All) (o := rawO a o') (List.mem_of_getElem? hn) (h1.mu a (N.liv a (List.mem_of_getElem? hn)))
        obtain ⟨hr', ex'⟩ := h1.write (o := rawO a o') (c := .dct (putK ks kk) (putA ks ws kk x)) hn rawO_mut ⟨o', kvs', _, upd_same, z2, RepL.ext ew _ _ z3, RepL.ext ew _ _ (RepL.putA (show Rep _ H N.L x v from h4) q4)⟩
        exact ⟨_, I', q _ hr' ex'⟩
      · cases e
    · cases e
  · cases e
def mSetD (a o i : ME) : MS := fun ρ hs => (a ρ hs).bindS ρ fun d hs1 => (o ρ hs1).bindS ρ fun ov hs2 => (i ρ hs2).bindS ρ fun iv hs3 => match setFD hs3 ov iv d with
  | some hs4 => .nx ρ hs4
  | none => .bad
theorem ss_setD {tpos : Pos} (hr : Room k X.A) (he : SE X W e me) (ho : SE X W o mo) (hi : SE X W i mi)
    (hs : swapsWithSole [.Subscript o i tpos] e pos.line X.env = pure false := by rfl) (hw : swappedStores [.Subscript o i tpos] e X.env = pure none := by rfl)
    (h1 : (assignEach [.Subscript o i tpos] X.env).map (·.2) = [assign (.Subscript o i tpos) X.env] := by rfl)
    (hA : ∀ v, assign (.Subscript o i tpos) X.env v = (do
      let ov ← holding [v] (eval o X.env)
      let iv ← holding [v, ov] (eval i X.env)
      standAt tpos
      holding [v, ov, iv] (setItem ov iv v)
      release [v, ov, iv] []) := by intro _; rfl) : SS X W P (.Assign [.Subscript o i tpos] e pos) (mSetD me mo mi) := by
  refine ps_of (ps_asg he (pg_sub ho hi (set_raw hr) hA) hs hw h1) fun D σ H h => ?_
  obtain ⟨ρ, hs, N, hr, hE, q⟩ := TS'.two (R := RepS) h
  refine ⟨ρ, hs, N, hr, hE, q.mono fun x H1 ⟨ρ1, hs1, N1, d, _, _, q1, q2, _, q3, q4⟩ => ?_⟩
  refine ⟨ρ1, hs1, N1, q1, q2, (PostO.bindS (R := RepS) q2 q4).mono fun ov H2 ⟨hs2, N2, od, z1, z2, z3, z4⟩ => ?_⟩
  refine ⟨ρ1, hs2, N2, z1, q2.ext z2, (PostO.bindS (R := RepS) (q2.ext z2) z4).mono fun iv H3 ⟨hs3, N3, id', y1, y2, y3, y4⟩ => ?_⟩
  cases ef : setFD hs3 od id' d with
  | none => simp only [ef] at y4; exact y4.elim
  | some hs4 =>
    simp only [ef] at y4
    exact ⟨hs3, N3, od, id', d, hs4, y1, z3.ext y2, y3, (q3.ext z2).ext y2, ef, fun H' a b => y4 σ N3 H' a b.toP (((q2.ext z2).ext y2).ext b)⟩
end

/-! ### dicts of live lists: d.setdefault(k, []), d[k] -/
def setdFL (hs : Hs) (x k : SV) : Option (SV × Hs) := match x, k with
  | .r n, .d k => match hs[n]? with
    | some (.dl ks ns) => if fitK ks k = true ∧ ks.length < sizeLine ∧ ks.length = ns.length then match lookA ks ns k with
        | some m => some (.r m, hs)
        | none => some (.r hs.length, hs.set n (.dl (putK ks k) (ns ++ [hs.length])) ++ [Cell.lst []])
      else none
    | _ => none
  | _, _ => none
def mSetdL (o k : ME) : ME := fun ρ hs => (o ρ hs).bind fun x hs1 => if isDk hs1 x = true then (k ρ hs1).bind fun y hs2 => match setdFL hs2 x y with
    | some (d, hs3) => .ok d hs3
    | none => .bad
  else .bad
section
variable {G : Gd} {H : Hp} {L L' : Addr → Prop}
mutual
theorem keyIn_anyL : ∀ (n : Nat) (d : D) (v : V), keyIn n d = true → Rep G H L d v → Rep G H L' d v
  | _, .non, _, _, h => h
  | _, .int _, _, _, h => h
  | _, .str _, _, _, h => h
  | n + 1, .tup xs, v, k, ⟨a, vs, h1, h2, h3⟩ => ⟨a, vs, h1, h2, keyInL_anyL n xs vs (by simpa [keyIn] using k) h3⟩
  | 0, .tup xs, _, k, _ => by simp [keyIn] at k
  | _, .bl _, _, k, _ => by simp [keyIn] at k
  | _, .lst _, _, k, _ => by simp [keyIn] at k
  | _, .dct _ _, _, k, _ => by simp [keyIn] at k
  | _, .scr _, _, k, _ => by simp [keyIn] at k
  | _, .glo _, _, k, _ => by simp [keyIn] at k
  | _, .ty _, _, k, _ => by simp [keyIn] at k
theorem keyInL_anyL : ∀ (n : Nat) (ds : List D) (vs : List V), keyInL n ds = true → RepL G H L ds vs → RepL G H L' ds vs
  | _, [], _, _, h => h
  | n, d :: ds, _, k, ⟨v, r, h1, h2, h3⟩ => by
    simp only [keyInL, Bool.and_eq_true] at k
    exact ⟨v, r, h1, keyIn_anyL n d v k.1 h2, keyInL_anyL n ds r k.2 h3⟩
end
theorem key_in {d : D} (h : isVK d = true ∨ isTK d = true) : keyIn 8 d = true := by
  rcases h with h | h
  · cases d <;> simp [isVK] at h <;> rfl
  · cases d <;> simp [isTK] at h
    simpa [keyIn] using h
theorem keys_anyL : ∀ {ks : List D} {vs : List V}, ((∀ k ∈ ks, isVK k = true) ∨ ∀ k ∈ ks, isTK k = true) → RepL G H L ks vs → RepL G H L' ks vs
  | [], _, _, h => h
  | k :: ks, _, hk, ⟨v, r, h1, h2, h3⟩ => ⟨v, r, h1, keyIn_anyL 8 k v (key_in (hk.imp (fun z => z k List.mem_cons_self) fun z => z k List.mem_cons_self)) h2,
      keys_anyL (hk.imp (fun z x hx => z x (List.mem_cons_of_mem _ hx)) fun z x hx => z x (List.mem_cons_of_mem _ hx)) h3⟩
end
section
variable {G : Gd} {H : Hp} {N : Lg}
theorem paired_look {R : Nat → Addr → Prop} {ks : List D} {k : D} : ∀ {ns : List Nat} {bs : List Addr}, Paired R ns bs → (lookA ks ns k = none ∧ lookA ks (bs.map V.ref) k = none) ∨ ∃ n b, lookA ks ns k = some n ∧ lookA ks (bs.map V.ref) k = some (.ref b) ∧ R n b := by
  induction ks with
  | nil => intro ns bs h; exact .inl ⟨by simp [lookA], by simp [lookA]⟩
  | cons x ks ih =>
    intro ns bs h
    cases h with
    | nil => exact .inl ⟨rfl, rfl⟩
    | @cons n b ns bs r t =>
      simp only [lookA, List.map_cons]
      by_cases q : keq x k = true
      · rw [if_pos q, if_pos q]; exact .inr ⟨n, b, rfl, rfl, r⟩
      · rw [if_neg q, if_neg q]; exact ih t
end
def mIxL (a b : ME) : ME := fun ρ hs => (a ρ hs).bind fun x hs1 => (b ρ hs1).bind fun y hs2 => match x, y with
  | .r n, .d k => match hs2[n]? with
    | some (.dl ks ns) => if fitK ks k = true then match lookA ks ns k with
        | some m => .ok (.r m) hs2
        | none => .bad
      else .bad
    | _ => .bad
  | _, _ => .bad
def r2s (G : Gd) (f : Hs → SV → SV → Option SV) : R2 := fun x y H Q => ∃ hs N dx dy d, HRel G hs N H ∧ RepS G H N dx x ∧ RepS G H N dy y ∧ f hs dx dy = some d ∧ ∀ v, RepS G H N d v → Q v H
def ixFL : Hs → SV → SV → Option SV := fun hs x y => match x, y with
  | .r n, .d k => match hs[n]? with
    | some (.dl ks ns) => if fitK ks k = true then (lookA ks ns k).map .r else none
    | _ => none
  | _, _ => none
section
variable {X : Cx} {W : WX} {k : Nat}
theorem ir_ixL (hr : Room k X.A) : IxR X (r2s (Cx.g X) ixFL) := by
  intro value slice pins s σ H x y v u Q I rx ry ⟨hs, N, dx, dy, d, h1, h2, h3, e, q⟩ hp
  have hun := hr.un
  unfold ixFL at e
  split at e
  · rename_i n kk
    split at e
    · rename_i ks ns e1
      split at e
      · rename_i hf
        obtain ⟨a, rfl, hn⟩ := h2
        obtain rfl : v = Value.ref a := rx
        obtain ⟨c, hcc, qc, _⟩ := h1.get hn
        rw [e1] at hcc; cases hcc
        obtain ⟨ob, kvs, bs, q1, q2, q3, q4⟩ := qc
        obtain ⟨r0, g, rr⟩ := raw_get I q1 q2 q3 (show Rep _ H N.L kk y from h3) ry hf
        rcases paired_look (ks := ks) (k := kk) q4 with ⟨z1, _⟩ | ⟨m, b, z1, z2, z3⟩
        · rw [z1] at e; cases e
        · rw [z1] at e
          cases e
          rw [z2] at rr
          cases r0 with
          | none => exact (show False from rr).elim
          | some z =>
            exact subscriptTail_builtinR (x := z) (w_ty g) PySem.F.slot_dict_getitem.lookup (w_getItem (by omega) g fun t => ⟨rfl, .ref b, H, I.tok _, rr, q _ ⟨b, rfl, z3⟩⟩) hp
      · cases e
    · cases e
  · cases e
theorem se_ixL {a b : Expr} {ma mb : ME} {pos : Pos} (hr : Room k X.A) (ha : SE X W a ma) (hb : SE X W b mb) (hs : PlainIx b := by exact fun _ _ => rfl) : SE X W (.Subscript a b pos) (mIxL ma mb) := by
  refine pe_of (pe_ix (ir_ixL hr) ha hb hs) fun σ H Q h => ?_
  obtain ⟨ρ, hs, N, hr, he, q⟩ := TR.two (R := RepS) h
  refine ⟨ρ, hs, N, hr, he, q.mono fun x H1 ⟨ρ1, hs1, N1, d, q1, q2, q3, q4⟩ => ?_⟩
  refine ⟨ρ1, hs1, N1, q1, q2, (PostO.bind (R := RepS) q4).mono fun y H2 ⟨hs2, N2, dy, z1, z2, z3, z4⟩ => ?_⟩
  refine ⟨hs2, N2, d, dy, ?_⟩
  split at z4
  · rename_i n kk
    split at z4
    · rename_i ks ns e1
      split at z4
      · rename_i hf
        split at z4
        · rename_i m e2
          exact ⟨.r m, z1, q3.ext z2, z3, by simp only [ixFL, e1, if_pos hf, e2]; rfl, fun v r => z4 v N2 H2 z1 Ext.refl r⟩
        · exact z4.elim
      · exact z4.elim
    · exact z4.elim
  · exact z4.elim
/-- d.setdefault(k, []): the list at p has just been made -/
def rSD (G : Gd) : V → List V → Hp → VK → Prop := fun x vs H3 Q => ∃ H hs N p y dx dk d hs', vs = [y, .ref p] ∧ H p = none ∧ H3 = upd H p (.lst []) ∧ HRel G hs N H ∧ RepS G H N dx x ∧ RepS G H N dk y ∧ setdFL hs dx dk = some (d, hs') ∧
  ∀ v N' H', HRel G hs' N' H' → ExtE H N H' N' → RepS G H' N' d v → Q v H'
theorem mm_setdL (hr : Room k X.A) : MtM X "dict.setdefault" (rSD (Cx.g X)) := by
  intro pins s σ H3 x xs v us Q I rx rxs ⟨H, hs, N, p, y, dx, dk, d, hs', exs, hp, eH, h1, h2, h3, e, q⟩
  have hun := hr.un
  subst exs eH
  have ea := Ext.alloc (P := All) (N := N) (o := .lst []) hp
  have h1a := h1.alloc (o := .lst []) hp
  unfold setdFL at e
  split at e
  · rename_i n kk
    split at e
    · rename_i ks ns e1
      split at e
      · rename_i hc
        obtain ⟨a, rfl, hn⟩ := h2
        obtain rfl : v = Value.ref a := rx
        obtain ⟨u, u2, rfl, ru, ru2⟩ := vals2 rxs
        obtain rfl : u2 = Value.ref p := ru2
        obtain ⟨c, hcc, qc, lv⟩ := h1a.get hn
        rw [e1] at hcc; cases hcc
        obtain ⟨ob, kvs, bs, q1, q2, q3, q4⟩ := qc
        have rk : Rep (Cx.g X) (upd H p (.lst [])) N.L kk y := Rep.ext ea kk y h3
        obtain ⟨r0, g, rr⟩ := raw_put I q1 q2 q3 rk ru hc.1 hc.2.1
        refine w_setd (by omega) (raw_at I q1).2 g (fun z t ez => ?_) fun en h' t hC sb => ?_
        · rcases paired_look (ks := ks) (k := kk) q4 with ⟨z1, z2⟩ | ⟨m, b, z1, z2, z3⟩
          · rw [z2, ez] at rr; exact (show False from rr).elim
          · simp only [z1] at e
            cases e
            rw [z2, ez] at rr
            exact ⟨.ref b, _, I.tok _, rr, q _ N _ h1a ea ⟨b, rfl, z3⟩⟩
        · rcases paired_look (ks := ks) (k := kk) q4 with ⟨z1, z2⟩ | ⟨m, b, z1, z2, z3⟩
          · simp only [z1] at e
            cases e
            obtain ⟨o', kvs', y1, y2, y3⟩ := hC (.ref p) rfl
            have I' := Inv.rawW (t := t) I q1 y1 sb
            have np : ¬ N.L p := h1.fresh hp
            have nap : a ≠ p := fun z => np (by rw [← z]; exact lv)
            have hk : hasK ks kk = false := by
              have z := lookA_length (ks := ks) (vs := ns) (k := kk) hc.2.2
              rw [z1] at z
              exact z.symm
            -- the list is ours now
            have hpu := h1.push (o := .lst []) (c := .lst []) hp trivial ⟨[], upd_same, rfl⟩
            have exP : ExtE H N (upd H p (.lst [])) (N.push p (h1.fresh hp)) := Ext.push hp (h1.fresh hp)
            have hn' : (N.push p (h1.fresh hp)).M[n]? = some (some a) := exP.pre n a trivial hn
            have ew := Ext.write (P := All) (N := N.push p (h1.fresh hp)) (o := rawO a o') (List.mem_of_getElem? hn') (hpu.mu a (.inl lv))
            have nl : n < hs.length := (List.getElem?_eq_some_iff.mp e1).1
            have e1' : (hs ++ [Cell.lst []])[n]? = some (.dl ks ns) := by rw [List.getElem?_append_left nl]; exact e1
            have y3' : RepL (Cx.g X) (upd H p (.lst [])) (N.push p (h1.fresh hp)).L (putK ks kk) kvs' := keys_anyL y2.2.1 y3
            have hput : putA ks (bs.map V.ref) kk (V.ref p) = (bs ++ [p]).map V.ref := by
              unfold putA
              rw [if_neg (by rw [hk]; simp), List.map_append]; rfl
            have hraw : RawD (Cx.g X).w (putK ks kk) kvs' ((bs ++ [p]).map V.ref) o' := by rw [← hput]; exact y2
            have hpair : Paired (fun (n : Nat) (b : Addr) => (N.push p (h1.fresh hp)).M[n]? = some (some b)) (ns ++ [hs.length]) (bs ++ [p]) :=
              Paired.snoc (L2.Paired.mapP q4 fun n b z => exP.pre n b trivial z) (Lg.push_at h1.len)
            obtain ⟨hr', ex'⟩ := hpu.write (o := rawO a o') (c := .dl (putK ks kk) (ns ++ [hs.length])) hn' rawO_mut ⟨o', kvs', bs ++ [p], upd_same, hraw, RepL.ext ew _ _ y3', hpair⟩ (.inr ⟨_, e1', rfl⟩)
            refine ⟨.ref p, _, I', rfl, q _ (N.push p (h1.fresh hp)) _ ?_ (exP.trans ex') ⟨p, rfl, Lg.push_at h1.len⟩⟩
            rw [List.set_append_left _ _ nl] at hr'
            exact hr'
          · rw [z2, en] at rr; exact (show False from rr).elim
      · cases e
    · cases e
  · cases e
theorem se_setdL {o e : Expr} {mo me : ME} {apos cpos lpos : Pos} (hr : Room k X.A) (ho : SE X W o mo) (he : SE X W e me)
    (hb : attributeBase o "setdefault" X.env (eval o X.env) = eval o X.env := by rfl)
    (hw : ((backTo cpos (starEach [e, .List [] lpos] X.env)).all (fun x => !x.1) && (backToKw cpos (keywordEach [] X.env)).all (fun x => x.1.isSome) && decide (([e, .List [] lpos] : List Expr).length + ([] : List Keyword).length + (if ([] : List Keyword).isEmpty then 0 else 1) < 30)) = true := by rfl)
    (hl : (apos.endLine == cpos.line) = true := by rfl) (hs : starEach [e, .List [] lpos] X.env = (false, eval e X.env) :: starEach [.List [] lpos] X.env := by rfl) (hp : (backTo cpos (starEach [.List [] lpos] X.env)).any (·.1) = false := by rfl) :
    SE X W (.Call (.Attribute o "setdefault" apos) [e, .List [] lpos] [] cpos) (mSetdL mo me) := by
  refine pe_of (pe_bmr PySem.F.slot_dict_setdefault PySem.F.type_dict_setdefault (mm_setdL hr) ho (pa_cons he (pa_cons (pe_lst pa_nil) pa_nil (by rfl)) hs) hb hw hl hs hp) fun σ H Q h => ?_
  obtain ⟨ρ, hs, N, hr', hE, q⟩ := TR.two (R := RepS) h
  refine ⟨ρ, hs, N, hr', hE, q.mono fun x H1 ⟨ρ1, hs1, N1, d, q1, q2, q3, q4⟩ => ?_⟩
  by_cases hD : isDk hs1 d = true
  · simp only [if_pos hD] at q4
    refine ⟨isDk_raw q1 q3 hD, ρ1, hs1, N1, q1, q2, (PostO.bind (R := RepS) q4).mono fun y H2 ⟨hs2, N2, dk, z1, z2, z3, z4⟩ => ?_⟩
    cases ef : setdFL hs2 d dk with
    | none => rw [ef] at z4; exact z4.elim
    | some r =>
      obtain ⟨dd, hs3⟩ := r
      rw [ef] at z4
      exact ⟨Nat.zero_le _, fun p hp => ⟨H2, hs2, N2, p, y, d, dk, dd, hs3, rfl, hp, rfl, z1, q3.ext z2, z3, ef, fun v N' H' a b c => z4 v N' H' a b c⟩⟩
  · simp only [if_neg hD] at q4; exact q4.elim
end
end Py
end L2

set_option Elab.async false
set_option linter.all false
set_option maxRecDepth 100000
/-! sorted(..) of lists and dicts: ints, texts, tuples of these. -/
namespace L2
namespace Py
open PySem PySem.Spec PyProof.Rows
open PySem.W (EachIs AllAlike Sortable dataLe KdlSrc)
variable [Tl]

mutual
def pyK : D → PyData
  | .int i => .int i
  | .str x => .str x
  | .tup xs => .tuple (pyKL xs)
  | .non => .none
  | .bl _ => .none
  | .lst _ => .none
  | .dct _ _ => .none
  | .scr _ => .none
  | .glo _ => .none
  | .ty _ => .none
def pyKL : List D → List PyData
  | [] => []
  | x :: xs => pyK x :: pyKL xs
end
theorem pyKL_map : ∀ xs : List D, pyKL xs = xs.map pyK
  | [] => rfl
  | x :: xs => by rw [pyKL, List.map_cons, pyKL_map xs]
/-- the items in order -/
def sortK (xs : List D) : List D := xs.mergeSort (dataLe false pyK)
def isTup1 : D → Bool
  | .tup (_ :: _) => true
  | _ => false
def sortOk (xs : List D) : Bool := xs.all (keyIn 8 ·) && (xs.all fun a => xs.all fun b => PySem.W.alike (pyK a) (pyK b)) && (xs.all isTup1 || xs.all isVK) && decide (xs.length ≤ 1000000)
theorem sortOk_of {xs : List D} (h : sortOk xs = true) : (∀ x ∈ xs, keyIn 8 x = true) ∧ AllAlike (xs.map pyK) ∧ Sortable (xs.map pyK) ∧ xs.length ≤ sizeLine := by
  unfold sortOk at h
  simp only [Bool.and_eq_true, Bool.or_eq_true, List.all_eq_true, decide_eq_true_eq] at h
  obtain ⟨⟨⟨h1, h2⟩, h3⟩, h4⟩ := h
  refine ⟨h1, fun d hd d' hd' => ?_, ?_, Nat.le_trans h4 (by decide)⟩
  · obtain ⟨x, hx, rfl⟩ := List.mem_map.mp hd
    obtain ⟨y, hy, rfl⟩ := List.mem_map.mp hd'
    exact h2 x hx y hy
  · rcases h3 with h3 | h3
    · refine .inl fun d hd => ?_
      obtain ⟨x, hx, rfl⟩ := List.mem_map.mp hd
      have := h3 x hx
      cases x with
      | tup xs =>
        cases xs with
        | nil => cases this
        | cons y ys => exact ⟨pyK y, pyKL ys, rfl⟩
      | _ => cases this
    · refine .inr fun d hd => ?_
      obtain ⟨x, hx, rfl⟩ := List.mem_map.mp hd
      have := h3 x hx
      cases x <;> simp [isVK] at this
      · exact ⟨fun z => (by simp [pyK] at z), fun xs z => (by simp [pyK] at z)⟩
      · exact ⟨fun z => (by simp [pyK] at z), fun xs z => (by simp [pyK] at z)⟩
mutual
theorem pyK_depth : ∀ (n : Nat) (d : D), keyIn n d = true → (pyK d).depth ≤ n
  | _, .non, _ => Nat.zero_le _
  | _, .int _, _ => Nat.zero_le _
  | _, .str _, _ => Nat.zero_le _
  | n + 1, .tup xs, k => by
    have := pyKL_depth n xs (by simpa [keyIn] using k)
    simp only [pyK, PyData.depth]; omega
  | 0, .tup xs, k => by simp [keyIn] at k
  | _, .bl _, k => by simp [keyIn] at k
  | _, .lst _, k => by simp [keyIn] at k
  | _, .dct _ _, k => by simp [keyIn] at k
  | _, .scr _, k => by simp [keyIn] at k
  | _, .glo _, k => by simp [keyIn] at k
  | _, .ty _, k => by simp [keyIn] at k
theorem pyKL_depth : ∀ (n : Nat) (ds : List D), keyInL n ds = true → PyData.depthAll (pyKL ds) ≤ n
  | _, [], _ => by simp [pyKL, PyData.depthAll]
  | n, d :: ds, k => by
    simp only [keyInL, Bool.and_eq_true] at k
    have h1 := pyK_depth n d k.1
    have h2 := pyKL_depth n ds k.2
    simp only [pyKL, PyData.depthAll]; omega
end
section
variable {X : Cx} {pins : List (Addr × Obj)} {σ : St} {H : Hp} {s : Shared} {L : Addr → Prop}
mutual
theorem key_reads (I : Inv X pins σ H s) : ∀ (n : Nat) (d : D) (v : V) (u : Value), keyIn n d = true → Rep (Cx.g X) H L d v → RelV v u → Reads s.heap u (pyK d) []
  | _, .non, v, u, _, h, r => by
    rw [show v = .non from h] at r; rw [show u = Value.none from r]; exact .none
  | _, .int i, v, u, _, h, r => by
    rw [show v = .int i from h] at r; obtain ⟨t, e⟩ := (show ∃ t, u = Value.int i t from r); rw [e]; exact .int _ _
  | _, .str x, v, u, _, h, r => by
    rw [show v = .str x from h] at r; obtain ⟨t, e⟩ := (show ∃ t, u = Value.str x t from r); rw [e]; exact .str _ _
  | n + 1, .tup xs, v, u, k, ⟨a, vs, h1, h2, h3⟩, r => by
    rw [h1] at r
    rw [show u = Value.ref a from r]
    obtain ⟨its, r2, ⟨o, e1, e2, m, e3⟩, _⟩ := I.tuple h2
    exact .tuple e1 e2 e3 (by simpa using keyL_reads I n xs vs its (by simpa [keyIn] using k) h3 r2)
  | 0, .tup xs, _, _, k, _, _ => by simp [keyIn] at k
  | _, .bl _, _, _, k, _, _ => by simp [keyIn] at k
  | _, .lst _, _, _, k, _, _ => by simp [keyIn] at k
  | _, .dct _ _, _, _, k, _, _ => by simp [keyIn] at k
  | _, .scr _, _, _, k, _, _ => by simp [keyIn] at k
  | _, .glo _, _, _, k, _, _ => by simp [keyIn] at k
  | _, .ty _, _, _, k, _, _ => by simp [keyIn] at k
theorem keyL_reads (I : Inv X pins σ H s) : ∀ (n : Nat) (ds : List D) (vs : List V) (us : List Value), keyInL n ds = true → RepL (Cx.g X) H L ds vs → Vals vs us → ReadsAll s.heap us (pyKL ds) []
  | n, [], vs, us, _, h, r => by
    rw [show vs = [] from h] at r; cases r; exact .nil
  | n, d :: ds, _, us, k, ⟨v, r, h1, h2, h3⟩, q => by
    subst h1
    cases q with
    | cons q1 q2 =>
      simp only [keyInL, Bool.and_eq_true] at k
      exact .cons (key_reads I n d v _ k.1 h2 q1) (keyL_reads I n ds r _ k.2 h3 q2)
end
/-- an item's value -/
def RVD (G : Gd) (H : Hp) (L : Addr → Prop) : Value → D → Prop := fun u d => ∃ v, RelV v u ∧ Rep G H L d v
theorem rvd_of {G : Gd} {H : Hp} : ∀ {ds : List D} {vs : List V} {us : List Value}, RepL G H L ds vs → Vals vs us → EachIs (RVD G H L) us ds
  | [], vs, us, h, r => by rw [show vs = [] from h] at r; cases r; exact .nil
  | d :: ds, _, us, ⟨v, r, h1, h2, h3⟩, q => by
    subst h1
    cases q with
    | cons q1 q2 => exact .cons ⟨v, q1, h2⟩ (rvd_of h3 q2)
theorem of_rvd {G : Gd} {H : Hp} : ∀ {ds : List D} {us : List Value}, EachIs (RVD G H L) us ds → ∃ vs, RepL G H L ds vs ∧ Vals vs us
  | [], _, .nil => ⟨[], rfl, .nil⟩
  | d :: ds, _, .cons ⟨v, q1, h2⟩ t => by
    obtain ⟨vs, z1, z2⟩ := of_rvd t
    exact ⟨v :: vs, ⟨v, vs, rfl, h2, z1⟩, .cons q1 z2⟩
theorem rvd_reads (I : Inv X pins σ H s) : ∀ {ds : List D} {us : List Value}, (∀ d ∈ ds, keyIn 8 d = true) → EachIs (RVD (Cx.g X) H L) us ds → EachIs (fun u d => Reads s.heap u (pyK d) []) us ds
  | [], _, _, .nil => .nil
  | d :: ds, _, hk, .cons ⟨v, q1, h2⟩ t => .cons (key_reads I 8 d v _ (hk d List.mem_cons_self) h2 q1) (rvd_reads I (fun x hx => hk x (List.mem_cons_of_mem _ hx)) t)
end

/-- the items of a list, the keys of a dict -/
def seqS (hs : Hs) (x : SV) : Option (List D) := match viewL hs x with
  | some xs => some xs
  | none => match x with
    | .d (.dct ks _) => some ks
    | .r n => match hs[n]? with
      | some (.dct ks _) => some ks
      | some (.dl ks _) => some ks
      | _ => none
    | _ => none
def sortedF : FL := fun hs ds => match ds with
  | [x] => match seqS hs x with
    | some xs => if sortOk xs = true then some (.lst (sortK xs)) else none
    | none => none
  | _ => none
section
variable {G : Gd} {H : Hp} {N : Lg} {hs : Hs}
theorem seqS_of {x : SV} {v : V} {xs : List D} (h1 : HRel G hs N H) (h2 : RepS G H N x v) (h : seqS hs x = some xs) :
    ∃ a, v = .ref a ∧ ((∃ vs, H a = some (.lst vs) ∧ RepL G H N.L xs vs) ∨ ∃ o kvs vvs, H a = some (rawO a o) ∧ RawD G.w xs kvs vvs o ∧ RepL G H N.L xs kvs) := by
  unfold seqS at h
  cases e1 : viewL hs x with
  | some ys =>
    rw [e1] at h
    cases h
    obtain ⟨a, vs, q1, q2, q3⟩ := viewL_of h1 h2 e1
    exact ⟨a, q1, .inl ⟨vs, q2, q3⟩⟩
  | none =>
    rw [e1] at h
    cases x with
    | d z =>
      cases z with
      | dct ks ws =>
        have h : some ks = some xs := h
        cases h
        obtain ⟨a, o, kvs, vvs, q1, _, q2, q3, q4, _⟩ := (show Rep G H N.L (.dct xs ws) v from h2)
        exact ⟨a, q1, .inr ⟨o, kvs, vvs, q2, q3, q4⟩⟩
      | _ => cases h
    | r n =>
      obtain ⟨a, rfl, hn⟩ := h2
      obtain ⟨c, hc, q, _⟩ := h1.get hn
      simp only [hc] at h
      cases c with
      | dct ks ws =>
        have h : some ks = some xs := h
        cases h
        obtain ⟨o, kvs, vvs, q1, q2, q3, _⟩ := q
        exact ⟨a, rfl, .inr ⟨o, kvs, vvs, q1, q2, q3⟩⟩
      | dl ks ns =>
        have h : some ks = some xs := h
        cases h
        obtain ⟨o, kvs, bs, q1, q2, q3, _⟩ := q
        exact ⟨a, rfl, .inr ⟨o, kvs, _, q1, q2, q3⟩⟩
      | _ => cases h
end
theorem each_at {α β : Type} {R : α → β → Prop} : ∀ {as : List α} {bs : List β}, as.length = bs.length → (∀ (i : Nat) (a : α) (b : β), as[i]? = some a → bs[i]? = some b → R a b) → EachIs R as bs
  | [], [], _, _ => .nil
  | [], _ :: _, h, _ => by simp at h
  | _ :: _, [], h, _ => by simp at h
  | a :: as, b :: bs, h, k => .cons (k 0 a b rfl rfl) (each_at (by simpa using h) fun i x y hx hy => k (i + 1) x y (by simpa using hx) (by simpa using hy))
section
variable {X : Cx} {W : WX} {k : Nat}
theorem cr_sorted' (hc : X.calm = true) (hr : Room k X.A) : CallR X (.builtin "sorted") (rl (Cx.g X) sortedF) := by
  intro pins s σ H xs us Q I r ⟨hs, N, ds, d, h1, h2, e, q⟩
  have hun := hr.un
  unfold sortedF at e
  split at e
  · rename_i x
    obtain ⟨v, rfl, r1⟩ := repSL1 h2
    cases e1 : seqS hs x with
    | none => rw [e1] at e; cases e
    | some ys =>
      rw [e1] at e
      by_cases ok : sortOk ys = true
      · simp only [if_pos ok] at e
        cases e
        obtain ⟨k1, k2, k3, k4⟩ := sortOk_of ok
        obtain ⟨a, rfl, src⟩ := seqS_of h1 r1 e1
        rw [Vals.ref1 r]
        have hlen : (sortK ys).length = ys.length := List.length_mergeSort _
        rcases src with ⟨vs, a1, a2⟩ | ⟨o, kvs, vvs, a1, a2, a3⟩
        · obtain ⟨its, rv, hl, hz⟩ := I.list (SqL.of a1)
          have ea := rvd_of a2 rv
          refine PySem.W.sorted_data (enc := pyK) hl.isList ea ((rvd_reads I k1 ea).mono fun _ _ z => ⟨_, z⟩) k2 k3 k4 (fun b hb => ?_) fun out ho eo => ?_
          · have := pyK_depth 8 b (k1 b hb); omega
          · obtain ⟨ws, w1, w2⟩ := of_rvd eo
            obtain ⟨c, hc'⟩ := PyProof.Rows.sortedAll_at s.heap its out.toArray
            have hp : H (s.heap.objs.size + 1) = none := I.hok.fresh (Nat.le_succ _)
            refine ⟨.ref _, upd H (s.heap.objs.size + 1) (.lst ws), I.laid (t' := s.toks) (fun b o z => PyProof.Rows.sortedAll_old z) (Nat.le_succ _) ⟨?_, out, c, w2, hc'⟩, rfl, ?_⟩
            · rw [← w1.length]; show (sortK ys).length ≤ _; rw [hlen]; exact k4
            · exact q _ _ (h1.alloc hp) (Ext.alloc hp) ⟨_, ws, rfl, h1.fresh hp, upd_same, RepL.ext (P := All) (Ext.alloc hp) _ _ w1⟩
        · obtain ⟨ho, hd⟩ := raw_at I a1
          obtain ⟨f1, f2, f3, es, ep, f4, f5, f6, f7, f8⟩ := a2
          have hel : es.size = ys.length := by simpa using congrArg List.length f6
          refine Calls.call_function_entry PyProof.Rows.kind_sorted PyProof.Rows.plain_sorted PyProof.Rows.entry_sorted (PyProof.Rows.args_sorted1 _) ?_
          unfold Builtin.«sorted»
          refine wpAny_bind (m := checkCount "sorted" 1 1 _) (wpAny_pure ?_)
          refine wpAny_bind (PySem.W.kdu_collect (A := X.A.in1) (KdlSrc.rawDict (es := es) (ep := ep) hd) (I.ok.hd hc) ⟨o, ho, f1, f4⟩ f5 fun h' tk acc hk hacc => ?_)
          have I1 : Inv X pins σ H { s with heap := h', toks := tk } := I.kept hk
          have eacc : acc.toList = es.toList.map (·.key) := by
            apply List.ext_getElem?
            intro i
            by_cases hi : i < es.size
            · have hi' : i < acc.toList.length := by rw [Array.length_toList, hacc.1]; exact hi
              obtain ⟨_, z2⟩ := hacc.2 i acc.toList[i] (by rw [← Array.getElem?_toList]; exact List.getElem?_eq_getElem hi')
              rw [List.getElem?_eq_getElem hi', z2, List.getElem?_map, Array.getElem?_toList, Array.getElem?_eq_getElem hi]; rfl
            · rw [List.getElem?_eq_none (by rw [Array.length_toList, hacc.1]; omega), List.getElem?_eq_none (by simp; omega)]
          have ea : EachIs (RVD (Cx.g X) H N.L) acc.toList ys := by rw [eacc]; exact rvd_of a3 f7
          refine wpAny_bind (wpAny_newList ?_ (by rw [Array.length_toList, hacc.1]; exact f5))
          have hoL : (h'.push (seqObj "list" acc.toList.toArray 0)).get? h'.objs.size = some (seqObj "list" acc.toList.toArray 0) := Heap.get?_push_size _ rfl
          show wpAny _ _ _ _ _ { s with heap := h'.push (seqObj "list" acc.toList.toArray 0), toks := tk }
          have I2 : Inv X pins σ H { s with heap := h'.push (seqObj "list" acc.toList.toArray 0), toks := tk } := I1.kept fun b o z => Heap.get?_push_of_some _ z
          refine wpAny_bind (wpAny_holding (PySem.W.list_sort_data (enc := pyK) (s := { s with heap := h'.push (seqObj "list" acc.toList.toArray 0), toks := tk }) hoL ea ((rvd_reads I2 k1 ea).mono fun _ _ z => ⟨[], z, by simp⟩) k2 k3 k4 (fun b hb => ?_) fun out ho2 eo => ?_))
          · have := pyK_depth 8 b (k1 b hb)
            simp only [Around.in1_units]; omega
          · obtain ⟨ws, w1, w2⟩ := of_rvd eo
            obtain ⟨c, hc'⟩ := PyProof.Rows.sortedHeap_at (vs := acc.toList) (out := out.toArray) hoL
            have hp : H h'.objs.size = none := I1.hok.fresh (Nat.le_refl _)
            refine wpAny_pure ⟨_, rfl, .ref h'.objs.size, upd H h'.objs.size (.lst ws), I1.laid (t' := tk) (fun b u z => ?_) (Nat.le_refl _) ⟨?_, out, c, w2, hc'⟩, rfl, ?_⟩
            · have hb : b < h'.objs.size := Heap.lt_size z
              rw [PyProof.Rows.sortedHeap_old (Nat.ne_of_lt hb) (by rw [size_push']; exact Nat.lt_succ_of_lt hb)]
              exact Heap.get?_push_of_some _ z
            · rw [← w1.length]; show (sortK ys).length ≤ _; rw [hlen]; exact k4
            · exact q _ _ (h1.alloc hp) (Ext.alloc hp) ⟨_, ws, rfl, h1.fresh hp, upd_same, RepL.ext (P := All) (Ext.alloc hp) _ _ w1⟩
      · simp only [if_neg ok] at e; cases e
  · cases e
end
end Py
end L2

set_option Elab.async false
set_option linter.all false
set_option maxRecDepth 100000
/-! Lambdas that give keys: sorted(.., key=lambda x: ..). -/
namespace L2
namespace Py
open PySem PySem.Spec PyProof.Rows
open PySem.W (EachIs AllAlike Sortable dataLe KeyPure)
variable [Tl]

/-- the body gives the key kf x of x -/
def KeyBody (P : Program) (w : World) (K : PySem.W.Frag) (mg : Str → Option Value) (base : Heap) (a q : Str) (scope : Scope) (body : Expr) (kf : D → Option D) : Prop :=
  ∀ (A : Around) (outer : List Env) (s s1 : Shared) (H : Hp) (L : Addr → Prop) (f : Addr) (cd : Value) (v : Value) (y : V) (x k : D), kf x = some k → keyIn 8 x = true → RelV y v → Rep ⟨K, mg, w, base⟩ H L x y → A.guards = some [] → Room 3 (A.deeper (envOfC q scope s.heap.objs.size f cd)) → A.handled = none →
    Env0 P w K mg base A outer s H →
    InCallC s s.heap.objs.size (bindL (envOfC q scope s.heap.objs.size f cd).kindOf (([a] : List Str).zip [v]) fun _ => none) (cellsFrom (s.heap.objs.size + 1) scope.names []) (bindC (envOfC q scope s.heap.objs.size f cd).kindOf (([a] : List Str).zip [v]) fun _ => none) s1 →
    wpAny (model P w) (A.deeper (envOfC q scope s.heap.objs.size f cd)) (eval body (envOfC q scope s.heap.objs.size f cd)) (KeyPure (pyK k) s1) (fun _ _ => False) s1
/-- the lambda's own name -/
structure LamP (a : Str) (scope : Scope) : Prop where
  S : FnScope [a] [a] scope
  loc : scope.names.lookup a = some .local
  nd : (a == ("__debug__" : Str)) = false
section
variable {P : Program} {w : World} {K : PySem.W.Frag} {mg : Str → Option Value} {base : Heap} {a q : Str} {scope : Scope}
theorem lam_name {A : Around} {s s1 s2 : Shared} {f : Addr} {cd v : Value} {pos : Pos} {Q E : Value → Shared → Prop} (Z : LamP a scope)
    (x : InCallC s s.heap.objs.size (bindL (envOfC q scope s.heap.objs.size f cd).kindOf (([a] : List Str).zip [v]) fun _ => none) (cellsFrom (s.heap.objs.size + 1) scope.names []) (bindC (envOfC q scope s.heap.objs.size f cd).kindOf (([a] : List Str).zip [v]) fun _ => none) s1)
    (t : Nat) (e2 : s2 = { s1 with toks := t }) (h : Q v s2) : wpAny (model P w) A (eval (.Name a pos) (envOfC q scope s.heap.objs.size f cd)) Q E s2 := by
  subst e2
  have hk : (envOfC q scope s.heap.objs.size f cd).kindOf a = some .local := Z.loc
  refine NameLC (env := envOfC q scope s.heap.objs.size f cd) (x.tok t) Z.S.kind hk ?_ h Z.nd
  show bindL _ [(a, v)] _ a = some v
  unfold bindL
  rw [if_pos hk]
  unfold bindL
  exact if_pos rfl
theorem keyIn_get : ∀ {n : Nat} {xs : List D} {i : Nat} {d : D}, keyInL n xs = true → xs[i]? = some d → keyIn n d = true
  | n, x :: xs, 0, d, h, e => by
    simp only [keyInL, Bool.and_eq_true] at h
    simp at e; subst e; exact h.1
  | n, x :: xs, i + 1, d, h, e => by
    simp only [keyInL, Bool.and_eq_true] at h
    exact keyIn_get (i := i) h.2 (by simpa using e)
  | _, [], _, _, _, e => by simp at e
mutual
theorem keyIn_mono : ∀ (n m : Nat) (d : D), n ≤ m → keyIn n d = true → keyIn m d = true
  | _, _, .non, _, _ => by simp [keyIn]
  | _, _, .int _, _, _ => by simp [keyIn]
  | _, _, .str _, _, _ => by simp [keyIn]
  | n + 1, m + 1, .tup xs, h, k => by
    simp only [keyIn] at k ⊢
    exact keyInL_mono n m xs (by omega) k
  | n + 1, 0, .tup xs, h, _ => by omega
  | 0, _, .tup xs, _, k => by simp [keyIn] at k
  | _, _, .bl _, _, k => by simp [keyIn] at k
  | _, _, .lst _, _, k => by simp [keyIn] at k
  | _, _, .dct _ _, _, k => by simp [keyIn] at k
  | _, _, .scr _, _, k => by simp [keyIn] at k
  | _, _, .glo _, _, k => by simp [keyIn] at k
  | _, _, .ty _, _, k => by simp [keyIn] at k
theorem keyInL_mono : ∀ (n m : Nat) (ds : List D), n ≤ m → keyInL n ds = true → keyInL m ds = true
  | _, _, [], _, _ => by simp [keyInL]
  | n, m, d :: ds, h, k => by
    simp only [keyInL, Bool.and_eq_true] at k ⊢
    exact ⟨keyIn_mono n m d h k.1, keyInL_mono n m ds h k.2⟩
end
/-- lambda x: x[i] -/
def kfIx (i : Int) (x : D) : Option D := match x with
  | .tup xs => atI xs i
  | _ => none
theorem kb_ix {i : Int} {j : Nat} {p1 p2 p3 : Pos} (Z : LamP a scope) (h0 : 0 ≤ i) (hi : i < 1000) : KeyBody P w K mg base a q scope (.Subscript (.Name a p1) (.Constant (.int i) j p2) p3) (kfIx i) := by
  intro A outer s s1 H L f cd v y x k hk hx ry rx hg hr hd e0 ic
  unfold kfIx at hk
  split at hk
  · rename_i xs
    obtain ⟨t, vs, rfl, q1, q2⟩ := (show Rep _ H L (.tup xs) y from rx)
    obtain rfl : v = Value.ref t := ry
    have I := inv_start (CX := L2.CX P w) (E := fun _ _ _ => False) (us := [.ref t]) (vs := [.ref t]) Z.S hd e0 rfl (.cons rfl .nil) ic
    obtain ⟨its, rv, pl, hz⟩ := I.tuple q1
    obtain ⟨w0, e1, e2⟩ := atI_rep q2 hk
    obtain ⟨jj, h1, h2, h3, h4, h5⟩ := atI_get e1
    obtain ⟨u, ew, rw'⟩ := rv.get h2
    have hl := rv.length
    have hn := line63
    refine Subscript_ (lam_name Z ic s1.toks rfl ?_)
    refine wpAny_Constant_int ?_
    have I2 := I.tok (s1.toks + 1)
    obtain ⟨o, f1, f2, f3, f4⟩ := pl
    have pl2 : IsTup ({ s1 with toks := s1.toks + 1 } : Shared).heap t its.toArray := ⟨o, f1, f2, f3, f4⟩
    have kin : keyIn 8 k = true := by
      have : keyInL 7 xs = true := by simpa [keyIn] using hx
      unfold atI at hk
      cases e : ixN xs.length i with
      | none => rw [e] at hk; cases hk
      | some m => rw [e] at hk; exact keyIn_mono 7 8 k (by decide) (keyIn_get this hk)
    have fin : KeyPure (pyK k) s1 u { s1 with toks := s1.toks + 1 } := ⟨s1.heap, s1.toks + 1, rfl, fun _ _ z => z, key_reads I2 8 k w0 u kin e2 rw'⟩
    exact subscriptTail_builtinR (x := u) pl2.typeIs slot_tuple_getitem.lookup
      (getItem_tuple (j := jj) (Q := fun r s' => r = u ∧ KeyPure (pyK k) s1 r s') pl2 (by omega) (by omega) (by rw [List.size_toArray, ← hl]; exact h1) (by simpa using ew) ⟨rfl, fin⟩) (by rfl)
  · cases hk
/-- lambda x: (len(x), x) -/
def kfLen (x : D) : Option D := match x with
  | .tup xs => if keyIn 7 (.tup xs) = true then some (.tup [.int xs.length, .tup xs]) else none
  | _ => none
theorem kb_len {j : Nat} {p1 p2 p3 p4 p5 : Pos} {e2 : Nat} (Z : LamP a scope) (hm : mg "len" = none) (hgl : scope.names.lookup ("len" : Str) = some .globalImplicit) :
    KeyBody P w K mg base a q scope (.Tuple [.Call (.Name "len" p1) [.Name a p2] [] p3, .Name a p4] e2 p5) kfLen := by
  intro A outer s s1 H L f cd v y x k hk hx ry rx hg hr hd e0 ic
  unfold kfLen at hk
  split at hk
  · rename_i xs
    split at hk
    · rename_i k7
      cases hk
      obtain ⟨t, vs, rfl, q1, q2⟩ := (show Rep _ H L (.tup xs) y from rx)
      obtain rfl : v = Value.ref t := ry
      have I := inv_start (CX := L2.CX P w) (E := fun _ _ _ => False) (us := [.ref t]) (vs := [.ref t]) Z.S hd e0 rfl (.cons rfl .nil) ic
      obtain ⟨its, rv, pl, hz⟩ := I.tuple q1
      have hl := rv.length
      have hx2 := q2.length
      have hn := line63
      refine wpAny_Tuple_spliced ?_
      show wpAny _ _ (spliced ((false, eval (.Call (.Name "len" p1) [.Name a p2] [] p3) (envOfC q scope s.heap.objs.size f cd)) :: backTo p5 (starEach [.Name a p4] (envOfC q scope s.heap.objs.size f cd)))) _ _ s1
      refine Calls.spliced_cons ?_
      refine wpAny_Call_Name_kw (ld_blt (u := .builtin "len") I (show Gl _ ("len" : Str) from hgl) hm (by decide +kernel) ?_)
      refine PyProof.Rows.callWith_builtin1 ?_
      show wpAny _ _ (spliced ((false, eval (.Name a p2) (envOfC q scope s.heap.objs.size f cd)) :: backTo p3 (starEach [] (envOfC q scope s.heap.objs.size f cd)))) _ _ s1
      refine Calls.spliced_cons (lam_name Z ic s1.toks rfl ?_)
      refine Calls.spliced_nil ?_
      refine len_tuple pl (by rw [List.size_toArray]; omega) ?_
      show wpAny _ _ (spliced ((false, eval (.Name a p4) (envOfC q scope s.heap.objs.size f cd)) :: backTo p5 (starEach [] (envOfC q scope s.heap.objs.size f cd)))) _ _ _
      refine Calls.spliced_cons (lam_name Z ic (s1.toks + 1 + 1) rfl ?_)
      refine Calls.spliced_nil ⟨(show 2 ≤ sizeLine by decide), ?_⟩
      refine ⟨_, s1.toks + 1 + 1, rfl, fun b o z => Heap.get?_push_of_some _ z, ?_⟩
      have rx' : Reads s1.heap (.ref t) (pyK (.tup xs)) [] := key_reads I 7 (.tup xs) (.ref t) (.ref t) k7 rx rfl
      have hlen : its.toArray.size = xs.length := by rw [List.size_toArray]; omega
      refine Reads.tuple (Heap.get?_push_size _ rfl) rfl rfl ?_
      rw [hlen]
      exact .cons (as := []) (.int _ _) (.cons (as := []) (PyProof.Rows.Reads.keeps (fun b o z => Heap.get?_push_of_some _ z) rx') .nil)
    · cases hk
  · cases hk
end
end Py
end L2

set_option Elab.async false
set_option linter.all false
set_option maxRecDepth 100000
/-! A lambda is made; sorted(xs, key=lambda x: ..). -/
namespace L2
namespace Py
open PySem PySem.Spec PyProof.Rows
open PySem.W (EachIs AllAlike Sortable dataLe KeyPure)
variable [Tl]

/-- the one object that stands at f -/
def pinO (f : Addr) (ob : Obj) : HO := .ext fun h => h.get? f = some ob
theorem pin_ok {P : Program} {w : World} {H : Hp} {h : Heap} {f : Addr} {ob : Obj} (e : h.get? f = some ob) : ObjOk P w H h f (pinO f ob) := ⟨e, ⟨ob, e⟩, fun _ _ p q => q _ p⟩
theorem Rep.extT {G : Gd} {H H' : Hp} {N : Lg} (e : ExtE H N H' N) : ∀ ds vs, RepL G H N.L ds vs → RepL G H' N.L ds vs := fun ds vs h => RepL.ext e ds vs h
section
variable {G : Gd} {hs : Hs} {N : Lg} {H : Hp}
/-- the table at P has one more entry, its code at c' -/
theorem HRel.table {P c' : Addr} {q : Str} {ps : Array Value} {pos : Pos} {cc : Addr} (h : HRel G hs N H) (hT : (cc, P, q) ∈ Tl.T) (hu : ∀ p ∈ Tl.T, p.2.1 = P → p.2.2 = q) (hP : H P = some (.tbl ps)) (ht : TriplesOk ps.toList)
    (ha : ∀ (pos : Pos) (cv : Value), codeAmong pos ps.toList = some cv → ∃ c, cv = .ref c ∧ ¬ N.L c ∧ H c = some (LamX.CodeO c q)) (hc : H c' = none) :
    HRel G hs N (upd (upd H P (.tbl (ps ++ #[rawInt pos.line, rawInt pos.col, .ref c']))) c' (LamX.CodeO c' q)) ∧ ExtE H N (upd (upd H P (.tbl (ps ++ #[rawInt pos.line, rawInt pos.col, .ref c']))) c' (LamX.CodeO c' q)) N := by
  have nPc : P ≠ c' := ne_of_none hP hc
  have lP : ¬ N.L P := fun z => by have := h.mu P z; rw [hP] at this; exact this
  have lc : ¬ N.L c' := h.fresh hc
  have at_ : ∀ b, b ≠ P → b ≠ c' → upd (upd H P (.tbl (ps ++ #[rawInt pos.line, rawInt pos.col, .ref c']))) c' (LamX.CodeO c' q) b = H b := fun b h1 h2 => by rw [upd_ne h2, upd_ne h1]
  have neL : ∀ b, N.L b → b ≠ P ∧ b ≠ c' := fun b z => ⟨by rintro rfl; exact lP z, by rintro rfl; exact lc z⟩
  have ex : ExtE H N (upd (upd H P (.tbl (ps ++ #[rawInt pos.line, rawInt pos.col, .ref c']))) c' (LamX.CodeO c' q)) N := by
    refine ⟨fun b o e nt _ => ?_, fun b l => .inl l, fun i b _ z => z, fun b l _ _ => l, fun i b _ _ z => z, fun b z => ?_, fun b l _ _ => at_ b (neL b l).1 (neL b l).2, rfl⟩
    · rw [at_ b (by rintro rfl; rw [hP] at e; exact nt ps (Option.some.inj e).symm) (ne_of_none e hc)]; exact e
    · by_cases hb : b = c'
      · rw [hb, upd_same]; exact fun z => nomatch z
      · rw [upd_ne hb]
        by_cases hb2 : b = P
        · rw [hb2, upd_same]; exact fun z => nomatch z
        · rw [upd_ne hb2]; exact z
  refine ⟨⟨h.len, fun i c a h1 h2 => ?_, fun a l => ?_, h.fl, h.le, fun p hp => ⟨(h.tb p hp).1, ?_⟩⟩, ex⟩
  · have l := N.liv a (List.mem_of_getElem? h2)
    exact (h.at_ i c a h1 h2).ext ex (at_ a (neL a l).1 (neL a l).2)
  · rw [at_ a (neL a l).1 (neL a l).2]; exact h.mu a l
  · by_cases hb : p.2.1 = P
    · rw [hu p hp hb, hb]
      have eL : (ps ++ #[rawInt pos.line, rawInt pos.col, .ref c']).toList = ps.toList ++ [rawInt pos.line, rawInt pos.col, .ref c'] := by simp
      refine ⟨_, by rw [upd_ne nPc, upd_same], by rw [eL]; exact PySem.TriplesOk_snoc _ _ _ _ ht, fun p' cv hcv => ?_⟩
      rw [eL] at hcv
      rcases LamX.among_app _ ht hcv with z | z
      · obtain ⟨c0, e1, e2, e3⟩ := ha p' cv z
        have n1 : c0 ≠ P := by rintro rfl; rw [hP] at e3; cases e3
        exact ⟨c0, e1, e2, by rw [at_ c0 n1 (ne_of_none e3 hc)]; exact e3⟩
      · exact ⟨c', z, lc, upd_same⟩
    · obtain ⟨ps', a1, a2, a3⟩ := (h.tb p hp).2
      refine ⟨ps', by rw [at_ _ hb (ne_of_none a1 hc)]; exact a1, a2, fun p' cv hcv => ?_⟩
      obtain ⟨c0, e1, e2, e3⟩ := a3 p' cv hcv
      have n1 : c0 ≠ P := by rintro rfl; rw [hP] at e3; cases e3
      exact ⟨c0, e1, e2, by rw [at_ c0 n1 (ne_of_none e3 hc)]; exact e3⟩
end
def tLamR (G : Gd) (q : Str) (params : Arguments) (body : Expr) (scope : Scope) : TE := fun σ H Q => ∃ hs N, HRel G hs N H ∧ ∀ f c' pm ctv H', HRel G hs N H' → ExtE H N H' N →
  H' f = some (pinO f (PySem.W.kla_obj "<lambda>" q params body scope [] pm c' ctv)) → H' c' = some (LamX.CodeO c' q) → Q (.ref f) H'
theorem cloFrom_nil {cells : List (Str × Addr)} {names : List (Str × NameKind)} (h : ∀ y ∈ names, y.2 ≠ .free) : cloFrom cells names [] = [] := by
  cases e : cloFrom cells names [] with
  | nil => rfl
  | cons p r =>
    obtain ⟨n, c⟩ := p
    have : (n, c) ∈ cloFrom cells names [] := by rw [e]; exact List.mem_cons_self
    rcases cloFrom_mem this with z | ⟨z, _⟩
    · cases z
    · exact absurd rfl (h _ z)
section
variable {X : Cx} {W : WX} {k : Nat}
theorem pe_lam {c P : Addr} {q : Str} {params : Arguments} {body : Expr} {scope : Scope} {lpos : Pos} (hT : (c, P, q) ∈ Tl.T) (hu : ∀ p ∈ Tl.T, p.2.1 = P → p.2.2 = q) (hcode : X.env.code = .ref c) (hq : X.env.qual ++ "<lambda>" = q)
    (hdef : defaultsOf params X.env = ([], [])) (hnf : ∀ y ∈ scope.names, y.2 ≠ .free) : PE X (.Lambda params body scope lpos) (tLamR (Cx.g X) q params body scope) := by
  refine ⟨fun pins s σ H Q I h => ?_⟩
  obtain ⟨hs, N, hr, h⟩ := h
  obtain ⟨TB, ps, hP, ht, ha⟩ := hr.tb _ hT
  refine PySem.W.kla_eval hdef ?_
  rw [hq]
  have bP : s.heap.BuiltinsAt X.mg P := TB.bm.keeps I.bk
  have hP' : s.heap.get? P = some { cls := .none, data := .fields ps } := I.hok P _ hP
  have hclo : closureFor scope X.env = pure [] := by rw [closure_ok (fun y hy e => absurd e (hnf y hy)), cloFrom_nil hnf]
  cases hc : codeAmong lpos ps.toList with
  | none =>
    refine PySem.W.kla_makeFunction (mg := X.mg) (c := c) (P := P) (ps := ps) hclo I.ok.glob (I.mod.glob.keeps I.bk) hcode (TB.code.keeps I.bk) hP' ht hc TB.gP bP fun c' ctv h' tk hx hge hlt hrec htb => ?_
    obtain ⟨c2, oc, vs, t, e2, hoc, hd, hv⟩ := hrec
    cases e2
    have nC : H c' = none := I.hok.fresh hge
    have I1 := LamX.inv_table (t' := tk) (q := q) (more := #[rawInt lpos.line, rawInt lpos.col, .ref c']) (h' := h') I hP (fun b o hb e => hx b o hb e) htb hge ⟨oc, vs, t, hoc, hd, hv⟩
    obtain ⟨r1, x1⟩ := hr.table (pos := lpos) (cc := c) hT hu hP ht ha nC
    have fr := I1.hok.fresh (Nat.le_refl h'.objs.size)
    have I2 := I1.laid (a := h'.objs.size) (o := pinO h'.objs.size _) (t' := tk) (fun b o e => Heap.get?_push_of_some (PySem.W.kla_obj "<lambda>" q params body scope [] ((X.mg "__name__").getD .none) c' ctv) e) (Nat.le_refl _) (pin_ok (Heap.get?_push_size _ rfl))
    have nf : c' ≠ h'.objs.size := Nat.ne_of_lt hlt
    exact ⟨.ref h'.objs.size, _, I2, rfl, h _ c' _ ctv _ (r1.alloc fr) (x1.trans (Ext.alloc fr)) upd_same (by rw [upd_ne nf, upd_same])⟩
  | some cv =>
    obtain ⟨c', e, _, hco⟩ := ha lpos cv hc
    subst e
    refine PySem.W.kla_makeFunctionHit (mg := X.mg) (c := c) (P := P) (ps := ps) hclo I.ok.glob (I.mod.glob.keeps I.bk) hcode (TB.code.keeps I.bk) hP' ht hc bP fun ctv h' tk hx hsz => ?_
    have I1 : Inv X pins σ H { s with heap := h', toks := tk } := I.kept hx
    have fr := I1.hok.fresh (Nat.le_refl h'.objs.size)
    have I2 := I1.laid (a := h'.objs.size) (o := pinO h'.objs.size _) (t' := tk) (fun b o e => Heap.get?_push_of_some (PySem.W.kla_obj "<lambda>" q params body scope [] ((X.mg "__name__").getD .none) c' ctv) e) (Nat.le_refl _) (pin_ok (Heap.get?_push_size _ rfl))
    exact ⟨.ref h'.objs.size, _, I2, rfl, h _ c' _ ctv _ (hr.alloc fr) (Ext.alloc fr) upd_same (by rw [upd_ne (ne_of_none hco fr)]; exact hco)⟩
end

/-! ### sorted by keys -/
def keyD (kf : D → Option D) (x : D) : D := (kf x).getD .non
def sortBy (kf : D → Option D) (xs : List D) : List D := xs.mergeSort (dataLe false fun x => pyK (keyD kf x))
def sortByOk (kf : D → Option D) (xs : List D) : Bool := xs.all (fun x => keyIn 8 x && (kf x).isSome) && sortOk (xs.map (keyD kf))
/-- the lambda, run -/
structure LamKey (X : Cx) (k : Nat) (a q : Str) (params : Arguments) (body : Expr) (scope : Scope) (kf : D → Option D) : Prop where
  P : LamP a scope
  hr : Room (k + 6) X.A
  hg : X.A.guards = some []
  bind : ∀ (pm cv ctv v : Value), bindArgs (PySem.W.kla_fn "<lambda>" q params body scope [] pm cv ctv) ⟨[v], []⟩ = pure [(a, v)]
  body : KeyBody X.prog X.w X.K X.mg X.base a q scope body kf
section
variable {X : Cx} {W : WX} {k : Nat} {a q : Str} {params : Arguments} {body : Expr} {scope : Scope} {kf : D → Option D}
theorem lam_turn {pins : List (Addr × Obj)} {σ : St} {H : Hp} {s : Shared} {L : Addr → Prop} {f c' : Addr} {pm ctv v : Value} {x kx : D} (Z : LamKey X k a q params body scope kf) (A : Around) (hA : A = X.A.in1.in1) (I : Inv X pins σ H s)
    (hf : H f = some (pinO f (PySem.W.kla_obj "<lambda>" q params body scope [] pm c' ctv))) (hc : H c' = some (LamX.CodeO c' q)) (hx : RVD (Cx.g X) H L v x) (hk : kf x = some kx) (h8 : keyIn 8 x = true) :
    wpAny (model X.prog X.w) A (call (.ref f) [v]) (KeyPure (pyK kx) s) (fun _ _ => False) s := by
  subst hA
  obtain ⟨y, ry, rx⟩ := hx
  have of : s.heap.get? f = some (PySem.W.kla_obj "<lambda>" q params body scope [] pm c' ctv) := (I.hok f _ hf).1
  obtain ⟨oc, vs, t, hoc, hd, hv⟩ := (I.hok c' _ hc).1
  have e0 := I.env0.in1.in1
  have hr1 : Room (k + 5) X.A.in1 := Z.hr.in1
  have hr2 : Room (k + 4) X.A.in1.in1 := hr1.in1
  have ha : ∀ y ∈ [(a, v)], scope.names.lookup y.1 = some .local ∨ (scope.names.lookup y.1 = some .cell ∧ ((cellsFrom (s.heap.objs.size + 1) scope.names []).lookup y.1).isSome = true) := fun y hy => by
    rw [List.mem_singleton.mp hy]; exact .inl Z.P.loc
  have run : codeAny (model X.prog X.w) X.A.in1.in1 (.call (.ref f) ⟨[v], []⟩) (fun r s' => match r with | .ok (.ret u) => KeyPure (pyK kx) s u s' | _ => False) s := by
    refine PySem.W.kla_callFunE hr2.depth of rfl Z.P.S.co Z.P.S.gen rfl ⟨c', oc, vs, t, rfl, hoc, hd, hv⟩ ?_
    rw [Z.bind]
    refine wpAny_pure (wpAny_newFunctionEnv_cells Z.P.S.kind ha fun env he s1 ic => ?_)
    subst he
    refine ⟨I.nolimit.keeps ic.toInCall.keep, ?_⟩
    refine PySem.W.kla_codeExpr (wpAny_mono (Z.body X.A.in1.in1 X.stack s s1 H L f (.ref c') v y x kx hk h8 ry rx Z.hg ((hr2.deeper _).mono (by omega)) hr2.hd e0 ic) (fun u s' z => ?_) fun _ _ z => z.elim)
    obtain ⟨h1, tk, rfl, kp⟩ := ic.done
    obtain ⟨h2, tk2, e2, kp2, rd⟩ := z
    exact ⟨h2, tk2, e2, fun b o z => kp2 b o (kp b o z), rd⟩
  refine wpAny_call (codeAny_mono run fun r s' z => ?_)
  match r, z with
  | .ok (.ret u), z => exact z
def rSortKey (X : Cx) (q : Str) (params : Arguments) (body : Expr) (scope : Scope) (kf : D → Option D) : List V → List V → Hp → VK → Prop := fun xs zs H Q => ∃ hs N x v f c' pm ctv ys, xs = [v] ∧ zs = [.ref f] ∧ HRel (Cx.g X) hs N H ∧ RepS (Cx.g X) H N x v ∧
  H f = some (pinO f (PySem.W.kla_obj "<lambda>" q params body scope [] pm c' ctv)) ∧ H c' = some (LamX.CodeO c' q) ∧ seqS hs x = some ys ∧ sortByOk kf ys = true ∧ ∀ v' H', HRel (Cx.g X) hs N H' → ExtE H N H' N → Rep (Cx.g X) H' N.L (.lst (sortBy kf ys)) v' → Q v' H'
theorem sortByOk_of {xs : List D} (h : sortByOk kf xs = true) : (∀ x ∈ xs, keyIn 8 x = true ∧ kf x = some (keyD kf x)) ∧ (∀ x ∈ xs, keyIn 8 (keyD kf x) = true) ∧ AllAlike (xs.map fun x => pyK (keyD kf x)) ∧ Sortable (xs.map fun x => pyK (keyD kf x)) ∧ xs.length ≤ sizeLine := by
  unfold sortByOk at h
  simp only [Bool.and_eq_true, List.all_eq_true] at h
  obtain ⟨h1, h2⟩ := h
  obtain ⟨k1, k2, k3, k4⟩ := sortOk_of h2
  rw [List.map_map] at k2 k3
  refine ⟨fun x hx => ⟨(h1 x hx).1, ?_⟩, fun x hx => k1 _ (List.mem_map.mpr ⟨x, hx, rfl⟩), k2, k3, by simpa using k4⟩
  unfold keyD
  cases e : kf x with
  | none => have := (h1 x hx).2; rw [e] at this; cases this
  | some y => rfl
theorem cr_sortKey (hcalm : X.calm = true) (Z : LamKey X k a q params body scope kf) : CallRK X (.builtin "sorted") [Str.ofString "key"] (rSortKey X q params body scope kf) := by
  intro pins s σ H xs zs us ws Q I r rz hR
  obtain ⟨hs, N, x, v, f, c', pm, ctv, ys, rfl, rfl, h1, h2, hf, hc, e1, ok, qq⟩ := hR
  have hun := Z.hr.un
  obtain ⟨k1, k2, k3, k4, k5⟩ := sortByOk_of ok
  obtain ⟨a, rfl, src⟩ := seqS_of h1 h2 e1
  rw [Vals.ref1 r]
  obtain ⟨w1, rfl, ew⟩ := vals1 rz
  obtain rfl : w1 = Value.ref f := ew
  have hlen : (sortBy kf ys).length = ys.length := List.length_mergeSort _
  show wpAny _ _ (call (.builtin "sorted") [.ref a] [(Str.ofString "key", .ref f)]) _ _ s
  rcases src with ⟨vs, a1, a2⟩ | ⟨o, kvs, vvs, a1, a2, a3⟩
  · obtain ⟨its, rv, hl, hz⟩ := I.list (SqL.of a1)
    refine PySem.W.sorted_key_data (b := false) (R := RVD (Cx.g X) H N.L) (fun x => pyK (keyD kf x)) hl.isList (rvd_of a2 rv) k3 k4 k5 (fun b hb => ?_) (PyProof.Rows.ksk_s1 _ _) (fun _ => PyProof.Rows.ksk_l1 _ _) (fun _ => PyProof.Rows.ksk_t1 _ _) (fun u d hR hd h tk kp => ?_) fun out c h' tk kp hn hD ho eo => ?_
    · have := pyK_depth 8 _ (k2 b hb); omega
    · exact lam_turn Z _ rfl (I.kept (h' := h) (t' := tk) kp) hf hc hR (k1 d hd).2 (k1 d hd).1
    · obtain ⟨ws, w1, w2⟩ := of_rvd eo
      have hp : H (s.heap.objs.size + 1) = none := I.hok.fresh (Nat.le_succ _)
      refine ⟨.ref _, upd H (s.heap.objs.size + 1) (.lst ws), I.laid (t' := tk) kp (Nat.le_succ _) ⟨?_, out, c, w2, hD⟩, rfl, ?_⟩
      · rw [← w1.length]; show (sortBy kf ys).length ≤ _; rw [hlen]; exact k5
      · exact qq _ _ (h1.alloc hp) (Ext.alloc hp) ⟨_, ws, rfl, h1.fresh hp, upd_same, RepL.ext (P := All) (Ext.alloc hp) _ _ w1⟩
  · obtain ⟨ho, hd⟩ := raw_at I a1
    obtain ⟨f1, f2, f3, es, ep, f4, f5, f6, f7, f8⟩ := a2
    refine PyProof.Rows.call_function_entry_kw PyProof.Rows.kind_sorted PyProof.Rows.plain_sorted PyProof.Rows.entry_sorted (PyProof.Rows.ksk_s1 _ _) ?_
    unfold Builtin.«sorted»
    refine wpAny_bind (m := checkCount "sorted" 1 1 _) (wpAny_pure ?_)
    refine wpAny_bind (PySem.W.kdu_collect (A := X.A.in1) (PySem.KdlSrc.rawDict (es := es) (ep := ep) hd) (I.ok.hd hcalm) ⟨o, ho, f1, f4⟩ f5 fun h' tk acc hk hacc => ?_)
    have I1 : Inv X pins σ H { s with heap := h', toks := tk } := I.kept hk
    have eacc : acc.toList = es.toList.map (·.key) := by
      apply List.ext_getElem?
      intro i
      by_cases hi : i < es.size
      · have hi' : i < acc.toList.length := by rw [Array.length_toList, hacc.1]; exact hi
        obtain ⟨_, z2⟩ := hacc.2 i acc.toList[i] (by rw [← Array.getElem?_toList]; exact List.getElem?_eq_getElem hi')
        rw [List.getElem?_eq_getElem hi', z2, List.getElem?_map, Array.getElem?_toList, Array.getElem?_eq_getElem hi]; rfl
      · rw [List.getElem?_eq_none (by rw [Array.length_toList, hacc.1]; omega), List.getElem?_eq_none (by simp; omega)]
    have ea : EachIs (RVD (Cx.g X) H N.L) acc.toList ys := by rw [eacc]; exact rvd_of a3 f7
    refine wpAny_bind (wpAny_newList ?_ (by rw [Array.length_toList, hacc.1]; exact f5))
    have hoL : (h'.push (seqObj "list" acc.toList.toArray 0)).get? h'.objs.size = some (seqObj "list" acc.toList.toArray 0) := Heap.get?_push_size _ rfl
    show wpAny _ _ _ _ _ { s with heap := h'.push (seqObj "list" acc.toList.toArray 0), toks := tk }
    have hp : H h'.objs.size = none := I1.hok.fresh (Nat.le_refl _)
    refine wpAny_bind (wpAny_holding (PySem.W.list_sort_key_data (b := false) (R := RVD (Cx.g X) H N.L) (fun x => pyK (keyD kf x)) (s := { s with heap := h'.push (seqObj "list" acc.toList.toArray 0), toks := tk }) hoL ea k3 k4 k5 (fun b hb => ?_) (PyProof.Rows.ksk_l1 _ _) (PyProof.Rows.ksk_t1 _ _) (fun u d hR hd2 h tk2 kp => ?_) fun out c h2' tk2 kp hD ho2 eo => ?_))
    · have := pyK_depth 8 _ (k2 b hb)
      simp only [Around.in1_units]; omega
    · have I2 : Inv X pins σ H { s with heap := h, toks := tk2 } := I1.kept (h' := h) (t' := tk2) fun b o z => kp b o (Nat.ne_of_lt (Heap.lt_size z)) (Heap.get?_push_of_some _ z)
      exact lam_turn Z _ rfl I2 hf hc hR (k1 d hd2).2 (k1 d hd2).1
    · obtain ⟨ws, w1, w2⟩ := of_rvd eo
      refine wpAny_pure ⟨_, rfl, .ref h'.objs.size, upd H h'.objs.size (.lst ws), I1.laid (t' := tk2) (fun b u z => ?_) (Nat.le_refl _) ⟨?_, out, c, w2, hD⟩, rfl, ?_⟩
      · exact kp b u (Nat.ne_of_lt (Heap.lt_size z)) (Heap.get?_push_of_some _ z)
      · rw [← w1.length]; show (sortBy kf ys).length ≤ _; rw [hlen]; exact k5
      · exact qq _ _ (h1.alloc hp) (Ext.alloc hp) ⟨_, ws, rfl, h1.fresh hp, upd_same, RepL.ext (P := All) (Ext.alloc hp) _ _ w1⟩
def mSortKey (kf : D → Option D) (me : ME) : ME := fun ρ hs => (me ρ hs).bind fun x hs1 => match seqS hs1 x with
  | some ys => if sortByOk kf ys = true then .ok (.d (.lst (sortBy kf ys))) hs1 else .bad
  | none => .bad
/-- sorted(e, key=lambda x: ..) -/
theorem se_sortKey {c P : Addr} {e : Expr} {me : ME} {p lpos kpos pos : Pos} (hcalm : X.calm = true) (Z : LamKey X k a q params body scope kf) (hT : (c, P, q) ∈ Tl.T) (hu : ∀ p ∈ Tl.T, p.2.1 = P → p.2.2 = q) (hcode : X.env.code = .ref c) (hq : X.env.qual ++ "<lambda>" = q)
    (hg : Gl X "sorted") (hm : X.mg "sorted" = none) (he : SE X W e me) (hdef : defaultsOf params X.env = ([], []) := by rfl)
    (h1 : backTo pos (starEach [e] X.env) = (false, eval e X.env) :: backTo pos (starEach [] X.env) := by rfl) (h2 : (backTo pos (starEach [e] X.env)).any (·.1) = false := by rfl)
    (h3 : (backToKw pos (keywordEach [⟨some "key", .Lambda params body scope lpos, kpos⟩] X.env)).all (·.1.isSome) = true := by rfl) (h4 : (backToKw pos (keywordEach [⟨some "key", .Lambda params body scope lpos, kpos⟩] X.env)).any (·.1.isNone) = false := by rfl)
    (h5 : (backToKw pos (keywordEach [⟨some "key", .Lambda params body scope lpos, kpos⟩] X.env)).filterMap (·.1) = [Str.ofString "key"] := by rfl) (h6 : starEach [e] X.env = [(false, eval e X.env)] := by rfl) :
    SE X W (.Call (.Name "sorted" p) [e] [⟨some "key", .Lambda params body scope lpos, kpos⟩] pos) (mSortKey kf me) := by
  refine pe_of (pe_callBK (cr_sortKey hcalm Z) hg hm (by decide +kernel) (pa_cons he pa_nil h6) (pk_cons (pe_lam hT hu hcode hq hdef Z.P.S.nofree) pk_nil) (by decide) (by decide) h1 h2 h3 h4 h5) fun σ H Q h => ?_
  obtain ⟨ρ, hs, N, hr, hE, q1⟩ := TR.two (R := RepS) h
  refine ⟨ρ, hs, N, hr, hE, q1.mono fun v H1 ⟨ρ1, hs1, N1, d, z1, z2, z3, z4⟩ => ?_⟩
  cases e1 : seqS hs1 d with
  | none => simp only [e1] at z4; exact z4.elim
  | some ys =>
    simp only [e1] at z4
    by_cases ok : sortByOk kf ys = true
    · simp only [if_pos ok] at z4
      refine ⟨hs1, N1, z1, fun f c' pm ctv H' y1 y2 y3 y4 => ?_⟩
      exact ⟨hs1, N1, d, v, f, c', pm, ctv, ys, rfl, rfl, y1, z3.ext y2, y3, y4, e1, ok, fun v' H'' w1 w2 w3 => z4 v' N1 H'' w1 (y2.trans w2) w3⟩
    · simp only [if_neg ok] at z4; exact z4.elim
end
end Py
end L2

set_option Elab.async false
set_option linter.all false
set_option maxRecDepth 100000
/-! enumerate of a tuple; starred lists. -/
namespace L2
namespace Py
open PySem PySem.Spec PyProof.Rows
variable [Tl]

set_option maxHeartbeats 1000000 in
theorem meets_enum1 {v : Value} {ob : Obj} {Hh : Heap → Prop} (B : Begins v ob Hh) :
    Meets (Builtin.«enumerate.__new__» ⟨[.type "enumerate", v], []⟩) (fun _ R s => Hh s.heap ∧
      R (.ok (.ret (.ref (s.heap.push ob).objs.size))) { s with heap := (s.heap.push ob).push { cls := .type "enumerate", data := .fields #[.none, .bool false, .ref s.heap.objs.size, rawInt 0, .none, .none] } }) :=
  .of_wp fun prog w A R s hB => by
    obtain ⟨hp, gg, dd, tt, oo⟩ := s
    obtain ⟨hB1, hB2⟩ := hB
    have hsub := sub_enumerate
    have it1 : ∀ {A1 : Around} {E1 : Value → Shared → Prop} {Q1 : Value → Shared → Prop}, Q1 (.ref hp.objs.size) ⟨hp.push ob, gg, dd, tt, oo⟩ → wpAny (model prog w) A1 (pyIter v) Q1 E1 ⟨hp, gg, dd, tt, oo⟩ :=
      fun q => B.iter prog w _ _ ⟨hp, gg, dd, tt, oo⟩ _ hB1 q
    wp_walk using it1
    refine wpAny_stack_any fun st => wpAny_pure ?_
    split
    · rename_i c _ _ _ _ _
      cases (c == Value.type "enumerate")
      · wp_walk using it1
        exact ⟨_, rfl, hB2⟩
      · wp_walk using it1
        exact ⟨_, rfl, hB2⟩
    · wp_walk using it1
      exact ⟨_, rfl, hB2⟩
theorem call_enum1 {prog : Program} {w : World} {A : Around} {E : Value → Shared → Prop} {s : Shared} {v : Value} {ob : Obj} {Hh : Heap → Prop} {Q : Value → Shared → Prop} (B : Begins v ob Hh) (h1 : Hh s.heap)
    (h : ∀ h', IsEnum h' (s.heap.objs.size + 1) s.heap.objs.size 0 .none → h'.get? s.heap.objs.size = some ob → (∀ b o, s.heap.get? b = some o → h'.get? b = some o) → Q (.ref (s.heap.objs.size + 1)) { s with heap := h' }) :
    wpAny (model prog w) A (call (.type "enumerate") [v]) Q E s := by
  refine callType_new F.called_enumerate (by decide) (F.typeCall_enumerate_1 _) (F.newCall_enumerate_1 _) (fun obj => F.args_object_init_2 obj _) F.entry_enumerate_new (meets_enum1 B) ⟨h1, ?_⟩
  have hz : (s.heap.push ob).objs.size = s.heap.objs.size + 1 := Heap.size_push ..
  show _ ∧ _
  rw [hz]
  have he : IsEnum ((s.heap.push ob).push { cls := .type "enumerate", data := .fields #[.none, .bool false, .ref s.heap.objs.size, rawInt 0, .none, .none] }) (s.heap.objs.size + 1) s.heap.objs.size 0 .none := by
    have z := Heap.get?_push_size (s.heap.push ob) (o := { cls := .type "enumerate", data := .fields #[.none, .bool false, .ref s.heap.objs.size, rawInt 0, .none, .none] }) rfl
    rw [hz] at z; exact z
  exact ⟨⟨_, he, rfl⟩, h _ he (Heap.get?_push_of_some _ (Heap.get?_push_size _ B.free)) fun b o q => Heap.get?_push_of_some _ (Heap.get?_push_of_some _ q)⟩
/-- a tuple, its items counted -/
def IteT (K : PySem.W.Frag) (t : Addr) (n : Nat) : It :=
  ⟨fun i H => ∃ (xs : List V) (x : V), SqT K H t xs ∧ xs[i]? = some x ∧ xs.length = n, fun i H v H' => ∃ T x, v = .ref T ∧ H T = none ∧ H' = upd H T (.tup [.int (i : Nat), x]) ∧ ∀ xs, SqT K H t xs → xs[i]? = some x, fun i H => n ≤ i ∧ ∃ xs, SqT K H t xs ∧ xs.length = n⟩
theorem turn_enumT {P : Program} {w : World} {K : PySem.W.Frag} {elts : List Expr} {kk : Nat} {tpos : Pos} (t e it : Addr) (n : Nat) (hne : e ≠ it) :
    Turn P w K (.Tuple elts kk tpos) (IteT K t n) [e, it] e (fun i h => (∃ old, IsEnum h e it ((i : Nat) : Int) old) ∧ h.IsTupleIter it t i ∧ i ≤ n ∧ it < h.objs.size ∧ e < h.objs.size) where
  mem := by simp
  obj := fun i h st b hb => by
    obtain ⟨⟨old, he⟩, ⟨o, ho, hc, hd⟩, _⟩ := st
    rcases (show b = e ∨ b = it by simpa using hb) with z | z
    · rw [z]; exact ⟨_, he, fun v q => nomatch q⟩
    · rw [z]; exact ⟨o, ho, fun v q => by rw [hd] at q; cases q⟩
  keep := fun i h h' st k => by
    obtain ⟨⟨old, he⟩, hi, hn, _, _⟩ := st
    have he' := k e (by simp) _ he
    obtain ⟨o, ho, r⟩ := hi
    have ho' := k it (by simp) _ ho
    exact ⟨⟨old, he'⟩, ⟨o, ho', r⟩, hn, Heap.lt_size ho', Heap.lt_size he'⟩
  item := by
    intro X hP hw hK hc i pins s σ H E I hf st hg
    subst hP hw hK
    obtain ⟨⟨old, he⟩, hit, hn, hil, hel⟩ := st
    obtain ⟨xs, x, hq, hx, hxn⟩ := hg
    obtain ⟨its, rv, pl, hz⟩ := I.tuple hq
    obtain ⟨u, hu, ru⟩ := rv.get hx
    have hl := rv.length
    have hlt : i < its.toArray.size := by rw [List.size_toArray]; exact (List.getElem?_eq_some_iff.mp hu).1
    have nt : t ≠ it := fun z => by
      have z1 := (hf it (by simp)).1
      obtain ⟨o, ho, _, hd⟩ := hit
      obtain ⟨o2, ho2, _, m, hd2⟩ := pl
      rw [z, ho] at ho2; cases ho2
      rw [hd] at hd2; cases hd2
    have ne : e ∉ [it, t] := fun z => by
      rcases (show e = it ∨ e = t by simpa using z) with z | z
      · exact hne z
      · obtain ⟨o2, ho2, _, m, hd2⟩ := pl
        rw [← z] at ho2
        have he0 : s.heap.get? e = some _ := he
        rw [he0] at ho2; cases ho2
        cases hd2
    have hd' : X.A.in1.handled = none := I.ok.hd hc
    have G := GoesN.enumFrom (prog := X.prog) (w := X.w) (elts := elts) (x1 := kk) (pos := tpos) 0 (Draws.tuple hd' it t nt its.toArray) e hne ne (by simp)
    have iT : s.heap.IsTuple t its.toArray := by obtain ⟨o2, ho2, hc2, m, hd2⟩ := pl; exact ⟨o2, ho2, hc2, m, hd2⟩
    refine G.goes i s _ E hlt ⟨⟨old, by rw [Int.zero_add]; exact he⟩, hit, iT⟩ fun v h' tk hY st' hk _ => ?_
    obtain ⟨T, tt, y, rfl, hT, hy, hTT⟩ := hY
    obtain ⟨⟨old', he'⟩, hit', _⟩ := st'
    have ey : y = u := by
      have q : its.toArray[i]? = some u := by simpa using hu
      rw [q] at hy; exact (Option.some.inj hy).symm
    subst ey
    have new : ObjOk X.prog X.w (upd H T (.tup [.int (i : Nat), x])) h' T (.tup [.int (i : Nat), x]) := by
      obtain ⟨o2, ho2, hc2, m, hd2⟩ := hTT
      refine ⟨(show 2 ≤ sizeLine by decide), [.int (0 + (i : Int)) tt, y], .cons ⟨tt, by rw [Int.zero_add]⟩ (.cons ru .nil), ⟨o2, ho2, hc2, m, hd2⟩⟩
    have I1 : Inv X pins σ (upd H T (.tup [.int (i : Nat), x])) { s with heap := h', toks := tk } :=
      I.turnedNew (ch := [e, it]) (fun b ob hb q => hk b ob hb q) hf hT new
    have e1 : ((i + 1 : Nat) : Int) = 0 + ((i + 1 : Nat) : Int) := by omega
    refine ⟨.ref T, _, I1, rfl, ⟨T, x, rfl, I.hok.fresh hT, rfl, fun ys hy => by rw [I.tuple_inj hy hq]; exact hx⟩, ⟨⟨old', by rw [e1]; exact he'⟩, hit', by have := (List.getElem?_eq_some_iff.mp hx).1; omega, ?_, ?_⟩, fun b hb => ?_⟩
    · obtain ⟨o, ho, _⟩ := hit'; exact Heap.lt_size ho
    · exact Heap.lt_size he'
    · have hbT : b < T := Nat.lt_of_lt_of_le (by rcases (show b = e ∨ b = it by simpa using hb) with z | z <;> rw [z] <;> assumption) hT
      rw [upd_ne (Nat.ne_of_lt hbT)]
      exact (hf b hb).1
  done := by
    intro X hP hw hK hc i pins s σ H E I hf st hg
    subst hP hw hK
    obtain ⟨⟨old, he⟩, hit, hn, hil, hel⟩ := st
    obtain ⟨hi, xs, hq, hx⟩ := hg
    obtain ⟨its, rv, pl, hz⟩ := I.tuple hq
    have hl := rv.length
    have en : i = n := by omega
    subst en
    have nt : t ≠ it := fun z => by
      obtain ⟨o, ho, _, hd⟩ := hit
      obtain ⟨o2, ho2, _, m, hd2⟩ := pl
      rw [z, ho] at ho2; cases ho2
      rw [hd] at hd2; cases hd2
    have ne : e ∉ [it, t] := fun z => by
      rcases (show e = it ∨ e = t by simpa using z) with z | z
      · exact hne z
      · obtain ⟨o2, ho2, _, m, hd2⟩ := pl
        rw [← z] at ho2
        have he0 : s.heap.get? e = some _ := he
        rw [he0] at ho2; cases ho2
        cases hd2
    have hd' : X.A.in1.handled = none := I.ok.hd hc
    have G := GoesN.enumFrom (prog := X.prog) (w := X.w) (elts := elts) (x1 := kk) (pos := tpos) 0 (Draws.tuple hd' it t nt its.toArray) e hne ne (by simp)
    have iT : s.heap.IsTuple t its.toArray := by obtain ⟨o2, ho2, hc2, m, hd2⟩ := pl; exact ⟨o2, ho2, hc2, m, hd2⟩
    have es : its.toArray.size = i := by rw [List.size_toArray]; omega
    refine G.stops s _ E (by rw [es]; exact ⟨⟨old, by rw [Int.zero_add]; exact he⟩, hit, iT⟩) fun h' tk hk _ => ?_
    obtain ⟨f0, f1, f2, f3, f4, f5⟩ := hf it (by simp)
    obtain ⟨g0, g1, g2, g3, g4, g5⟩ := hf e (by simp)
    exact I.step (g' := s.gens) (d' := s.drawn) (ch := [e, it]) (fun b hb => by
        rcases (show b = e ∨ b = it by simpa using hb) with z | z
        · rw [z]; exact ⟨g3, g1, g4, g5⟩
        · rw [z]; exact ⟨f3, f1, f4, f5⟩)
      (fun b o _ _ hc' e' _ => hk b o hc' e') (fun b o _ _ hc' e' _ => ⟨o.slots, hk b o hc' e'⟩) (fun b o _ _ z => z) (fun b o hc' e' => ⟨o, hk b o hc' e'⟩) (fun _ _ z => z) (fun _ _ _ z => z) (fun b ps z => ⟨#[], by rw [z]; simp⟩)
      (fun m hm => by
        obtain ⟨ob, es', ep, ho, r⟩ := hm
        exact ⟨ob, es', ep, hk _ ob (fun z => by rcases (show X.env.locals = e ∨ X.env.locals = it by simpa using z) with z | z
                                                 · exact g1 z.symm
                                                 · exact f1 z.symm) ho, r⟩)
      (fun b u z => (I.hok b u z).stay (fun c v hcv q => hk c v (fun w => by
        have hz' : H c = none := (hf c w).1
        rcases hcv with y | y
        · rw [y, z] at hz'; cases hz'
        · rw [y] at hz'; cases hz') q) (fun _ q => q) fun _ _ q => q) I.bare
  self := fun A i s Q E st h => by
    obtain ⟨⟨_, he⟩, _⟩ := st
    exact wpAny_pyIter_enum he h
def mEnumT (a : MA) : MI := fun ρ hs => (a ρ hs).bind fun ds hs1 => match ds with
  | [.d (.tup xs)] => .ok (enumD 0 xs) hs1
  | _ => .bad
theorem wk_enumT {G : Gd} {H : Hp} {N : Lg} {P : Nat → Prop} {a : Addr} {vs : List V} {xs : List D} (h : SqT G.K H a vs) (r : RepL G H N.L xs vs) : Wk G P (IteT G.K a xs.length) H N (enumD 0 xs) where
  go := fun i hs H' N' _ e hi => by
    rw [enumD_len, r.length] at hi
    exact ⟨vs, vs[i], e.sqT h, by simp [hi], r.length.symm⟩
  yld := fun i hs H' N' x H'' d hr e hd hy => by
    obtain ⟨T, u, h1, h2, h3, h4⟩ := hy
    subst h1 h3
    rw [enumD_get] at hd
    cases e1 : xs[i]? with
    | none => rw [e1] at hd; cases hd
    | some p =>
      rw [e1] at hd
      cases hd
      obtain ⟨v1, q1, q2⟩ := r.get e1
      have k1 := h4 vs (e.sqT h)
      rw [q1] at k1
      cases k1
      have ea := Ext.alloc (P := All) (N := N') (o := .tup [.int (i : Nat), u]) h2
      exact ⟨hr.alloc h2, ea, T, _, rfl, SqT.of upd_same, _, _, rfl, (by show V.int (i : Nat) = V.int (0 + (i : Int)); rw [Int.zero_add]), _, _, rfl, Rep.ext ea _ _ (Rep.ext e _ _ q2), rfl⟩
  stop := fun i hs H' N' _ e hi => by
    rw [enumD_len] at hi
    exact ⟨hi, vs, e.sqT h, r.length.symm⟩
section
variable {X : Cx} {W : WX} {p pos : Pos}
theorem si_enumT {e : Expr} {ma : MA} {tpos : Pos} {elts : List Expr} {kk : Nat} (hg : Gl X "enumerate") (hm : X.mg "enumerate" = none) (ha : SA X W [e] ma) (hs : starEach [e] X.env = [(false, eval e X.env)] := by rfl) :
    SI X W (.Tuple elts kk tpos) (.Call (.Name "enumerate" p) [e] [] pos) (mEnumT ma) := by
  constructor
  intro pins s σ H R I h
  obtain ⟨ρ, hs', N, hr, he, q⟩ := TIo.bindA h
  refine Call_ (ld_blt I hg hm boot_enumerate (PyProof.Rows.callWith_type1 (thn (ha.run pos pins s σ H _ I ⟨ρ, hs', N, hr, he, q⟩) fun us s1 z => ?_) hs rfl))
  obtain ⟨vs, H1, I1, r1, hs1, N1, ds, a, r, z⟩ := z
  split at z
  · rename_i items hs2 e
    split at e
    · rename_i xs
      cases e
      obtain ⟨v, rfl, r2⟩ := repSL1 r
      obtain ⟨t, vt, rfl, s1', t1⟩ := (show Rep _ _ _ (.tup xs) _ from r2)
      rw [Vals.ref1 r1]
      obtain ⟨its, rv, pl, hz⟩ := I1.tuple s1'
      have iT : s1.heap.IsTuple t its.toArray := by obtain ⟨o2, ho2, hc2, m, hd2⟩ := pl; exact ⟨o2, ho2, hc2, m, hd2⟩
      refine call_enum1 (begins_tuple t its.toArray) iT fun h' he' hit hk => wpAny_pyIter_enum he' ?_
      have I2 : Inv X pins σ H1 { s1 with heap := h' } := I1.kept (t' := s1.toks) hk
      refine ⟨s1.heap.objs.size + 1, [s1.heap.objs.size + 1, s1.heap.objs.size], _, _, H1, rfl, I2, turn_enumT t (s1.heap.objs.size + 1) s1.heap.objs.size xs.length (Nat.succ_ne_self _), ⟨⟨.none, he'⟩, ⟨_, hit, rfl, rfl⟩, Nat.zero_le _, Heap.lt_size hit, Heap.lt_size he'⟩, fun b hb => ?_, z _ N1 H1 a Ext.refl fun P => wk_enumT s1' t1⟩
      have hle : s1.heap.objs.size ≤ b := by
        rcases (show b = s1.heap.objs.size + 1 ∨ b = s1.heap.objs.size by simpa using hb) with y | y <;> (rw [y]; omega)
      exact I1.fpOk hle (I1.hok.fresh hle)
    · cases e
  · rename_i e
    split at e <;> cases e
  · exact z.elim
/-! ### [a, *xs] -/
def mStarL (a b : ME) : ME := fun ρ hs => (a ρ hs).bind fun x hs1 => (b ρ hs1).bind fun y hs2 => match x, viewL hs2 y with
  | .d x, some ys => if ys.length ≤ 1000000 then .ok (.d (.lst (x :: ys))) hs2 else .bad
  | _, _ => .bad
theorem se_starL {a b : Expr} {ma mb : ME} {p1 : Pos} (ha : SE X W a ma) (hb : SE X W b mb) (h1 : starEach [a, .Starred b p1] X.env = (false, eval a X.env) :: starEach [.Starred b p1] X.env := by rfl) : SE X W (.List [a, .Starred b p1] pos) (mStarL ma mb) := by
  refine pe_of (pe_lst (pa_cons ha (StX.pa_star hb pa_nil) h1)) fun σ H Q h => ?_
  obtain ⟨ρ, hs, N, hr, he, q⟩ := TR.two (R := RepS) h
  refine ⟨ρ, hs, N, hr, he, q.mono fun x H1 ⟨ρ1, hs1, N1, d, q1, q2, q3, q4⟩ => ?_⟩
  refine ⟨ρ1, hs1, N1, q1, q2, (PostO.bind (R := RepS) q4).mono fun y H2 ⟨hs2, N2, dy, z1, z2, z3, z4⟩ => ?_⟩
  cases d with
  | r n => exact z4.elim
  | d x' =>
    cases e1 : viewL hs2 dy with
    | none => simp only [e1] at z4; exact z4.elim
    | some ys =>
      simp only [e1] at z4
      by_cases hl : ys.length ≤ 1000000
      · simp only [if_pos hl] at z4
        obtain ⟨b', vs, rfl, b1, b2⟩ := viewL_of z1 z3 e1
        refine ⟨b', vs, rfl, .inr (SqL.of b1), ?_⟩
        refine ⟨?_, fun p hp => ?_⟩
        · have e3 := b2.length
          have e2 : sizeLine = 16777216 := sizeLine_eq
          show (x :: (vs ++ [])).length ≤ sizeLine
          rw [List.append_nil, List.length_cons, ← e3]; omega
        · have ea := Ext.alloc (P := All) (N := N2) (o := .lst (x :: (vs ++ []))) hp
          refine z4 _ N2 _ (z1.alloc hp) ea ⟨p, _, rfl, z1.fresh hp, upd_same, x, vs ++ [], rfl, Rep.ext ea _ _ (Rep.ext z2 _ _ (show Rep _ H1 N1.L x' x from q3)), ?_⟩
          have b3 := RepL.ext ea _ _ b2
          simpa using b3
      · simp only [if_neg hl] at z4; exact z4.elim
end
end Py
end L2

set_option Elab.async false
set_option linter.all false
set_option maxRecDepth 100000
/-! Dict comprehensions whose keys are ints or texts. -/
namespace L2
namespace Py
open PySem PySem.Spec PyProof.Rows
variable [Tl]

/-- the dict's pairs as HandS counts them -/
def prK (ks : List D) (vvs : List V) : List (Key × V) := (ks.map toKey).zip vvs
theorem prK_len {ks : List D} {vvs : List V} (h : ks.length = vvs.length) : (prK ks vvs).length = ks.length := by
  unfold prK; rw [List.length_zip, List.length_map, h]; exact Nat.min_self _
theorem any_prK {ks : List D} {vvs : List V} {k : D} (hv : ∀ x ∈ ks, isVK x = true) (hk : isVK k = true) : ks.length = vvs.length → ((prK ks vvs).any fun kv => decide (kv.1 = toKey k)) = hasK ks k := by
  induction ks generalizing vvs with
  | nil => intro _; rfl
  | cons x ks ih =>
    intro hl
    cases vvs with
    | nil => simp at hl
    | cons u us =>
      have z := ih (vvs := us) (fun y hy => hv y (List.mem_cons_of_mem _ hy)) (by simpa using hl)
      unfold prK at z ⊢
      simp only [List.map_cons, List.zip_cons_cons, List.any_cons, z, hasK]
      rw [keq_vk (hv x List.mem_cons_self) hk]
theorem put_prK {ks : List D} {vvs : List V} {k : D} {v : V} (hv : ∀ x ∈ ks, isVK x = true) (hk : isVK k = true) (hl : ks.length = vvs.length) :
    L2.putK (prK ks vvs) (toKey k) v = prK (putK ks k) (putA ks vvs k v) := by
  unfold L2.putK putK putA
  rw [any_prK hv hk hl]
  by_cases q : hasK ks k = true
  · rw [if_pos q, if_pos q, if_pos q]
    clear q
    induction ks generalizing vvs with
    | nil => rfl
    | cons x ks ih =>
      cases vvs with
      | nil => simp at hl
      | cons u us =>
        have z := ih (vvs := us) (fun y hy => hv y (List.mem_cons_of_mem _ hy)) (by simpa using hl)
        unfold prK at z ⊢
        simp only [List.map_cons, List.zip_cons_cons, setA]
        rw [z, keq_vk (hv x List.mem_cons_self) hk]
        by_cases w : toKey x = toKey k <;> simp [w]
  · rw [if_neg q, if_neg q, if_neg q]
    unfold prK
    rw [List.map_append, List.zip_append (by rw [List.length_map]; exact hl)]
    rfl
theorem putK_vk {ks : List D} {k : D} (hv : ∀ x ∈ ks, isVK x = true) (hk : isVK k = true) : ∀ x ∈ putK ks k, isVK x = true := by
  unfold putK
  split
  · exact hv
  · intro x hx
    rcases List.mem_append.mp hx with z | z
    · exact hv x z
    · rw [List.mem_singleton.mp z]; exact hk
theorem kvs_prK : ∀ {ks : List D} {vvs : List V} {pv : List (Key × Value)}, ks.length = vvs.length → KV (prK ks vvs) pv → pv.map (·.1) = ks.map toKey ∧ Vals vvs (pv.map (·.2))
  | [], [], pv, _, h => by
    have h : KV (κ := Key) [] pv := h
    cases h; exact ⟨rfl, .nil⟩
  | [], _ :: _, _, h, _ => by simp at h
  | _ :: _, [], _, h, _ => by simp at h
  | k :: ks, v :: vvs, pv, hl, h => by
    have h : KV ((toKey k, v) :: prK ks vvs) pv := h
    cases h with
    | cons q r =>
      obtain ⟨a, b⟩ := kvs_prK (by simpa using hl) r
      exact ⟨by rw [List.map_cons, List.map_cons, a, ← q.1], .cons q.2 b⟩

section
variable {X : Cx} {pins : List (Addr × Obj)} {σ : St} {H : Hp} {s : Shared} {W : WX}
/-- a dict of HandS, told anew by its object -/
theorem Inv.retag {a : Addr} {ks : List D} {vvs : List V} (I : Inv X pins σ H s) (e : H a = some (.dK (prK ks vvs))) (hv : ∀ k ∈ ks, isVK k = true) (hl : ks.length = vvs.length) :
    ∃ o, RawD X.w ks (ks.map fun k => kV (toKey k)) vvs o ∧ Inv X pins σ (upd H a (rawO a o)) s := by
  obtain ⟨z, hd, pv, rel, dd⟩ := (show ObjOk X.prog X.w H s.heap a (.dK (prK ks vvs)) from I.hok a _ e)
  obtain ⟨r1, r2⟩ := kvs_prK hl rel
  have hpl : pv.length ≤ sizeLine := by rw [← Paired.length rel]; exact z
  obtain ⟨o, ho, rd⟩ := raw_vk_back (w := X.w) dd hv r1 r2 hpl
  exact ⟨o, rd, I.write (x := a) (e := a) (t' := s.toks) (by rw [e]; exact True.intro) (.inl rfl) (fun b q _ k => k) ⟨o, ho⟩ (raw_ok ho hd)⟩
def tRet (X : Cx) (t : TE) : TE := fun σ H Q => t σ H fun v H' => ∃ a ks vvs, v = .ref a ∧ H' a = some (.dK (prK ks vvs)) ∧ (∀ k ∈ ks, isVK k = true) ∧ ks.length = vvs.length ∧
  ∀ o, RawD X.w ks (ks.map fun k => kV (toKey k)) vvs o → Q (.ref a) (upd H' a (rawO a o))
theorem pe_ret {e : Expr} {t : TE} (h : PE X e t) : PE X e (tRet X t) := ⟨fun pins s σ H Q I q => thn (h.run pins s σ H _ I q) fun u s1 ⟨v, H1, I1, r1, a, ks, vvs, e1, e2, e3, e4, q1⟩ => by
  subst e1
  obtain ⟨o, rd, I2⟩ := Inv.retag I1 e2 e3 e4
  exact ⟨.ref a, _, I2, r1, q1 o rd⟩⟩

/-- the pairs that a comprehension makes, behind ks, ws -/
def mDcL (t : Tg) (tt : MT) (tk tv : ME) (ρw : Env') : List D → List D → List D → Hs → Out (List D × List D)
  | [], ks, ws, hs => .ok (ks, ws) hs
  | x :: xs, ks, ws, hs => match mTg t (.d x) ρw with
    | none => .bad
    | some ρ1 => (tt ρ1 hs).bind0 fun b hs1 => if b = true then (tk ρ1 hs1).bind0 fun y hs2 => match y with
        | .d k => if isVK k = true ∧ ks.length < sizeLine then (tv ρ1 hs2).bind0 fun z hs3 => match z with
            | .d d => mDcL t tt tk tv ρw xs (putK ks k) (putA ks ws k d) hs3
            | .r _ => .bad
          else .bad
        | .r _ => .bad
      else mDcL t tt tk tv ρw xs ks ws hs1
def mDcE (vs : List Nat) (t : Tg) (mi : MI) (tt : MT) (tk tv : ME) : ME := fun ρ hs => (mi ρ hs).bind fun items hs1 => (mDcL t tt tk tv (wipeE ρ vs) items [] [] hs1).bind fun p hs2 => .ok (.d (.dct p.1 p.2)) hs2

theorem dc_read {mi : MI} {t : Tg} {tt : MT} {tk tv : ME} {vs : List Nat} {Q : VK} (hv : ∀ i ∈ t.slots, i ∈ vs) (h : TR (Cx.g X) W RepS (mDcE vs t mi tt tk tv) σ H Q) :
    tRet X (tDc (TIo (Cx.g X) W mi) (gOf X.K t) (TR (Cx.g X) W0 RB tt) (TR (Cx.g X) W0 RepS tk) (TR (Cx.g X) W0 RepS tv) vs) σ H Q := by
  obtain ⟨ρ, hs, N, hr, he, q⟩ := h
  refine ⟨ρ, hs, N, hr, he, ?_⟩
  simp only [mDcE] at q
  cases em : mi ρ hs with
  | bad => rw [em] at q; exact q.elim
  | exc c ns ws hs' => rw [em] at q; exact q
  | ok items hs1 =>
    rw [em] at q
    intro J N1 H1 hr1 ex1 wk p hp
    have wk := wk All
    have he1 := (he.ext ex1).wipe vs
    refine ⟨fun i m H' => ∃ hs' N' ks ws vvs, ∃ hm : some p ∉ N'.M, m = items.length - i ∧ i ≤ items.length ∧ HRel (Cx.g X) hs' N' H' ∧ N'.L p ∧ H' p = some (.dK (prK ks vvs)) ∧ (∀ k ∈ ks, isVK k = true) ∧ RepL (Cx.g X) H' N'.L ws vvs ∧ ks.length = ws.length ∧ ExtE H1 N1 H' (N'.unhide p hm) ∧
        PostO (Cx.g X) W σ H N RepS Q ((mDcL t tt tk tv (wipeE ρ vs) (items.drop i) ks ws hs').bind fun p hs2 => .ok (.d (.dct p.1 p.2)) hs2), ⟨items.length, hs1, N1.hide p, [], [], [], fun z => hr1.fresh hp (N1.liv _ z), by simp, Nat.zero_le _, hr1.hide hp trivial, .inr rfl, upd_same, (fun _ z => nomatch z), rfl, rfl, ?_, q⟩, ?_⟩
    · refine ⟨fun a u h _ q => ?_, fun a h => ?_, fun i a _ h => h, fun a h n _ => ⟨.inl h, ?_⟩, fun i a h n q => q, fun a h => ?_, fun a h n m => ?_, rfl⟩
      · rw [upd_ne (ne_of_none h hp)]; exact h
      · rcases h.1 with z | z
        · exact .inl z
        · exact absurd z h.2
      · rintro rfl; exact n hp
      · have : a ≠ p := by rintro rfl; exact h hp
        rw [upd_ne this]; exact h
      · have : a ≠ p := by rintro rfl; exact m hp
        rw [upd_ne this]
    · rintro i m H' ⟨hs', N', ks, ws, vvs, hm, rfl, hi, hr', hl', hp', hvk, ra, hlen, ex', q'⟩
      have exf : ExtE H1 N1 H' N' := Ext.rehide ex' hp
      have hlv : ks.length = vvs.length := hlen.trans ra.length
      by_cases hlt : i < items.length
      · refine .inr ⟨wk.go i hs' H' N' hr' exf hlt, fun H2 => ∃ hs2 N2 ks ws vvs, ∃ hm : some p ∉ N2.M, HRel (Cx.g X) hs2 N2 H2 ∧ N2.L p ∧ H2 p = some (.dK (prK ks vvs)) ∧ (∀ k ∈ ks, isVK k = true) ∧ RepL (Cx.g X) H2 N2.L ws vvs ∧ ks.length = ws.length ∧ ExtE H1 N1 H2 (N2.unhide p hm) ∧
          PostO (Cx.g X) W σ H N RepS Q ((mDcL t tt tk tv (wipeE ρ vs) (items.drop (i + 1)) ks ws hs2).bind fun p hs2 => .ok (.d (.dct p.1 p.2)) hs2),
          fun H2 ⟨hs2, N2, ks, ws, vvs, hm, a, b, c, d, e, f, g, h⟩ => ⟨items.length - (i + 1), by omega, hs2, N2, ks, ws, vvs, hm, rfl, hlt, a, b, c, d, e, f, g, h⟩, fun x H'' y => ?_⟩
        have hd : items[i]? = some items[i] := by simp [hlt]
        obtain ⟨hr2, ex2, rx⟩ := wk.yld i hs' H' N' x H'' _ hr' exf hd y
        rw [List.drop_eq_getElem_cons hlt] at q'
        simp only [mDcL] at q'
        cases et : mTg t (.d items[i]) (wipeE ρ vs) with
        | none => rw [et] at q'; exact q'.elim
        | some ρ1 =>
          simp only [et] at q'
          have hew : ERel (Cx.g X) H'' N' (wipeE ρ vs) (L2.wipe σ vs) := (he1.ext exf).ext ex2
          refine gOf_run (G := Cx.g X) t (.d items[i]) x (wipeE ρ vs) ρ1 (L2.wipe σ vs) _ rx hew et fun σ2 he2 hw => ?_
          refine ⟨?_, ρ1, hs', N', hr2, he2, ?_⟩
          · rw [hw vs hv, wipe_wipe fun i h => h]
          · have npo : H' p ≠ none := by rw [hp']; exact fun z => nomatch z
            have gone : ∀ {H3 : Hp} {N3 : Lg}, ExtE H' N' H3 N3 → some p ∉ N3.M := fun e z => by
              obtain ⟨j, hj⟩ := List.getElem?_of_mem z
              exact hm (List.mem_of_getElem? (e.old j p hl' npo hj))
            cases ett : tt ρ1 hs' with
            | bad => simp only [ett, Out.bind0] at q'; exact q'.elim
            | exc c ns ws hsx => simp only [ett, Out.bind0] at q'; exact q'.elim
            | ok k hs3 =>
              simp only [ett, Out.bind0] at q'
              intro v N3 H3 hr3 ex3 ev
              have ev : k = v := ev
              subst ev
              have e13 := ex2.trans ex3
              have hm3 := gone e13
              cases k with
              | false =>
                rw [if_neg Bool.false_ne_true]
                refine ⟨hs3, N3, ks, ws, vvs, hm3, hr3, e13.sub p hl' npo fun _ _ => trivial, (e13.hid p hl' hm npo).trans hp', hvk, RepL.ext e13 _ _ ra, hlen, ex'.trans (e13.unhide hm hm3 hl' npo), ?_⟩
                simpa using q'
              | true =>
                rw [if_pos rfl]
                refine ⟨ρ1, hs3, N3, hr3, he2.ext ex3, ?_⟩
                simp only [if_true] at q'
                cases ek : tk ρ1 hs3 with
                | bad => simp only [ek] at q'; exact q'.elim
                | exc c ns ws hsx => simp only [ek] at q'; exact q'.elim
                | ok yk hs4 =>
                  simp only [ek] at q'
                  intro wk' N4 H4 hr4 ex4 rw4
                  cases yk with
                  | r n => exact q'.elim
                  | d k =>
                    simp only at q'
                    by_cases hz : isVK k = true ∧ ks.length < sizeLine
                    · rw [if_pos hz] at q'
                      refine ⟨ρ1, hs4, N4, hr4, (he2.ext ex3).ext ex4, ?_⟩
                      cases ee : tv ρ1 hs4 with
                      | bad => simp only [ee] at q'; exact q'.elim
                      | exc c ns ws hsx => simp only [ee] at q'; exact q'.elim
                      | ok y hs5 =>
                        simp only [ee] at q'
                        intro w N5 H5 hr5 ex5 rw5
                        have e15 := (e13.trans ex4).trans ex5
                        have hm5 := gone e15
                        have hl5 : N5.L p := e15.sub p hl' npo fun _ _ => trivial
                        have hp5 : H5 p = some (.dK (prK ks vvs)) := (e15.hid p hl' hm npo).trans hp'
                        cases y with
                        | r n => exact q'.elim
                        | d d =>
                          simp only at q'
                          have ra5 := RepL.ext e15 _ _ ra
                          refine ⟨prK ks vvs, toKey k, vk_rep hz.1 rw4, hp5, by rw [prK_len hlv]; exact hz.2, hs5, N5, putK ks k, putA ks ws k d, putA ks vvs k w, hm5, hr5.hidW hl5 hm5 trivial, hl5, ?_, putK_vk hvk hz.1, ?_, (putA_length hlen).symm, ?_, q'⟩
                          · rw [upd_same, put_prK hvk hz.1 hlv]
                          · have eo : ExtE H5 (N5.own p hl5 hm5) (upd H5 p (.dK (L2.putK (prK ks vvs) (toKey k) w))) (N5.own p hl5 hm5) := Ext.ownW hl5 hm5 (hr5.mu p hl5)
                            exact RepL.putA (Rep.ext eo _ _ rw5) (RepL.ext eo _ _ ra5)
                          · exact (ex'.trans (e15.unhide hm hm5 hl' npo)).wr hp
                    · rw [if_neg hz] at q'; exact q'.elim
      · have e : i = items.length := by omega
        subst e
        rw [List.drop_length] at q'
        refine .inl ⟨wk.stop _ hs' H' N' hr' exf (Nat.le_refl _), p, ks, vvs, rfl, hp', hvk, hlv, fun o rd => ?_⟩
        have eo : ExtE H' (N'.own p hl' hm) (upd H' p (rawO p o)) (N'.own p hl' hm) := Ext.ownW hl' hm (hr'.mu p hl')
        refine q' (.ref p) (N'.unhide p hm) (upd H' p (rawO p o)) ((hr'.hidW hl' hm rawO_mut).unhide hm) (ex1.trans (ex'.wr hp)) ?_
        refine ⟨p, o, _, vvs, rfl, fun z => z.2 rfl, upd_same, rd, vk_repL' hvk, RepL.sub (fun a z => z.1) _ _ (RepL.ext eo _ _ ra)⟩
theorem se_dc {kx vx tg iter : Expr} {ifs : List Expr} {scope : Scope} {own : List (Str × Nat)} {pos : Pos} {mi : MI} {t : Tg} {tt : MT} {tk tv : ME} (hc : X.calm = true) (hN : X.N.Nodup) (ok : BlkOk X.N X.env.scope scope own) (hv : ∀ i ∈ t.slots, i ∈ own.map (·.2))
    (hi : SI X W tg iter mi)
    (hg : ∀ (s : Shared) (H : Hp) (C : Addr) (cl : List (Str × Addr)) (fp : List Addr), PG (X.blk s H scope (compEnvC scope cl C X.env) fp) tg (gOf X.K t)) (ht : ∀ (s : Shared) (H : Hp) (C : Addr) (cl : List (Str × Addr)) (fp : List Addr), STs (X.blk s H scope (compEnvC scope cl C X.env) fp) W0 ifs tt)
    (hk : ∀ (s : Shared) (H : Hp) (C : Addr) (cl : List (Str × Addr)) (fp : List Addr), SE (X.blk s H scope (compEnvC scope cl C X.env) fp) W0 kx tk) (he : ∀ (s : Shared) (H : Hp) (C : Addr) (cl : List (Str × Addr)) (fp : List Addr), SE (X.blk s H scope (compEnvC scope cl C X.env) fp) W0 vx tv) (hs : ∀ x, foldedSetIterable iter X.env x = pure x := by intro _; rfl) :
    SE X W (.DictComp kx vx [⟨tg, iter, ifs, 0⟩] scope pos) (mDcE (own.map (·.2)) t mi tt tk tv) :=
  pe_of (pe_ret (pe_dc hc hN hi ok hg ht hk he hs)) fun _ _ _ h => dc_read hv h
end
end Py
end L2

set_option Elab.async false
set_option linter.all false
set_option maxRecDepth 100000
/-! sorted(d.items()), whatever the keys are. -/
namespace L2
namespace Py
open PySem PySem.Spec PyProof.Rows
open PySem.W (EachIs)
variable [Tl]

def pairsD (ks ws : List D) : List D := List.zipWith (fun k w => D.tup [k, w]) ks ws
theorem each_get {α β : Type} {R : α → β → Prop} : ∀ {as : List α} {bs : List β}, EachIs R as bs → as.length = bs.length ∧ ∀ (i : Nat) (a : α), as[i]? = some a → ∃ b, bs[i]? = some b ∧ R a b
  | [], _, .nil => ⟨rfl, fun i a h => by simp at h⟩
  | a :: as, _, .cons q r => by
    obtain ⟨l, k⟩ := each_get r
    refine ⟨by simp [l], fun i x h => ?_⟩
    cases i with
    | zero => cases h; exact ⟨_, rfl, q⟩
    | succ i => exact k i x (by simpa using h)
theorem vals_at {xs : List V} {us : List Value} {i : Nat} {u : Value} (h : Vals xs us) (e : us[i]? = some u) : ∃ x, xs[i]? = some x ∧ RelV x u := by
  have l := Vals.length h
  have hi : i < xs.length := by rw [l]; exact (List.getElem?_eq_some_iff.mp e).1
  obtain ⟨u', z1, z2⟩ := Vals.get h (List.getElem?_eq_getElem hi)
  rw [e] at z1; cases z1
  exact ⟨_, List.getElem?_eq_getElem hi, z2⟩
section
variable {X : Cx} {W : WX} {pins : List (Addr × Obj)} {σ : St} {s : Shared} {hs : Hs} {N : Lg} {G : Gd}
/-- tuples that lie in the heap are told -/
theorem layP {H0 : Hp} {h' : Heap} {tk : Nat} (I0 : Inv X pins σ H0 s) : ∀ (as : List Addr) (ts : List (List V)) (H1 : Hp), Inv X pins σ H1 { s with heap := h', toks := tk } → HRel G hs N H1 → as.Nodup →
    EachIs (fun a vs => s.heap.objs.size ≤ a ∧ H1 a = none ∧ ∀ H2, ObjOk X.prog X.w H2 h' a (.tup vs)) as ts →
    ∃ H2, Inv X pins σ H2 { s with heap := h', toks := tk } ∧ HRel G hs N H2 ∧ ExtE H1 N H2 N ∧ (∀ b, b ∉ as → H2 b = H1 b) ∧ EachIs (fun a vs => H2 a = some (.tup vs)) as ts
  | [], _, H1, I1, r, _, .nil => ⟨H1, I1, r, Ext.refl, fun _ _ => rfl, .nil⟩
  | a :: as, _, H1, I1, r, nd, .cons (b := vs) ⟨hb, hnone, ok⟩ t => by
    rw [List.nodup_cons] at nd
    have I2 : Inv X pins σ (upd H1 a (.tup vs)) { s with heap := h', toks := tk } := I1.take (h' := h') (t' := tk) (fun _ _ _ z => z) (I0.fpOk hb hnone) (ok _)
    have fr : ∀ {as' : List Addr} {ts' : List (List V)}, a ∉ as' → EachIs (fun a vs => s.heap.objs.size ≤ a ∧ H1 a = none ∧ ∀ H2, ObjOk X.prog X.w H2 h' a (.tup vs)) as' ts' →
        EachIs (fun c ys => s.heap.objs.size ≤ c ∧ (upd H1 a (.tup vs)) c = none ∧ ∀ H2, ObjOk X.prog X.w H2 h' c (.tup ys)) as' ts' := by
      intro as' ts' hn e
      induction e with
      | nil => exact .nil
      | cons q _ ih =>
        have hn' := not_or.mp (fun z => hn (List.mem_cons.mpr z))
        exact .cons ⟨q.1, by rw [upd_ne (Ne.symm hn'.1)]; exact q.2.1, q.2.2⟩ (ih hn'.2)
    obtain ⟨H2, I3, r3, e3, k3, q3⟩ := layP I0 as _ _ I2 (r.alloc hnone) nd.2 (fr nd.1 t)
    refine ⟨H2, I3, r3, (Ext.alloc hnone).trans e3, fun b hb' => ?_, .cons ?_ q3⟩
    · have z := not_or.mp (fun y => hb' (List.mem_cons.mpr y))
      rw [k3 b z.2, upd_ne z.1]
    · rw [k3 a nd.1, upd_same]

/-- o.items(): a view -/
def tIt (to : TE) : TE := fun σ H Q => to σ H fun x H1 => IsRaw H1 x ∧ ∀ a p, x = .ref a → H1 p = none → Q (.ref p) (upd H1 p (L2.DX.itemsO p a))
theorem pe_items {o : Expr} {apos cpos : Pos} {to : TE} (ho : PE X o to) (hb : attributeBase o "items" X.env (eval o X.env) = eval o X.env := by rfl) (hl : (apos.endLine == cpos.line) = true := by rfl) :
    PE X (.Call (.Attribute o "items" apos) [] [] cpos) (tIt to) := by
  constructor
  intro pins s σ H Q I h
  refine wpAny_Call_method0_late hb hl (thn (ho.run pins s σ H _ I h) fun v s1 z => ?_)
  obtain ⟨x, H1, I1, r1, ⟨a, ob, w', ks, kvs, vvs, ex, eH, rd⟩, q1⟩ := z
  subst ex
  cases (show v = Value.ref a from r1)
  obtain ⟨t1, t2⟩ := raw_ty I1 eH rd
  obtain ⟨f1, f2⟩ := raw_at I1 eH
  obtain ⟨g1, _, _, es, ep, g4, _⟩ := rd
  refine ⟨"dict", "dict.items", PySem.F.plainAttrs_dict, PySem.F.slot_dict_items, PySem.F.type_dict_items, t1, t2, ?_⟩
  refine Calls.callWith_builtin rfl (PySem.evalArgs_none (DT.callItems (es := es) (ep := ep) f2 ⟨ob, f1, g1, g4⟩ ?_))
  have hf : H1 s1.heap.objs.size = none := I1.hok.fresh (Nat.le_refl _)
  exact ⟨.ref s1.heap.objs.size, _, I1.laid (t' := s1.toks) (fun b u e => Heap.get?_push_of_some _ e) (Nat.le_refl _) (L2.DX.itemsO_ok (Heap.get?_push_size _ rfl)), rfl, q1 a _ rfl hf⟩

def rSI (G : Gd) : List V → Hp → VK → Prop := fun xs H Q => ∃ (p a : Addr) (o : Obj) (hs : Hs) (N : Lg) (ks ws : List D) (kvs vvs : List V), xs = [.ref p] ∧ H p = some (L2.DX.itemsO p a) ∧ H a = some (rawO a o) ∧ RawD G.w ks kvs vvs o ∧
  HRel G hs N H ∧ RepL G H N.L ks kvs ∧ RepL G H N.L ws vvs ∧ sortOk (pairsD ks ws) = true ∧ ∀ v H', HRel G hs N H' → ExtE H N H' N → Rep G H' N.L (.lst (sortK (pairsD ks ws))) v → Q v H'
theorem cr_sortIt {k : Nat} (hc : X.calm = true) (hr : Room k X.A) : CallR X (.builtin "sorted") (rSI (Cx.g X)) := by
  intro pins s σ H xs us Q I r h
  obtain ⟨p, a, o, hs, N, ks, ws, kvs, vvs, rfl, hp, ha, rd, h1, rk, rw', ok, q⟩ := h
  have hun := hr.un
  obtain rfl := Vals.ref1 r
  have view : s.heap.IsItemsView p a := (show ObjOk X.prog X.w H s.heap p (L2.DX.itemsO p a) from I.hok p _ hp).1
  obtain ⟨ho, hd⟩ := raw_at I ha
  obtain ⟨f1, f2, f3, es, ep, f4, f5, f6, f7, f8⟩ := rd
  obtain ⟨k1, k2, k3, k4⟩ := sortOk_of ok
  have lks : ks.length = es.size := by simpa using (congrArg List.length f6).symm
  have lws : ws.length = es.size := by rw [rw'.length]; simpa using Vals.length f8
  refine Calls.call_function_entry PyProof.Rows.kind_sorted PyProof.Rows.plain_sorted PyProof.Rows.entry_sorted (PyProof.Rows.args_sorted1 _) ?_
  unfold Builtin.«sorted»
  refine wpAny_bind (m := checkCount "sorted" 1 1 _) (wpAny_pure ?_)
  refine wpAny_bind (PySem.W.dil_collect (A := X.A.in1) (es := es) (ep := ep) (I.ok.hd hc) view ⟨o, ho, f1, f4⟩ f5 fun h' tk as hk hl hG => ?_)
  have I1 : Inv X pins σ H { s with heap := h', toks := tk } := I.kept hk
  have nd : as.Nodup := List.Pairwise.imp (fun h => Nat.ne_of_lt h) hG.rise
  have lk : kvs.length = es.size := by simpa using Vals.length f7
  have lv : vvs.length = es.size := by simpa using Vals.length f8
  have at1 : ∀ (j : Nat) (b : Addr), as[j]? = some b → ∃ kv vv, kvs[j]? = some kv ∧ vvs[j]? = some vv ∧ s.heap.objs.size ≤ b ∧ H b = none ∧ ∀ H2, ObjOk X.prog X.w H2 h' b (.tup [kv, vv]) := fun j b hj => by
    obtain ⟨hj', hb⟩ := hG.pairs j b hj
    have hle : s.heap.objs.size ≤ b := Nat.le_of_lt (hG.above b (List.mem_of_getElem? hj))
    have e1 : (es.toList.map (·.key))[j]? = some es[j].key := by simp [hj']
    have e2 : (es.toList.map (·.val))[j]? = some es[j].val := by simp [hj']
    obtain ⟨kv, z1, z2⟩ := vals_at f7 e1
    obtain ⟨vv, z3, z4⟩ := vals_at f8 e2
    refine ⟨kv, vv, z1, z3, hle, I.hok.fresh hle, fun H2 => ⟨by show 2 ≤ sizeLine; decide, [es[j].key, es[j].val], .cons z2 (.cons z4 .nil), ?_⟩⟩
    exact ⟨_, hb, rfl, 0, rfl⟩
  have ets : EachIs (fun b vs => s.heap.objs.size ≤ b ∧ H b = none ∧ ∀ H2, ObjOk X.prog X.w H2 h' b (.tup vs)) as (List.zipWith (fun x y => [x, y]) kvs vvs) := by
    refine each_at (by simp; omega) fun j b vs hj hv => ?_
    obtain ⟨kv, vv, z1, z2, z3⟩ := at1 j b hj
    rw [List.getElem?_zipWith, z1, z2] at hv
    cases hv
    exact z3
  obtain ⟨H2, I2, r2, e2, k2', q2⟩ := layP I as _ H I1 h1 nd ets
  have ea : EachIs (RVD (Cx.g X) H2 N.L) (as.map Value.ref) (pairsD ks ws) := by
    refine each_at (by simp [pairsD]; omega) fun j u d hj hd' => ?_
    rw [List.getElem?_map] at hj
    obtain ⟨b, hb, rfl⟩ := Option.map_eq_some_iff.mp hj
    obtain ⟨kv, vv, z1, z2, z3⟩ := at1 j b hb
    have hjl : j < ks.length := by rw [lks, ← hl]; exact (List.getElem?_eq_some_iff.mp hb).1
    have hjw : j < ws.length := by omega
    unfold pairsD at hd'
    rw [List.getElem?_zipWith, List.getElem?_eq_getElem hjl, List.getElem?_eq_getElem hjw] at hd'
    cases hd'
    obtain ⟨kv', y1, y2⟩ := rk.get (List.getElem?_eq_getElem hjl)
    obtain ⟨vv', y3, y4⟩ := rw'.get (List.getElem?_eq_getElem hjw)
    rw [z1] at y1; cases y1
    rw [z2] at y3; cases y3
    obtain ⟨_, t2⟩ := each_get q2
    obtain ⟨vs, t3, t4⟩ := t2 j b hb
    rw [List.getElem?_zipWith, z1, z2] at t3
    cases t3
    exact ⟨.ref b, rfl, b, _, rfl, SqT.of t4, kv, _, rfl, Rep.ext e2 _ _ y2, vv, _, rfl, Rep.ext e2 _ _ y4, rfl⟩
  have hsz : (as.map Value.ref).length ≤ sizeLine := by rw [List.length_map, hl]; exact f5
  refine wpAny_bind (wpAny_newList ?_ hsz)
  have hoL : (h'.push (seqObj "list" (as.map Value.ref).toArray 0)).get? h'.objs.size = some (seqObj "list" (as.map Value.ref).toArray 0) := Heap.get?_push_size _ rfl
  show wpAny _ _ _ _ _ { s with heap := h'.push (seqObj "list" (as.map Value.ref).toArray 0), toks := tk }
  have I3 : Inv X pins σ H2 { s with heap := h'.push (seqObj "list" (as.map Value.ref).toArray 0), toks := tk } := I2.kept fun b o z => Heap.get?_push_of_some _ z
  refine wpAny_bind (wpAny_holding (PySem.W.list_sort_data (enc := pyK) (s := { s with heap := h'.push (seqObj "list" (as.map Value.ref).toArray 0), toks := tk }) hoL ea ((rvd_reads I3 k1 ea).mono fun _ _ z => ⟨[], z, by simp⟩) k2 k3 k4 (fun b hb => ?_) fun out ho2 eo => ?_))
  · have := pyK_depth 8 b (k1 b hb)
    simp only [Around.in1_units]; omega
  · obtain ⟨zs, w1, w2⟩ := of_rvd eo
    obtain ⟨c, hc'⟩ := PyProof.Rows.sortedHeap_at (vs := as.map Value.ref) (out := out.toArray) hoL
    have hp2 : H2 h'.objs.size = none := I2.hok.fresh (Nat.le_refl _)
    refine wpAny_pure ⟨_, rfl, .ref h'.objs.size, upd H2 h'.objs.size (.lst zs), I2.laid (t' := tk) (fun b u z => ?_) (Nat.le_refl _) ⟨?_, out, c, w2, hc'⟩, rfl, ?_⟩
    · have hb : b < h'.objs.size := Heap.lt_size z
      rw [PyProof.Rows.sortedHeap_old (Nat.ne_of_lt hb) (by rw [size_push']; exact Nat.lt_succ_of_lt hb)]
      exact Heap.get?_push_of_some _ z
    · have z : (sortK (pairsD ks ws)).length = (pairsD ks ws).length := List.length_mergeSort _
      rw [← w1.length]; show (sortK (pairsD ks ws)).length ≤ _; rw [z]; exact k4
    · exact q _ _ (r2.alloc hp2) (e2.trans (Ext.alloc hp2)) ⟨_, zs, rfl, r2.fresh hp2, upd_same, RepL.ext (P := All) (Ext.alloc hp2) _ _ w1⟩
def mSortI (mo : ME) : ME := fun ρ hs => (mo ρ hs).bind fun x hs1 => match viewD hs1 x with
  | some (ks, ws) => if sortOk (pairsD ks ws) = true then .ok (.d (.lst (sortK (pairsD ks ws)))) hs1 else .bad
  | none => .bad
theorem se_sortItems {o : Expr} {p apos cpos pos : Pos} {mo : ME} {k : Nat} (hc : X.calm = true) (hr : Room k X.A) (hg : Gl X "sorted") (hm : X.mg "sorted" = none) (hv : bootBuiltins "sorted" = some (.builtin "sorted")) (ho : SE X W o mo)
    (hb : attributeBase o "items" X.env (eval o X.env) = eval o X.env := by rfl) (hl : (apos.endLine == cpos.line) = true := by rfl)
    (he : starEach [.Call (.Attribute o "items" apos) [] [] cpos] X.env = (false, eval (.Call (.Attribute o "items" apos) [] [] cpos) X.env) :: starEach [] X.env := by rfl) (hpl : (backTo pos (starEach [] X.env)).any (·.1) = false := by rfl) :
    SE X W (.Call (.Name "sorted" p) [.Call (.Attribute o "items" apos) [] [] cpos] [] pos) (mSortI mo) := by
  refine pe_of (pe_callB (cr_sortIt hc hr) hg hm hv (pa_cons (pe_items ho hb hl) pa_nil he) (by decide) (by decide) he hpl) fun σ H Q h => ?_
  obtain ⟨ρ, hs, N, hr, he, q⟩ := TR.two (R := RepS) h
  refine ⟨ρ, hs, N, hr, he, q.mono fun x H1 ⟨ρ1, hs1, N1, d, q1, q2, q3, q4⟩ => ?_⟩
  cases ev : viewD hs1 d with
  | none => simp only [ev] at q4; exact q4.elim
  | some kw =>
    obtain ⟨ks, ws⟩ := kw
    simp only [ev] at q4
    by_cases ok : sortOk (pairsD ks ws) = true
    · rw [if_pos ok] at q4
      obtain ⟨a, o, kvs, vvs, rfl, z1, z2, z3, z4⟩ := viewD_of q1 q3 ev
      refine ⟨⟨a, o, _, _, _, _, rfl, z1, z2⟩, fun b p e hp => ?_⟩
      cases e
      have ex : ExtE H1 N1 (upd H1 p (L2.DX.itemsO p a)) N1 := Ext.alloc hp
      exact ⟨p, a, o, hs1, N1, ks, ws, kvs, vvs, rfl, upd_same, by rw [upd_ne (ne_of_none z1 hp)]; exact z1, z2, q1.alloc hp, RepL.ext ex _ _ z3, RepL.ext ex _ _ z4, ok, fun v H' y1 y2 y3 => q4 v N1 H' y1 (ex.trans y2) y3⟩
    · rw [if_neg ok] at q4; exact q4.elim
end
end Py
end L2

set_option Elab.async false
set_option linter.all false
set_option maxRecDepth 100000
/-! sorted(set(xs)), xs a list of ints. -/
namespace PySem
open PyProof.Rows L2
section
variable {P : Program} {w : World} {A : Around} {E : Value → Shared → Prop} {s : Shared}
/-- how the heap stands behind the call -/
private def SetDone (w : World) (s : Shared) (ns : List Int) (h' : Heap) (c : Nat) : Prop :=
  SetR w h' s.heap.objs.size (fun j => decide (j ∈ ns)) c ∧ c ≤ ns.length ∧ ∀ b o, s.heap.get? b = some o → h'.get? b = some o
private theorem grown {h h1 : Heap} {o1 o2 : Obj} {b : Addr} {o : Obj} (e : h.get? b = some o) : ((h.push o1).push o2).get? b = some o := Heap.get?_push_of_some _ (Heap.get?_push_of_some _ e)
private theorem apart {h : Heap} (o1 : Obj) {l : Addr} (q : l < h.objs.size) : l ≠ (h.push o1).objs.size :=
  fun z => Nat.ne_of_lt (Nat.lt_succ_of_lt q) (by rw [Heap.size_push] at z; exact z)
private theorem outside {h : Heap} (o1 : Obj) {l : Addr} (q : l < h.objs.size) : h.objs.size ∉ [(h.push o1).objs.size, l] := fun z => by
  rw [Heap.size_push] at z
  rcases List.mem_cons.mp z with z | z
  · exact Nat.ne_of_lt (Nat.lt_succ_self _) z
  · exact Nat.ne_of_gt q (List.mem_singleton.mp z)
/-- the filling -/
private theorem filled {l : Addr} {items : Array Value} {ns : List Int} {B : Around} (nh : B.handled = none) (len : items.size = ns.length) (are : IntsAre items.toList ns) (few : ns.length + 1 < scanBound) (ll : l < s.heap.objs.size)
    (isl : (s.heap.push { cls := .type "set", dict := none, data := .set #[] 0 (.fresh 0 0 (!w.params.followText "set-order")) }).IsList l items) {R : Result → Shared → Prop}
    (fin : ∀ (h' : Heap) (tk c : Nat), SetDone w s ns h' c → R (.ok (.ret .none)) { s with heap := h', toks := tk }) :
    codeAny (model P w) B (.builtin "set.update.loop" ⟨[.ref s.heap.objs.size, .ref (s.heap.push { cls := .type "set", dict := none, data := .set #[] 0 (.fresh 0 0 (!w.params.followText "set-order")) }).objs.size], []⟩) R
      { s with heap := (s.heap.push { cls := .type "set", dict := none, data := .set #[] 0 (.fresh 0 0 (!w.params.followText "set-order")) }).push { cls := .type "list_iterator", data := .fields #[.ref l, .int 0 0] } } := by
  have each : ∀ (i : Nat) (v : Value), items[i]? = some v → ∃ k t, ns[i]? = some k ∧ v = .int k t := fun i v hv => by
    obtain ⟨t, e⟩ := PyProof.Rows.IntsAre.int_at are i v (by rw [Array.getElem?_toList]; exact hv)
    have lt : i < ns.length := by rw [← len]; exact (Array.getElem?_eq_some_iff.mp hv).1
    have g : ns.getD i 0 = ns[i] := by rw [List.getD_eq_getElem?_getD, List.getElem?_eq_getElem lt]; rfl
    exact ⟨_, t, List.getElem?_eq_getElem lt, by rw [e, g]⟩
  have walk := (Walks.list (prog := P) (w := w) (A := B.in1) (by simpa using nh) _ l (apart { cls := .type "set", data := .set #[] 0 (.fresh 0 0 (!w.params.followText "set-order")) } ll) items).toS
  have start : ∃ c, c ≤ 0 ∧ SetR w ((s.heap.push { cls := .type "set", dict := none, data := .set #[] 0 (.fresh 0 0 (!w.params.followText "set-order")) }).push { cls := .type "list_iterator", data := .fields #[.ref l, .int 0 0] }) s.heap.objs.size (fun j => decide (j ∈ ns.take 0)) c :=
    ⟨0, Nat.le_refl 0, setR_new_at (Heap.get?_push_of_some _ (Heap.get?_push_size _ rfl))⟩
  refine set_update_ints walk s.heap.objs.size (outside _ ll) ns len few each (items.size - 0) 0 _ (by omega) (Nat.zero_le _) ⟨⟨_, Heap.get?_push_size _ rfl, rfl, rfl⟩, isl.push _⟩ start fun t c mv cl done => ?_
  obtain ⟨h', g2, d', tk', os'⟩ := t
  cases (show g2 = s.gens from mv.gens)
  cases (show d' = s.drawn from mv.drawn)
  cases (show os' = s.os from mv.os)
  refine fin h' tk' c ⟨done, by rw [← len]; exact cl, fun b o e => mv.heap b o (fun z => ?_) (grown (h1 := s.heap) e)⟩
  have lt := Heap.lt_size e
  rcases List.mem_cons.mp z with z | z
  · exact Nat.ne_of_lt lt z
  · have z := List.mem_singleton.mp z
    rw [Heap.size_push] at z
    exact Nat.ne_of_lt (Nat.lt_succ_of_lt lt) z
set_option maxRecDepth 100000 in
set_option maxHeartbeats 3200000 in
/-- set(xs) -/
theorem set_of_ints {l : Addr} {items : Array Value} (ns : List Int) {Q : Value → Shared → Prop} (nh : A.handled = none) (isl : s.heap.IsList l items) (are : IntsAre items.toList ns) (few : ns.length + 1 < scanBound)
    (fin : ∀ (h' : Heap) (tk c : Nat), SetDone w s ns h' c → Q (.ref s.heap.objs.size) { s with heap := h', toks := tk }) :
    wpAny (model P w) A (call (.type "set") [.ref l]) Q E s := by
  have len : items.size = ns.length := by rw [← Array.length_toList]; exact IntsAre.length are
  have ll : l < s.heap.objs.size := let ⟨_, e, _⟩ := isl; Heap.lt_size e
  obtain ⟨c, tl, of_mro⟩ := F.called_set.mro
  have of_made := F.called_set.made
  have of_sub := F.called_set.sub
  have of_kind := F.called_set.notType
  have of_new := F.called_set.canCreate
  have of_call := F.typeCall_set_1 (.ref l)
  apply wpAny_call
  apply codeAny_of_tree
  change wpAny _ _ (callAny (.type "set") _) _ _ _
  refine wpAny_pure (And.intro (Code.quiet_builtin _ (by decide +kernel)) ?_)
  apply codeAny_builtin F.entry_type_call
  rw [Around.under_plain (weight_type_call_type "set" [.ref l] []) (by rfl)]
  repeat any_goals (first | assumption | wp_step)

  refine codeAny_mono (code_set_led1 (.ref l) (E := E) (Q₁ := fun o t => o = .ref s.heap.objs.size ∧ t = { s with heap := s.heap.push { cls := .type "set", data := .set #[] 0 (.fresh 0 0 (!w.params.followText "set-order")) } }) ⟨rfl, rfl⟩) fun r t ht => ?_
  match r, ht with
  | .error _, ht => exact ht
  | .ok .next, ht => exact ht.elim
  | .ok .brk, ht => exact ht.elim
  | .ok .cont, ht => exact ht.elim
  | .ok (.ret o), ht =>
    obtain ⟨eo, et⟩ := ht
    subst eo et
    have got : (s.heap.push { cls := .type "set", data := .set #[] 0 (.fresh 0 0 (!w.params.followText "set-order")) }).get? s.heap.objs.size = some { cls := .type "set", data := .set #[] 0 (.fresh 0 0 (!w.params.followText "set-order")) } := Heap.get?_push_size _ rfl
    have is_set : Shared.TypeIs { s with heap := s.heap.push { cls := .type "set", data := .set #[] 0 (.fresh 0 0 (!w.params.followText "set-order")) } } (.ref s.heap.objs.size) "set" := ⟨_, got, rfl⟩
    have of_look := F.called_set.init.lookup
    have of_bind := F.called_set.init.bind (.ref s.heap.objs.size)
    repeat any_goals (first | assumption | wp_step)

    refine codeAny_mono (codeAny_call_builtin (R := wants (fun r t => r = .none ∧ ∃ h' tk c, t = { s with heap := h', toks := tk } ∧ SetDone w s ns h' c) E) F.called_set.init.plain F.entry_set_init (check_set_init_1 is_set ?_)) fun r t ht => ?_
    · obtain ⟨ol, at_l, cl, nl, dl⟩ := isl
      rcases ol with ⟨ocls, odict, odata, oslots⟩
      dsimp only at cl dl
      subst cl dl
      have at_l2 : (s.heap.push { cls := .type "set", data := .set #[] 0 (.fresh 0 0 (!w.params.followText "set-order")) }).get? l = some { cls := .type "list", dict := odict, data := .seq items nl, slots := oslots } := Heap.get?_push_of_some _ at_l
      have of1 := F.sub_list_set
      have of2 := F.sub_list_frozenset
      have of3 : (Value.type "list" == Value.type "dict") = false := by decide +kernel
      have isl1 : (s.heap.push { cls := .type "set", data := .set #[] 0 (.fresh 0 0 (!w.params.followText "set-order")) }).IsList l items := ⟨_, at_l2, rfl, nl, rfl⟩
      unfold Builtin.«set.__init__» noKeywords Builtin.Frozenset.updateFrom
      generalize eI : pyIter = itr
      wp_walk
      subst eI

      refine wpAny_pyIter_list isl1 ?_
      refine wpAny_bind (wpAny_runValue (filled (by simp [nh]) len are few ll isl1 fun h' tk c d => ?_))
      refine wpAny_pure ?_
      refine wpAny_pure ⟨rfl, h', tk, c, rfl, d⟩
    · match r, ht with
      | .error _, ht => exact ht
      | .ok .next, ht => exact ht.elim
      | .ok .brk, ht => exact ht.elim
      | .ok .cont, ht => exact ht.elim
      | .ok (.ret o), ht =>
        obtain ⟨rfl, h', tk, c, rfl, d⟩ := ht
        repeat any_goals (first | assumption | wp_step)
        exact fin h' tk c d
end
end PySem

set_option Elab.async false
set_option linter.all false
set_option maxRecDepth 100000
/-! sorted(set(xs)), xs a list of ints: the rule. -/
namespace L2
namespace Py
open PySem PySem.Spec PyProof.Rows
variable [Tl]

def insU (k : Int) : List Int → List Int
  | [] => [k]
  | x :: xs => if k < x then k :: x :: xs else if k = x then x :: xs else x :: insU k xs
/-- in order, each once -/
def setSort : List Int → List Int
  | [] => []
  | k :: ks => insU k (setSort ks)
theorem mem_insU {k j : Int} : ∀ {xs : List Int}, j ∈ insU k xs ↔ j = k ∨ j ∈ xs
  | [] => by simp [insU]
  | x :: xs => by
    unfold insU
    split
    · simp
    · split
      · rename_i h; subst h; simp
      · rw [List.mem_cons, mem_insU, List.mem_cons]
        constructor
        · rintro (h | h | h)
          · exact .inr (.inl h)
          · exact .inl h
          · exact .inr (.inr h)
        · rintro (h | h | h)
          · exact .inr (.inl h)
          · exact .inl h
          · exact .inr (.inr h)
theorem pw_insU {k : Int} : ∀ {xs : List Int}, xs.Pairwise (· < ·) → (insU k xs).Pairwise (· < ·)
  | [], _ => by simp [insU]
  | x :: xs, h => by
    have h1 := List.pairwise_cons.mp h
    unfold insU
    split
    · rename_i q
      refine List.pairwise_cons.mpr ⟨fun y hy => ?_, h⟩
      rcases List.mem_cons.mp hy with rfl | hy
      · exact q
      · exact Int.lt_trans q (h1.1 y hy)
    · split
      · exact h
      · rename_i q1 q2
        refine List.pairwise_cons.mpr ⟨fun y hy => ?_, pw_insU h1.2⟩
        rcases mem_insU.mp hy with rfl | hy
        · omega
        · exact h1.1 y hy
theorem mem_setSort {j : Int} : ∀ {ks : List Int}, j ∈ setSort ks ↔ j ∈ ks
  | [] => by simp [setSort]
  | k :: ks => by rw [setSort, mem_insU, mem_setSort, List.mem_cons]
theorem pw_setSort : ∀ ks : List Int, (setSort ks).Pairwise (· < ·)
  | [] => .nil
  | k :: ks => pw_insU (pw_setSort ks)
theorem pw_uniq : ∀ {l m : List Int}, l.Pairwise (· < ·) → m.Pairwise (· < ·) → (∀ k, k ∈ l ↔ k ∈ m) → l = m
  | [], [], _, _, _ => rfl
  | [], y :: m, _, _, h => by have := (h y).mpr List.mem_cons_self; simp at this
  | x :: l, [], _, _, h => by have := (h x).mp List.mem_cons_self; simp at this
  | x :: l, y :: m, hl, hm, h => by
    obtain ⟨l1, l2⟩ := List.pairwise_cons.mp hl
    obtain ⟨m1, m2⟩ := List.pairwise_cons.mp hm
    have e : x = y := by
      rcases List.mem_cons.mp ((h x).mp List.mem_cons_self) with e | e
      · exact e
      · rcases List.mem_cons.mp ((h y).mpr List.mem_cons_self) with e2 | e2
        · exact e2.symm
        · have := m1 x e; have := l1 y e2; omega
    subst e
    have : l = m := pw_uniq l2 m2 fun k => by
      constructor
      · intro hk
        rcases List.mem_cons.mp ((h k).mp (List.mem_cons_of_mem _ hk)) with e | e
        · have := l1 k hk; omega
        · exact e
      · intro hk
        rcases List.mem_cons.mp ((h k).mpr (List.mem_cons_of_mem _ hk)) with e | e
        · have := m1 k hk; omega
        · exact e
    rw [this]
def intsD : List D → Option (List Int)
  | [] => some []
  | .int k :: ds => (intsD ds).map (k :: ·)
  | _ => none
theorem intsD_of : ∀ {ds : List D} {ns : List Int}, intsD ds = some ns → ds = ns.map .int
  | [], _, h => by cases h; rfl
  | .int k :: ds, _, h => by
    simp only [intsD] at h
    obtain ⟨ns, h1, rfl⟩ := Option.map_eq_some_iff.mp h
    rw [intsD_of h1]; rfl
  | .non :: _, _, h => by cases h
  | .bl _ :: _, _, h => by cases h
  | .str _ :: _, _, h => by cases h
  | .tup _ :: _, _, h => by cases h
  | .lst _ :: _, _, h => by cases h
  | .dct _ _ :: _, _, h => by cases h
  | .scr _ :: _, _, h => by cases h
  | .glo _ :: _, _, h => by cases h
  | .ty _ :: _, _, h => by cases h
theorem intsD_map : ∀ ns : List Int, intsD (ns.map .int) = some ns
  | [] => rfl
  | k :: ns => by simp only [List.map_cons, intsD, intsD_map ns]; rfl
theorem rep_ints {G : Gd} {H : Hp} {L : Addr → Prop} : ∀ {ns : List Int} {vs : List V}, RepL G H L (ns.map .int) vs → vs = ns.map V.int
  | [], _, h => h
  | k :: ns, _, ⟨v, r, h1, h2, h3⟩ => by
    rw [h1, rep_ints h3, show v = V.int k from h2]; rfl
theorem rep_ints' {G : Gd} {H : Hp} {L : Addr → Prop} : ∀ (ns : List Int), RepL G H L (ns.map .int) (ns.map V.int)
  | [] => rfl
  | k :: ns => ⟨.int k, _, rfl, rfl, rep_ints' ns⟩
section
variable {X : Cx} {W : WX}
/-- set(xs) -/
def rSetL (w : World) : List V → Hp → VK → Prop := fun vs H Q => ∃ (a : Addr) (ns : List Int), vs = [.ref a] ∧ H a = some (.lst (ns.map V.int)) ∧ ns.length < 64 ∧ ∀ p c, H p = none → c ≤ ns.length → Q (.ref p) (upd H p (SetO w p (fun j => decide (j ∈ ns)) c))
theorem cr_setL (hc : X.calm = true) : CallR X (.type "set") (rSetL X.w) := by
  intro pins s σ H vs us Q I r ⟨a, ns, e, ha, hl, q⟩
  subst e
  obtain rfl := Vals.ref1 r
  obtain ⟨its, rv, pl, hz⟩ := I.list (SqL.of ha)
  have hi : IntsAre its.toArray.toList ns := ints_of_vals rv
  refine set_of_ints ns (I.ok.hd hc) pl.isList hi (by unfold scanBound; omega) fun h' tk c d => ?_
  have hn : H s.heap.objs.size = none := I.hok.fresh (Nat.le_refl _)
  exact ⟨.ref s.heap.objs.size, _, I.laid (t' := tk) (fun b o z => d.2.2 b o z) (Nat.le_refl _) (setO_new d.1), rfl, q _ c hn d.2.1⟩
def mSortSet (me : ME) : ME := fun ρ hs => (me ρ hs).bind fun x hs1 => match viewL hs1 x with
  | some xs => match intsD xs with
    | some ns => if ns.length < 64 then .ok (.d (.lst ((setSort ns).map .int))) hs1 else .bad
    | none => .bad
  | none => .bad
theorem se_sortSet {e : Expr} {p p2 pos pos2 : Pos} {me : ME} {k : Nat} (hc : X.calm = true) (hg : Gl X "sorted") (hm : X.mg "sorted" = none) (hg2 : Gl X "set") (hm2 : X.mg "set" = none) (h : SE X W e me)
    (he : starEach [.Call (.Name "set" p2) [e] [] pos2] X.env = (false, eval (.Call (.Name "set" p2) [e] [] pos2) X.env) :: starEach [] X.env := by rfl) (he2 : starEach [e] X.env = (false, eval e X.env) :: starEach [] X.env := by rfl)
    (hpl : (backTo pos (starEach [] X.env)).any (·.1) = false := by rfl) (hpl2 : (backTo pos2 (starEach [] X.env)).any (·.1) = false := by rfl) :
    SE X W (.Call (.Name "sorted" p) [.Call (.Name "set" p2) [e] [] pos2] [] pos) (mSortSet me) := by
  refine pe_of (pe_callB (cr_sortedSet hc) hg hm PyProof.Rows.boot_sorted (pa_cons (pe_callTy (cr_setL hc) hg2 hm2 PyProof.Rows.boot_set (pa_cons h pa_nil he2) (by decide) (by decide) he2 hpl2) pa_nil he) (by decide) (by decide) he hpl) fun σ H Q h => ?_
  obtain ⟨ρ, hs, N, hr, he, q⟩ := TR.two (R := RepS) h
  refine ⟨ρ, hs, N, hr, he, q.mono fun x H1 ⟨ρ1, hs1, N1, d, q1, q2, q3, q4⟩ => ?_⟩
  cases ev : viewL hs1 d with
  | none => simp only [ev] at q4; exact q4.elim
  | some xs =>
    simp only [ev] at q4
    cases en : intsD xs with
    | none => simp only [en] at q4; exact q4.elim
    | some ns =>
      simp only [en] at q4
      by_cases hl : ns.length < 64
      · rw [if_pos hl] at q4
        obtain ⟨a, vs, e1, e2, e3⟩ := viewL_of q1 q3 ev
        subst e1
        rw [intsD_of en] at e3
        rw [rep_ints e3] at e2
        refine ⟨a, ns, rfl, e2, hl, fun p c hp hcl => ⟨p, _, c, rfl, upd_same, by omega, fun ms p' hpw hmem _ hp' => ?_⟩⟩
        have em : ms = setSort ns := pw_uniq hpw (pw_setSort ns) fun k => by rw [hmem k, mem_setSort, decide_eq_true_eq]
        subst em
        have x1 : ExtE H1 N1 (upd H1 p (SetO X.w p (fun j => decide (j ∈ ns)) c)) N1 := Ext.alloc hp
        have r1 := q1.alloc (o := SetO X.w p (fun j => decide (j ∈ ns)) c) hp
        exact q4 _ N1 _ (r1.alloc hp') (x1.trans (Ext.alloc hp')) ⟨p', _, rfl, r1.fresh hp', upd_same, rep_ints' _⟩
      · rw [if_neg hl] at q4; exact q4.elim
end
end Py
end L2

set_option Elab.async false
set_option linter.all false
set_option maxRecDepth 100000
/-! Defs that make lambdas. -/
namespace L2
namespace Py
open PySem PySem.Spec PyProof.Rows
variable [Tl]

section
variable {P : Program} {w : World} {K : PySem.W.Frag} {mg : Str → Option Value} {base : Heap}
/-- as fn_ok, where the def's code object is known -/
theorem fn_okL {x qual : Str} {st : Stmt} {f c : Addr} {fd : FuncData} {Ns ps : List Str} {k : Nat} {b : MS} {nN : Nat} (F : Fun K x qual st f fd) (hcode : fd.code = .ref c) (S : FnScope Ns ps (defScope st)) (hn : nN = Ns.length)
    (hb : ∀ (A : Around) (outer : List Env) (s : Shared) (H : Hp) (E : XK) (Pd : Nat → Prop), A.guards = some [] → Room k (A.deeper (envOfC qual (defScope st) s.heap.objs.size f (.ref c))) →
      SSs (cxOf (L2.CX P w) P w K mg base Ns qual (defScope st) f (.ref c) A outer s H E) (fun cls d _ H => E cls d H) Pd (defBody st) b) :
    FnG P w K mg base (k + 1) f fd ps (spOf ⟨K, mg, w, base⟩ ps.length (mFn nN b)) := by
  obtain ⟨oc, od, kV, doc, pm, an, cdv, ct, osl, rfl, lk, hcd⟩ := F.ex
  have ec : cdv = .ref c := hcode
  subst ec
  refine ⟨fun vs H Q E h => h.1, fun A outer s H args us vs Q E hg hr e0 hbd r hsp => ?_⟩
  have old : ∀ b o, base.get? b = some o → s.heap.get? b = some o := fun b o e => (e0.bs b o e).1
  obtain ⟨hlen, ds, hs, N, ⟨h1, h0⟩, h2, h3⟩ := hsp
  refine _root_.Att.call_fn (e0.mod.kin.keeps old) (e0.mod.nolimit.keeps old) lk hcd hr.depth hbd ?_ (fun s1 ic => ?_) S.co S.gen S.kind
  · rw [List.all_eq_true]
    intro y hy
    rcases S.par y.1 (List.of_mem_zip (show (y.1, y.2) ∈ _ from hy)).1 with q | q <;> simp [q]
  · refine wpAny_mono ((hb A outer s H E (· < hs.length) hg (hr.deeper _)).run [] s1 (L2.start Ns vs) H { nx := fun _ H' => Q .non H', rt := Q } (inv_start S hr.hd e0 hlen r ic) ?_) (fun fl s' z => ?_) fun e s' z => z
    · refine ⟨startE nN ds, hs, N, h1, ERel.init h2 hn, ?_⟩
      simp only [mFn] at h3
      cases e : b (startE nN ds) hs with
      | nx ρ hs' =>
        rw [e] at h3
        exact fun σ' N' H' a c _ => h3 .non (N'.take hs.length) H' (a.take _ (by rw [c.k0, h0])) (c.take h1.len) rfl
      | rt d hs' =>
        rw [e] at h3
        exact fun v N' H' a c r => finish_ok (P := All) h1.len (by rw [c.k0, h0]) a c r h3
      | exc c ns ws ρ hs' =>
        rw [e] at h3
        exact fun cls dd σ' N' H' a c _ r => h3 cls dd (N'.take hs.length) H' (a.take _ (by rw [c.k0, h0])) (c.take h1.len) (r.sub fun a z => z.1)
      | bk ρ hs' => rw [e] at h3; exact h3.elim
      | ct ρ hs' => rw [e] at h3; exact h3.elim
      | bad => rw [e] at h3; exact h3.elim
    · cases fl with
      | ret u => obtain ⟨v, σ', H', J, rv, q⟩ := z; exact ⟨v, H', J.os, J.bare, J.base, J.hok, rv, q⟩
      | next => obtain ⟨σ', H', J, q⟩ := z; exact ⟨.non, H', J.os, J.bare, J.base, J.hok, rfl, q⟩
      | brk => obtain ⟨_, _, _, q⟩ := z; exact q.elim
      | cont => obtain ⟨_, _, _, q⟩ := z; exact q.elim
/-- a def that makes a lambda -/
def DefL (K : PySem.W.Frag) (mg : Str → Option Value) (x : Str) (st : Stmt) (ps : List Str) (q : Str) : Prop :=
  ∃ f fd c P, Fun K x x st f fd ∧ mg x = some (.ref f) ∧ Binds K fd ps [] ∧ fd.code = .ref c ∧ (c, P, q) ∈ Tl.T ∧ ∀ p ∈ Tl.T, p.2.1 = P → p.2.2 = q
theorem defL_mk {h : Heap} {x q : Str} {qs : List Str} {st : Stmt} {f c Pt : Addr} {oc : Value} {od an : Option Addr} {osl : Array (Option Value)} {kV doc pm ct : Value} (X : K.In h) (G : h.Ns mainGlobals mg) (a : PySem.W.nsIn K mainGlobals x = some (some (.ref f)))
    (l : K.lookup f = some ⟨oc, od, .func (PySem.W.fnOf x x (defArgs st) (defBody st) (defScope st) .none kV doc pm an (.ref c) ct), osl⟩)
    (cd : PySem.W.codeIn K (.ref c) x = true) (k : PySem.W.keepIn K (.ref f) = true) (hT : (c, Pt, q) ∈ Tl.T) (hu : ∀ p ∈ Tl.T, p.2.1 = Pt → p.2.2 = q)
    (b : ∀ (kV doc pm : Value) (an : Option Addr) (cdv ct : Value) (us : List Value), us.length = qs.length → bindArgs (PySem.W.fnOf x x (defArgs st) (defBody st) (defScope st) .none kV doc pm an cdv ct) ⟨us, []⟩ = pure (qs.zip us)) : DefL K mg x st qs q :=
  ⟨f, _, c, Pt, fun_mk l cd k, PySem.W.mg_of X G a, (fun_mk l cd k).binds b, rfl, hT, hu⟩
/-- the tables, of the top -/
theorem tabs_ok {h : Heap} (X : K.In h) (n : ∀ p ∈ Tl.T, h.get? p.2.1 = some { cls := .none, data := .fields #[] }) (o : ∀ p ∈ Tl.T, K.lookup p.2.1 = none) (e : ∀ p ∈ Tl.T, PySem.W.codeHdIn K p.1 p.2.1 = true) : TabOk K h :=
  ⟨n, o, fun p hp => PySem.W.codeHd_of_K X (e p hp)⟩
end
end Py
end L2

set_option Elab.async false
set_option linter.all false
set_option maxRecDepth 100000
/-! An own exception without an __init__: raised, and met. -/
namespace L2
namespace Py
open PySem PySem.Spec PyProof.Rows
variable [Tl]

abbrev bmVE : List Value := [Value.type "ValueError", Value.type "Exception", Value.type "BaseException", Value.type "object"]
structure Ex0C (K : PySem.W.Frag) (mg : Str → Option Value) (x : Str) (C : Addr) : Prop where
  g : mg x = some (.ref C)
  q : PySem.W.excIn K C bmVE "ValueError.__new__" = true
  k : PySem.W.keepIn K (.ref C) = true
  b : PySem.W.subIn K (.ref C) (.type "BaseException") = some true
  t : PySem.W.typeIn K (.ref C) = some (.type "type")
  m : PySem.W.exmOne K (.ref C) (.ref C) = some true
def Ex0 (K : PySem.W.Frag) (mg : Str → Option Value) (x : Str) : Prop := ∃ C, Ex0C K mg x C
/-- one class is met -/
def meets (y : Str) : Str → Option Bool := fun n => if n = y then some true else none
section
variable {X : Cx} {W : WX} {P : Nat → Prop} {x : Str} {p pos pos2 np pos' : Pos} {body suite : List Stmt} {b₀ : Stmt} {mb ms : MS}
theorem ss_raiseE (h : Ex0 X.K X.mg x) (hc : X.calm = true) (tk : Takes X W) (hg : Gl X x) (hdb : (x == ("__debug__" : Str)) = false := by decide) : SS X W P (.Raise (some (.Call (.Name x p) [] [] pos)) none pos2) (mRaise0 x) := by
  obtain ⟨C, h⟩ := h
  exact ss_raise0 hc tk PySem.F.excBase_ValueError h.q h.g h.k (raises_own h.b h.t) hg hdb
theorem ss_tryE (h : Ex0 X.K X.mg x) (hs : X.stack = X.env :: X.outer) (hf : X.env.frame = some X.env.locals) (hg : Gl X x) (tk : Takes X W)
    (hb : ∀ (W' : WX) (pn : List (Addr × Obj)) (xe : Value → Shared → Prop), Takes (X.tr pn xe) W' → PassesOwn (model X.prog X.w) X.A X.env xe → SSs (X.tr pn xe) W' P body mb)
    (hsu : ∀ (a : Addr) (oe : Obj) (pn : List (Addr × Obj)), SSs (X.suite a ((a, oe) :: pn)) W0 P (b₀ :: suite) ms) (hdb : (x == ("__debug__" : Str)) = false := by decide) :
    SS X W P (.Try body [.ExceptHandler (some (.Name x np)) none (b₀ :: suite) pos'] [] [] pos) (mTry1 (meets x) mb ms) := by
  obtain ⟨C, h⟩ := h
  refine ss_try1 (c := .ref C) hs hf ⟨hg, hdb, .inl h.g⟩ tk hb hsu fun n b e ca ec => ?_
  unfold meets at e
  split at e
  · rename_i en
    subst en
    cases e
    rw [h.g] at ec
    cases ec
    exact h.m
  · cases e
/-- a, b = x, y where a name is a cell: by a tuple -/
theorem ss_parC {i j : Nat} {x y : Str} {a b : Expr} {ma : MA} {px py pt : Pos} {kt k2 pt2} (hc : X.calm = true) (hx : PG X (.Name x px) (gOf X.K (.nm i))) (hy : PG X (.Name y py) (gOf X.K (.nm j))) (ha : SA X W [a, b] ma)
    (hs : swapsWithSole [.Tuple [.Name x px, .Name y py] kt pt] (.Tuple [a, b] k2 pt2) pos.line X.env = pure false := by rfl) (hw : swappedStores [.Tuple [.Name x px, .Name y py] kt pt] (.Tuple [a, b] k2 pt2) X.env = pure none := by rfl) :
    SS X W P (.Assign [.Tuple [.Name x px, .Name y py] kt pt] (.Tuple [a, b] k2 pt2) pos) (mPar i j ma) := by
  refine ps_of (ps_asg (pe_tup ha) (sg_tp hc (ts := [.nm i, .nm j]) (sgs_cons hx (sgs_cons hy sgs_nil))) hs hw) fun D σ H h => ?_
  obtain ⟨ρ, hs, N, hr, hE, q⟩ := TS'.two (R := RepSL) h
  refine ⟨ρ, hs, N, hr, hE, q.mono fun ys H1 ⟨ρ1, hs1, N1, a, _, _, q1, q2, _, q3, q4⟩ => ?_⟩
  match a, q3, q4 with
  | [], _, q4 => exact q4.elim
  | [_], _, q4 => exact q4.elim
  | _ :: _ :: _ :: _, _, q4 => exact q4.elim
  | [u, w], ⟨v1, r1, e1, z1, v2, r2, e2, z2, e3⟩, q4 =>
    have e3 : r2 = [] := e3
    subst e3 e2 e1
    refine ⟨(show 2 ≤ sizeLine by decide), fun p hp => ?_⟩
    have ex : ExtE H1 N1 (upd H1 p (.tup [v1, v2])) N1 := Ext.alloc hp
    exact ⟨p, [v1, v2], rfl, SqT.of upd_same, rfl, v1, [v2], rfl, v2, [], rfl, rfl, q4 _ N1 _ (q1.alloc hp) ex.toP (((q2.ext ex).set (z1.ext ex)).set (z2.ext ex))⟩
end
end Py
end L2

set_option Elab.async false
set_option linter.all false
set_option maxRecDepth 100000
/-! Running mirrors by hand: calls with data, loops, comprehensions over typed lists. -/
namespace L2
namespace Py
open PySem PySem.Spec PyProof.Rows
variable [Tl]

theorem refs_data : ∀ xs : List D, refsOf (xs.map .d) = []
  | [] => rfl
  | x :: xs => refs_data xs
theorem renum_data : ∀ xs : List D, renumL [] (xs.map .d) = some (xs.map .d)
  | [] => rfl
  | x :: xs => by simp only [List.map_cons, renumL, renum, renum_data xs]
theorem callM_data {f : FM} {hs : Hs} {d : D} (xs : List D) (h : f (xs.map .d) [] = .ok d []) : callM f (xs.map .d) hs = .ok d hs := by
  unfold callM
  rw [refs_data, renum_data]
  simp only [getAll, h, List.length_nil, ↓reduceIte, setAll]
theorem callM_exc {f : FM} {hs : Hs} {c : Str} {ns : List Str} {ws : List D} (xs : List D) (h : f (xs.map .d) [] = .exc c ns ws []) : callM f (xs.map .d) hs = .exc c ns ws hs := by
  unfold callM
  rw [refs_data, renum_data]
  simp only [getAll, h, List.length_nil, ↓reduceIte, setAll]
theorem call1 {f : FM} {a : ME} {ρ : Env'} {hs hs1 : Hs} {x d : D} (h1 : a ρ hs = .ok (.d x) hs1) (h : f [.d x] [] = .ok d []) : mCall f (mCons a mNil) ρ hs = .ok (.d d) hs1 := by
  simp only [mCall, mCons, mNil, h1, Out.bind]
  rw [show ([SV.d x] : List SV) = [x].map .d from rfl, callM_data [x] h]
theorem call2 {f : FM} {a b : ME} {ρ : Env'} {hs hs1 hs2 : Hs} {x y d : D} (h1 : a ρ hs = .ok (.d x) hs1) (h2 : b ρ hs1 = .ok (.d y) hs2) (h : f [.d x, .d y] [] = .ok d []) : mCall f (mCons a (mCons b mNil)) ρ hs = .ok (.d d) hs2 := by
  simp only [mCall, mCons, mNil, h1, h2, Out.bind]
  rw [show ([SV.d x, SV.d y] : List SV) = [x, y].map .d from rfl, callM_data [x, y] h]
theorem call3 {f : FM} {a b c : ME} {ρ : Env'} {hs hs1 hs2 hs3 : Hs} {x y z d : D} (h1 : a ρ hs = .ok (.d x) hs1) (h2 : b ρ hs1 = .ok (.d y) hs2) (h3 : c ρ hs2 = .ok (.d z) hs3) (h : f [.d x, .d y, .d z] [] = .ok d []) : mCall f (mCons a (mCons b (mCons c mNil))) ρ hs = .ok (.d d) hs3 := by
  simp only [mCall, mCons, mNil, h1, h2, h3, Out.bind]
  rw [show ([SV.d x, SV.d y, SV.d z] : List SV) = [x, y, z].map .d from rfl, callM_data [x, y, z] h]
theorem call4 {f : FM} {a b c e : ME} {ρ : Env'} {hs hs1 hs2 hs3 hs4 : Hs} {x y z v d : D} (h1 : a ρ hs = .ok (.d x) hs1) (h2 : b ρ hs1 = .ok (.d y) hs2) (h3 : c ρ hs2 = .ok (.d z) hs3) (h4 : e ρ hs3 = .ok (.d v) hs4) (h : f [.d x, .d y, .d z, .d v] [] = .ok d []) : mCall f (mCons a (mCons b (mCons c (mCons e mNil)))) ρ hs = .ok (.d d) hs4 := by
  simp only [mCall, mCons, mNil, h1, h2, h3, h4, Out.bind]
  rw [show ([SV.d x, SV.d y, SV.d z, SV.d v] : List SV) = [x, y, z, v].map .d from rfl, callM_data [x, y, z, v] h]

/-! ### loops over typed lists -/
section
variable {α : Type} {enc : α → D} {t : Tg} {body : MS}
/-- each turn goes on -/
theorem forL_enc {I : List α → Env' → Hs → Prop} : ∀ (xs done : List α) (ρ : Env') (hs : Hs), I done ρ hs →
    (∀ done x rest ρ hs, done ++ x :: rest = done ++ x :: rest → I done ρ hs → x ∈ xs → ∃ ρ1 ρ2 hs2, mTg t (.d (enc x)) ρ = some ρ1 ∧ (body ρ1 hs = .nx ρ2 hs2 ∨ body ρ1 hs = .ct ρ2 hs2) ∧ I (done ++ [x]) ρ2 hs2) →
    ∃ ρ' hs', mForL t body (xs.map enc) ρ hs = .nx ρ' hs' ∧ I (done ++ xs) ρ' hs'
  | [], done, ρ, hs, h, _ => ⟨ρ, hs, rfl, by simpa using h⟩
  | x :: xs, done, ρ, hs, h, k => by
    obtain ⟨ρ1, ρ2, hs2, q1, q2, q3⟩ := k done x [] ρ hs rfl h List.mem_cons_self
    obtain ⟨ρ', hs', q4, q5⟩ := forL_enc xs (done ++ [x]) ρ2 hs2 q3 fun d y r ρ hs e i hy => k d y r ρ hs e i (List.mem_cons_of_mem _ hy)
    refine ⟨ρ', hs', ?_, by simpa using q5⟩
    simp only [List.map_cons, mForL, q1]
    rcases q2 with q2 | q2 <;> simp only [q2, q4]
/-- each turn goes on; what is done and what is left -/
theorem forL_whole {I : List α → Env' → Hs → Prop} {whole : List α} (k : ∀ done x rest ρ hs, whole = done ++ x :: rest → I done ρ hs → ∃ ρ1 ρ2 hs2, mTg t (.d (enc x)) ρ = some ρ1 ∧ (body ρ1 hs = .nx ρ2 hs2 ∨ body ρ1 hs = .ct ρ2 hs2) ∧ I (done ++ [x]) ρ2 hs2) :
    ∀ (xs done : List α) (ρ : Env') (hs : Hs), whole = done ++ xs → I done ρ hs → ∃ ρ' hs', mForL t body (xs.map enc) ρ hs = .nx ρ' hs' ∧ I whole ρ' hs'
  | [], done, ρ, hs, e, h => ⟨ρ, hs, rfl, by rw [e, List.append_nil]; exact h⟩
  | x :: xs, done, ρ, hs, e, h => by
    obtain ⟨ρ1, ρ2, hs2, q1, q2, q3⟩ := k done x xs ρ hs e h
    obtain ⟨ρ', hs', q4, q5⟩ := forL_whole k xs (done ++ [x]) ρ2 hs2 (by rw [e]; simp) q3
    refine ⟨ρ', hs', ?_, q5⟩
    simp only [List.map_cons, mForL, q1]
    rcases q2 with q2 | q2 <;> simp only [q2, q4]
theorem lcL_enc {p : α → Bool} {g : α → D} {tt : MT} {te : ME} {ρw : Env'} {hs : Hs} : ∀ (xs : List α) (acc : List D), (∀ x ∈ xs, ∃ ρ1, mTg t (.d (enc x)) ρw = some ρ1 ∧ tt ρ1 hs = .ok (p x) hs ∧ (p x = true → te ρ1 hs = .ok (.d (g x)) hs)) → acc.length + xs.length ≤ 16777216 →
    mLcL t tt te ρw (xs.map enc) acc hs = .ok (acc ++ (xs.filter p).map g) hs
  | [], acc, _, _ => by simp [mLcL]
  | x :: xs, acc, h, hl => by
    obtain ⟨ρ1, h1, h2, h3⟩ := h x List.mem_cons_self
    have hz : acc.length < sizeLine := Nat.lt_of_lt_of_le (by simp at hl; omega : acc.length < 16777216) (by decide)
    simp only [List.map_cons, mLcL, h1, h2, Out.bind0]
    cases hp : p x with
    | true =>
      simp only [h3 hp, ↓reduceIte, hz]
      rw [lcL_enc xs (acc ++ [g x]) (fun y hy => h y (List.mem_cons_of_mem _ hy)) (by simp at hl ⊢; omega), List.filter_cons_of_pos hp]
      simp
    | false =>
      simp only [Bool.false_eq_true, ↓reduceIte]
      rw [lcL_enc xs acc (fun y hy => h y (List.mem_cons_of_mem _ hy)) (by simp at hl ⊢; omega), List.filter_cons_of_neg (by simp [hp])]
/-- a comprehension -/
theorem lc_ok {p : α → Bool} {g : α → D} {mi : MI} {tt : MT} {te : ME} {vs : List Nat} {ρ : Env'} {hs hs1 : Hs} (xs : List α) (hi : mi ρ hs = .ok (xs.map enc) hs1) (h : ∀ x ∈ xs, ∃ ρ1, mTg t (.d (enc x)) (wipeE ρ vs) = some ρ1 ∧ tt ρ1 hs1 = .ok (p x) hs1 ∧ (p x = true → te ρ1 hs1 = .ok (.d (g x)) hs1))
    (hl : xs.length ≤ 16777216) : mLcE vs t mi tt te ρ hs = .ok (.d (.lst ((xs.filter p).map g))) hs1 := by
  simp only [mLcE, mLc, hi, Out.bind]
  rw [lcL_enc xs [] h (by simpa using hl)]
  rfl
/-- without a test -/
theorem lc_all {g : α → D} {mi : MI} {te : ME} {vs : List Nat} {ρ : Env'} {hs hs1 : Hs} (xs : List α) (hi : mi ρ hs = .ok (xs.map enc) hs1) (h : ∀ x ∈ xs, ∃ ρ1, mTg t (.d (enc x)) (wipeE ρ vs) = some ρ1 ∧ te ρ1 hs1 = .ok (.d (g x)) hs1)
    (hl : xs.length ≤ 16777216) : mLcE vs t mi mYes te ρ hs = .ok (.d (.lst (xs.map g))) hs1 := by
  have := lc_ok (p := fun _ => true) (tt := mYes) (te := te) (vs := vs) (t := t) (enc := enc) (g := g) xs hi (fun x hx => let ⟨ρ1, a, b⟩ := h x hx; ⟨ρ1, a, rfl, fun _ => b⟩) hl
  rwa [List.filter_eq_self.mpr (fun _ _ => rfl)] at this
end
section
variable {ρ ρ1 ρ2 : Env'} {hs hs1 hs2 : Hs} {x y : SV} {d : D} {a b : ME}
theorem bf1 {f : FL} (h : a ρ hs = .ok x hs1) (h2 : f hs1 [x] = some d) : mBf f (mCons a mNil) ρ hs = .ok (.d d) hs1 := by
  simp only [mBf, mCons, mNil, h, Out.bind, h2, ofO]
theorem bf2 {f : FL} (h : a ρ hs = .ok x hs1) (h1 : b ρ hs1 = .ok y hs2) (h2 : f hs2 [x, y] = some d) : mBf f (mCons a (mCons b mNil)) ρ hs = .ok (.d d) hs2 := by
  simp only [mBf, mCons, mNil, h, h1, Out.bind, h2, ofO]
theorem tru_bl {k : Bool} (h : a ρ hs = .ok (.d (.bl k)) hs1) : mTru a ρ hs = .ok k hs1 := by
  simp only [mTru, h, Out.bind, truD, ofB]
theorem not_ok {c : MT} {k : Bool} (h : c ρ hs = .ok k hs1) : mNot c ρ hs = .ok (!k) hs1 := by
  simp only [mNot, h, Out.bind]
theorem or_f {c e : MT} (h : c ρ hs = .ok false hs1) : mOr c e ρ hs = e ρ hs1 := by
  simp only [mOr, h, Out.bind, Bool.false_eq_true, ↓reduceIte]
theorem or_t {c e : MT} (h : c ρ hs = .ok true hs1) : mOr c e ρ hs = .ok true hs1 := by
  simp only [mOr, h, Out.bind, ↓reduceIte]
theorem and_t {c e : MT} (h : c ρ hs = .ok true hs1) : mAnd c e ρ hs = e ρ hs1 := by
  simp only [mAnd, h, Out.bind, ↓reduceIte]
theorem and_f {c e : MT} (h : c ρ hs = .ok false hs1) : mAnd c e ρ hs = .ok false hs1 := by
  simp only [mAnd, h, Out.bind, Bool.false_eq_true, ↓reduceIte]
theorem or_ok {c e : MT} {j k : Bool} (h : c ρ hs = .ok j hs1) (h2 : e ρ hs1 = .ok k hs1) : mOr c e ρ hs = .ok (j || k) hs1 := by
  cases j
  · rw [or_f h, h2, Bool.false_or]
  · rw [or_t h, Bool.true_or]
theorem and_ok {c e : MT} {j k : Bool} (h : c ρ hs = .ok j hs1) (h2 : e ρ hs1 = .ok k hs1) : mAnd c e ρ hs = .ok (j && k) hs1 := by
  cases j
  · rw [and_f h, Bool.false_and]
  · rw [and_t h, h2, Bool.true_and]
theorem andV_t {c e : ME} (h : c ρ hs = .ok (.d (.bl true)) hs1) : mAndV c e ρ hs = e ρ hs1 := by
  simp only [mAndV, h, Out.bind, asB]
theorem andV_f {c e : ME} (h : c ρ hs = .ok (.d (.bl false)) hs1) : mAndV c e ρ hs = .ok (.d (.bl false)) hs1 := by
  simp only [mAndV, h, Out.bind, asB]
theorem mIf_t {α : Type} {c : MT} {u v : Mx α} (h : c ρ hs = .ok true hs1) : mIf c u v ρ hs = u ρ hs1 := by
  simp only [mIf, h, Out.bind, ↓reduceIte]
theorem mIf_f {α : Type} {c : MT} {u v : Mx α} (h : c ρ hs = .ok false hs1) : mIf c u v ρ hs = v ρ hs1 := by
  simp only [mIf, h, Out.bind, Bool.false_eq_true, ↓reduceIte]
theorem drop_ok (h : a ρ hs = .ok x hs1) : mDrop a ρ hs = .nx ρ hs1 := by
  simp only [mDrop, h, Out.bindS]
theorem for_ok {t : Tg} {mi : MI} {bd : MS} {items : List D} (h : mi ρ hs = .ok items hs1) : mFor t mi bd ρ hs = mForL t bd items ρ hs1 := by
  simp only [mFor, h, Out.bindS]
theorem seq_exc {s t : MS} {c : Str} {ns : List Str} {ws : List D} (h : s ρ hs = .exc c ns ws ρ1 hs1) : mSeq s t ρ hs = .exc c ns ws ρ1 hs1 := by simp only [mSeq, h, OutS.bind]
/-- a def's value -/
theorem fn_rt {n : Nat} {bd : MS} {ds : List SV} (h : bd (startE n ds) hs = .rt (.d d) hs1) : mFn n bd ds hs = .ok d (hs1.take hs.length) := by
  simp only [mFn, h, finish]
theorem fn_nx {n : Nat} {bd : MS} {ds : List SV} (h : bd (startE n ds) hs = .nx ρ1 hs1) : mFn n bd ds hs = .ok .non (hs1.take hs.length) := by
  simp only [mFn, h]
theorem fn_exc {n : Nat} {bd : MS} {ds : List SV} {c : Str} {ns : List Str} {ws : List D} (h : bd (startE n ds) hs = .exc c ns ws ρ1 hs1) : mFn n bd ds hs = .exc c ns ws (hs1.take hs.length) := by
  simp only [mFn, h]
end
end Py
end L2

set_option Elab.async false
set_option linter.all false
set_option maxRecDepth 100000
/-! repr(x) == repr(y) and x == y, of small data. -/
namespace L2
namespace Py
open PySem PySem.Spec PyProof.Rows
variable [Tl]

mutual
/-- small data, at most this deep -/
def sm : Nat → D → Bool
  | _, .non => true
  | _, .bl _ => true
  | _, .int i => decide (-1000 < i) && decide (i < 1000)
  | _, .str x => decide ((reprText x).length ≤ 12) && PyData.strOk x && PyData.strOk (reprText x)
  | n + 1, .tup xs => decide (xs.length ≤ 32) && smL n xs
  | n + 1, .lst xs => decide (xs.length ≤ 32) && smL n xs
  | _, _ => false
def smL : Nat → List D → Bool
  | _, [] => true
  | n, x :: xs => sm n x && smL n xs
end
theorem smL_all {n : Nat} : ∀ {xs : List D}, smL n xs = true ↔ ∀ x ∈ xs, sm n x = true
  | [] => by simp [smL]
  | x :: xs => by simp [smL, smL_all (xs := xs)]
def bnd : Nat → Nat
  | 0 => 12
  | n + 1 => 32 * (bnd n + 2) + 4
theorem bnd_le : ∀ n, 12 ≤ bnd n
  | 0 => Nat.le_refl _
  | n + 1 => by have := bnd_le n; simp only [bnd]; omega
theorem int_len {i : Int} (h1 : -1000 < i) (h2 : i < 1000) : (PyData.shown (.int i)).length ≤ 12 ∧ PyData.strOk (PyData.shown (.int i)) = true := by
  have key : ∀ k : Fin 2000, (PyData.shown (.int ((k.val : Int) - 1000))).length ≤ 12 ∧ PyData.strOk (PyData.shown (.int ((k.val : Int) - 1000))) = true := by decide +kernel
  have h := key ⟨(i + 1000).toNat, by omega⟩
  have e : (((i + 1000).toNat : Nat) : Int) - 1000 = i := by omega
  simp only [e] at h
  exact h
theorem ok_app {x y : Str} (h1 : PyData.strOk x = true) (h2 : PyData.strOk y = true) : PyData.strOk (x ++ y) = true := by
  unfold PyData.strOk at h1 h2 ⊢
  show (x.cps ++ y.cps).all _ = true
  rw [Array.all_append, h1, h2]; rfl
theorem ok_from : ∀ (ts : List Str) (k : Nat) (acc : Str), (∀ t ∈ ts, PyData.strOk t = true) → PyData.strOk acc = true → PyData.strOk (textFrom k acc ts) = true
  | [], k, acc, _, h => h
  | t :: r, k, acc, h, ha => by
    show PyData.strOk (textFrom (k + 1) (acc ++ (if k > 0 then ", " else "" : String) ++ t) r) = true
    refine ok_from r _ _ (fun x hx => h x (List.mem_cons_of_mem _ hx)) (ok_app (ok_app ha ?_) (h t List.mem_cons_self))
    split <;> decide +kernel
theorem ok_join : ∀ (ts : List Str), (∀ t ∈ ts, PyData.strOk t = true) → PyData.strOk (Str.join ", " ts) = true
  | [], _ => by decide +kernel
  | [x], h => h x List.mem_cons_self
  | x :: y :: r, h => ok_app (ok_app (h x List.mem_cons_self) (by decide +kernel)) (ok_join (y :: r) fun t ht => h t (List.mem_cons_of_mem _ ht))
theorem from_len {b : Nat} : ∀ (ts : List Str) (k : Nat) (acc : Str), (∀ t ∈ ts, t.length ≤ b) → (textFrom k acc ts).length ≤ acc.length + ts.length * (b + 2)
  | [], k, acc, _ => by simp [textFrom]
  | t :: r, k, acc, h => by
    have ih := from_len r (k + 1) (acc ++ (if k > 0 then ", " else "" : String) ++ t) fun x hx => h x (List.mem_cons_of_mem _ hx)
    have e : (acc ++ (if k > 0 then ", " else "" : String) ++ t).length ≤ acc.length + 2 + b := by
      rw [strLen_append, strLen_append]
      have h1 := h t List.mem_cons_self
      have h2 : (((if k > 0 then ", " else "" : String) : Str)).length ≤ 2 := by split <;> decide
      omega
    show (textFrom (k + 1) _ r).length ≤ _
    rw [List.length_cons, Nat.add_mul]
    omega
theorem join_len {b : Nat} : ∀ (ts : List Str), (∀ t ∈ ts, t.length ≤ b) → (Str.join ", " ts).length ≤ ts.length * (b + 2)
  | [], _ => by simp [Str.join]; decide
  | [x], h => by have := h x List.mem_cons_self; show x.length ≤ _; simp; omega
  | x :: y :: r, h => by
    have ih := join_len (y :: r) fun t ht => h t (List.mem_cons_of_mem _ ht)
    show (x ++ ", " ++ Str.join ", " (y :: r)).length ≤ _
    have e2 : ((", " : String) : Str).length = 2 := rfl
    have h1 := h x List.mem_cons_self
    rw [strLen_append, strLen_append, e2, List.length_cons, Nat.add_mul]
    omega
theorem shownAll_len : ∀ ps : List PyData, (PyData.shownAll ps).length = ps.length
  | [] => rfl
  | p :: ps => by simp [PyData.shownAll, shownAll_len ps]
structure SmP (n : Nat) (p : PyData) : Prop where
  lay : p.canLay0 = true
  sh : p.showable = true
  dp : p.depth ≤ n
  len : p.shown.length ≤ bnd n
  ok : PyData.strOk p.shown = true
structure SmPs (n : Nat) (ps : List PyData) : Prop where
  lay : PyData.canLayAll0 ps = true
  sh : PyData.showableAll ps = true
  dp : PyData.depthAll ps ≤ n
  len : ∀ t ∈ PyData.shownAll ps, t.length ≤ bnd n
  ok : ∀ t ∈ PyData.shownAll ps, PyData.strOk t = true
theorem log_small {i : Int} (h1 : -1000 < i) (h2 : i < 1000) : i.natAbs.log2 < 1920 := by
  have hb : i.natAbs ≤ 1000 := by omega
  by_cases h0 : i.natAbs = 0
  · rw [h0]; decide
  · exact (Nat.log2_lt h0).mpr (Nat.lt_of_le_of_lt hb (Nat.lt_of_lt_of_le (by decide : 1000 < 2 ^ 10) (Nat.pow_le_pow_right (by decide) (by decide))))
mutual
theorem sm_ok : ∀ (n : Nat) (d : D), sm n d = true → ∃ p, toPy d = some p ∧ SmP n p
  | n, .non, _ => ⟨.none, rfl, rfl, rfl, Nat.zero_le _, Nat.le_trans (by decide) (bnd_le n), by decide +kernel⟩
  | n, .bl b, _ => ⟨.bool b, rfl, rfl, rfl, Nat.zero_le _, Nat.le_trans (by cases b <;> decide) (bnd_le n), by cases b <;> decide +kernel⟩
  | n, .int i, h => by
    simp only [sm, Bool.and_eq_true, decide_eq_true_eq] at h
    exact ⟨.int i, rfl, rfl, by simp only [PyData.showable, decide_eq_true_eq]; exact log_small h.1 h.2, Nat.zero_le _, Nat.le_trans (int_len h.1 h.2).1 (bnd_le n), (int_len h.1 h.2).2⟩
  | n, .str x, h => by
    simp only [sm, Bool.and_eq_true, decide_eq_true_eq] at h
    exact ⟨.str x, rfl, h.1.2, rfl, Nat.zero_le _, Nat.le_trans h.1.1 (bnd_le n), h.2⟩
  | n + 1, .tup xs, h => by
    simp only [sm, Bool.and_eq_true, decide_eq_true_eq] at h
    obtain ⟨ps, e, l, q⟩ := smL_ok n xs h.2
    refine ⟨.tuple ps, by simp only [toPy, e]; rfl, q.lay, q.sh, by simp only [PyData.depth]; have := q.dp; omega, ?_, ok_app (ok_app (by decide +kernel) (ok_join _ q.ok)) (by split <;> decide +kernel)⟩
    show (tupleText (PyData.shownAll ps)).length ≤ _
    have h1 := join_len (b := bnd n) (PyData.shownAll ps) q.len
    have h2 : (((if (PyData.shownAll ps).length == 1 then ",)" else ")" : String) : Str)).length ≤ 2 := by split <;> decide
    have h3 : ((("(" : String) : Str)).length = 1 := rfl
    have h4 : ps.length * (bnd n + 2) ≤ 32 * (bnd n + 2) := Nat.mul_le_mul_right _ (by omega)
    unfold tupleText
    rw [strLen_append, strLen_append, h3]
    rw [shownAll_len] at h1
    simp only [bnd]
    omega
  | n + 1, .lst xs, h => by
    simp only [sm, Bool.and_eq_true, decide_eq_true_eq] at h
    obtain ⟨ps, e, l, q⟩ := smL_ok n xs h.2
    refine ⟨.list ps, by simp only [toPy, e]; rfl, q.lay, q.sh, by simp only [PyData.depth]; have := q.dp; omega, ?_, ok_app (ok_from _ _ _ q.ok (by decide +kernel)) (by decide +kernel)⟩
    show (listText (PyData.shownAll ps)).length ≤ _
    have h1 := from_len (b := bnd n) (PyData.shownAll ps) 0 "[" q.len
    have h3 : ((("[" : String) : Str)).length = 1 := rfl
    have h5 : ((("]" : String) : Str)).length = 1 := rfl
    have h4 : ps.length * (bnd n + 2) ≤ 32 * (bnd n + 2) := Nat.mul_le_mul_right _ (by omega)
    unfold listText
    rw [strLen_append, h5]
    rw [shownAll_len, h3] at h1
    simp only [bnd]
    omega
  | 0, .tup xs, h => by simp [sm] at h
  | 0, .lst xs, h => by simp [sm] at h
  | _, .dct _ _, h => by simp [sm] at h
  | _, .scr _, h => by simp [sm] at h
  | _, .glo _, h => by simp [sm] at h
  | _, .ty _, h => by simp [sm] at h
theorem smL_ok : ∀ (n : Nat) (xs : List D), smL n xs = true → ∃ ps, toPyL xs = some ps ∧ ps.length = xs.length ∧ SmPs n ps
  | n, [], _ => ⟨[], rfl, rfl, rfl, rfl, Nat.zero_le _, (fun _ h => nomatch h), fun _ h => nomatch h⟩
  | n, x :: xs, h => by
    simp only [smL, Bool.and_eq_true] at h
    obtain ⟨p, e1, q1⟩ := sm_ok n x h.1
    obtain ⟨ps, e2, l2, q2⟩ := smL_ok n xs h.2
    refine ⟨p :: ps, by simp only [toPyL, e1, e2], by simp [l2], by simp only [PyData.canLayAll0, q1.lay, q2.lay]; rfl, by simp only [PyData.showableAll, q1.sh, q2.sh]; rfl, Nat.max_le.mpr ⟨q1.dp, q2.dp⟩, fun t ht => ?_, fun t ht => ?_⟩
    · rcases List.mem_cons.mp ht with rfl | ht
      · exact q1.len
      · exact q2.len t ht
    · rcases List.mem_cons.mp ht with rfl | ht
      · exact q1.ok
      · exact q2.ok t ht
end
def seqD : D → Bool
  | .tup _ => true
  | .lst _ => true
  | _ => false
theorem bnd5 : bnd 4 ≤ sizeLine := by decide
theorem bnd_mono : ∀ {n m : Nat}, n ≤ m → bnd n ≤ bnd m
  | n, 0, h => by rw [Nat.le_zero.mp h]; exact Nat.le_refl _
  | n, m + 1, h => by
    rcases Nat.lt_or_ge n (m + 1) with h' | h'
    · have := bnd_mono (Nat.le_of_lt_succ h'); simp only [bnd]; omega
    · rw [Nat.le_antisymm h h']; exact Nat.le_refl _
theorem repr_same {hs : Hs} {d : D} {n : Nat} (h : sm n d = true) (hn : n ≤ 4) (hq : seqD d = true) : ∃ x, reprF hs [.d d] = some (.str x) ∧ PyData.strOk x = true := by
  obtain ⟨p, e, q⟩ := sm_ok n d h
  have c : (p.showable && decide (p.shown.length ≤ sizeLine) && decide (p.depth ≤ 150)) = true := by
    simp only [Bool.and_eq_true, decide_eq_true_eq]
    exact ⟨⟨q.sh, Nat.le_trans q.len (Nat.le_trans (bnd_mono hn) bnd5)⟩, by have := q.dp; omega⟩
  refine ⟨p.shown, ?_, q.ok⟩
  cases d with
  | tup xs => simp only [reprF, dataOf, e, if_pos c]
  | lst xs => simp only [reprF, dataOf, e, if_pos c]
  | _ => cases hq
theorem eq_same {hs : Hs} {d : D} {n : Nat} (h : sm n d = true) (hn : n ≤ 4) : eqF false hs (.d d) (.d d) = some (.bl true) := by
  obtain ⟨p, e, q⟩ := sm_ok n d h
  have c : fitEq p p = true := by
    unfold fitEq
    simp only [Bool.and_eq_true, decide_eq_true_eq]
    exact ⟨⟨q.lay, q.lay⟩, by have := q.dp; omega⟩
  simp only [eqF, dataOf, e, if_pos c, Bool.false_eq_true, ↓reduceIte]
  rw [PySem.SeqAt.eqv_refl p q.lay]
theorem eq_str {hs : Hs} {x : Str} (h : PyData.strOk x = true) : eqF false hs (.d (.str x)) (.d (.str x)) = some (.bl true) := by
  have c : fitEq (.str x) (.str x) = true := by
    unfold fitEq
    simp only [PyData.canLay0, h, Bool.and_eq_true, decide_eq_true_eq]
    exact ⟨⟨trivial, trivial⟩, (show min 0 0 ≤ 150 by decide)⟩
  have r : PyData.eqv (.str x) (.str x) = true := by simp [PyData.eqv]
  simp only [eqF, dataOf, toPy, if_pos c, r, Bool.false_eq_true, ↓reduceIte]
def alikeB : MS := mRet (mAndV (m2 (eqF false) (mBf reprF (mCons (mVar 0) mNil)) (mBf reprF (mCons (mVar 1) mNil))) (m2 (eqF false) (mVar 0) (mVar 1)))
theorem alike_ok {d : D} {n : Nat} (h : sm n d = true) (hn : n ≤ 4) (hq : seqD d = true) : mFn 2 alikeB [.d d, .d d] [] = .ok (.bl true) [] := by
  obtain ⟨x, e1, e2⟩ := repr_same (hs := []) h hn hq
  refine Eq.trans (fn_rt (hs1 := []) (ret_ok ?_)) rfl
  have v0 : mVar 0 [some (.d d), some (.d d)] [] = .ok (.d d) [] := rfl
  have v1 : mVar 1 [some (.d d), some (.d d)] [] = .ok (.d d) [] := rfl
  refine Eq.trans (andV_t (m2_ok (bf1 v0 e1) (bf1 v1 e1) (eq_str e2))) ?_
  exact m2_ok v0 v1 (eq_same h hn)
end Py
end L2

set_option Elab.async false
set_option linter.all false
set_option maxRecDepth 100000
/-! Dicts that group and count, run by hand. -/
namespace L2
namespace Py
open PySem PySem.Spec PyProof.Rows
variable [Tl]

abbrev Gr := List (D × List D)
def gadd (k v : D) : Gr → Gr
  | [] => [(k, [v])]
  | p :: r => if keq p.1 k = true then (p.1, p.2 ++ [v]) :: r else p :: gadd k v r
/-- the row of k -/
def grow (k : D) : Gr → Option (List D)
  | [] => none
  | p :: r => if keq p.1 k = true then some p.2 else grow k r
/-- the live dict at p has the rows G, their lists lie from b on -/
structure GS (hs : Hs) (p b : Nat) (G : Gr) : Prop where
  dl : hs[p]? = some (.dl (G.map (·.1)) (List.range' b G.length))
  len : hs.length = b + G.length
  row : ∀ (i : Nat) (x : D × List D), G[i]? = some x → hs[b + i]? = some (.lst x.2)
  pb : p < b
theorem look_ix {k v : D} : ∀ (G : Gr) (b : Nat), (lookA (G.map (·.1)) (List.range' b G.length) k = none ∧ hasK (G.map (·.1)) k = false ∧ gadd k v G = G ++ [(k, [v])] ∧ grow k G = none) ∨
    ∃ (i : Nat) (x : D × List D), G[i]? = some x ∧ lookA (G.map (·.1)) (List.range' b G.length) k = some (b + i) ∧ hasK (G.map (·.1)) k = true ∧ gadd k v G = G.set i (x.1, x.2 ++ [v]) ∧ grow k G = some x.2
  | [], b => .inl ⟨rfl, rfl, rfl, rfl⟩
  | p :: r, b => by
    simp only [List.map_cons, List.length_cons, List.range'_succ, lookA, hasK, List.any_cons, gadd, grow]
    by_cases q : keq p.1 k = true
    · simp only [q, ↓reduceIte, Bool.true_or]
      exact .inr ⟨0, p, rfl, rfl, trivial, rfl, rfl⟩
    · have qf : keq p.1 k = false := by simpa using q
      simp only [qf, Bool.false_eq_true, ↓reduceIte, Bool.false_or]
      rcases look_ix (k := k) (v := v) r (b + 1) with ⟨h1, h2, h3, h4⟩ | ⟨i, x, h1, h2, h3, h4, h5⟩
      · exact .inl ⟨h1, h2, by rw [h3]; rfl, h4⟩
      · refine .inr ⟨i + 1, x, by simpa using h1, by rw [h2]; congr 1; omega, h3, by rw [h4]; rfl, h5⟩
theorem gadd_keys {k v : D} (G : Gr) : (gadd k v G).map (·.1) = putK (G.map (·.1)) k := by
  unfold putK
  rcases look_ix (k := k) (v := v) G 0 with ⟨_, h2, h3, _⟩ | ⟨i, x, h1, _, h3, h4, _⟩
  · rw [if_neg (by rw [h2]; exact Bool.false_ne_true), h3, List.map_append]; rfl
  · rw [if_pos h3, h4]
    apply List.ext_getElem?
    intro j
    rw [List.getElem?_map, List.getElem?_map, List.getElem?_set]
    split
    · rename_i e
      subst e
      rw [h1]
      split
      · rfl
      · rename_i hi
        exact absurd (List.getElem?_eq_some_iff.mp h1).1 hi
    · rfl
theorem set_set_ne {α : Type} {xs : List α} {i j : Nat} {a : α} (h : i ≠ j) : (xs.set i a)[j]? = xs[j]? := List.getElem?_set_ne h
/-- found.setdefault(k, []).append(v) -/
theorem group_step {hs : Hs} {p b : Nat} {G : Gr} {mo mk mv : ME} {ρ : Env'} {k v : D} (S : GS hs p b G) (ho : ∀ hs, mo ρ hs = .ok (.r p) hs) (hk : ∀ hs, mk ρ hs = .ok (.d k) hs) (hv : ∀ hs, mv ρ hs = .ok (.d v) hs)
    (hf : fitK (G.map (·.1)) k = true) (hz : G.length ≤ 1000) (hr : ∀ x ∈ G, x.2.length ≤ 1000) :
    ∃ hs', mDrop (mMtL appendF (mSetdL mo mk) (mCons mv mNil)) ρ hs = .nx ρ hs' ∧ GS hs' p b (gadd k v G) ∧ ∀ i, i < b → i ≠ p → hs'[i]? = hs[i]? := by
  have big : (1001 : Nat) < sizeLine := by decide
  have isD : isDk hs (.r p) = true := by simp only [isDk, S.dl]
  have c : fitK (G.map (·.1)) k = true ∧ (G.map (·.1)).length < sizeLine ∧ (G.map (·.1)).length = (List.range' b G.length).length := ⟨hf, by rw [List.length_map]; omega, by simp⟩
  have hp : p < hs.length := (List.getElem?_eq_some_iff.mp S.dl).1
  rcases look_ix (k := k) (v := v) G b with ⟨h1, h2, h3, _⟩ | ⟨i, x, h1, h2, h3, h4, _⟩
  · have e1 : mSetdL mo mk ρ hs = .ok (.r hs.length) (hs.set p (.dl (putK (G.map (·.1)) k) (List.range' b G.length ++ [hs.length])) ++ [Cell.lst []]) := by
      simp only [mSetdL, ho, hk, Out.bind, isD, ↓reduceIte, setdFL, S.dl, if_pos c, h1]
    generalize hh : hs.set p (.dl (putK (G.map (·.1)) k) (List.range' b G.length ++ [hs.length])) ++ [Cell.lst []] = hs1 at e1
    have l1 : hs1[hs.length]? = some (.lst []) := by rw [← hh, List.getElem?_append_right (by simp)]; simp
    have e2 : mDrop (mMtL appendF (mSetdL mo mk) (mCons mv mNil)) ρ hs = .nx ρ (hs1.set hs.length (.lst ([] ++ [v]))) := by
      refine drop_ok (x := .d .non) ?_
      simp only [mMtL, e1, Out.bind, isL, l1, ↓reduceIte, mCons, hv, mNil, appendF]
      rw [if_pos (by show 0 < sizeLine; omega)]
    refine ⟨_, e2, ?_, fun j h5 h6 => ?_⟩
    · rw [h3]
      refine ⟨?_, ?_, fun j y hy => ?_, S.pb⟩
      · rw [set_set_ne (by omega), ← hh, List.getElem?_append_left (by simpa using hp), List.getElem?_set_self hp]
        congr 2
        · rw [← h3, gadd_keys]
        · rw [List.length_append, List.length_singleton, List.range'_concat, S.len]; simp
      · rw [List.length_set, ← hh, List.length_append, List.length_set, S.len]; simp; omega
      · by_cases hj : j < G.length
        · rw [List.getElem?_append_left hj] at hy
          have hlt : b + j < hs.length := by rw [S.len]; omega
          rw [set_set_ne (by omega), ← hh, List.getElem?_append_left (by simpa using hlt), set_set_ne (by have := S.pb; omega)]
          exact S.row j y hy
        · rw [List.getElem?_append_right (by omega)] at hy
          have e : j = G.length := by
            have := (List.getElem?_eq_some_iff.mp hy).1
            simp at this; omega
          subst e
          simp at hy
          subst hy
          rw [← S.len, List.getElem?_set_self (by rw [← hh]; simp)]
          rfl
    · have hlt : j < hs.length := by rw [S.len]; omega
      rw [set_set_ne (by omega), ← hh, List.getElem?_append_left (by simpa using hlt), set_set_ne (by omega)]
  · have e1 : mSetdL mo mk ρ hs = .ok (.r (b + i)) hs := by
      simp only [mSetdL, ho, hk, Out.bind, isD, ↓reduceIte, setdFL, S.dl, if_pos c, h2]
    have hx := S.row i x h1
    have hi : i < G.length := (List.getElem?_eq_some_iff.mp h1).1
    have e2 : mDrop (mMtL appendF (mSetdL mo mk) (mCons mv mNil)) ρ hs = .nx ρ (hs.set (b + i) (.lst (x.2 ++ [v]))) := by
      refine drop_ok (x := .d .non) ?_
      simp only [mMtL, e1, Out.bind, isL, hx, ↓reduceIte, mCons, hv, mNil, appendF]
      rw [if_pos (by have := hr x (List.mem_of_getElem? h1); omega)]
    refine ⟨_, e2, ?_, fun j h5 h6 => set_set_ne (by omega)⟩
    have ek : (gadd k v G).map (·.1) = G.map (·.1) := by rw [gadd_keys]; unfold putK; rw [if_pos h3]
    refine ⟨?_, ?_, fun j y hy => ?_, S.pb⟩
    · rw [set_set_ne (by have := S.pb; omega), ek, h4, List.length_set]; exact S.dl
    · rw [List.length_set, h4, List.length_set]; exact S.len
    · rw [h4] at hy
      by_cases e : i = j
      · subst e
        rw [List.getElem?_set_self hi] at hy
        cases hy
        rw [List.getElem?_set_self (by rw [S.len]; omega)]
      · rw [set_set_ne e] at hy
        rw [set_set_ne (by omega)]
        exact S.row j y hy
/-- found[k] -/
theorem group_ix {hs : Hs} {p b : Nat} {G : Gr} {mo mk : ME} {ρ : Env'} {k : D} {r : List D} (S : GS hs p b G) (ho : mo ρ hs = .ok (.r p) hs) (hk : mk ρ hs = .ok (.d k) hs) (hf : fitK (G.map (·.1)) k = true) (h : grow k G = some r) :
    ∃ m, mIxL mo mk ρ hs = .ok (.r m) hs ∧ hs[m]? = some (.lst r) := by
  rcases look_ix (k := k) (v := .non) G b with ⟨_, _, _, h4⟩ | ⟨i, x, h1, h2, _, _, h5⟩
  · rw [h] at h4; cases h4
  · rw [h] at h5; cases h5
    refine ⟨b + i, ?_, S.row i x h1⟩
    simp only [mIxL, ho, hk, Out.bind, S.dl, if_pos hf, h2]

theorem keq_trans {a b c : D} (h : keq a b = true) : keq a c = keq b c := by
  rw [keq_eq, decide_eq_true_eq] at h
  rw [keq_eq, keq_eq, h]
theorem keq_symm {a b : D} : keq a b = keq b a := by
  rw [keq_eq, keq_eq]
  exact decide_eq_decide.mpr ⟨Eq.symm, Eq.symm⟩
theorem grow_gadd {k k' v : D} : ∀ G : Gr, grow k (gadd k' v G) = if keq k' k = true then some ((grow k G).getD [] ++ [v]) else grow k G
  | [] => by
    simp only [gadd, grow]
    split <;> rfl
  | p :: r => by
    by_cases q : keq p.1 k' = true
    · have e := keq_trans (c := k) q
      simp only [gadd, q, ↓reduceIte, grow]
      by_cases z : keq k' k = true
      · simp only [e, z, ↓reduceIte]; rfl
      · simp only [e, z, ↓reduceIte]; rfl
    · have qf : keq p.1 k' = false := by simpa using q
      simp only [gadd, qf, Bool.false_eq_true, ↓reduceIte, grow, grow_gadd r]
      by_cases y : keq p.1 k = true
      · have z : keq k' k = false := by
          cases w : keq k' k with
          | false => rfl
          | true =>
            rw [keq_symm] at y
            have := keq_trans (c := k') y
            rw [keq_symm, w, qf] at this
            cases this
        simp only [y, z, ↓reduceIte, Bool.false_eq_true]
      · simp only [y, ↓reduceIte, Bool.false_eq_true]
theorem gadd_rows {k v : D} {n : Nat} {G : Gr} (h : ∀ x ∈ G, x.2.length ≤ n) : ∀ x ∈ gadd k v G, x.2.length ≤ n + 1 := by
  induction G with
  | nil =>
    intro x hx
    rw [List.mem_singleton.mp hx]; simp
  | cons p r ih =>
    intro x hx
    unfold gadd at hx
    split at hx
    · rcases List.mem_cons.mp hx with rfl | hx
      · have := h p List.mem_cons_self; simp; omega
      · have := h x (List.mem_cons_of_mem _ hx); omega
    · rcases List.mem_cons.mp hx with rfl | hx
      · have := h x List.mem_cons_self; omega
      · exact ih (fun y hy => h y (List.mem_cons_of_mem _ hy)) x hx
theorem gadd_len {k v : D} (G : Gr) : (gadd k v G).length ≤ G.length + 1 := by
  induction G with
  | nil => simp [gadd]
  | cons p r ih => unfold gadd; split <;> simp; omega

/-! ### counting -/
theorem lookA_map {α β : Type} (f : α → β) {k : D} : ∀ (ks : List D) (vs : List α), lookA ks (vs.map f) k = (lookA ks vs k).map f
  | [], _ => by cases ‹List α› <;> rfl
  | _ :: _, [] => rfl
  | x :: ks, v :: vs => by
    simp only [List.map_cons, lookA, lookA_map f ks vs]
    split <;> rfl
theorem setA_map {α β : Type} (f : α → β) {k : D} {a : α} : ∀ (ks : List D) (vs : List α), setA ks (vs.map f) k (f a) = (setA ks vs k a).map f
  | [], _ => by cases ‹List α› <;> rfl
  | _ :: _, [] => rfl
  | x :: ks, v :: vs => by
    simp only [List.map_cons, setA, setA_map f ks vs]
    split <;> rfl
theorem putA_map {α β : Type} (f : α → β) {k : D} {a : α} (ks : List D) (vs : List α) : putA ks (vs.map f) k (f a) = (putA ks vs k a).map f := by
  unfold putA
  split
  · exact setA_map f ks vs
  · simp
structure Ct where
  ks : List D
  ns : List Int
def ctCell (C : Ct) : Cell := .dct C.ks (C.ns.map .int)
def cadd (k : D) (C : Ct) : Ct := ⟨putK C.ks k, putA C.ks C.ns k ((lookA C.ks C.ns k).getD 0 + 1)⟩
/-- d[k] = d.get(k, 0) + 1 -/
theorem count_step {hs : Hs} {p : Nat} {C : Ct} {mo mk : ME} {ρ : Env'} {k : D} (S : hs[p]? = some (ctCell C)) (ho : ∀ hs, mo ρ hs = .ok (.r p) hs) (hk : ∀ hs, mk ρ hs = .ok (.d k) hs) (hf : fitK C.ks k = true) (hz : C.ks.length ≤ 1000) :
    mSetD (m2 addF (mMtD getFD mo (mCons mk (mCons (mC (.int 0)) mNil))) (mC (.int 1))) mo mk ρ hs = .nx ρ (hs.set p (ctCell (cadd k C))) := by
  have big : (1000 : Nat) < sizeLine := by decide
  have S' : hs[p]? = some (.dct C.ks (C.ns.map .int)) := S
  have e1 : mMtD getFD mo (mCons mk (mCons (mC (.int 0)) mNil)) ρ hs = .ok (.d (.int ((lookA C.ks C.ns k).getD 0))) hs := by
    simp only [mMtD, ho, Out.bind, isDk, S', ↓reduceIte, mCons, hk, mC, mNil, getFD, dgF, viewD, hf, lookA_map, Option.map_map]
    cases lookA C.ks C.ns k <;> rfl
  have e2 : m2 addF (mMtD getFD mo (mCons mk (mCons (mC (.int 0)) mNil))) (mC (.int 1)) ρ hs = .ok (.d (.int ((lookA C.ks C.ns k).getD 0 + 1))) hs := m2_ok e1 (y := .d (.int 1)) rfl rfl
  have c : fitK C.ks k = true ∧ C.ks.length < sizeLine := ⟨hf, by omega⟩
  simp only [mSetD, e2, Out.bindS, ho, hk, setFD, S', if_pos c]
  unfold ctCell cadd
  rw [putA_map]
/-! ### tuples, lists of data -/
section
variable {ρ : Env'} {hs hs1 hs2 hs3 hs4 hs5 : Hs} {x y z v u : D} {a b c e f : ME} {m : MA}
theorem cons_ok {sx : SV} {xs : List SV} (h1 : a ρ hs = .ok sx hs1) (h2 : m ρ hs1 = .ok xs hs2) : mCons a m ρ hs = .ok (sx :: xs) hs2 := by
  simp only [mCons, h1, Out.bind, h2]
theorem datas_map : ∀ xs : List D, datas (xs.map .d) = some xs
  | [] => rfl
  | x :: xs => by simp only [List.map_cons, datas, datas_map xs]; rfl
theorem tup_ok (xs : List D) (h : m ρ hs = .ok (xs.map .d) hs1) (hl : xs.length ≤ 1000) : mTup m ρ hs = .ok (.d (.tup xs)) hs1 := by
  simp only [mTup, h, Out.bind, datas_map]
  rw [if_pos (Nat.le_trans hl (by decide))]
theorem lst_ok (xs : List D) (h : m ρ hs = .ok (xs.map .d) hs1) (hl : xs.length ≤ 1000) : mLst m ρ hs = .ok (.d (.lst xs)) hs1 := by
  simp only [mLst, h, Out.bind, datas_map]
  rw [if_pos (Nat.le_trans hl (by decide))]
theorem tup2 (h1 : a ρ hs = .ok (.d x) hs1) (h2 : b ρ hs1 = .ok (.d y) hs2) : mTup (mCons a (mCons b mNil)) ρ hs = .ok (.d (.tup [x, y])) hs2 :=
  tup_ok [x, y] (cons_ok h1 (cons_ok h2 rfl)) (by simp)
theorem tup3 (h1 : a ρ hs = .ok (.d x) hs1) (h2 : b ρ hs1 = .ok (.d y) hs2) (h3 : c ρ hs2 = .ok (.d z) hs3) : mTup (mCons a (mCons b (mCons c mNil))) ρ hs = .ok (.d (.tup [x, y, z])) hs3 :=
  tup_ok [x, y, z] (cons_ok h1 (cons_ok h2 (cons_ok h3 rfl))) (by simp)
theorem tup4 (h1 : a ρ hs = .ok (.d x) hs1) (h2 : b ρ hs1 = .ok (.d y) hs2) (h3 : c ρ hs2 = .ok (.d z) hs3) (h4 : e ρ hs3 = .ok (.d v) hs4) : mTup (mCons a (mCons b (mCons c (mCons e mNil)))) ρ hs = .ok (.d (.tup [x, y, z, v])) hs4 :=
  tup_ok [x, y, z, v] (cons_ok h1 (cons_ok h2 (cons_ok h3 (cons_ok h4 rfl)))) (by simp)
theorem tup5 (h1 : a ρ hs = .ok (.d x) hs1) (h2 : b ρ hs1 = .ok (.d y) hs2) (h3 : c ρ hs2 = .ok (.d z) hs3) (h4 : e ρ hs3 = .ok (.d v) hs4) (h5 : f ρ hs4 = .ok (.d u) hs5) : mTup (mCons a (mCons b (mCons c (mCons e (mCons f mNil))))) ρ hs = .ok (.d (.tup [x, y, z, v, u])) hs5 :=
  tup_ok [x, y, z, v, u] (cons_ok h1 (cons_ok h2 (cons_ok h3 (cons_ok h4 (cons_ok h5 rfl))))) (by simp)
theorem lst2 (h1 : a ρ hs = .ok (.d x) hs1) (h2 : b ρ hs1 = .ok (.d y) hs2) : mLst (mCons a (mCons b mNil)) ρ hs = .ok (.d (.lst [x, y])) hs2 :=
  lst_ok [x, y] (cons_ok h1 (cons_ok h2 rfl)) (by simp)
theorem lst3 (h1 : a ρ hs = .ok (.d x) hs1) (h2 : b ρ hs1 = .ok (.d y) hs2) (h3 : c ρ hs2 = .ok (.d z) hs3) : mLst (mCons a (mCons b (mCons c mNil))) ρ hs = .ok (.d (.lst [x, y, z])) hs3 :=
  lst_ok [x, y, z] (cons_ok h1 (cons_ok h2 (cons_ok h3 rfl))) (by simp)
/-- xs.append(v), xs.extend(ys) of a live list -/
theorem app_ok {n : Nat} {xs : List D} (ho : a ρ hs = .ok (.r n) hs) (hn : hs[n]? = some (.lst xs)) (hv : b ρ hs = .ok (.d v) hs1) (hn1 : hs1[n]? = some (.lst xs)) (hl : xs.length ≤ 1000000) : mDrop (mMtL appendF a (mCons b mNil)) ρ hs = .nx ρ (hs1.set n (.lst (xs ++ [v]))) := by
  refine drop_ok (x := .d .non) ?_
  simp only [mMtL, ho, Out.bind, isL, hn, ↓reduceIte, mCons, hv, mNil, appendF, hn1]
  rw [if_pos (Nat.lt_of_le_of_lt hl (by decide))]
theorem ext_ok {n : Nat} {xs ys : List D} (ho : a ρ hs = .ok (.r n) hs) (hn : hs[n]? = some (.lst xs)) (hv : b ρ hs = .ok (.d (.lst ys)) hs1) (hn1 : hs1[n]? = some (.lst xs)) (hl : xs.length + ys.length ≤ 1000000) : mDrop (mMtL extendF a (mCons b mNil)) ρ hs = .nx ρ (hs1.set n (.lst (xs ++ ys))) := by
  refine drop_ok (x := .d .non) ?_
  simp only [mMtL, ho, Out.bind, isL, hn, ↓reduceIte, mCons, hv, mNil, extendF, hn1, viewL]
  rw [if_pos (Nat.le_trans hl (by decide))]
end
end Py
end L2

set_option Elab.async false
set_option linter.all false
set_option maxRecDepth 100000
/-! A comprehension over a list that may be live; its test and element leave the live things as they are. -/
namespace L2
namespace Py
open PySem PySem.Spec PyProof.Rows
variable [Tl]

def mLcR (vs : List Nat) (t : Tg) (a : ME) (tt : MT) (te : ME) : ME := fun ρ hs => (a ρ hs).bind fun x hs1 => match viewL hs1 x with
  | some items => (mLcL t tt te (wipeE ρ vs) items [] hs1).bind fun xs hs2 => .ok (.d (.lst xs)) hs2
  | none => .bad
def Still {α : Type} (m : Mx α) : Prop := ∀ ρ hs d hs', m ρ hs = .ok d hs' → hs' = hs
section
variable {X : Cx} {W : WX}
theorem lcR_read {G : Gd} {ma : ME} {t : Tg} {tt : MT} {te : ME} {vs : List Nat} {σ : L2.St} {H : Hp} {Q : VK} (hv : ∀ i ∈ t.slots, i ∈ vs) (s1 : Still tt) (s2 : Still te) (sa : Still ma) (h : TR G W RepS (mLcR vs t ma tt te) σ H Q) :
    tLc (iList G.K (TR G W RepS ma)) (gOf G.K t) (TR G W0 RB tt) (TR G W0 RepS te) vs σ H Q := by
  obtain ⟨ρ, hs, N, hr, he, q⟩ := h
  refine ⟨ρ, hs, N, hr, he, ?_⟩
  simp only [mLcR] at q
  cases em : ma ρ hs with
  | bad => rw [em] at q; exact q.elim
  | exc c ns ws hs' => rw [em] at q; exact q
  | ok d0 hs1 =>
    rw [em] at q
    intro v N1 H1 hr1 ex1 rd
    simp only [Out.bind] at q
    cases ev : viewL hs1 d0 with
    | none => rw [ev] at q; exact q.elim
    | some items =>
      rw [ev] at q
      simp only at q
      obtain ⟨a, us0, rfl, ha0, _⟩ := viewL_of hr1 rd ev
      refine ⟨a, rfl, ⟨us0, SqL.of ha0⟩, fun p hp => ?_⟩
      have he1 := (he.ext ex1).wipe vs
      have at_ : ∀ {H' : Hp} {N' : Lg}, HRel G hs1 N' H' → ExtE H1 N1 H' N' → ∃ us, H' a = some (.lst us) ∧ RepL G H' N'.L items us := fun hr' ex => by
        obtain ⟨a', us, e1, e2, e3⟩ := viewL_of hr' (rd.ext ex) ev
        cases e1
        exact ⟨us, e2, e3⟩
      refine ⟨fun i m H' => ∃ N' acc us, ∃ hm : some p ∉ N'.M, m = items.length - i ∧ i ≤ items.length ∧ HRel G hs1 N' H' ∧ N'.L p ∧ H' p = some (.lst us) ∧ RepL G H' N'.L acc us ∧ ExtE H1 N1 H' (N'.unhide p hm) ∧
        PostO G W σ H N RepS Q ((mLcL t tt te (wipeE ρ vs) (items.drop i) acc hs1).bind fun xs hs1 => .ok (.d (.lst xs)) hs1), ⟨items.length, N1.hide p, [], [], fun z => hr1.fresh hp (N1.liv _ z), by simp, Nat.zero_le _, hr1.hide hp trivial, .inr rfl, upd_same, rfl, ?_, q⟩, ?_⟩
      · refine ⟨fun b u h _ q => ?_, fun b h => ?_, fun i b _ h => h, fun b h n _ => ⟨.inl h, ?_⟩, fun i b h n q => q, fun b h => ?_, fun b h n m => ?_, rfl⟩
        · rw [upd_ne (ne_of_none h hp)]; exact h
        · rcases h.1 with z | z
          · exact .inl z
          · exact absurd z h.2
        · rintro rfl; exact n hp
        · have : b ≠ p := by rintro rfl; exact h hp
          rw [upd_ne this]; exact h
        · have : b ≠ p := by rintro rfl; exact m hp
          rw [upd_ne this]
      · rintro i m H' ⟨N', acc, us, hm, rfl, hi, hr', hl', hp', ra, ex', q'⟩
        have exf : ExtE H1 N1 H' N' := Ext.rehide ex' hp
        obtain ⟨ws, hw1, hw2⟩ := at_ hr' exf
        by_cases hlt : i < items.length
        · have hd : items[i]? = some items[i] := by simp [hlt]
          obtain ⟨xv, gx1, gx2⟩ := hw2.get hd
          refine .inr ⟨⟨ws, xv, SqL.of hw1, gx1⟩, fun H2 => ∃ N2 acc us, ∃ hm : some p ∉ N2.M, HRel G hs1 N2 H2 ∧ N2.L p ∧ H2 p = some (.lst us) ∧ RepL G H2 N2.L acc us ∧ ExtE H1 N1 H2 (N2.unhide p hm) ∧
            PostO G W σ H N RepS Q ((mLcL t tt te (wipeE ρ vs) (items.drop (i + 1)) acc hs1).bind fun xs hs1 => .ok (.d (.lst xs)) hs1),
            fun H2 ⟨N2, acc, us, hm, a, b, c, d, e, f⟩ => ⟨items.length - (i + 1), by omega, N2, acc, us, hm, rfl, hlt, a, b, c, d, e, f⟩, fun x H'' y => ?_⟩
          obtain ⟨ey, yy⟩ := y
          subst ey
          have ex : xv = x := Option.some.inj (gx1.symm.trans (yy ws (SqL.of hw1)))
          subst ex
          rw [List.drop_eq_getElem_cons hlt] at q'
          simp only [mLcL] at q'
          cases et : mTg t (.d items[i]) (wipeE ρ vs) with
          | none => rw [et] at q'; exact q'.elim
          | some ρ1 =>
            simp only [et] at q'
            have hew : ERel G H'' N' (wipeE ρ vs) (L2.wipe σ vs) := he1.ext exf
            refine gOf_run (G := G) t (.d items[i]) xv (wipeE ρ vs) ρ1 (L2.wipe σ vs) _ gx2 hew et fun σ2 he2 hw => ?_
            refine ⟨?_, ρ1, hs1, N', hr', he2, ?_⟩
            · rw [hw vs hv, wipe_wipe fun i h => h]
            · have npo : H'' p ≠ none := by rw [hp']; exact fun z => nomatch z
              cases ett : tt ρ1 hs1 with
              | bad => simp only [ett, Out.bind0] at q'; exact q'.elim
              | exc c ns ws hsx => simp only [ett, Out.bind0] at q'; exact q'.elim
              | ok k hs3 =>
                obtain rfl := s1 _ _ _ _ ett
                simp only [ett, Out.bind0] at q'
                intro v N3 H3 hr3 ex3 ev3
                have ev3 : k = v := ev3
                subst ev3
                cases k with
                | false =>
                  rw [if_neg Bool.false_ne_true]
                  have hm3 : some p ∉ N3.M := fun z => by
                    obtain ⟨j, hj⟩ := List.getElem?_of_mem z
                    exact hm (List.mem_of_getElem? (ex3.old j p hl' npo hj))
                  refine ⟨N3, acc, us, hm3, hr3, ex3.sub p hl' npo fun _ _ => trivial, (ex3.hid p hl' hm npo).trans hp', RepL.ext ex3 _ _ ra, ex'.trans (ex3.unhide hm hm3 hl' npo), ?_⟩
                  simpa using q'
                | true =>
                  rw [if_pos rfl]
                  refine ⟨ρ1, _, N3, hr3, he2.ext ex3, ?_⟩
                  simp only [↓reduceIte] at q'
                  cases ee : te ρ1 hs3 with
                  | bad => simp only [ee] at q'; exact q'.elim
                  | exc c ns ws hsx => simp only [ee] at q'; exact q'.elim
                  | ok y hs4 =>
                    obtain rfl := s2 _ _ _ _ ee
                    simp only [ee] at q'
                    intro w N4 H4 hr4 ex4 rw4
                    have e14 := ex3.trans ex4
                    have hm4 : some p ∉ N4.M := fun z => by
                      obtain ⟨j, hj⟩ := List.getElem?_of_mem z
                      exact hm (List.mem_of_getElem? (e14.old j p hl' npo hj))
                    have hl4 : N4.L p := e14.sub p hl' npo fun _ _ => trivial
                    have hp4 : H4 p = some (.lst us) := (e14.hid p hl' hm npo).trans hp'
                    cases y with
                    | r n => exact q'.elim
                    | d d =>
                      simp only at q'
                      by_cases hz : acc.length < sizeLine
                      · rw [if_pos hz] at q'
                        have ra4 := RepL.ext e14 _ _ ra
                        refine ⟨us, hp4, by rw [← ra.length]; exact hz, N4, acc ++ [d], us ++ [w], hm4, hr4.hidW hl4 hm4 trivial, hl4, upd_same, ?_, ?_, q'⟩
                        · have eo : ExtE H4 (N4.own p hl4 hm4) (upd H4 p (.lst (us ++ [w]))) (N4.own p hl4 hm4) := Ext.ownW hl4 hm4 (hr4.mu p hl4)
                          exact (RepL.ext eo _ _ ra4).append (RepL.one (Rep.ext eo _ _ rw4))
                        · exact (ex'.trans (e14.unhide hm hm4 hl' npo)).wr hp
                      · rw [if_neg hz] at q'; exact q'.elim
        · have e : i = items.length := by omega
          subst e
          rw [List.drop_length] at q'
          refine .inl ⟨⟨ws, SqL.of hw1, by rw [← hw2.length]; exact Nat.le_refl _⟩, ?_⟩
          refine q' (.ref p) (N'.unhide p hm) H' (hr'.unhide hm) (ex1.trans ex') ?_
          exact ⟨p, us, rfl, fun z => z.2 rfl, hp', RepL.sub (fun a z => z.1) _ _ ra⟩
theorem se_lcR {elt tg iter : Expr} {ifs : List Expr} {scope : Scope} {own : List (Str × Nat)} {pos : Pos} {ma : ME} {t : Tg} {tt : MT} {te : ME} (hc : X.calm = true) (hN : X.N.Nodup) (ok : BlkOk X.N X.env.scope scope own) (hv : ∀ i ∈ t.slots, i ∈ own.map (·.2))
    (s1 : Still tt) (s2 : Still te) (sa : Still ma) (hi : SE X W iter ma)
    (hg : ∀ (s : Shared) (H : Hp) (C : Addr) (cl : List (Str × Addr)) (fp : List Addr), PG (X.blk s H scope (compEnvC scope cl C X.env) fp) tg (gOf X.K t)) (ht : ∀ (s : Shared) (H : Hp) (C : Addr) (cl : List (Str × Addr)) (fp : List Addr), STs (X.blk s H scope (compEnvC scope cl C X.env) fp) W0 ifs tt)
    (he : ∀ (s : Shared) (H : Hp) (C : Addr) (cl : List (Str × Addr)) (fp : List Addr), SE (X.blk s H scope (compEnvC scope cl C X.env) fp) W0 elt te) (hs : ∀ x, foldedSetIterable iter X.env x = pure x := by intro _; rfl) :
    SE X W (.ListComp elt [⟨tg, iter, ifs, 0⟩] scope pos) (mLcR (own.map (·.2)) t ma tt te) :=
  pe_of (pe_lc hc hN (pi_list hi) ok hg ht he hs) fun _ _ _ h => lcR_read hv s1 s2 sa h
theorem still_var {i : Nat} : Still (mVar i) := fun ρ hs d hs' h => by
  unfold mVar at h
  split at h <;> cases h
  rfl
theorem still_yes : Still mYes := fun ρ hs d hs' h => by cases h; rfl
theorem still_len {a : ME} (ha : Still a) : Still (mBf lenF (mCons a mNil)) := fun ρ hs d hs' h => by
  simp only [mBf, mCons, mNil] at h
  cases e : a ρ hs with
  | bad => rw [e] at h; cases h
  | exc c ns ws hs1 => rw [e] at h; cases h
  | ok x hs1 =>
    have := ha _ _ _ _ e
    subst this
    rw [e] at h
    simp only [Out.bind] at h
    cases e2 : lenF hs1 [x] with
    | none => rw [e2] at h; cases h
    | some z => rw [e2] at h; cases h; rfl
end
end Py
end L2

set_option Elab.async false
set_option linter.all false
set_option maxRecDepth 100000
set_option maxHeartbeats 4000000
namespace Lk74
open PySem PySem.Spec PyProof.Rows L2 L2.Py
def topS (i : Nat) : Stmt := PySem.Challenge.pw_casetrees_k74_cases_with_moments_and_han.main.body.getD i (.Pass ⟨0, 0, 0, 0⟩)
def c_DIGITS : D := .str "0123456789"
def c_LETTERS : D := .str "abcdefghijklmnopqrstuvwxyz"
def c_MOST_EVENTS : D := .int (2000)
def c_MOST_LETTERS : D := .int (8)
def c_MOST_MOMENT : D := .int (1000000)
def c_RESERVED : D := .tup [.str "again", .str "beside", .str "case", .str "end", .str "log", .str "of", .str "one", .str "quiet", .str "row", .str "times", .str "tree", .str "work"]
variable [Tl]
/-- what the module has -/
structure Mo (K : PySem.W.Frag) (mg : Str → Option Value) : Prop where
  d__law_bag : DefG K mg "_law_bag" (topS 33) ["script"]
  d__law_take : DefG K mg "_law_take" (topS 34) ["bag", "many"]
  d__law_some : DefG K mg "_law_some" (topS 35) ["bag", "things"]
  d__law_events : DefG K mg "_law_events" (topS 38) ["bag"]
  d__law_cases : DefG K mg "_law_cases" (topS 39) ["events"]
  d__law_pairs : DefG K mg "_law_pairs" (topS 40) ["cases"]
  d__law_alike : DefG K mg "_law_alike" (topS 36) ["found", "due"]
  d__law_answers : DefG K mg "_law_answers" (topS 41) ["cases", "a", "b"]
  d_is_integer : DefG K mg "is_integer" (topS 9) ["thing"]
  d_is_count : DefG K mg "is_count" (topS 10) ["thing"]
  d_is_name : DefG K mg "is_name" (topS 11) ["thing"]
  d_is_event : DefG K mg "is_event" (topS 15) ["thing"]
  d_are_events : DefG K mg "are_events" (topS 16) ["thing"]
  d_check_events : DefG K mg "check_events" (topS 17) ["thing"]
  d_shifted : DefG K mg "shifted" (topS 31) ["events", "number", "by"]
  d_by_case : DefL K mg "by_case" (topS 18) ["events"] "by_case.<locals>.<lambda>"
  d_open_at : DefG K mg "open_at" (topS 29) ["events", "moment"]
  d_most_open : DefG K mg "most_open" (topS 30) ["events"]
  d_answers : DefG K mg "answers" (topS 23) ["events", "a", "b"]
  d_late : DefG K mg "late" (topS 24) ["events", "a", "b", "most"]
  d_least_bound : DefG K mg "least_bound" (topS 25) ["events", "a", "b"]
  d_works_of : DefG K mg "works_of" (topS 27) ["events"]
  d_by_one_hand : DefG K mg "by_one_hand" (topS 28) ["events", "a", "b"]
  d__law_is_rest : DefG K mg "_law_is_rest" (topS 42) ["bag", "events", "cases"]
  d_log_of_events : DefL K mg "log_of_events" (topS 19) ["events"] "log_of_events.<locals>.<lambda>"
  d__law_log : DefL K mg "_law_log" (topS 37) ["cases"] "_law_log.<locals>.<lambda>"
  d_spans : DefG K mg "spans" (topS 21) ["events"]
  d_behind_waits : DefG K mg "behind_waits" (topS 22) ["events"]
  d_handovers : DefG K mg "handovers" (topS 26) ["events"]
  d_span : DefG K mg "span" (topS 20) ["events", "number"]
  d_law : DefG K mg "law" (topS 43) ["script"]
  c_DIGITS : GvR K mg "DIGITS" Lk74.c_DIGITS
  c_LETTERS : GvR K mg "LETTERS" Lk74.c_LETTERS
  c_MOST_EVENTS : GvR K mg "MOST_EVENTS" Lk74.c_MOST_EVENTS
  c_MOST_LETTERS : GvR K mg "MOST_LETTERS" Lk74.c_MOST_LETTERS
  c_MOST_MOMENT : GvR K mg "MOST_MOMENT" Lk74.c_MOST_MOMENT
  c_RESERVED : GvR K mg "RESERVED" Lk74.c_RESERVED
  z_abs : mg "abs" = none
  z_all : mg "all" = none
  z_any : mg "any" = none
  z_bool : mg "bool" = none
  z_enumerate : mg "enumerate" = none
  z_int : mg "int" = none
  z_isinstance : mg "isinstance" = none
  z_len : mg "len" = none
  z_list : mg "list" = none
  z_max : mg "max" = none
  z_min : mg "min" = none
  z_range : mg "range" = none
  z_repr : mg "repr" = none
  z_set : mg "set" = none
  z_sorted : mg "sorted" = none
  z_str : mg "str" = none
  z_sum : mg "sum" = none
  z_tuple : mg "tuple" = none
  z_zip : mg "zip" = none
  x_Nothing : Ex0 K mg "Nothing"
theorem sc__law_bag : FnScope ["script", "cell"] ["script"] (defScope (topS 33)) := ⟨rfl, rfl, rfl, by decide +kernel, rfl, by decide +kernel, by decide +kernel⟩
theorem cal__law_bag {P : Program} {w : World} {K : PySem.W.Frag} {mg : Str → Option Value} {base : Heap} (T : Mo K mg) : CalN P w K mg base 1 "_law_bag" 1 f__law_bag := by
  obtain ⟨f, fd, F, g, b⟩ := T.d__law_bag
  have sc := sc__law_bag
  refine ⟨f, fd, _, fn_okN (k := 0) (b := b__law_bag) F sc rfl fun cdv A outer s H E Pd hg hr => ?_, g, F.kp, b⟩
  exact (ss_one (ss_retNewL (sa_cons se_int (sa_cons se_int (sa_cons se_int (sa_cons (se_lc (own := [("cell", 1)]) rfl sc.nd (blkOk_by (show blkC ["script", "cell"] (defScope (topS 33)) _ [("cell", 1)] = true from by decide +kernel)) (by decide +kernel) (si_list (se_slice (se_var (pv 0)) so_none (so_some se_int))) (fun _ _ _ _ _ => (sg_nm (i := 1) sc.nd (by rfl) (by first | exact .inl rfl | exact .inr rfl))) (fun _ _ _ _ _ => sts_nil) (fun _ _ _ _ _ => (se_callB cr_abs (by rfl) T.z_abs (by decide +kernel) (sa_cons (se_var (pv 1)) sa_nil)))) sa_nil))))))
theorem sc__law_take : FnScope ["bag", "many", "cell", "stirred", "value", "begin", "second"] ["bag", "many"] (defScope (topS 34)) := ⟨rfl, rfl, rfl, by decide +kernel, rfl, by decide +kernel, by decide +kernel⟩
theorem cal__law_take {P : Program} {w : World} {K : PySem.W.Frag} {mg : Str → Option Value} {base : Heap} (T : Mo K mg) : CalG P w K mg base 1 "_law_take" 2 f__law_take := by
  obtain ⟨f, fd, F, g, b⟩ := T.d__law_take
  have sc := sc__law_take
  refine ⟨f, fd, _, fn_ok (k := 0) (b := b__law_take) F sc rfl fun cdv A outer s H E Pd hg hr => ?_, g, F.kp, b⟩
  exact (ss_cons (ss_if (st_cmp (or_eq hr) (se_ix (se_var (pv 0)) se_int) se_int) (ss_cons (ss_set (i := 2) sc.nd (by rfl) (by first | exact .inl rfl | exact .inr rfl) (se_ix (se_op or_add (se_slice (se_ix (se_var (pv 0)) se_int) (so_some (se_ix (se_var (pv 0)) se_int)) so_none) (se_lst (sa_cons se_int sa_nil))) se_int))
  (ss_cons (ss_augI ip_add (se_var (pv 0)) se_int se_int)
  (ss_cons (ss_if (st_cmp or_ge (se_var (pv 2)) (se_op or_pow se_int se_int)) (ss_one (ss_setI (se_var (pv 2)) (se_var (pv 0)) se_int)) ss_nil)
  (ss_cons (ss_set (i := 3) sc.nd (by rfl) (by first | exact .inl rfl | exact .inr rfl) (se_op or_add (se_op or_add (se_op or_mul (se_ix (se_var (pv 0)) se_int) se_int) (se_op or_mod (se_callTy cr_int (by rfl) T.z_int (by decide +kernel) (sa_cons (se_var (pv 2)) sa_nil)) se_int)) (se_op or_mul se_int (se_ix (se_var (pv 0)) se_int))))
  (ss_one (ss_setI (se_op or_mod (se_callTy cr_int (by rfl) T.z_int (by decide +kernel) (sa_cons (se_var (pv 3)) sa_nil)) se_int) (se_var (pv 0)) se_int)))))) ss_nil)
  (ss_cons (ss_if (st_cmp or_gt (se_ix (se_var (pv 0)) se_int) se_int) (ss_cons (ss_set (i := 4) sc.nd (by rfl) (by first | exact .inl rfl | exact .inr rfl) (se_op or_mod (se_callTy cr_int (by rfl) T.z_int (by decide +kernel) (sa_cons (se_ix (se_var (pv 0)) se_int) sa_nil)) (se_var (pv 1))))
  (ss_cons (ss_setI (se_op or_fdiv (se_callTy cr_int (by rfl) T.z_int (by decide +kernel) (sa_cons (se_ix (se_var (pv 0)) se_int) sa_nil)) (se_var (pv 1))) (se_var (pv 0)) se_int)
  (ss_one (ss_ret (se_var (pv 4)))))) ss_nil)
  (ss_cons (ss_set (i := 5) sc.nd (by rfl) (by first | exact .inl rfl | exact .inr rfl) (se_op or_mod (se_callTy cr_int (by rfl) T.z_int (by decide +kernel) (sa_cons (se_op or_mul (se_op or_add (se_ix (se_var (pv 0)) se_int) se_int) se_int) sa_nil)) se_int))
  (ss_cons (ss_set (i := 6) sc.nd (by rfl) (by first | exact .inl rfl | exact .inr rfl) (se_op or_mod (se_callTy cr_int (by rfl) T.z_int (by decide +kernel) (sa_cons (se_op or_mul (se_op or_mod (se_callTy cr_int (by rfl) T.z_int (by decide +kernel) (sa_cons (se_op or_mul (se_var (pv 5)) (se_var (pv 5))) sa_nil)) se_int) se_int) sa_nil)) se_int))
  (ss_one (ss_ret (se_op or_mod (se_callTy cr_int (by rfl) T.z_int (by decide +kernel) (sa_cons (se_op or_fdiv (se_var (pv 6)) se_int) sa_nil)) (se_var (pv 1)))))))))
theorem sc__law_some : FnScope ["bag", "things"] ["bag", "things"] (defScope (topS 35)) := ⟨rfl, rfl, rfl, by decide +kernel, rfl, by decide +kernel, by decide +kernel⟩
theorem cal__law_some {P : Program} {w : World} {K : PySem.W.Frag} {mg : Str → Option Value} {base : Heap} (T : Mo K mg) : CalG P w K mg base 2 "_law_some" 2 f__law_some := by
  obtain ⟨f, fd, F, g, b⟩ := T.d__law_some
  have sc := sc__law_some
  have C__law_take : CalG P w K mg base 1 "_law_take" 2 f__law_take := cal__law_take T
  refine ⟨f, fd, _, fn_ok (k := 1) (b := b__law_some) F sc rfl fun cdv A outer s H E Pd hg hr => ?_, g, F.kp, b⟩
  exact (ss_one (ss_ret (se_ix (se_var (pv 1)) (se_callG (C__law_take.mono) hg hr (takes_of rfl rfl rfl rfl) (by rfl) (sa_cons (se_var (pv 0)) (sa_cons (se_callB cr_len (by rfl) T.z_len (by decide +kernel) (sa_cons (se_var (pv 1)) sa_nil)) sa_nil)) (mCons_len (mCons_len mNil_len))))))
def l__law_events_1 : MS :=
  (mDrop (mMtL appendF (mVar 1) (mCons (mTup (mCons (mCall f__law_take (mCons (mVar 0) (mCons (mC (.int 3)) mNil))) (mCons (mCall f__law_some (mCons (mVar 0) (mCons (mLst (mCons (mC (.str "a")) (mCons (mC (.str "b")) (mCons (mC (.str "c")) mNil)))) mNil))) (mCons (mCall f__law_take (mCons (mVar 0) (mCons (mC (.int 12)) mNil))) (mCons (mCall f__law_some (mCons (mVar 0) (mCons (mLst (mCons (mC (.str "ann")) (mCons (mC (.str "bo")) (mCons (mC (.str "cy")) mNil)))) mNil))) mNil))))) mNil)))
def b__law_events : MS :=
  (mSeq (mNewL 1 mNil)
  (mSeq (mFor (.nm 2) (mRg1 (mCons (mCall f__law_take (mCons (mVar 0) (mCons (mC (.int 9)) mNil))) mNil)) l__law_events_1)
  (mRet (mBf tupleF (mCons (mVar 1) mNil)))))
def f__law_events : FM := mFn 3 (b__law_events)
theorem sc__law_events : FnScope ["bag", "found", "k"] ["bag"] (defScope (topS 38)) := ⟨rfl, rfl, rfl, by decide +kernel, rfl, by decide +kernel, by decide +kernel⟩
theorem cal__law_events {P : Program} {w : World} {K : PySem.W.Frag} {mg : Str → Option Value} {base : Heap} (T : Mo K mg) : CalG P w K mg base 3 "_law_events" 1 f__law_events := by
  obtain ⟨f, fd, F, g, b⟩ := T.d__law_events
  have sc := sc__law_events
  have C__law_take : CalG P w K mg base 1 "_law_take" 2 f__law_take := cal__law_take T
  have C__law_some : CalG P w K mg base 2 "_law_some" 2 f__law_some := cal__law_some T
  refine ⟨f, fd, _, fn_ok (k := 2) (b := b__law_events) F sc rfl fun cdv A outer s H E Pd hg hr => ?_, g, F.kp, b⟩
  exact (ss_cons (ss_newL (i := 1) sc.nd (by rfl) (by first | exact .inl rfl | exact .inr rfl) sa_nil)
  (ss_cons (ss_for (passes_of rfl) rfl (si_range1 (by rfl) T.z_range (sa_cons (se_callG (C__law_take.mono) hg hr (takes_of rfl rfl rfl rfl) (by rfl) (sa_cons (se_var (pv 0)) (sa_cons se_int sa_nil)) (mCons_len (mCons_len mNil_len))) sa_nil)) (sg_nm (i := 2) sc.nd (by rfl) (by first | exact .inl rfl | exact .inr rfl)) (ss_one (ss_expr (se_bmL PySem.F.slot_list_append PySem.F.type_list_append mm_append (se_var (pv 1)) (sa_cons (se_tup (sa_cons (se_callG (C__law_take.mono) hg hr (takes_of rfl rfl rfl rfl) (by rfl) (sa_cons (se_var (pv 0)) (sa_cons se_int sa_nil)) (mCons_len (mCons_len mNil_len))) (sa_cons (se_callG (C__law_some.mono) hg hr (takes_of rfl rfl rfl rfl) (by rfl) (sa_cons (se_var (pv 0)) (sa_cons (se_lst (sa_cons se_str (sa_cons se_str (sa_cons se_str sa_nil)))) sa_nil)) (mCons_len (mCons_len mNil_len))) (sa_cons (se_callG (C__law_take.mono) hg hr (takes_of rfl rfl rfl rfl) (by rfl) (sa_cons (se_var (pv 0)) (sa_cons se_int sa_nil)) (mCons_len (mCons_len mNil_len))) (sa_cons (se_callG (C__law_some.mono) hg hr (takes_of rfl rfl rfl rfl) (by rfl) (sa_cons (se_var (pv 0)) (sa_cons (se_lst (sa_cons se_str (sa_cons se_str (sa_cons se_str sa_nil)))) sa_nil)) (mCons_len (mCons_len mNil_len))) sa_nil))))) sa_nil)))))
  (ss_one (ss_ret (se_callTy cr_tuple (by rfl) T.z_tuple (by decide +kernel) (sa_cons (se_var (pv 1)) sa_nil))))))
def l__law_cases_1 : MS :=
  (mDrop (mMtL extendF (mVar 3) (mCons (mLcE [5] (.nm 5) (mItT (mVar 0)) (mAnd (mB (m2 (eqF false) (m2 ixF (mVar 5) (mC (.int 0))) (mVar 2))) (mB (m2 (eqF false) (m2 ixF (mVar 5) (mC (.int 2))) (mVar 4)))) (mVar 5)) mNil)))
def l__law_cases_2 : MS :=
  (mSeq (mNewL 3 mNil)
  (mSeq (mFor (.nm 4) (mRg1 (mCons (mC (.int 40)) mNil)) l__law_cases_1)
  (mDrop (mMtL appendF (mVar 1) (mCons (mTup (mCons (mVar 2) (mCons (mBf tupleF (mCons (mVar 3) mNil)) mNil))) mNil)))))
def b__law_cases : MS :=
  (mSeq (mNewL 1 mNil)
  (mSeq (mFor (.nm 2) (mItL (mSortSet (mLcE [5] (.nm 5) (mItT (mVar 0)) mYes (m2 ixF (mVar 5) (mC (.int 0)))))) l__law_cases_2)
  (mRet (mVar 1))))
def f__law_cases : FM := mFn 6 (b__law_cases)
theorem sc__law_cases : FnScope ["events", "found", "number", "rows", "moment", "event"] ["events"] (defScope (topS 39)) := ⟨rfl, rfl, rfl, by decide +kernel, rfl, by decide +kernel, by decide +kernel⟩
theorem cal__law_cases {P : Program} {w : World} {K : PySem.W.Frag} {mg : Str → Option Value} {base : Heap} (T : Mo K mg) : CalG P w K mg base 1 "_law_cases" 1 f__law_cases := by
  obtain ⟨f, fd, F, g, b⟩ := T.d__law_cases
  have sc := sc__law_cases
  refine ⟨f, fd, _, fn_ok (k := 0) (b := b__law_cases) F sc rfl fun cdv A outer s H E Pd hg hr => ?_, g, F.kp, b⟩
  exact (ss_cons (ss_newL (i := 1) sc.nd (by rfl) (by first | exact .inl rfl | exact .inr rfl) sa_nil)
  (ss_cons (ss_for (passes_of rfl) rfl (si_list (se_sortSet (k := 0) rfl (by rfl) T.z_sorted (by rfl) T.z_set (se_lc (own := [("event", 5)]) rfl sc.nd (blkOk_by (show blkC ["events", "found", "number", "rows", "moment", "event"] (defScope (topS 39)) _ [("event", 5)] = true from by decide +kernel)) (by decide +kernel) (si_tup (se_var (pv 0))) (fun _ _ _ _ _ => (sg_nm (i := 5) sc.nd (by rfl) (by first | exact .inl rfl | exact .inr rfl))) (fun _ _ _ _ _ => sts_nil) (fun _ _ _ _ _ => (se_ix (se_var (pv 5)) se_int))))) (sg_nm (i := 2) sc.nd (by rfl) (by first | exact .inl rfl | exact .inr rfl)) (ss_cons (ss_newL (i := 3) sc.nd (by rfl) (by first | exact .inl rfl | exact .inr rfl) sa_nil)
  (ss_cons (ss_for (passes_of rfl) rfl (si_range1 (by rfl) T.z_range (sa_cons se_int sa_nil)) (sg_nm (i := 4) sc.nd (by rfl) (by first | exact .inl rfl | exact .inr rfl)) (ss_one (ss_expr (se_bmL PySem.F.slot_list_extend PySem.F.type_list_extend mm_extend (se_var (pv 3)) (sa_cons (se_lc (own := [("event", 5)]) rfl sc.nd (blkOk_by (show blkC ["events", "found", "number", "rows", "moment", "event"] (defScope (topS 39)) _ [("event", 5)] = true from by decide +kernel)) (by decide +kernel) (si_tup (se_var (pv 0))) (fun _ _ _ _ _ => (sg_nm (i := 5) sc.nd (by rfl) (by first | exact .inl rfl | exact .inr rfl))) (fun _ _ _ _ _ => (sts_one (st_w (sw_and (st_cmp (or_eq hr) (se_ix (se_var (pv 5)) se_int) (se_var (pv 2))) (sw_and1 (st_cmp (or_eq hr) (se_ix (se_var (pv 5)) se_int) (se_var (pv 4)))))))) (fun _ _ _ _ _ => (se_var (pv 5)))) sa_nil)))))
  (ss_one (ss_expr (se_bmL PySem.F.slot_list_append PySem.F.type_list_append mm_append (se_var (pv 1)) (sa_cons (se_tup (sa_cons (se_var (pv 2)) (sa_cons (se_callTy cr_tuple (by rfl) T.z_tuple (by decide +kernel) (sa_cons (se_var (pv 3)) sa_nil)) sa_nil))) sa_nil)))))))
  (ss_one (ss_ret (se_var (pv 1))))))
def l__law_pairs_1 : MS :=
  (mDrop (mMtL extendF (mVar 1) (mCons (mLcE [4] (.nm 4) (mRg1 (mCons (m2 subF (mBf lenF (mCons (mVar 3) mNil)) (mC (.int 1))) mNil)) mYes (mTup (mCons (m2 ixF (mVar 3) (mVar 4)) (mCons (m2 ixF (mVar 3) (m2 addF (mVar 4) (mC (.int 1)))) mNil)))) mNil)))
def b__law_pairs : MS :=
  (mSeq (mNewL 1 mNil)
  (mSeq (mFor (.tp [(.nm 2), (.nm 3)]) (mItL (mVar 0)) l__law_pairs_1)
  (mRet (mVar 1))))
def f__law_pairs : FM := mFn 5 (b__law_pairs)
theorem sc__law_pairs : FnScope ["cases", "found", "number", "rows", "k"] ["cases"] (defScope (topS 40)) := ⟨rfl, rfl, rfl, by decide +kernel, rfl, by decide +kernel, by decide +kernel⟩
theorem cal__law_pairs {P : Program} {w : World} {K : PySem.W.Frag} {mg : Str → Option Value} {base : Heap} (T : Mo K mg) : CalG P w K mg base 1 "_law_pairs" 1 f__law_pairs := by
  obtain ⟨f, fd, F, g, b⟩ := T.d__law_pairs
  have sc := sc__law_pairs
  refine ⟨f, fd, _, fn_ok (k := 0) (b := b__law_pairs) F sc rfl fun cdv A outer s H E Pd hg hr => ?_, g, F.kp, b⟩
  exact (ss_cons (ss_newL (i := 1) sc.nd (by rfl) (by first | exact .inl rfl | exact .inr rfl) sa_nil)
  (ss_cons (ss_for (passes_of rfl) rfl (si_list (se_var (pv 0))) (sg_tp rfl (sgs_cons (sg_nm (i := 2) sc.nd (by rfl) (by first | exact .inl rfl | exact .inr rfl)) (sgs_cons (sg_nm (i := 3) sc.nd (by rfl) (by first | exact .inl rfl | exact .inr rfl)) sgs_nil))) (ss_one (ss_expr (se_bmL PySem.F.slot_list_extend PySem.F.type_list_extend mm_extend (se_var (pv 1)) (sa_cons (se_lc (own := [("k", 4)]) rfl sc.nd (blkOk_by (show blkC ["cases", "found", "number", "rows", "k"] (defScope (topS 40)) _ [("k", 4)] = true from by decide +kernel)) (by decide +kernel) (si_range1 (by rfl) T.z_range (sa_cons (se_op or_sub (se_callB cr_len (by rfl) T.z_len (by decide +kernel) (sa_cons (se_var (pv 3)) sa_nil)) se_int) sa_nil)) (fun _ _ _ _ _ => (sg_nm (i := 4) sc.nd (by rfl) (by first | exact .inl rfl | exact .inr rfl))) (fun _ _ _ _ _ => sts_nil) (fun _ _ _ _ _ => (se_tup (sa_cons (se_ix (se_var (pv 3)) (se_var (pv 4))) (sa_cons (se_ix (se_var (pv 3)) (se_op or_add (se_var (pv 4)) se_int)) sa_nil))))) sa_nil)))))
  (ss_one (ss_ret (se_var (pv 1))))))
def b__law_alike : MS :=
  (mRet (mAndV (m2 (eqF false) (mBf reprF (mCons (mVar 0) mNil)) (mBf reprF (mCons (mVar 1) mNil))) (m2 (eqF false) (mVar 0) (mVar 1))))
def f__law_alike : FM := mFn 2 (b__law_alike)
theorem sc__law_alike : FnScope ["found", "due"] ["found", "due"] (defScope (topS 36)) := ⟨rfl, rfl, rfl, by decide +kernel, rfl, by decide +kernel, by decide +kernel⟩
theorem cal__law_alike {P : Program} {w : World} {K : PySem.W.Frag} {mg : Str → Option Value} {base : Heap} (T : Mo K mg) : CalG P w K mg base 1 "_law_alike" 2 f__law_alike := by
  obtain ⟨f, fd, F, g, b⟩ := T.d__law_alike
  have sc := sc__law_alike
  refine ⟨f, fd, _, fn_ok (k := 0) (b := b__law_alike) F sc rfl fun cdv A outer s H E Pd hg hr => ?_, g, F.kp, b⟩
  exact (ss_one (ss_ret (se_and (se_cmp (or_eq hr) (se_callB (cr_repr hg hr) (by rfl) T.z_repr (by decide +kernel) (sa_cons (se_var (pv 0)) sa_nil)) (se_callB (cr_repr hg hr) (by rfl) T.z_repr (by decide +kernel) (sa_cons (se_var (pv 1)) sa_nil))) (se_one (se_cmp (or_eq hr) (se_var (pv 0)) (se_var (pv 1)))))))
def l__law_answers_1 : MS :=
  (mIfS (mB (m2 (eqF false) (m2 ixF (m2 ixF (mVar 5) (mVar 6)) (mC (.int 1))) (mVar 1))) (mSeq (mSet 7 (mLcE [8] (.nm 8) (mItT (mSl (mVar 5) (mSo (m2 addF (mVar 6) (mC (.int 1)))) mNo)) (mB (m2 (eqF false) (m2 ixF (mVar 8) (mC (.int 1))) (mVar 2))) (m2 subF (m2 ixF (mVar 8) (mC (.int 2))) (m2 ixF (m2 ixF (mVar 5) (mVar 6)) (mC (.int 2))))))
  (mDrop (mMtL appendF (mVar 3) (mCons (mTup (mCons (mVar 4) (mCons (m2 ixF (m2 ixF (mVar 5) (mVar 6)) (mC (.int 2))) (mCons (m2 ixF (m2 addF (mVar 7) (mLst (mCons (mC .non) mNil))) (mC (.int 0))) mNil)))) mNil)))) mSkip)
def l__law_answers_2 : MS :=
  (mFor (.nm 6) (mRg1 (mCons (mBf lenF (mCons (mVar 5) mNil)) mNil)) l__law_answers_1)
def b__law_answers : MS :=
  (mSeq (mNewL 3 mNil)
  (mSeq (mFor (.tp [(.nm 4), (.nm 5)]) (mItL (mVar 0)) l__law_answers_2)
  (mRet (mBf tupleF (mCons (mVar 3) mNil)))))
def f__law_answers : FM := mFn 9 (b__law_answers)
theorem sc__law_answers : FnScope ["cases", "a", "b", "found", "number", "rows", "k", "later", "event"] ["cases", "a", "b"] (defScope (topS 41)) := ⟨rfl, rfl, rfl, by decide +kernel, rfl, by decide +kernel, by decide +kernel⟩
theorem cal__law_answers {P : Program} {w : World} {K : PySem.W.Frag} {mg : Str → Option Value} {base : Heap} (T : Mo K mg) : CalG P w K mg base 1 "_law_answers" 3 f__law_answers := by
  obtain ⟨f, fd, F, g, b⟩ := T.d__law_answers
  have sc := sc__law_answers
  refine ⟨f, fd, _, fn_ok (k := 0) (b := b__law_answers) F sc rfl fun cdv A outer s H E Pd hg hr => ?_, g, F.kp, b⟩
  exact (ss_cons (ss_newL (i := 3) sc.nd (by rfl) (by first | exact .inl rfl | exact .inr rfl) sa_nil)
  (ss_cons (ss_for (passes_of rfl) rfl (si_list (se_var (pv 0))) (sg_tp rfl (sgs_cons (sg_nm (i := 4) sc.nd (by rfl) (by first | exact .inl rfl | exact .inr rfl)) (sgs_cons (sg_nm (i := 5) sc.nd (by rfl) (by first | exact .inl rfl | exact .inr rfl)) sgs_nil))) (ss_one (ss_for (passes_of rfl) rfl (si_range1 (by rfl) T.z_range (sa_cons (se_callB cr_len (by rfl) T.z_len (by decide +kernel) (sa_cons (se_var (pv 5)) sa_nil)) sa_nil)) (sg_nm (i := 6) sc.nd (by rfl) (by first | exact .inl rfl | exact .inr rfl)) (ss_one (ss_if (st_cmp (or_eq hr) (se_ix (se_ix (se_var (pv 5)) (se_var (pv 6))) se_int) (se_var (pv 1))) (ss_cons (by first | exact ss_set (i := 7) sc.nd (by rfl) (by first | exact .inl rfl | exact .inr rfl) (se_lc (own := [("event", 8)]) rfl sc.nd (blkOk_by (show blkC ["cases", "a", "b", "found", "number", "rows", "k", "later", "event"] (defScope (topS 41)) _ [("event", 8)] = true from by decide +kernel)) (by decide +kernel) (si_tup (se_slice (se_var (pv 5)) (so_some (se_op or_add (se_var (pv 6)) se_int)) so_none)) (fun _ _ _ _ _ => (sg_nm (i := 8) sc.nd (by rfl) (by first | exact .inl rfl | exact .inr rfl))) (fun _ _ _ _ _ => (sts_one (st_cmp (or_eq hr) (se_ix (se_var (pv 8)) se_int) (se_var (pv 2))))) (fun _ _ _ _ _ => (se_op or_sub (se_ix (se_var (pv 8)) se_int) (se_ix (se_ix (se_var (pv 5)) (se_var (pv 6))) se_int)))) | exact ss_setLc (i := 7) (own := [("event", 8)]) rfl sc.nd (by rfl) (by rfl) (by rfl) (blkOk_by (show blkC ["cases", "a", "b", "found", "number", "rows", "k", "later", "event"] (defScope (topS 41)) _ [("event", 8)] = true from by decide +kernel)) (by decide +kernel) (si_tup (se_slice (se_var (pv 5)) (so_some (se_op or_add (se_var (pv 6)) se_int)) so_none)) (fun _ _ _ _ _ => (sg_nm (i := 8) sc.nd (by rfl) (by first | exact .inl rfl | exact .inr rfl))) (fun _ _ _ _ _ => (sts_one (st_cmp (or_eq hr) (se_ix (se_var (pv 8)) se_int) (se_var (pv 2))))) (fun _ _ _ _ _ => (se_op or_sub (se_ix (se_var (pv 8)) se_int) (se_ix (se_ix (se_var (pv 5)) (se_var (pv 6))) se_int))))
  (ss_one (ss_expr (se_bmL PySem.F.slot_list_append PySem.F.type_list_append mm_append (se_var (pv 3)) (sa_cons (se_tup (sa_cons (se_var (pv 4)) (sa_cons (se_ix (se_ix (se_var (pv 5)) (se_var (pv 6))) se_int) (sa_cons (se_ix (se_op or_add (se_var (pv 7)) (se_lst (sa_cons se_non sa_nil))) se_int) sa_nil)))) sa_nil))))) ss_nil)))))
  (ss_one (ss_ret (se_callTy cr_tuple (by rfl) T.z_tuple (by decide +kernel) (sa_cons (se_var (pv 3)) sa_nil))))))
def b_is_integer : MS :=
  (mRet (mAndV (mBf isinstF (mCons (mVar 0) (mCons (mC (.ty "int")) mNil))) (mNotV (mBf isinstF (mCons (mVar 0) (mCons (mC (.ty "bool")) mNil))))))
def f_is_integer : FM := mFn 1 (b_is_integer)
theorem sc_is_integer : FnScope ["thing"] ["thing"] (defScope (topS 9)) := ⟨rfl, rfl, rfl, by decide +kernel, rfl, by decide +kernel, by decide +kernel⟩
theorem cal_is_integer {P : Program} {w : World} {K : PySem.W.Frag} {mg : Str → Option Value} {base : Heap} (T : Mo K mg) : CalG P w K mg base 1 "is_integer" 1 f_is_integer := by
  obtain ⟨f, fd, F, g, b⟩ := T.d_is_integer
  have sc := sc_is_integer
  refine ⟨f, fd, _, fn_ok (k := 0) (b := b_is_integer) F sc rfl fun cdv A outer s H E Pd hg hr => ?_, g, F.kp, b⟩
  exact (ss_one (ss_ret (se_and (se_callB cr_isinst (by rfl) T.z_isinstance (by decide +kernel) (sa_cons (se_var (pv 0)) (sa_cons (se_bltn (by rfl) T.z_int (by decide +kernel)) sa_nil))) (se_one (se_not (se_callB cr_isinst (by rfl) T.z_isinstance (by decide +kernel) (sa_cons (se_var (pv 0)) (sa_cons (se_bltn (by rfl) T.z_bool (by decide +kernel)) sa_nil))))))))
def b_is_count : MS :=
  (mRet (mAndV (mCall f_is_integer (mCons (mVar 0) mNil)) (m2 geF (mVar 0) (mC (.int 0)))))
def f_is_count : FM := mFn 1 (b_is_count)
theorem sc_is_count : FnScope ["thing"] ["thing"] (defScope (topS 10)) := ⟨rfl, rfl, rfl, by decide +kernel, rfl, by decide +kernel, by decide +kernel⟩
theorem cal_is_count {P : Program} {w : World} {K : PySem.W.Frag} {mg : Str → Option Value} {base : Heap} (T : Mo K mg) : CalG P w K mg base 2 "is_count" 1 f_is_count := by
  obtain ⟨f, fd, F, g, b⟩ := T.d_is_count
  have sc := sc_is_count
  have C_is_integer : CalG P w K mg base 1 "is_integer" 1 f_is_integer := cal_is_integer T
  refine ⟨f, fd, _, fn_ok (k := 1) (b := b_is_count) F sc rfl fun cdv A outer s H E Pd hg hr => ?_, g, F.kp, b⟩
  exact (ss_one (ss_ret (se_and (se_callG (C_is_integer.mono) hg hr (takes_of rfl rfl rfl rfl) (by rfl) (sa_cons (se_var (pv 0)) sa_nil) (mCons_len mNil_len)) (se_one (se_cmp or_ge (se_var (pv 0)) se_int)))))
def b_is_name : MS :=
  (mSeq (mIfS (mOr (mNot (mTru (mBf isinstF (mCons (mVar 0) (mCons (mC (.ty "str")) mNil))))) (mOr (mNot (mB (mChain leF leF (mC (.int 1)) (mBf lenF (mCons (mVar 0) mNil)) (mC c_MOST_LETTERS)))) (mB (m2 (inF true) (m2 ixF (mVar 0) (mC (.int 0))) (mC c_LETTERS))))) (mRet (mC (.bl false))) mSkip)
  (mRet (mAndV (mBf (allF false) (mCons (mLcE [1] (.nm 1) (mItS (mVar 0)) mYes (m2 (inF false) (mVar 1) (m2 addF (mC c_LETTERS) (mC c_DIGITS)))) mNil)) (m2 (inF true) (mVar 0) (mC c_RESERVED)))))
def f_is_name : FM := mFn 2 (b_is_name)
theorem sc_is_name : FnScope ["thing", "sign"] ["thing"] (defScope (topS 11)) := ⟨rfl, rfl, rfl, by decide +kernel, rfl, by decide +kernel, by decide +kernel⟩
theorem cal_is_name {P : Program} {w : World} {K : PySem.W.Frag} {mg : Str → Option Value} {base : Heap} (T : Mo K mg) : CalG P w K mg base 1 "is_name" 1 f_is_name := by
  obtain ⟨f, fd, F, g, b⟩ := T.d_is_name
  have sc := sc_is_name
  refine ⟨f, fd, _, fn_ok (k := 0) (b := b_is_name) F sc rfl fun cdv A outer s H E Pd hg hr => ?_, g, F.kp, b⟩
  exact (ss_cons (ss_if (st_w (sw_or (st_not (st_tru (se_callB cr_isinst (by rfl) T.z_isinstance (by decide +kernel) (sa_cons (se_var (pv 0)) (sa_cons (se_bltn (by rfl) T.z_str (by decide +kernel)) sa_nil))))) (sw_or (st_not (st_chain or_le or_le se_int (se_callB cr_len (by rfl) T.z_len (by decide +kernel) (sa_cons (se_var (pv 0)) sa_nil)) (se_gv T.c_MOST_LETTERS (by rfl)))) (sw_or1 (st_cmp (or_notIn hr) (se_ix (se_var (pv 0)) se_int) (se_gv T.c_LETTERS (by rfl))))))) (ss_one (ss_ret se_bl)) ss_nil)
  (ss_one (ss_ret (se_and (se_callB (cr_all' rfl) (by rfl) T.z_all (by decide +kernel) (sa_cons (se_lc (own := [("sign", 1)]) rfl sc.nd (blkOk_by (show blkC ["thing", "sign"] (defScope (topS 11)) _ [("sign", 1)] = true from by decide +kernel)) (by decide +kernel) (si_str (se_var (pv 0))) (fun _ _ _ _ _ => (sg_nm (i := 1) sc.nd (by rfl) (by first | exact .inl rfl | exact .inr rfl))) (fun _ _ _ _ _ => sts_nil) (fun _ _ _ _ _ => (se_cmp (or_in hr) (se_var (pv 1)) (se_op or_add (se_gv T.c_LETTERS (by rfl)) (se_gv T.c_DIGITS (by rfl)))))) sa_nil)) (se_one (se_cmp (or_notIn hr) (se_var (pv 0)) (se_gv T.c_RESERVED (by rfl))))))))
def b_is_event : MS :=
  (mSeq (mIfS (mOr (mNot (mTru (mBf isinstF (mCons (mVar 0) (mCons (mC (.ty "tuple")) mNil))))) (mOr (mB (m2 (eqF true) (mBf lenF (mCons (mVar 0) mNil)) (mC (.int 4)))) (mOr (mNot (mTru (mCall f_is_count (mCons (m2 ixF (mVar 0) (mC (.int 0))) mNil)))) (mNot (mTru (mCall f_is_name (mCons (m2 ixF (mVar 0) (mC (.int 1))) mNil))))))) (mRet (mC (.bl false))) mSkip)
  (mRet (mAndV (mCall f_is_count (mCons (m2 ixF (mVar 0) (mC (.int 2))) mNil)) (mAndV (m2 leF (m2 ixF (mVar 0) (mC (.int 2))) (mC c_MOST_MOMENT)) (mCall f_is_name (mCons (m2 ixF (mVar 0) (mC (.int 3))) mNil))))))
def f_is_event : FM := mFn 1 (b_is_event)
theorem sc_is_event : FnScope ["thing"] ["thing"] (defScope (topS 15)) := ⟨rfl, rfl, rfl, by decide +kernel, rfl, by decide +kernel, by decide +kernel⟩
theorem cal_is_event {P : Program} {w : World} {K : PySem.W.Frag} {mg : Str → Option Value} {base : Heap} (T : Mo K mg) : CalG P w K mg base 3 "is_event" 1 f_is_event := by
  obtain ⟨f, fd, F, g, b⟩ := T.d_is_event
  have sc := sc_is_event
  have C_is_count : CalG P w K mg base 2 "is_count" 1 f_is_count := cal_is_count T
  have C_is_name : CalG P w K mg base 1 "is_name" 1 f_is_name := cal_is_name T
  refine ⟨f, fd, _, fn_ok (k := 2) (b := b_is_event) F sc rfl fun cdv A outer s H E Pd hg hr => ?_, g, F.kp, b⟩
  exact (ss_cons (ss_if (st_w (sw_or (st_not (st_tru (se_callB cr_isinst (by rfl) T.z_isinstance (by decide +kernel) (sa_cons (se_var (pv 0)) (sa_cons (se_bltn (by rfl) T.z_tuple (by decide +kernel)) sa_nil))))) (sw_or (st_cmp (or_ne hr) (se_callB cr_len (by rfl) T.z_len (by decide +kernel) (sa_cons (se_var (pv 0)) sa_nil)) se_int) (sw_or (st_not (st_tru (se_callG (C_is_count.mono) hg hr (takes_of rfl rfl rfl rfl) (by rfl) (sa_cons (se_ix (se_var (pv 0)) se_int) sa_nil) (mCons_len mNil_len)))) (sw_or1 (st_not (st_tru (se_callG (C_is_name.mono) hg hr (takes_of rfl rfl rfl rfl) (by rfl) (sa_cons (se_ix (se_var (pv 0)) se_int) sa_nil) (mCons_len mNil_len))))))))) (ss_one (ss_ret se_bl)) ss_nil)
  (ss_one (ss_ret (se_and (se_callG (C_is_count.mono) hg hr (takes_of rfl rfl rfl rfl) (by rfl) (sa_cons (se_ix (se_var (pv 0)) se_int) sa_nil) (mCons_len mNil_len)) (se_and (se_cmp or_le (se_ix (se_var (pv 0)) se_int) (se_gv T.c_MOST_MOMENT (by rfl))) (se_one (se_callG (C_is_name.mono) hg hr (takes_of rfl rfl rfl rfl) (by rfl) (sa_cons (se_ix (se_var (pv 0)) se_int) sa_nil) (mCons_len mNil_len))))))))
def b_are_events : MS :=
  (mRet (mAndV (mBf isinstF (mCons (mVar 0) (mCons (mC (.ty "tuple")) mNil))) (mAndV (m2 leF (mBf lenF (mCons (mVar 0) mNil)) (mC c_MOST_EVENTS)) (mBf (allF false) (mCons (mLcE [1] (.nm 1) (mItT (mVar 0)) mYes (mCall f_is_event (mCons (mVar 1) mNil))) mNil)))))
def f_are_events : FM := mFn 2 (b_are_events)
theorem sc_are_events : FnScope ["thing", "one"] ["thing"] (defScope (topS 16)) := ⟨rfl, rfl, rfl, by decide +kernel, rfl, by decide +kernel, by decide +kernel⟩
theorem cal_are_events {P : Program} {w : World} {K : PySem.W.Frag} {mg : Str → Option Value} {base : Heap} (T : Mo K mg) : CalG P w K mg base 4 "are_events" 1 f_are_events := by
  obtain ⟨f, fd, F, g, b⟩ := T.d_are_events
  have sc := sc_are_events
  have C_is_event : CalG P w K mg base 3 "is_event" 1 f_is_event := cal_is_event T
  refine ⟨f, fd, _, fn_ok (k := 3) (b := b_are_events) F sc rfl fun cdv A outer s H E Pd hg hr => ?_, g, F.kp, b⟩
  exact (ss_one (ss_ret (se_and (se_callB cr_isinst (by rfl) T.z_isinstance (by decide +kernel) (sa_cons (se_var (pv 0)) (sa_cons (se_bltn (by rfl) T.z_tuple (by decide +kernel)) sa_nil))) (se_and (se_cmp or_le (se_callB cr_len (by rfl) T.z_len (by decide +kernel) (sa_cons (se_var (pv 0)) sa_nil)) (se_gv T.c_MOST_EVENTS (by rfl))) (se_one (se_callB (cr_all' rfl) (by rfl) T.z_all (by decide +kernel) (sa_cons (se_lc (own := [("one", 1)]) rfl sc.nd (blkOk_by (show blkC ["thing", "one"] (defScope (topS 16)) _ [("one", 1)] = true from by decide +kernel)) (by decide +kernel) (si_tup (se_var (pv 0))) (fun _ _ _ _ _ => (sg_nm (i := 1) sc.nd (by rfl) (by first | exact .inl rfl | exact .inr rfl))) (fun _ _ _ _ _ => sts_nil) (fun _ _ _ _ _ => (se_callG (C_is_event.mono) hg hr takes0 (by rfl) (sa_cons (se_var (pv 1)) sa_nil) (mCons_len mNil_len)))) sa_nil)))))))
def b_check_events : MS :=
  (mIfS (mNot (mTru (mCall f_are_events (mCons (mVar 0) mNil)))) (mRaise0 "Nothing") mSkip)
def f_check_events : FM := mFn 1 (b_check_events)
theorem sc_check_events : FnScope ["thing"] ["thing"] (defScope (topS 17)) := ⟨rfl, rfl, rfl, by decide +kernel, rfl, by decide +kernel, by decide +kernel⟩
theorem cal_check_events {P : Program} {w : World} {K : PySem.W.Frag} {mg : Str → Option Value} {base : Heap} (T : Mo K mg) : CalG P w K mg base 5 "check_events" 1 f_check_events := by
  obtain ⟨f, fd, F, g, b⟩ := T.d_check_events
  have sc := sc_check_events
  have C_are_events : CalG P w K mg base 4 "are_events" 1 f_are_events := cal_are_events T
  refine ⟨f, fd, _, fn_ok (k := 4) (b := b_check_events) F sc rfl fun cdv A outer s H E Pd hg hr => ?_, g, F.kp, b⟩
  exact (ss_one (ss_if (st_not (st_tru (se_callG (C_are_events.mono) hg hr (takes_of rfl rfl rfl rfl) (by rfl) (sa_cons (se_var (pv 0)) sa_nil) (mCons_len mNil_len)))) (ss_one (ss_raiseE T.x_Nothing rfl (takes_of rfl rfl rfl rfl) (by rfl))) ss_nil))
def b_shifted : MS :=
  (mSeq (mDrop (mCall f_check_events (mCons (mVar 0) mNil)))
  (mSeq (mIfS (mNot (mTru (mCall f_is_count (mCons (mVar 2) mNil)))) (mRaise0 "Nothing") mSkip)
  (mSeq (mSet 3 (mBf tupleF (mCons (mLcE [4, 5, 6, 7] (.tp [(.nm 4), (.nm 5), (.nm 6), (.nm 7)]) (mItT (mVar 0)) mYes (mTup (mCons (mVar 4) (mCons (mVar 5) (mCons (mIf (mB (m2 (eqF false) (mVar 4) (mVar 1))) (m2 addF (mVar 6) (mVar 2)) (mVar 6)) (mCons (mVar 7) mNil)))))) mNil)))
  (mSeq (mDrop (mCall f_check_events (mCons (mVar 3) mNil)))
  (mRet (mVar 3))))))
def f_shifted : FM := mFn 8 (b_shifted)
theorem sc_shifted : FnScope ["events", "number", "by", "found", "its", "name", "moment", "hand"] ["events", "number", "by"] (defScope (topS 31)) := ⟨rfl, rfl, rfl, by decide +kernel, rfl, by decide +kernel, by decide +kernel⟩
theorem cal_shifted {P : Program} {w : World} {K : PySem.W.Frag} {mg : Str → Option Value} {base : Heap} (T : Mo K mg) : CalG P w K mg base 6 "shifted" 3 f_shifted := by
  obtain ⟨f, fd, F, g, b⟩ := T.d_shifted
  have sc := sc_shifted
  have C_check_events : CalG P w K mg base 5 "check_events" 1 f_check_events := cal_check_events T
  have C_is_count : CalG P w K mg base 2 "is_count" 1 f_is_count := cal_is_count T
  refine ⟨f, fd, _, fn_ok (k := 5) (b := b_shifted) F sc rfl fun cdv A outer s H E Pd hg hr => ?_, g, F.kp, b⟩
  exact (ss_cons (ss_expr (se_callG (C_check_events.mono) hg hr (takes_of rfl rfl rfl rfl) (by rfl) (sa_cons (se_var (pv 0)) sa_nil) (mCons_len mNil_len)))
  (ss_cons (ss_if (st_not (st_tru (se_callG (C_is_count.mono) hg hr (takes_of rfl rfl rfl rfl) (by rfl) (sa_cons (se_var (pv 2)) sa_nil) (mCons_len mNil_len)))) (ss_one (ss_raiseE T.x_Nothing rfl (takes_of rfl rfl rfl rfl) (by rfl))) ss_nil)
  (ss_cons (ss_set (i := 3) sc.nd (by rfl) (by first | exact .inl rfl | exact .inr rfl) (se_callTy cr_tuple (by rfl) T.z_tuple (by decide +kernel) (sa_cons (se_lc (own := [("its", 4), ("name", 5), ("moment", 6), ("hand", 7)]) rfl sc.nd (blkOk_by (show blkC ["events", "number", "by", "found", "its", "name", "moment", "hand"] (defScope (topS 31)) _ [("its", 4), ("name", 5), ("moment", 6), ("hand", 7)] = true from by decide +kernel)) (by decide +kernel) (si_tup (se_var (pv 0))) (fun _ _ _ _ _ => (sg_tp rfl (sgs_cons (sg_nm (i := 4) sc.nd (by rfl) (by first | exact .inl rfl | exact .inr rfl)) (sgs_cons (sg_nm (i := 5) sc.nd (by rfl) (by first | exact .inl rfl | exact .inr rfl)) (sgs_cons (sg_nm (i := 6) sc.nd (by rfl) (by first | exact .inl rfl | exact .inr rfl)) (sgs_cons (sg_nm (i := 7) sc.nd (by rfl) (by first | exact .inl rfl | exact .inr rfl)) sgs_nil)))))) (fun _ _ _ _ _ => sts_nil) (fun _ _ _ _ _ => (se_tup (sa_cons (se_var (pv 4)) (sa_cons (se_var (pv 5)) (sa_cons (se_ifExp (st_cmp (or_eq hr) (se_var (pv 4)) (se_var (pv 1))) (se_op or_add (se_var (pv 6)) (se_var (pv 2))) (se_var (pv 6))) (sa_cons (se_var (pv 7)) sa_nil))))))) sa_nil)))
  (ss_cons (ss_expr (se_callG (C_check_events.mono) hg hr (takes_of rfl rfl rfl rfl) (by rfl) (sa_cons (se_var (pv 3)) sa_nil) (mCons_len mNil_len)))
  (ss_one (ss_ret (se_var (pv 3))))))))
def l_by_case_1 : MS :=
  (mDrop (mMtL appendF (mSetdL (mVar 1) (m2 ixF (mVar 2) (mC (.int 0)))) (mCons (mVar 2) mNil)))
def b_by_case : MS :=
  (mSeq (mDrop (mCall f_check_events (mCons (mVar 0) mNil)))
  (mSeq (mSet 1 mNewDL)
  (mSeq (mFor (.nm 2) (mItT (mVar 0)) l_by_case_1)
  (mRet (mBf tupleF (mCons (mLcE [3] (.nm 3) (mItL (mBf sortedF (mCons (mVar 1) mNil))) mYes (mTup (mCons (mVar 3) (mCons (mBf tupleF (mCons (mSortKey (kfIx 2) (mIxL (mVar 1) (mVar 3))) mNil)) mNil)))) mNil))))))
def f_by_case : FM := mFn 4 (b_by_case)
theorem sc_by_case : FnScope ["events", "found", "event", "number"] ["events"] (defScope (topS 18)) := ⟨rfl, rfl, rfl, by decide +kernel, rfl, by decide +kernel, by decide +kernel⟩
theorem cal_by_case {P : Program} {w : World} {K : PySem.W.Frag} {mg : Str → Option Value} {base : Heap} (T : Mo K mg) : CalG P w K mg base 8 "by_case" 1 f_by_case := by
  obtain ⟨f, fd, c, Pt, F, g, b, hcode, hT, hu⟩ := T.d_by_case
  have sc := sc_by_case
  have C_check_events : CalG P w K mg base 5 "check_events" 1 f_check_events := cal_check_events T
  refine ⟨f, fd, _, fn_okL (k := 7) (b := b_by_case) F hcode sc rfl fun A outer s H E Pd hg hr => ?_, g, F.kp, b⟩
  exact (ss_cons (ss_expr (se_callG (C_check_events.mono) hg hr (takes_of rfl rfl rfl rfl) (by rfl) (sa_cons (se_var (pv 0)) sa_nil) (mCons_len mNil_len)))
  (ss_cons (ss_set (i := 1) sc.nd (by rfl) (by first | exact .inl rfl | exact .inr rfl) se_newDL)
  (ss_cons (ss_for (passes_of rfl) rfl (si_tup (se_var (pv 0))) (sg_nm (i := 2) sc.nd (by rfl) (by first | exact .inl rfl | exact .inr rfl)) (ss_one (ss_expr (se_bmL PySem.F.slot_list_append PySem.F.type_list_append mm_append (se_setdL hr (se_var (pv 1)) (se_ix (se_var (pv 2)) se_int)) (sa_cons (se_var (pv 2)) sa_nil)))))
  (ss_one (ss_ret (se_callTy cr_tuple (by rfl) T.z_tuple (by decide +kernel) (sa_cons (se_lc (own := [("number", 3)]) rfl sc.nd (blkOk_by (show blkC ["events", "found", "event", "number"] (defScope (topS 18)) _ [("number", 3)] = true from by decide +kernel)) (by decide +kernel) (si_list (se_callB (cr_sorted' rfl hr) (by rfl) T.z_sorted (by decide +kernel) (sa_cons (se_var (pv 1)) sa_nil))) (fun _ _ _ _ _ => (sg_nm (i := 3) sc.nd (by rfl) (by first | exact .inl rfl | exact .inr rfl))) (fun _ _ _ _ _ => sts_nil) (fun _ _ _ _ _ => (se_tup (sa_cons (se_var (pv 3)) (sa_cons (se_callTy cr_tuple (by rfl) T.z_tuple (by decide +kernel) (sa_cons (se_sortKey (k := 0) rfl ⟨⟨⟨rfl, rfl, rfl, by decide +kernel, rfl, by decide +kernel, by decide +kernel⟩, rfl, by decide⟩, hr.mono (by omega), hg, fun _ _ _ _ => rfl, (kb_ix ⟨⟨rfl, rfl, rfl, by decide +kernel, rfl, by decide +kernel, by decide +kernel⟩, rfl, by decide⟩ (by decide) (by decide))⟩ hT hu rfl (by kernel_rfl) (by rfl) T.z_sorted (se_ixL hr (se_var (pv 1)) (se_var (pv 3)))) sa_nil)) sa_nil))))) sa_nil)))))))
def b_open_at : MS :=
  (mSeq (mIfS (mNot (mTru (mCall f_is_count (mCons (mVar 1) mNil)))) (mRaise0 "Nothing") mSkip)
  (mRet (mBf tupleF (mCons (mLcE [2, 3] (.tp [(.nm 2), (.nm 3)]) (mItT (mCall f_by_case (mCons (mVar 0) mNil))) (mB (mChain leF leF (m2 ixF (m2 ixF (mVar 3) (mC (.int 0))) (mC (.int 2))) (mVar 1) (m2 ixF (m2 ixF (mVar 3) (m1 negF (mC (.int 1)))) (mC (.int 2))))) (mVar 2)) mNil))))
def f_open_at : FM := mFn 4 (b_open_at)
theorem sc_open_at : FnScope ["events", "moment", "number", "rows"] ["events", "moment"] (defScope (topS 29)) := ⟨rfl, rfl, rfl, by decide +kernel, rfl, by decide +kernel, by decide +kernel⟩
theorem cal_open_at {P : Program} {w : World} {K : PySem.W.Frag} {mg : Str → Option Value} {base : Heap} (T : Mo K mg) : CalG P w K mg base 9 "open_at" 2 f_open_at := by
  obtain ⟨f, fd, F, g, b⟩ := T.d_open_at
  have sc := sc_open_at
  have C_is_count : CalG P w K mg base 2 "is_count" 1 f_is_count := cal_is_count T
  have C_by_case : CalG P w K mg base 8 "by_case" 1 f_by_case := cal_by_case T
  refine ⟨f, fd, _, fn_ok (k := 8) (b := b_open_at) F sc rfl fun cdv A outer s H E Pd hg hr => ?_, g, F.kp, b⟩
  exact (ss_cons (ss_if (st_not (st_tru (se_callG (C_is_count.mono) hg hr (takes_of rfl rfl rfl rfl) (by rfl) (sa_cons (se_var (pv 1)) sa_nil) (mCons_len mNil_len)))) (ss_one (ss_raiseE T.x_Nothing rfl (takes_of rfl rfl rfl rfl) (by rfl))) ss_nil)
  (ss_one (ss_ret (se_callTy cr_tuple (by rfl) T.z_tuple (by decide +kernel) (sa_cons (se_lc (own := [("number", 2), ("rows", 3)]) rfl sc.nd (blkOk_by (show blkC ["events", "moment", "number", "rows"] (defScope (topS 29)) _ [("number", 2), ("rows", 3)] = true from by decide +kernel)) (by decide +kernel) (si_tup (se_callG (C_by_case.mono) hg hr (takes_of rfl rfl rfl rfl) (by rfl) (sa_cons (se_var (pv 0)) sa_nil) (mCons_len mNil_len))) (fun _ _ _ _ _ => (sg_tp rfl (sgs_cons (sg_nm (i := 2) sc.nd (by rfl) (by first | exact .inl rfl | exact .inr rfl)) (sgs_cons (sg_nm (i := 3) sc.nd (by rfl) (by first | exact .inl rfl | exact .inr rfl)) sgs_nil)))) (fun _ _ _ _ _ => (sts_one (st_chain or_le or_le (se_ix (se_ix (se_var (pv 3)) se_int) se_int) (se_var (pv 1)) (se_ix (se_ix (se_var (pv 3)) (se_un or_neg se_int)) se_int)))) (fun _ _ _ _ _ => (se_var (pv 2)))) sa_nil)))))
def l_most_open_1 : MS :=
  (mSeq (mSet 3 (mBf lenF (mCons (mCall f_open_at (mCons (mVar 0) (mCons (mVar 2) mNil))) mNil)))
  (mSet 1 (mIf (mB (m2 gtF (mVar 3) (m2 ixF (mVar 1) (mC (.int 0))))) (mTup (mCons (mVar 3) (mCons (mVar 2) mNil))) (mVar 1))))
def b_most_open : MS :=
  (mSeq (mDrop (mCall f_check_events (mCons (mVar 0) mNil)))
  (mSeq (mSet 1 (mTup (mCons (mC (.int 0)) (mCons (mC (.int 0)) mNil))))
  (mSeq (mFor (.nm 2) (mItL (mBf sortedF (mCons (mDcE [4] (.nm 4) (mItT (mVar 0)) mYes (m2 ixF (mVar 4) (mC (.int 2))) (mC (.bl true))) mNil))) l_most_open_1)
  (mRet (mVar 1)))))
def f_most_open : FM := mFn 5 (b_most_open)
theorem sc_most_open : FnScope ["events", "best", "moment", "many", "event"] ["events"] (defScope (topS 30)) := ⟨rfl, rfl, rfl, by decide +kernel, rfl, by decide +kernel, by decide +kernel⟩
theorem cal_most_open {P : Program} {w : World} {K : PySem.W.Frag} {mg : Str → Option Value} {base : Heap} (T : Mo K mg) : CalG P w K mg base 10 "most_open" 1 f_most_open := by
  obtain ⟨f, fd, F, g, b⟩ := T.d_most_open
  have sc := sc_most_open
  have C_check_events : CalG P w K mg base 5 "check_events" 1 f_check_events := cal_check_events T
  have C_open_at : CalG P w K mg base 9 "open_at" 2 f_open_at := cal_open_at T
  refine ⟨f, fd, _, fn_ok (k := 9) (b := b_most_open) F sc rfl fun cdv A outer s H E Pd hg hr => ?_, g, F.kp, b⟩
  exact (ss_cons (ss_expr (se_callG (C_check_events.mono) hg hr (takes_of rfl rfl rfl rfl) (by rfl) (sa_cons (se_var (pv 0)) sa_nil) (mCons_len mNil_len)))
  (ss_cons (ss_set (i := 1) sc.nd (by rfl) (by first | exact .inl rfl | exact .inr rfl) (se_tup (sa_cons se_int (sa_cons se_int sa_nil))))
  (ss_cons (ss_for (passes_of rfl) rfl (si_list (se_callB (cr_sorted' rfl hr) (by rfl) T.z_sorted (by decide +kernel) (sa_cons (se_dc (own := [("event", 4)]) rfl sc.nd (blkOk_by (show blkC ["events", "best", "moment", "many", "event"] (defScope (topS 30)) _ [("event", 4)] = true from by decide +kernel)) (by decide +kernel) (si_tup (se_var (pv 0))) (fun _ _ _ _ _ => (sg_nm (i := 4) sc.nd (by rfl) (by first | exact .inl rfl | exact .inr rfl))) (fun _ _ _ _ _ => sts_nil) (fun _ _ _ _ _ => (se_ix (se_var (pv 4)) se_int)) (fun _ _ _ _ _ => se_bl)) sa_nil))) (sg_nm (i := 2) sc.nd (by rfl) (by first | exact .inl rfl | exact .inr rfl)) (ss_cons (ss_set (i := 3) sc.nd (by rfl) (by first | exact .inl rfl | exact .inr rfl) (se_callB cr_len (by rfl) T.z_len (by decide +kernel) (sa_cons (se_callG (C_open_at.mono) hg hr (takes_of rfl rfl rfl rfl) (by rfl) (sa_cons (se_var (pv 0)) (sa_cons (se_var (pv 2)) sa_nil)) (mCons_len (mCons_len mNil_len))) sa_nil)))
  (ss_one (ss_set (i := 1) sc.nd (by rfl) (by first | exact .inl rfl | exact .inr rfl) (se_ifExp (st_cmp or_gt (se_var (pv 3)) (se_ix (se_var (pv 1)) se_int)) (se_tup (sa_cons (se_var (pv 3)) (sa_cons (se_var (pv 2)) sa_nil))) (se_var (pv 1)))))))
  (ss_one (ss_ret (se_var (pv 1)))))))
def l_answers_1 : MS :=
  (mIfS (mB (m2 (eqF false) (m2 ixF (mVar 7) (mC (.int 1))) (mVar 1))) (mSeq (mSet 8 (mLcE [9] (.nm 9) (mItT (mSl (mVar 5) (mSo (m2 addF (mVar 6) (mC (.int 1)))) mNo)) (mB (m2 (eqF false) (m2 ixF (mVar 9) (mC (.int 1))) (mVar 2))) (m2 subF (m2 ixF (mVar 9) (mC (.int 2))) (m2 ixF (mVar 7) (mC (.int 2))))))
  (mDrop (mMtL appendF (mVar 3) (mCons (mTup (mCons (mVar 4) (mCons (m2 ixF (mVar 7) (mC (.int 2))) (mCons (mIf (mB (m2 (eqF true) (mVar 8) (mLst mNil))) (m2 ixF (mVar 8) (mC (.int 0))) (mC .non)) mNil)))) mNil)))) mSkip)
def l_answers_2 : MS :=
  (mFor (.tp [(.nm 6), (.nm 7)]) (mEnumT (mCons (mVar 5) mNil)) l_answers_1)
def b_answers : MS :=
  (mSeq (mIfS (mOr (mNot (mTru (mCall f_is_name (mCons (mVar 1) mNil)))) (mNot (mTru (mCall f_is_name (mCons (mVar 2) mNil))))) (mRaise0 "Nothing") mSkip)
  (mSeq (mNewL 3 mNil)
  (mSeq (mFor (.tp [(.nm 4), (.nm 5)]) (mItT (mCall f_by_case (mCons (mVar 0) mNil))) l_answers_2)
  (mRet (mBf tupleF (mCons (mVar 3) mNil))))))
def f_answers : FM := mFn 10 (b_answers)
theorem sc_answers : FnScope ["events", "a", "b", "found", "number", "rows", "at", "event", "later", "other"] ["events", "a", "b"] (defScope (topS 23)) := ⟨rfl, rfl, rfl, by decide +kernel, rfl, by decide +kernel, by decide +kernel⟩
theorem cal_answers {P : Program} {w : World} {K : PySem.W.Frag} {mg : Str → Option Value} {base : Heap} (T : Mo K mg) : CalG P w K mg base 9 "answers" 3 f_answers := by
  obtain ⟨f, fd, F, g, b⟩ := T.d_answers
  have sc := sc_answers
  have C_by_case : CalG P w K mg base 8 "by_case" 1 f_by_case := cal_by_case T
  have C_is_name : CalG P w K mg base 1 "is_name" 1 f_is_name := cal_is_name T
  refine ⟨f, fd, _, fn_ok (k := 8) (b := b_answers) F sc rfl fun cdv A outer s H E Pd hg hr => ?_, g, F.kp, b⟩
  exact (ss_cons (ss_if (st_w (sw_or (st_not (st_tru (se_callG (C_is_name.mono) hg hr (takes_of rfl rfl rfl rfl) (by rfl) (sa_cons (se_var (pv 1)) sa_nil) (mCons_len mNil_len)))) (sw_or1 (st_not (st_tru (se_callG (C_is_name.mono) hg hr (takes_of rfl rfl rfl rfl) (by rfl) (sa_cons (se_var (pv 2)) sa_nil) (mCons_len mNil_len))))))) (ss_one (ss_raiseE T.x_Nothing rfl (takes_of rfl rfl rfl rfl) (by rfl))) ss_nil)
  (ss_cons (ss_newL (i := 3) sc.nd (by rfl) (by first | exact .inl rfl | exact .inr rfl) sa_nil)
  (ss_cons (ss_for (passes_of rfl) rfl (si_tup (se_callG (C_by_case.mono) hg hr (takes_of rfl rfl rfl rfl) (by rfl) (sa_cons (se_var (pv 0)) sa_nil) (mCons_len mNil_len))) (sg_tp rfl (sgs_cons (sg_nm (i := 4) sc.nd (by rfl) (by first | exact .inl rfl | exact .inr rfl)) (sgs_cons (sg_nm (i := 5) sc.nd (by rfl) (by first | exact .inl rfl | exact .inr rfl)) sgs_nil))) (ss_one (ss_for (passes_of rfl) rfl (si_enumT (by rfl) T.z_enumerate (sa_cons (se_var (pv 5)) sa_nil)) (sg_tp rfl (sgs_cons (sg_nm (i := 6) sc.nd (by rfl) (by first | exact .inl rfl | exact .inr rfl)) (sgs_cons (sg_nm (i := 7) sc.nd (by rfl) (by first | exact .inl rfl | exact .inr rfl)) sgs_nil))) (ss_one (ss_if (st_cmp (or_eq hr) (se_ix (se_var (pv 7)) se_int) (se_var (pv 1))) (ss_cons (by first | exact ss_set (i := 8) sc.nd (by rfl) (by first | exact .inl rfl | exact .inr rfl) (se_lc (own := [("other", 9)]) rfl sc.nd (blkOk_by (show blkC ["events", "a", "b", "found", "number", "rows", "at", "event", "later", "other"] (defScope (topS 23)) _ [("other", 9)] = true from by decide +kernel)) (by decide +kernel) (si_tup (se_slice (se_var (pv 5)) (so_some (se_op or_add (se_var (pv 6)) se_int)) so_none)) (fun _ _ _ _ _ => (sg_nm (i := 9) sc.nd (by rfl) (by first | exact .inl rfl | exact .inr rfl))) (fun _ _ _ _ _ => (sts_one (st_cmp (or_eq hr) (se_ix (se_var (pv 9)) se_int) (se_var (pv 2))))) (fun _ _ _ _ _ => (se_op or_sub (se_ix (se_var (pv 9)) se_int) (se_ix (se_var (pv 7)) se_int)))) | exact ss_setLc (i := 8) (own := [("other", 9)]) rfl sc.nd (by rfl) (by rfl) (by rfl) (blkOk_by (show blkC ["events", "a", "b", "found", "number", "rows", "at", "event", "later", "other"] (defScope (topS 23)) _ [("other", 9)] = true from by decide +kernel)) (by decide +kernel) (si_tup (se_slice (se_var (pv 5)) (so_some (se_op or_add (se_var (pv 6)) se_int)) so_none)) (fun _ _ _ _ _ => (sg_nm (i := 9) sc.nd (by rfl) (by first | exact .inl rfl | exact .inr rfl))) (fun _ _ _ _ _ => (sts_one (st_cmp (or_eq hr) (se_ix (se_var (pv 9)) se_int) (se_var (pv 2))))) (fun _ _ _ _ _ => (se_op or_sub (se_ix (se_var (pv 9)) se_int) (se_ix (se_var (pv 7)) se_int))))
  (ss_one (ss_expr (se_bmL PySem.F.slot_list_append PySem.F.type_list_append mm_append (se_var (pv 3)) (sa_cons (se_tup (sa_cons (se_var (pv 4)) (sa_cons (se_ix (se_var (pv 7)) se_int) (sa_cons (se_ifExp (st_cmp (or_ne hr) (se_var (pv 8)) (se_lst sa_nil)) (se_ix (se_var (pv 8)) se_int) se_non) sa_nil)))) sa_nil))))) ss_nil)))))
  (ss_one (ss_ret (se_callTy cr_tuple (by rfl) T.z_tuple (by decide +kernel) (sa_cons (se_var (pv 3)) sa_nil)))))))
def b_late : MS :=
  (mSeq (mIfS (mNot (mTru (mCall f_is_count (mCons (mVar 3) mNil)))) (mRaise0 "Nothing") mSkip)
  (mRet (mBf tupleF (mCons (mLcE [4] (.nm 4) (mItT (mCall f_answers (mCons (mVar 0) (mCons (mVar 1) (mCons (mVar 2) mNil))))) (mOr (mB (m2 (isF false) (m2 ixF (mVar 4) (mC (.int 2))) (mC .non))) (mB (m2 gtF (m2 ixF (mVar 4) (mC (.int 2))) (mVar 3)))) (mVar 4)) mNil))))
def f_late : FM := mFn 5 (b_late)
theorem sc_late : FnScope ["events", "a", "b", "most", "row"] ["events", "a", "b", "most"] (defScope (topS 24)) := ⟨rfl, rfl, rfl, by decide +kernel, rfl, by decide +kernel, by decide +kernel⟩
theorem cal_late {P : Program} {w : World} {K : PySem.W.Frag} {mg : Str → Option Value} {base : Heap} (T : Mo K mg) : CalG P w K mg base 10 "late" 4 f_late := by
  obtain ⟨f, fd, F, g, b⟩ := T.d_late
  have sc := sc_late
  have C_is_count : CalG P w K mg base 2 "is_count" 1 f_is_count := cal_is_count T
  have C_answers : CalG P w K mg base 9 "answers" 3 f_answers := cal_answers T
  refine ⟨f, fd, _, fn_ok (k := 9) (b := b_late) F sc rfl fun cdv A outer s H E Pd hg hr => ?_, g, F.kp, b⟩
  exact (ss_cons (ss_if (st_not (st_tru (se_callG (C_is_count.mono) hg hr (takes_of rfl rfl rfl rfl) (by rfl) (sa_cons (se_var (pv 3)) sa_nil) (mCons_len mNil_len)))) (ss_one (ss_raiseE T.x_Nothing rfl (takes_of rfl rfl rfl rfl) (by rfl))) ss_nil)
  (ss_one (ss_ret (se_callTy cr_tuple (by rfl) T.z_tuple (by decide +kernel) (sa_cons (se_lc (own := [("row", 4)]) rfl sc.nd (blkOk_by (show blkC ["events", "a", "b", "most", "row"] (defScope (topS 24)) _ [("row", 4)] = true from by decide +kernel)) (by decide +kernel) (si_tup (se_callG (C_answers.mono) hg hr (takes_of rfl rfl rfl rfl) (by rfl) (sa_cons (se_var (pv 0)) (sa_cons (se_var (pv 1)) (sa_cons (se_var (pv 2)) sa_nil))) (mCons_len (mCons_len (mCons_len mNil_len))))) (fun _ _ _ _ _ => (sg_nm (i := 4) sc.nd (by rfl) (by first | exact .inl rfl | exact .inr rfl))) (fun _ _ _ _ _ => (sts_one (st_w (sw_or (st_cmp or_is (se_ix (se_var (pv 4)) se_int) se_non) (sw_or1 (st_cmp or_gt (se_ix (se_var (pv 4)) se_int) (se_var (pv 3)))))))) (fun _ _ _ _ _ => (se_var (pv 4)))) sa_nil)))))
def b_least_bound : MS :=
  (mSeq (mSet 3 (mLcE [4] (.nm 4) (mItT (mCall f_answers (mCons (mVar 0) (mCons (mVar 1) (mCons (mVar 2) mNil))))) mYes (m2 ixF (mVar 4) (mC (.int 2)))))
  (mSeq (mIfS (mB (m2 (inF false) (mC .non) (mVar 3))) (mRet (mC .non)) mSkip)
  (mRet (mBf (endFn true) (mCons (mStarL (mC (.int 0)) (mVar 3)) mNil)))))
def f_least_bound : FM := mFn 5 (b_least_bound)
theorem sc_least_bound : FnScope ["events", "a", "b", "waits", "row"] ["events", "a", "b"] (defScope (topS 25)) := ⟨rfl, rfl, rfl, by decide +kernel, rfl, by decide +kernel, by decide +kernel⟩
theorem cal_least_bound {P : Program} {w : World} {K : PySem.W.Frag} {mg : Str → Option Value} {base : Heap} (T : Mo K mg) : CalG P w K mg base 10 "least_bound" 3 f_least_bound := by
  obtain ⟨f, fd, F, g, b⟩ := T.d_least_bound
  have sc := sc_least_bound
  have C_answers : CalG P w K mg base 9 "answers" 3 f_answers := cal_answers T
  refine ⟨f, fd, _, fn_ok (k := 9) (b := b_least_bound) F sc rfl fun cdv A outer s H E Pd hg hr => ?_, g, F.kp, b⟩
  exact (ss_cons (by first | exact ss_set (i := 3) sc.nd (by rfl) (by first | exact .inl rfl | exact .inr rfl) (se_lc (own := [("row", 4)]) rfl sc.nd (blkOk_by (show blkC ["events", "a", "b", "waits", "row"] (defScope (topS 25)) _ [("row", 4)] = true from by decide +kernel)) (by decide +kernel) (si_tup (se_callG (C_answers.mono) hg hr (takes_of rfl rfl rfl rfl) (by rfl) (sa_cons (se_var (pv 0)) (sa_cons (se_var (pv 1)) (sa_cons (se_var (pv 2)) sa_nil))) (mCons_len (mCons_len (mCons_len mNil_len))))) (fun _ _ _ _ _ => (sg_nm (i := 4) sc.nd (by rfl) (by first | exact .inl rfl | exact .inr rfl))) (fun _ _ _ _ _ => sts_nil) (fun _ _ _ _ _ => (se_ix (se_var (pv 4)) se_int))) | exact ss_setLc (i := 3) (own := [("row", 4)]) rfl sc.nd (by rfl) (by rfl) (by rfl) (blkOk_by (show blkC ["events", "a", "b", "waits", "row"] (defScope (topS 25)) _ [("row", 4)] = true from by decide +kernel)) (by decide +kernel) (si_tup (se_callG (C_answers.mono) hg hr (takes_of rfl rfl rfl rfl) (by rfl) (sa_cons (se_var (pv 0)) (sa_cons (se_var (pv 1)) (sa_cons (se_var (pv 2)) sa_nil))) (mCons_len (mCons_len (mCons_len mNil_len))))) (fun _ _ _ _ _ => (sg_nm (i := 4) sc.nd (by rfl) (by first | exact .inl rfl | exact .inr rfl))) (fun _ _ _ _ _ => sts_nil) (fun _ _ _ _ _ => (se_ix (se_var (pv 4)) se_int)))
  (ss_cons (ss_if (st_cmp (or_in hr) se_non (se_var (pv 3))) (ss_one (ss_ret se_non)) ss_nil)
  (ss_one (ss_ret (se_callB (cr_max1 rfl) (by rfl) T.z_max (by decide +kernel) (sa_cons (se_starL se_int (se_var (pv 3))) sa_nil))))))
def l_works_of_1 : MS :=
  (mSetD (m2 addF (mMtD getFD (mVar 1) (mCons (mTup (mCons (mVar 5) (mCons (mVar 3) mNil))) (mCons (mC (.int 0)) mNil))) (mC (.int 1))) (mVar 1) (mTup (mCons (mVar 5) (mCons (mVar 3) mNil))))
def b_works_of : MS :=
  (mSeq (mDrop (mCall f_check_events (mCons (mVar 0) mNil)))
  (mSeq (mSet 1 mNewD)
  (mSeq (mFor (.tp [(.nm 2), (.nm 3), (.nm 4), (.nm 5)]) (mItT (mVar 0)) l_works_of_1)
  (mRet (mBf tupleF (mCons (mSortI (mVar 1)) mNil))))))
def f_works_of : FM := mFn 6 (b_works_of)
theorem sc_works_of : FnScope ["events", "found", "number", "name", "moment", "hand"] ["events"] (defScope (topS 27)) := ⟨rfl, rfl, rfl, by decide +kernel, rfl, by decide +kernel, by decide +kernel⟩
theorem cal_works_of {P : Program} {w : World} {K : PySem.W.Frag} {mg : Str → Option Value} {base : Heap} (T : Mo K mg) : CalG P w K mg base 6 "works_of" 1 f_works_of := by
  obtain ⟨f, fd, F, g, b⟩ := T.d_works_of
  have sc := sc_works_of
  have C_check_events : CalG P w K mg base 5 "check_events" 1 f_check_events := cal_check_events T
  refine ⟨f, fd, _, fn_ok (k := 5) (b := b_works_of) F sc rfl fun cdv A outer s H E Pd hg hr => ?_, g, F.kp, b⟩
  exact (ss_cons (ss_expr (se_callG (C_check_events.mono) hg hr (takes_of rfl rfl rfl rfl) (by rfl) (sa_cons (se_var (pv 0)) sa_nil) (mCons_len mNil_len)))
  (ss_cons (ss_set (i := 1) sc.nd (by rfl) (by first | exact .inl rfl | exact .inr rfl) se_newD)
  (ss_cons (ss_for (passes_of rfl) rfl (si_tup (se_var (pv 0))) (sg_tp rfl (sgs_cons (sg_nm (i := 2) sc.nd (by rfl) (by first | exact .inl rfl | exact .inr rfl)) (sgs_cons (sg_nm (i := 3) sc.nd (by rfl) (by first | exact .inl rfl | exact .inr rfl)) (sgs_cons (sg_nm (i := 4) sc.nd (by rfl) (by first | exact .inl rfl | exact .inr rfl)) (sgs_cons (sg_nm (i := 5) sc.nd (by rfl) (by first | exact .inl rfl | exact .inr rfl)) sgs_nil))))) (ss_one (ss_setD hr (se_op or_add (se_bmD PySem.F.slot_dict_get PySem.F.type_dict_get (mm_getD hr) (se_var (pv 1)) (sa_cons (se_tup (sa_cons (se_var (pv 5)) (sa_cons (se_var (pv 3)) sa_nil))) (sa_cons se_int sa_nil))) se_int) (se_var (pv 1)) (se_tup (sa_cons (se_var (pv 5)) (sa_cons (se_var (pv 3)) sa_nil))))))
  (ss_one (ss_ret (se_callTy cr_tuple (by rfl) T.z_tuple (by decide +kernel) (sa_cons (se_sortItems rfl hr (by rfl) T.z_sorted (by decide +kernel) (se_var (pv 1))) sa_nil)))))))
def l_by_one_hand_1 : MS :=
  (mSeq (mSet 6 (mDcE [7] (.nm 7) (mItT (mVar 5)) (mB (m2 (eqF false) (m2 ixF (mVar 7) (mC (.int 1))) (mVar 1))) (m2 ixF (mVar 7) (mC (.int 3))) (mC (.bl true))))
  (mIfS (mTru (mBf (allF true) (mCons (mLcE [7] (.nm 7) (mItT (mVar 5)) mYes (mAndV (m2 (eqF false) (m2 ixF (mVar 7) (mC (.int 1))) (mVar 2)) (m2 (inFD false) (m2 ixF (mVar 7) (mC (.int 3))) (mVar 6)))) mNil))) (mDrop (mMtL appendF (mVar 3) (mCons (mVar 4) mNil))) mSkip))
def b_by_one_hand : MS :=
  (mSeq (mIfS (mOr (mNot (mTru (mCall f_is_name (mCons (mVar 1) mNil)))) (mNot (mTru (mCall f_is_name (mCons (mVar 2) mNil))))) (mRaise0 "Nothing") mSkip)
  (mSeq (mNewL 3 mNil)
  (mSeq (mFor (.tp [(.nm 4), (.nm 5)]) (mItT (mCall f_by_case (mCons (mVar 0) mNil))) l_by_one_hand_1)
  (mRet (mBf tupleF (mCons (mVar 3) mNil))))))
def f_by_one_hand : FM := mFn 8 (b_by_one_hand)
theorem sc_by_one_hand : FnScope ["events", "a", "b", "found", "number", "rows", "first", "event"] ["events", "a", "b"] (defScope (topS 28)) := ⟨rfl, rfl, rfl, by decide +kernel, rfl, by decide +kernel, by decide +kernel⟩
theorem cal_by_one_hand {P : Program} {w : World} {K : PySem.W.Frag} {mg : Str → Option Value} {base : Heap} (T : Mo K mg) : CalG P w K mg base 9 "by_one_hand" 3 f_by_one_hand := by
  obtain ⟨f, fd, F, g, b⟩ := T.d_by_one_hand
  have sc := sc_by_one_hand
  have C_by_case : CalG P w K mg base 8 "by_case" 1 f_by_case := cal_by_case T
  have C_is_name : CalG P w K mg base 1 "is_name" 1 f_is_name := cal_is_name T
  refine ⟨f, fd, _, fn_ok (k := 8) (b := b_by_one_hand) F sc rfl fun cdv A outer s H E Pd hg hr => ?_, g, F.kp, b⟩
  exact (ss_cons (ss_if (st_w (sw_or (st_not (st_tru (se_callG (C_is_name.mono) hg hr (takes_of rfl rfl rfl rfl) (by rfl) (sa_cons (se_var (pv 1)) sa_nil) (mCons_len mNil_len)))) (sw_or1 (st_not (st_tru (se_callG (C_is_name.mono) hg hr (takes_of rfl rfl rfl rfl) (by rfl) (sa_cons (se_var (pv 2)) sa_nil) (mCons_len mNil_len))))))) (ss_one (ss_raiseE T.x_Nothing rfl (takes_of rfl rfl rfl rfl) (by rfl))) ss_nil)
  (ss_cons (ss_newL (i := 3) sc.nd (by rfl) (by first | exact .inl rfl | exact .inr rfl) sa_nil)
  (ss_cons (ss_for (passes_of rfl) rfl (si_tup (se_callG (C_by_case.mono) hg hr (takes_of rfl rfl rfl rfl) (by rfl) (sa_cons (se_var (pv 0)) sa_nil) (mCons_len mNil_len))) (sg_tp rfl (sgs_cons (sg_nm (i := 4) sc.nd (by rfl) (by first | exact .inl rfl | exact .inr rfl)) (sgs_cons (sg_nm (i := 5) sc.nd (by rfl) (by first | exact .inl rfl | exact .inr rfl)) sgs_nil))) (ss_cons (ss_set (i := 6) sc.nd (by rfl) (by first | exact .inl rfl | exact .inr rfl) (se_dc (own := [("event", 7)]) rfl sc.nd (blkOk_by (show blkC ["events", "a", "b", "found", "number", "rows", "first", "event"] (defScope (topS 28)) _ [("event", 7)] = true from by decide +kernel)) (by decide +kernel) (si_tup (se_var (pv 5))) (fun _ _ _ _ _ => (sg_nm (i := 7) sc.nd (by rfl) (by first | exact .inl rfl | exact .inr rfl))) (fun _ _ _ _ _ => (sts_one (st_cmp (or_eq hr) (se_ix (se_var (pv 7)) se_int) (se_var (pv 1))))) (fun _ _ _ _ _ => (se_ix (se_var (pv 7)) se_int)) (fun _ _ _ _ _ => se_bl)))
  (ss_one (ss_if (st_tru (se_callB (cr_any' rfl) (by rfl) T.z_any (by decide +kernel) (sa_cons (se_lc (own := [("event", 7)]) rfl sc.nd (blkOk_by (show blkC ["events", "a", "b", "found", "number", "rows", "first", "event"] (defScope (topS 28)) _ [("event", 7)] = true from by decide +kernel)) (by decide +kernel) (si_tup (se_var (pv 5))) (fun _ _ _ _ _ => (sg_nm (i := 7) sc.nd (by rfl) (by first | exact .inl rfl | exact .inr rfl))) (fun _ _ _ _ _ => sts_nil) (fun _ _ _ _ _ => (se_and (se_cmp (or_eq hr) (se_ix (se_var (pv 7)) se_int) (se_var (pv 2))) (se_one (se_cmp (or_inD hr) (se_ix (se_var (pv 7)) se_int) (se_var (pv 6))))))) sa_nil))) (ss_one (ss_expr (se_bmL PySem.F.slot_list_append PySem.F.type_list_append mm_append (se_var (pv 3)) (sa_cons (se_var (pv 4)) sa_nil)))) ss_nil))))
  (ss_one (ss_ret (se_callTy cr_tuple (by rfl) T.z_tuple (by decide +kernel) (sa_cons (se_var (pv 3)) sa_nil)))))))
def l__law_is_rest_1 : MS :=
  (mSeq (mDrop (mMtL appendF (mVar 17) (mCons (mBf tupleF (mCons (mLcE [10, 15] (.tp [(.nm 10), (.nm 15)]) (mItL (mVar 2)) (mB (mChain leF leF (m2 ixF (m2 ixF (mVar 15) (mC (.int 0))) (mC (.int 2))) (mVar 12) (m2 ixF (m2 ixF (mVar 15) (m1 negF (mC (.int 1)))) (mC (.int 2))))) (mVar 10)) mNil)) mNil)))
  (mIfS (mNot (mTru (mCall f__law_alike (mCons (mCall f_open_at (mCons (mVar 1) (mCons (mVar 12) mNil))) (mCons (m2 ixF (mVar 17) (m1 negF (mC (.int 1)))) mNil))))) (mRet (mC (.bl false))) mSkip))
def l__law_is_rest_2 : MS :=
  (mSeq (mSet 16 (mLcE [23] (.nm 23) (mItT (mVar 15)) (mB (m2 (eqF false) (m2 ixF (mVar 23) (mC (.int 1))) (mVar 3))) (m2 ixF (mVar 23) (mC (.int 3)))))
  (mIfS (mB (m2 (eqF true) (mLcE [23] (.nm 23) (mItT (mVar 15)) (mAnd (mB (m2 (eqF false) (m2 ixF (mVar 23) (mC (.int 1))) (mVar 4))) (mB (m2 (inF false) (m2 ixF (mVar 23) (mC (.int 3))) (mVar 16)))) (mVar 23)) (mLst mNil))) (mDrop (mMtL appendF (mVar 14) (mCons (mVar 10) mNil))) mSkip))
def l__law_is_rest_3 : MS :=
  (mSetD (m2 addF (mMtD getFD (mVar 9) (mCons (mTup (mCons (mVar 13) (mCons (mVar 11) mNil))) (mCons (mC (.int 0)) mNil))) (mC (.int 1))) (mVar 9) (mTup (mCons (mVar 13) (mCons (mVar 11) mNil))))
def b__law_is_rest : MS :=
  (mSeq (mAsg (.tp [(.nm 3), (.nm 4), (.nm 5)]) (mTup (mCons (mCall f__law_some (mCons (mVar 0) (mCons (mLst (mCons (mC (.str "a")) (mCons (mC (.str "b")) (mCons (mC (.str "c")) mNil)))) mNil))) (mCons (mCall f__law_some (mCons (mVar 0) (mCons (mLst (mCons (mC (.str "a")) (mCons (mC (.str "b")) (mCons (mC (.str "c")) mNil)))) mNil))) (mCons (mCall f__law_take (mCons (mVar 0) (mCons (mC (.int 8)) mNil))) mNil)))))
  (mSeq (mSet 6 (mCall f__law_answers (mCons (mVar 2) (mCons (mVar 3) (mCons (mVar 4) mNil)))))
  (mSeq (mSet 7 (mBf tupleF (mCons (mLcE [22] (.nm 22) (mItT (mVar 6)) (mOr (mB (m2 (isF false) (m2 ixF (mVar 22) (mC (.int 2))) (mC .non))) (mB (m2 gtF (m2 ixF (mVar 22) (mC (.int 2))) (mVar 5)))) (mVar 22)) mNil)))
  (mSeq (mSet 8 (mIf (mB (m2 (inF false) (mC .non) (mLcE [22] (.nm 22) (mItT (mVar 6)) mYes (m2 ixF (mVar 22) (mC (.int 2)))))) (mC .non) (mBf (endFn true) (mCons (m2 addF (mLst (mCons (mC (.int 0)) mNil)) (mLcE [22] (.nm 22) (mItT (mVar 6)) mYes (m2 ixF (mVar 22) (mC (.int 2))))) mNil))))
  (mSeq (mIfS (mNot (mTru (mCall f__law_alike (mCons (mLst (mCons (mCall f_answers (mCons (mVar 1) (mCons (mVar 3) (mCons (mVar 4) mNil)))) (mCons (mCall f_late (mCons (mVar 1) (mCons (mVar 3) (mCons (mVar 4) (mCons (mVar 5) mNil))))) (mCons (mCall f_least_bound (mCons (mVar 1) (mCons (mVar 3) (mCons (mVar 4) mNil)))) mNil)))) (mCons (mLst (mCons (mVar 6) (mCons (mVar 7) (mCons (mVar 8) mNil)))) mNil))))) (mRet (mC (.bl false))) mSkip)
  (mSeq (mSet 9 mNewD)
  (mSeq (mFor (.tp [(.nm 10), (.nm 11), (.nm 12), (.nm 13)]) (mItT (mVar 1)) l__law_is_rest_3)
  (mSeq (mNewL 14 mNil)
  (mSeq (mFor (.tp [(.nm 10), (.nm 15)]) (mItL (mVar 2)) l__law_is_rest_2)
  (mSeq (mIfS (mNot (mTru (mCall f__law_alike (mCons (mLst (mCons (mCall f_works_of (mCons (mVar 1) mNil)) (mCons (mCall f_by_one_hand (mCons (mVar 1) (mCons (mVar 3) (mCons (mVar 4) mNil)))) mNil))) (mCons (mLst (mCons (mBf tupleF (mCons (mSortI (mVar 9)) mNil)) (mCons (mBf tupleF (mCons (mVar 14) mNil)) mNil))) mNil))))) (mRet (mC (.bl false))) mSkip)
  (mSeq (mNewL 17 mNil)
  (mSeq (mFor (.nm 12) (mRg1 (mCons (mC (.int 14)) mNil)) l__law_is_rest_1)
  (mSeq (mSet 18 (mBf (endFn true) (mCons (mLcR [24] (.nm 24) (mVar 17) mYes (mBf lenF (mCons (mVar 24) mNil))) mNil)))
  (mSeq (mSet 19 (mLcE [12] (.nm 12) (mItL (mSortSet (mLcE [23] (.nm 23) (mItT (mVar 1)) mYes (m2 ixF (mVar 23) (mC (.int 2)))))) (mB (m2 (eqF false) (mBf lenF (mCons (m2 ixF (mVar 17) (mVar 12)) mNil)) (mVar 18))) (mVar 12)))
  (mSeq (mIfS (mNot (mTru (mCall f__law_alike (mCons (mCall f_most_open (mCons (mVar 1) mNil)) (mCons (mIf (mB (m2 gtF (mVar 18) (mC (.int 0)))) (mTup (mCons (mVar 18) (mCons (m2 ixF (mVar 19) (mC (.int 0))) mNil))) (mTup (mCons (mC (.int 0)) (mCons (mC (.int 0)) mNil)))) mNil))))) (mRet (mC (.bl false))) mSkip)
  (mSeq (mPar 10 20 (mCons (mCall f__law_take (mCons (mVar 0) (mCons (mC (.int 3)) mNil))) (mCons (mCall f__law_take (mCons (mVar 0) (mCons (mC (.int 5)) mNil))) mNil)))
  (mSeq (mSet 21 (mCall f_shifted (mCons (mVar 1) (mCons (mVar 10) (mCons (mVar 20) mNil)))))
  (mRet (mCall f__law_alike (mCons (mVar 21) (mCons (mBf tupleF (mCons (mLcE [25, 11, 12, 13] (.tp [(.nm 25), (.nm 11), (.nm 12), (.nm 13)]) (mItT (mVar 1)) mYes (mTup (mCons (mVar 25) (mCons (mVar 11) (mCons (mIf (mB (m2 (eqF false) (mVar 25) (mVar 10))) (m2 addF (mVar 12) (mVar 20)) (mVar 12)) (mCons (mVar 13) mNil)))))) mNil)) mNil)))))))))))))))))))))
def f__law_is_rest : FM := mFn 26 (b__law_is_rest)
theorem sc__law_is_rest : FnScope ["bag", "events", "cases", "a", "b", "most", "due", "slow", "bound", "counts", "number", "name", "moment", "hand", "same", "rows", "doers", "opens", "many", "first", "by", "other", "row", "event", "one", "its"] ["bag", "events", "cases"] (defScope (topS 42)) := ⟨rfl, rfl, rfl, by decide +kernel, rfl, by decide +kernel, by decide +kernel⟩
theorem cal__law_is_rest {P : Program} {w : World} {K : PySem.W.Frag} {mg : Str → Option Value} {base : Heap} (T : Mo K mg) : CalG P w K mg base 11 "_law_is_rest" 3 f__law_is_rest := by
  obtain ⟨f, fd, F, g, b⟩ := T.d__law_is_rest
  have sc := sc__law_is_rest
  have C__law_answers : CalG P w K mg base 1 "_law_answers" 3 f__law_answers := cal__law_answers T
  have C_shifted : CalG P w K mg base 6 "shifted" 3 f_shifted := cal_shifted T
  have C__law_alike : CalG P w K mg base 1 "_law_alike" 2 f__law_alike := cal__law_alike T
  have C__law_some : CalG P w K mg base 2 "_law_some" 2 f__law_some := cal__law_some T
  have C__law_take : CalG P w K mg base 1 "_law_take" 2 f__law_take := cal__law_take T
  have C_most_open : CalG P w K mg base 10 "most_open" 1 f_most_open := cal_most_open T
  have C_answers : CalG P w K mg base 9 "answers" 3 f_answers := cal_answers T
  have C_late : CalG P w K mg base 10 "late" 4 f_late := cal_late T
  have C_least_bound : CalG P w K mg base 10 "least_bound" 3 f_least_bound := cal_least_bound T
  have C_works_of : CalG P w K mg base 6 "works_of" 1 f_works_of := cal_works_of T
  have C_by_one_hand : CalG P w K mg base 9 "by_one_hand" 3 f_by_one_hand := cal_by_one_hand T
  have C_open_at : CalG P w K mg base 9 "open_at" 2 f_open_at := cal_open_at T
  refine ⟨f, fd, _, fn_ok (k := 10) (b := b__law_is_rest) F sc rfl fun cdv A outer s H E Pd hg hr => ?_, g, F.kp, b⟩
  exact (ss_cons (ss_asg (se_tup (sa_cons (se_callG (C__law_some.mono) hg hr (takes_of rfl rfl rfl rfl) (by rfl) (sa_cons (se_var (pv 0)) (sa_cons (se_lst (sa_cons se_str (sa_cons se_str (sa_cons se_str sa_nil)))) sa_nil)) (mCons_len (mCons_len mNil_len))) (sa_cons (se_callG (C__law_some.mono) hg hr (takes_of rfl rfl rfl rfl) (by rfl) (sa_cons (se_var (pv 0)) (sa_cons (se_lst (sa_cons se_str (sa_cons se_str (sa_cons se_str sa_nil)))) sa_nil)) (mCons_len (mCons_len mNil_len))) (sa_cons (se_callG (C__law_take.mono) hg hr (takes_of rfl rfl rfl rfl) (by rfl) (sa_cons (se_var (pv 0)) (sa_cons se_int sa_nil)) (mCons_len (mCons_len mNil_len))) sa_nil)))) (sg_tp rfl (sgs_cons (sg_nm (i := 3) sc.nd (by rfl) (by first | exact .inl rfl | exact .inr rfl)) (sgs_cons (sg_nm (i := 4) sc.nd (by rfl) (by first | exact .inl rfl | exact .inr rfl)) (sgs_cons (sg_nm (i := 5) sc.nd (by rfl) (by first | exact .inl rfl | exact .inr rfl)) sgs_nil)))))
  (ss_cons (ss_set (i := 6) sc.nd (by rfl) (by first | exact .inl rfl | exact .inr rfl) (se_callG (C__law_answers.mono) hg hr (takes_of rfl rfl rfl rfl) (by rfl) (sa_cons (se_var (pv 2)) (sa_cons (se_var (pv 3)) (sa_cons (se_var (pv 4)) sa_nil))) (mCons_len (mCons_len (mCons_len mNil_len)))))
  (ss_cons (ss_set (i := 7) sc.nd (by rfl) (by first | exact .inl rfl | exact .inr rfl) (se_callTy cr_tuple (by rfl) T.z_tuple (by decide +kernel) (sa_cons (se_lc (own := [("row", 22)]) rfl sc.nd (blkOk_by (show blkC ["bag", "events", "cases", "a", "b", "most", "due", "slow", "bound", "counts", "number", "name", "moment", "hand", "same", "rows", "doers", "opens", "many", "first", "by", "other", "row", "event", "one", "its"] (defScope (topS 42)) _ [("row", 22)] = true from by decide +kernel)) (by decide +kernel) (si_tup (se_var (pv 6))) (fun _ _ _ _ _ => (sg_nm (i := 22) sc.nd (by rfl) (by first | exact .inl rfl | exact .inr rfl))) (fun _ _ _ _ _ => (sts_one (st_w (sw_or (st_cmp or_is (se_ix (se_var (pv 22)) se_int) se_non) (sw_or1 (st_cmp or_gt (se_ix (se_var (pv 22)) se_int) (se_var (pv 5)))))))) (fun _ _ _ _ _ => (se_var (pv 22)))) sa_nil)))
  (ss_cons (ss_set (i := 8) sc.nd (by rfl) (by first | exact .inl rfl | exact .inr rfl) (se_ifExp (st_cmp (or_in hr) se_non (se_lc (own := [("row", 22)]) rfl sc.nd (blkOk_by (show blkC ["bag", "events", "cases", "a", "b", "most", "due", "slow", "bound", "counts", "number", "name", "moment", "hand", "same", "rows", "doers", "opens", "many", "first", "by", "other", "row", "event", "one", "its"] (defScope (topS 42)) _ [("row", 22)] = true from by decide +kernel)) (by decide +kernel) (si_tup (se_var (pv 6))) (fun _ _ _ _ _ => (sg_nm (i := 22) sc.nd (by rfl) (by first | exact .inl rfl | exact .inr rfl))) (fun _ _ _ _ _ => sts_nil) (fun _ _ _ _ _ => (se_ix (se_var (pv 22)) se_int)))) se_non (se_callB (cr_max1 rfl) (by rfl) T.z_max (by decide +kernel) (sa_cons (se_op or_add (se_lst (sa_cons se_int sa_nil)) (se_lc (own := [("row", 22)]) rfl sc.nd (blkOk_by (show blkC ["bag", "events", "cases", "a", "b", "most", "due", "slow", "bound", "counts", "number", "name", "moment", "hand", "same", "rows", "doers", "opens", "many", "first", "by", "other", "row", "event", "one", "its"] (defScope (topS 42)) _ [("row", 22)] = true from by decide +kernel)) (by decide +kernel) (si_tup (se_var (pv 6))) (fun _ _ _ _ _ => (sg_nm (i := 22) sc.nd (by rfl) (by first | exact .inl rfl | exact .inr rfl))) (fun _ _ _ _ _ => sts_nil) (fun _ _ _ _ _ => (se_ix (se_var (pv 22)) se_int)))) sa_nil))))
  (ss_cons (ss_if (st_not (st_tru (se_callG (C__law_alike.mono) hg hr (takes_of rfl rfl rfl rfl) (by rfl) (sa_cons (se_lst (sa_cons (se_callG (C_answers.mono) hg hr (takes_of rfl rfl rfl rfl) (by rfl) (sa_cons (se_var (pv 1)) (sa_cons (se_var (pv 3)) (sa_cons (se_var (pv 4)) sa_nil))) (mCons_len (mCons_len (mCons_len mNil_len)))) (sa_cons (se_callG (C_late.mono) hg hr (takes_of rfl rfl rfl rfl) (by rfl) (sa_cons (se_var (pv 1)) (sa_cons (se_var (pv 3)) (sa_cons (se_var (pv 4)) (sa_cons (se_var (pv 5)) sa_nil)))) (mCons_len (mCons_len (mCons_len (mCons_len mNil_len))))) (sa_cons (se_callG (C_least_bound.mono) hg hr (takes_of rfl rfl rfl rfl) (by rfl) (sa_cons (se_var (pv 1)) (sa_cons (se_var (pv 3)) (sa_cons (se_var (pv 4)) sa_nil))) (mCons_len (mCons_len (mCons_len mNil_len)))) sa_nil)))) (sa_cons (se_lst (sa_cons (se_var (pv 6)) (sa_cons (se_var (pv 7)) (sa_cons (se_var (pv 8)) sa_nil)))) sa_nil)) (mCons_len (mCons_len mNil_len))))) (ss_one (ss_ret se_bl)) ss_nil)
  (ss_cons (ss_set (i := 9) sc.nd (by rfl) (by first | exact .inl rfl | exact .inr rfl) se_newD)
  (ss_cons (ss_for (passes_of rfl) rfl (si_tup (se_var (pv 1))) (sg_tp rfl (sgs_cons (sg_nm (i := 10) sc.nd (by rfl) (by first | exact .inl rfl | exact .inr rfl)) (sgs_cons (sg_nm (i := 11) sc.nd (by rfl) (by first | exact .inl rfl | exact .inr rfl)) (sgs_cons (sg_nm (i := 12) sc.nd (by rfl) (by first | exact .inl rfl | exact .inr rfl)) (sgs_cons (sg_nm (i := 13) sc.nd (by rfl) (by first | exact .inl rfl | exact .inr rfl)) sgs_nil))))) (ss_one (ss_setD hr (se_op or_add (se_bmD PySem.F.slot_dict_get PySem.F.type_dict_get (mm_getD hr) (se_var (pv 9)) (sa_cons (se_tup (sa_cons (se_var (pv 13)) (sa_cons (se_var (pv 11)) sa_nil))) (sa_cons se_int sa_nil))) se_int) (se_var (pv 9)) (se_tup (sa_cons (se_var (pv 13)) (sa_cons (se_var (pv 11)) sa_nil))))))
  (ss_cons (ss_newL (i := 14) sc.nd (by rfl) (by first | exact .inl rfl | exact .inr rfl) sa_nil)
  (ss_cons (ss_for (passes_of rfl) rfl (si_list (se_var (pv 2))) (sg_tp rfl (sgs_cons (sg_nm (i := 10) sc.nd (by rfl) (by first | exact .inl rfl | exact .inr rfl)) (sgs_cons (sg_nm (i := 15) sc.nd (by rfl) (by first | exact .inl rfl | exact .inr rfl)) sgs_nil))) (ss_cons (by first | exact ss_set (i := 16) sc.nd (by rfl) (by first | exact .inl rfl | exact .inr rfl) (se_lc (own := [("event", 23)]) rfl sc.nd (blkOk_by (show blkC ["bag", "events", "cases", "a", "b", "most", "due", "slow", "bound", "counts", "number", "name", "moment", "hand", "same", "rows", "doers", "opens", "many", "first", "by", "other", "row", "event", "one", "its"] (defScope (topS 42)) _ [("event", 23)] = true from by decide +kernel)) (by decide +kernel) (si_tup (se_var (pv 15))) (fun _ _ _ _ _ => (sg_nm (i := 23) sc.nd (by rfl) (by first | exact .inl rfl | exact .inr rfl))) (fun _ _ _ _ _ => (sts_one (st_cmp (or_eq hr) (se_ix (se_var (pv 23)) se_int) (se_var (pv 3))))) (fun _ _ _ _ _ => (se_ix (se_var (pv 23)) se_int))) | exact ss_setLc (i := 16) (own := [("event", 23)]) rfl sc.nd (by rfl) (by rfl) (by rfl) (blkOk_by (show blkC ["bag", "events", "cases", "a", "b", "most", "due", "slow", "bound", "counts", "number", "name", "moment", "hand", "same", "rows", "doers", "opens", "many", "first", "by", "other", "row", "event", "one", "its"] (defScope (topS 42)) _ [("event", 23)] = true from by decide +kernel)) (by decide +kernel) (si_tup (se_var (pv 15))) (fun _ _ _ _ _ => (sg_nm (i := 23) sc.nd (by rfl) (by first | exact .inl rfl | exact .inr rfl))) (fun _ _ _ _ _ => (sts_one (st_cmp (or_eq hr) (se_ix (se_var (pv 23)) se_int) (se_var (pv 3))))) (fun _ _ _ _ _ => (se_ix (se_var (pv 23)) se_int)))
  (ss_one (ss_if (st_cmp (or_ne hr) (se_lc (own := [("event", 23)]) rfl sc.nd (blkOk_by (show blkC ["bag", "events", "cases", "a", "b", "most", "due", "slow", "bound", "counts", "number", "name", "moment", "hand", "same", "rows", "doers", "opens", "many", "first", "by", "other", "row", "event", "one", "its"] (defScope (topS 42)) _ [("event", 23)] = true from by decide +kernel)) (by decide +kernel) (si_tup (se_var (pv 15))) (fun _ _ _ _ _ => (sg_nm (i := 23) sc.nd (by rfl) (by first | exact .inl rfl | exact .inr rfl))) (fun _ _ _ _ _ => (sts_one (st_w (sw_and (st_cmp (or_eq hr) (se_ix (se_var (pv 23)) se_int) (se_var (pv 4))) (sw_and1 (st_cmp (or_in hr) (se_ix (se_var (pv 23)) se_int) (se_var (pv 16)))))))) (fun _ _ _ _ _ => (se_var (pv 23)))) (se_lst sa_nil)) (ss_one (ss_expr (se_bmL PySem.F.slot_list_append PySem.F.type_list_append mm_append (se_var (pv 14)) (sa_cons (se_var (pv 10)) sa_nil)))) ss_nil))))
  (ss_cons (ss_if (st_not (st_tru (se_callG (C__law_alike.mono) hg hr (takes_of rfl rfl rfl rfl) (by rfl) (sa_cons (se_lst (sa_cons (se_callG (C_works_of.mono) hg hr (takes_of rfl rfl rfl rfl) (by rfl) (sa_cons (se_var (pv 1)) sa_nil) (mCons_len mNil_len)) (sa_cons (se_callG (C_by_one_hand.mono) hg hr (takes_of rfl rfl rfl rfl) (by rfl) (sa_cons (se_var (pv 1)) (sa_cons (se_var (pv 3)) (sa_cons (se_var (pv 4)) sa_nil))) (mCons_len (mCons_len (mCons_len mNil_len)))) sa_nil))) (sa_cons (se_lst (sa_cons (se_callTy cr_tuple (by rfl) T.z_tuple (by decide +kernel) (sa_cons (se_sortItems rfl hr (by rfl) T.z_sorted (by decide +kernel) (se_var (pv 9))) sa_nil)) (sa_cons (se_callTy cr_tuple (by rfl) T.z_tuple (by decide +kernel) (sa_cons (se_var (pv 14)) sa_nil)) sa_nil))) sa_nil)) (mCons_len (mCons_len mNil_len))))) (ss_one (ss_ret se_bl)) ss_nil)
  (ss_cons (ss_newL (i := 17) sc.nd (by rfl) (by first | exact .inl rfl | exact .inr rfl) sa_nil)
  (ss_cons (ss_for (passes_of rfl) rfl (si_range1 (by rfl) T.z_range (sa_cons se_int sa_nil)) (sg_nm (i := 12) sc.nd (by rfl) (by first | exact .inl rfl | exact .inr rfl)) (ss_cons (ss_expr (se_bmL PySem.F.slot_list_append PySem.F.type_list_append mm_append (se_var (pv 17)) (sa_cons (se_callTy cr_tuple (by rfl) T.z_tuple (by decide +kernel) (sa_cons (se_lc (own := [("number", 10), ("rows", 15)]) rfl sc.nd (blkOk_by (show blkC ["bag", "events", "cases", "a", "b", "most", "due", "slow", "bound", "counts", "number", "name", "moment", "hand", "same", "rows", "doers", "opens", "many", "first", "by", "other", "row", "event", "one", "its"] (defScope (topS 42)) _ [("number", 10), ("rows", 15)] = true from by decide +kernel)) (by decide +kernel) (si_list (se_var (pv 2))) (fun _ _ _ _ _ => (sg_tp rfl (sgs_cons (sg_nm (i := 10) sc.nd (by rfl) (by first | exact .inl rfl | exact .inr rfl)) (sgs_cons (sg_nm (i := 15) sc.nd (by rfl) (by first | exact .inl rfl | exact .inr rfl)) sgs_nil)))) (fun _ _ _ _ _ => (sts_one (st_chain or_le or_le (se_ix (se_ix (se_var (pv 15)) se_int) se_int) (se_var (pv 12)) (se_ix (se_ix (se_var (pv 15)) (se_un or_neg se_int)) se_int)))) (fun _ _ _ _ _ => (se_var (pv 10)))) sa_nil)) sa_nil)))
  (ss_one (ss_if (st_not (st_tru (se_callG (C__law_alike.mono) hg hr (takes_of rfl rfl rfl rfl) (by rfl) (sa_cons (se_callG (C_open_at.mono) hg hr (takes_of rfl rfl rfl rfl) (by rfl) (sa_cons (se_var (pv 1)) (sa_cons (se_var (pv 12)) sa_nil)) (mCons_len (mCons_len mNil_len))) (sa_cons (se_ix (se_var (pv 17)) (se_un or_neg se_int)) sa_nil)) (mCons_len (mCons_len mNil_len))))) (ss_one (ss_ret se_bl)) ss_nil))))
  (ss_cons (ss_set (i := 18) sc.nd (by rfl) (by first | exact .inl rfl | exact .inr rfl) (se_callB (cr_max1 rfl) (by rfl) T.z_max (by decide +kernel) (sa_cons (se_lcR (own := [("one", 24)]) rfl sc.nd (blkOk_by (show blkC ["bag", "events", "cases", "a", "b", "most", "due", "slow", "bound", "counts", "number", "name", "moment", "hand", "same", "rows", "doers", "opens", "many", "first", "by", "other", "row", "event", "one", "its"] (defScope (topS 42)) _ [("one", 24)] = true from by decide +kernel)) (by decide +kernel) still_yes (still_len still_var) still_var (se_var (pv 17)) (fun _ _ _ _ _ => (sg_nm (i := 24) sc.nd (by rfl) (by first | exact .inl rfl | exact .inr rfl))) (fun _ _ _ _ _ => sts_nil) (fun _ _ _ _ _ => (se_callB cr_len (by rfl) T.z_len (by decide +kernel) (sa_cons (se_var (pv 24)) sa_nil)))) sa_nil)))
  (ss_cons (by first | exact ss_set (i := 19) sc.nd (by rfl) (by first | exact .inl rfl | exact .inr rfl) (se_lc (own := [("moment", 12)]) rfl sc.nd (blkOk_by (show blkC ["bag", "events", "cases", "a", "b", "most", "due", "slow", "bound", "counts", "number", "name", "moment", "hand", "same", "rows", "doers", "opens", "many", "first", "by", "other", "row", "event", "one", "its"] (defScope (topS 42)) _ [("moment", 12)] = true from by decide +kernel)) (by decide +kernel) (si_list (se_sortSet (k := 0) rfl (by rfl) T.z_sorted (by rfl) T.z_set (se_lc (own := [("event", 23)]) rfl sc.nd (blkOk_by (show blkC ["bag", "events", "cases", "a", "b", "most", "due", "slow", "bound", "counts", "number", "name", "moment", "hand", "same", "rows", "doers", "opens", "many", "first", "by", "other", "row", "event", "one", "its"] (defScope (topS 42)) _ [("event", 23)] = true from by decide +kernel)) (by decide +kernel) (si_tup (se_var (pv 1))) (fun _ _ _ _ _ => (sg_nm (i := 23) sc.nd (by rfl) (by first | exact .inl rfl | exact .inr rfl))) (fun _ _ _ _ _ => sts_nil) (fun _ _ _ _ _ => (se_ix (se_var (pv 23)) se_int))))) (fun _ _ _ _ _ => (sg_nm (i := 12) sc.nd (by rfl) (by first | exact .inl rfl | exact .inr rfl))) (fun _ _ _ _ _ => (sts_one (st_cmp (or_eq hr) (se_callB cr_len (by rfl) T.z_len (by decide +kernel) (sa_cons (se_ix (se_var (pv 17)) (se_var (pv 12))) sa_nil)) (se_var (pv 18))))) (fun _ _ _ _ _ => (se_var (pv 12)))) | exact ss_setLc (i := 19) (own := [("moment", 12)]) rfl sc.nd (by rfl) (by rfl) (by rfl) (blkOk_by (show blkC ["bag", "events", "cases", "a", "b", "most", "due", "slow", "bound", "counts", "number", "name", "moment", "hand", "same", "rows", "doers", "opens", "many", "first", "by", "other", "row", "event", "one", "its"] (defScope (topS 42)) _ [("moment", 12)] = true from by decide +kernel)) (by decide +kernel) (si_list (se_sortSet (k := 0) rfl (by rfl) T.z_sorted (by rfl) T.z_set (se_lc (own := [("event", 23)]) rfl sc.nd (blkOk_by (show blkC ["bag", "events", "cases", "a", "b", "most", "due", "slow", "bound", "counts", "number", "name", "moment", "hand", "same", "rows", "doers", "opens", "many", "first", "by", "other", "row", "event", "one", "its"] (defScope (topS 42)) _ [("event", 23)] = true from by decide +kernel)) (by decide +kernel) (si_tup (se_var (pv 1))) (fun _ _ _ _ _ => (sg_nm (i := 23) sc.nd (by rfl) (by first | exact .inl rfl | exact .inr rfl))) (fun _ _ _ _ _ => sts_nil) (fun _ _ _ _ _ => (se_ix (se_var (pv 23)) se_int))))) (fun _ _ _ _ _ => (sg_nm (i := 12) sc.nd (by rfl) (by first | exact .inl rfl | exact .inr rfl))) (fun _ _ _ _ _ => (sts_one (st_cmp (or_eq hr) (se_callB cr_len (by rfl) T.z_len (by decide +kernel) (sa_cons (se_ix (se_var (pv 17)) (se_var (pv 12))) sa_nil)) (se_var (pv 18))))) (fun _ _ _ _ _ => (se_var (pv 12))))
  (ss_cons (ss_if (st_not (st_tru (se_callG (C__law_alike.mono) hg hr (takes_of rfl rfl rfl rfl) (by rfl) (sa_cons (se_callG (C_most_open.mono) hg hr (takes_of rfl rfl rfl rfl) (by rfl) (sa_cons (se_var (pv 1)) sa_nil) (mCons_len mNil_len)) (sa_cons (se_ifExp (st_cmp or_gt (se_var (pv 18)) se_int) (se_tup (sa_cons (se_var (pv 18)) (sa_cons (se_ix (se_var (pv 19)) se_int) sa_nil))) (se_tup (sa_cons se_int (sa_cons se_int sa_nil)))) sa_nil)) (mCons_len (mCons_len mNil_len))))) (ss_one (ss_ret se_bl)) ss_nil)
  (ss_cons (ss_parC rfl (sg_nm (i := 10) sc.nd (by rfl) (by first | exact .inl rfl | exact .inr rfl)) (sg_nm (i := 20) sc.nd (by rfl) (by first | exact .inl rfl | exact .inr rfl)) (sa_cons (se_callG (C__law_take.mono) hg hr (takes_of rfl rfl rfl rfl) (by rfl) (sa_cons (se_var (pv 0)) (sa_cons se_int sa_nil)) (mCons_len (mCons_len mNil_len))) (sa_cons (se_callG (C__law_take.mono) hg hr (takes_of rfl rfl rfl rfl) (by rfl) (sa_cons (se_var (pv 0)) (sa_cons se_int sa_nil)) (mCons_len (mCons_len mNil_len))) sa_nil)))
  (ss_cons (ss_set (i := 21) sc.nd (by rfl) (by first | exact .inl rfl | exact .inr rfl) (se_callG (C_shifted.mono) hg hr (takes_of rfl rfl rfl rfl) (by rfl) (sa_cons (se_var (pv 1)) (sa_cons (se_var (pv 10)) (sa_cons (se_var (pv 20)) sa_nil))) (mCons_len (mCons_len (mCons_len mNil_len)))))
  (ss_one (ss_ret (se_callG (C__law_alike.mono) hg hr (takes_of rfl rfl rfl rfl) (by rfl) (sa_cons (se_var (pv 21)) (sa_cons (se_callTy cr_tuple (by rfl) T.z_tuple (by decide +kernel) (sa_cons (se_lc (own := [("its", 25), ("name", 11), ("moment", 12), ("hand", 13)]) rfl sc.nd (blkOk_by (show blkC ["bag", "events", "cases", "a", "b", "most", "due", "slow", "bound", "counts", "number", "name", "moment", "hand", "same", "rows", "doers", "opens", "many", "first", "by", "other", "row", "event", "one", "its"] (defScope (topS 42)) _ [("its", 25), ("name", 11), ("moment", 12), ("hand", 13)] = true from by decide +kernel)) (by decide +kernel) (si_tup (se_var (pv 1))) (fun _ _ _ _ _ => (sg_tp rfl (sgs_cons (sg_nm (i := 25) sc.nd (by rfl) (by first | exact .inl rfl | exact .inr rfl)) (sgs_cons (sg_nm (i := 11) sc.nd (by rfl) (by first | exact .inl rfl | exact .inr rfl)) (sgs_cons (sg_nm (i := 12) sc.nd (by rfl) (by first | exact .inl rfl | exact .inr rfl)) (sgs_cons (sg_nm (i := 13) sc.nd (by rfl) (by first | exact .inl rfl | exact .inr rfl)) sgs_nil)))))) (fun _ _ _ _ _ => sts_nil) (fun _ _ _ _ _ => (se_tup (sa_cons (se_var (pv 25)) (sa_cons (se_var (pv 11)) (sa_cons (se_ifExp (st_cmp (or_eq hr) (se_var (pv 25)) (se_var (pv 10))) (se_op or_add (se_var (pv 12)) (se_var (pv 20))) (se_var (pv 12))) (sa_cons (se_var (pv 13)) sa_nil))))))) sa_nil)) sa_nil)) (mCons_len (mCons_len mNil_len))))))))))))))))))))))
def l_log_of_events_1 : MS :=
  (mSeq (mSet 4 (mBf tupleF (mCons (mLcE [5] (.nm 5) (mItT (mVar 3)) mYes (m2 ixF (mVar 5) (mC (.int 1)))) mNil)))
  (mSetD (m2 addF (mMtD getFD (mVar 1) (mCons (mVar 4) (mCons (mC (.int 0)) mNil))) (mC (.int 1))) (mVar 1) (mVar 4)))
def b_log_of_events : MS :=
  (mSeq (mSet 1 mNewD)
  (mSeq (mFor (.tp [(.nm 2), (.nm 3)]) (mItT (mCall f_by_case (mCons (mVar 0) mNil))) l_log_of_events_1)
  (mRet (mBf tupleF (mCons (mLcE [4] (.nm 4) (mItL (mSortKey kfLen (mVar 1))) mYes (mTup (mCons (mVar 4) (mCons (m2 ixFD (mVar 1) (mVar 4)) mNil)))) mNil)))))
def f_log_of_events : FM := mFn 6 (b_log_of_events)
theorem sc_log_of_events : FnScope ["events", "found", "number", "its", "case", "event"] ["events"] (defScope (topS 19)) := ⟨rfl, rfl, rfl, by decide +kernel, rfl, by decide +kernel, by decide +kernel⟩
theorem cal_log_of_events {P : Program} {w : World} {K : PySem.W.Frag} {mg : Str → Option Value} {base : Heap} (T : Mo K mg) : CalG P w K mg base 9 "log_of_events" 1 f_log_of_events := by
  obtain ⟨f, fd, c, Pt, F, g, b, hcode, hT, hu⟩ := T.d_log_of_events
  have sc := sc_log_of_events
  have C_by_case : CalG P w K mg base 8 "by_case" 1 f_by_case := cal_by_case T
  refine ⟨f, fd, _, fn_okL (k := 8) (b := b_log_of_events) F hcode sc rfl fun A outer s H E Pd hg hr => ?_, g, F.kp, b⟩
  exact (ss_cons (ss_set (i := 1) sc.nd (by rfl) (by first | exact .inl rfl | exact .inr rfl) se_newD)
  (ss_cons (ss_for (passes_of rfl) rfl (si_tup (se_callG (C_by_case.mono) hg hr (takes_of rfl rfl rfl rfl) (by rfl) (sa_cons (se_var (pv 0)) sa_nil) (mCons_len mNil_len))) (sg_tp rfl (sgs_cons (sg_nm (i := 2) sc.nd (by rfl) (by first | exact .inl rfl | exact .inr rfl)) (sgs_cons (sg_nm (i := 3) sc.nd (by rfl) (by first | exact .inl rfl | exact .inr rfl)) sgs_nil))) (ss_cons (ss_set (i := 4) sc.nd (by rfl) (by first | exact .inl rfl | exact .inr rfl) (se_callTy cr_tuple (by rfl) T.z_tuple (by decide +kernel) (sa_cons (se_lc (own := [("event", 5)]) rfl sc.nd (blkOk_by (show blkC ["events", "found", "number", "its", "case", "event"] (defScope (topS 19)) _ [("event", 5)] = true from by decide +kernel)) (by decide +kernel) (si_tup (se_var (pv 3))) (fun _ _ _ _ _ => (sg_nm (i := 5) sc.nd (by rfl) (by first | exact .inl rfl | exact .inr rfl))) (fun _ _ _ _ _ => sts_nil) (fun _ _ _ _ _ => (se_ix (se_var (pv 5)) se_int))) sa_nil)))
  (ss_one (ss_setD hr (se_op or_add (se_bmD PySem.F.slot_dict_get PySem.F.type_dict_get (mm_getD hr) (se_var (pv 1)) (sa_cons (se_var (pv 4)) (sa_cons se_int sa_nil))) se_int) (se_var (pv 1)) (se_var (pv 4))))))
  (ss_one (ss_ret (se_callTy cr_tuple (by rfl) T.z_tuple (by decide +kernel) (sa_cons (se_lc (own := [("case", 4)]) rfl sc.nd (blkOk_by (show blkC ["events", "found", "number", "its", "case", "event"] (defScope (topS 19)) _ [("case", 4)] = true from by decide +kernel)) (by decide +kernel) (si_list (se_sortKey (k := 0) rfl ⟨⟨⟨rfl, rfl, rfl, by decide +kernel, rfl, by decide +kernel, by decide +kernel⟩, rfl, by decide⟩, hr.mono (by omega), hg, fun _ _ _ _ => rfl, (kb_len (j := 0) ⟨⟨rfl, rfl, rfl, by decide +kernel, rfl, by decide +kernel, by decide +kernel⟩, rfl, by decide⟩ T.z_len (by rfl))⟩ hT hu rfl (by kernel_rfl) (by rfl) T.z_sorted (se_var (pv 1)))) (fun _ _ _ _ _ => (sg_nm (i := 4) sc.nd (by rfl) (by first | exact .inl rfl | exact .inr rfl))) (fun _ _ _ _ _ => sts_nil) (fun _ _ _ _ _ => (se_tup (sa_cons (se_var (pv 4)) (sa_cons (se_ixD hr (se_var (pv 1)) (se_var (pv 4))) sa_nil))))) sa_nil))))))
def l__law_log_1 : MS :=
  (mSetD (m2 addF (mMtD getFD (mVar 1) (mCons (mVar 2) (mCons (mC (.int 0)) mNil))) (mC (.int 1))) (mVar 1) (mVar 2))
def b__law_log : MS :=
  (mSeq (mSet 1 mNewD)
  (mSeq (mFor (.nm 2) (mItL (mVar 0)) l__law_log_1)
  (mRet (mBf tupleF (mCons (mLcE [2] (.nm 2) (mItL (mSortKey kfLen (mVar 1))) mYes (mTup (mCons (mVar 2) (mCons (m2 ixFD (mVar 1) (mVar 2)) mNil)))) mNil)))))
def f__law_log : FM := mFn 3 (b__law_log)
theorem sc__law_log : FnScope ["cases", "counts", "case"] ["cases"] (defScope (topS 37)) := ⟨rfl, rfl, rfl, by decide +kernel, rfl, by decide +kernel, by decide +kernel⟩
theorem cal__law_log {P : Program} {w : World} {K : PySem.W.Frag} {mg : Str → Option Value} {base : Heap} (T : Mo K mg) : CalG P w K mg base 8 "_law_log" 1 f__law_log := by
  obtain ⟨f, fd, c, Pt, F, g, b, hcode, hT, hu⟩ := T.d__law_log
  have sc := sc__law_log
  refine ⟨f, fd, _, fn_okL (k := 7) (b := b__law_log) F hcode sc rfl fun A outer s H E Pd hg hr => ?_, g, F.kp, b⟩
  exact (ss_cons (ss_set (i := 1) sc.nd (by rfl) (by first | exact .inl rfl | exact .inr rfl) se_newD)
  (ss_cons (ss_for (passes_of rfl) rfl (si_list (se_var (pv 0))) (sg_nm (i := 2) sc.nd (by rfl) (by first | exact .inl rfl | exact .inr rfl)) (ss_one (ss_setD hr (se_op or_add (se_bmD PySem.F.slot_dict_get PySem.F.type_dict_get (mm_getD hr) (se_var (pv 1)) (sa_cons (se_var (pv 2)) (sa_cons se_int sa_nil))) se_int) (se_var (pv 1)) (se_var (pv 2)))))
  (ss_one (ss_ret (se_callTy cr_tuple (by rfl) T.z_tuple (by decide +kernel) (sa_cons (se_lc (own := [("case", 2)]) rfl sc.nd (blkOk_by (show blkC ["cases", "counts", "case"] (defScope (topS 37)) _ [("case", 2)] = true from by decide +kernel)) (by decide +kernel) (si_list (se_sortKey (k := 0) rfl ⟨⟨⟨rfl, rfl, rfl, by decide +kernel, rfl, by decide +kernel, by decide +kernel⟩, rfl, by decide⟩, hr.mono (by omega), hg, fun _ _ _ _ => rfl, (kb_len (j := 0) ⟨⟨rfl, rfl, rfl, by decide +kernel, rfl, by decide +kernel, by decide +kernel⟩, rfl, by decide⟩ T.z_len (by rfl))⟩ hT hu rfl (by kernel_rfl) (by rfl) T.z_sorted (se_var (pv 1)))) (fun _ _ _ _ _ => (sg_nm (i := 2) sc.nd (by rfl) (by first | exact .inl rfl | exact .inr rfl))) (fun _ _ _ _ _ => sts_nil) (fun _ _ _ _ _ => (se_tup (sa_cons (se_var (pv 2)) (sa_cons (se_ixD hr (se_var (pv 1)) (se_var (pv 2))) sa_nil))))) sa_nil))))))
def b_spans : MS :=
  (mRet (mBf tupleF (mCons (mLcE [1, 2] (.tp [(.nm 1), (.nm 2)]) (mItT (mCall f_by_case (mCons (mVar 0) mNil))) mYes (mTup (mCons (mVar 1) (mCons (m2 subF (m2 ixF (m2 ixF (mVar 2) (m1 negF (mC (.int 1)))) (mC (.int 2))) (m2 ixF (m2 ixF (mVar 2) (mC (.int 0))) (mC (.int 2)))) mNil)))) mNil)))
def f_spans : FM := mFn 3 (b_spans)
theorem sc_spans : FnScope ["events", "number", "rows"] ["events"] (defScope (topS 21)) := ⟨rfl, rfl, rfl, by decide +kernel, rfl, by decide +kernel, by decide +kernel⟩
theorem cal_spans {P : Program} {w : World} {K : PySem.W.Frag} {mg : Str → Option Value} {base : Heap} (T : Mo K mg) : CalG P w K mg base 9 "spans" 1 f_spans := by
  obtain ⟨f, fd, F, g, b⟩ := T.d_spans
  have sc := sc_spans
  have C_by_case : CalG P w K mg base 8 "by_case" 1 f_by_case := cal_by_case T
  refine ⟨f, fd, _, fn_ok (k := 8) (b := b_spans) F sc rfl fun cdv A outer s H E Pd hg hr => ?_, g, F.kp, b⟩
  exact (ss_one (ss_ret (se_callTy cr_tuple (by rfl) T.z_tuple (by decide +kernel) (sa_cons (se_lc (own := [("number", 1), ("rows", 2)]) rfl sc.nd (blkOk_by (show blkC ["events", "number", "rows"] (defScope (topS 21)) _ [("number", 1), ("rows", 2)] = true from by decide +kernel)) (by decide +kernel) (si_tup (se_callG (C_by_case.mono) hg hr (takes_of rfl rfl rfl rfl) (by rfl) (sa_cons (se_var (pv 0)) sa_nil) (mCons_len mNil_len))) (fun _ _ _ _ _ => (sg_tp rfl (sgs_cons (sg_nm (i := 1) sc.nd (by rfl) (by first | exact .inl rfl | exact .inr rfl)) (sgs_cons (sg_nm (i := 2) sc.nd (by rfl) (by first | exact .inl rfl | exact .inr rfl)) sgs_nil)))) (fun _ _ _ _ _ => sts_nil) (fun _ _ _ _ _ => (se_tup (sa_cons (se_var (pv 1)) (sa_cons (se_op or_sub (se_ix (se_ix (se_var (pv 2)) (se_un or_neg se_int)) se_int) (se_ix (se_ix (se_var (pv 2)) se_int) se_int)) sa_nil))))) sa_nil))))
def l_behind_waits_1 : MS :=
  (mDrop (mMtL appendF (mSetdL (mVar 1) (mTup (mCons (m2 ixF (mVar 4) (mC (.int 1))) (mCons (m2 ixF (mVar 5) (mC (.int 1))) mNil)))) (mCons (m2 subF (m2 ixF (mVar 5) (mC (.int 2))) (m2 ixF (mVar 4) (mC (.int 2)))) mNil)))
def l_behind_waits_2 : MS :=
  (mFor (.tp [(.nm 4), (.nm 5)]) (mZip (mCons (mVar 3) (mCons (mSl (mVar 3) (mSo (mC (.int 1))) mNo) mNil))) l_behind_waits_1)
def b_behind_waits : MS :=
  (mSeq (mSet 1 mNewDL)
  (mSeq (mFor (.tp [(.nm 2), (.nm 3)]) (mItT (mCall f_by_case (mCons (mVar 0) mNil))) l_behind_waits_2)
  (mRet (mBf tupleF (mCons (mLcE [6] (.nm 6) (mItL (mBf sortedF (mCons (mVar 1) mNil))) mYes (mTup (mCons (mVar 6) (mCons (mBf lenF (mCons (mIxL (mVar 1) (mVar 6)) mNil)) (mCons (mBf (endFn false) (mCons (mIxL (mVar 1) (mVar 6)) mNil)) (mCons (mBf (endFn true) (mCons (mIxL (mVar 1) (mVar 6)) mNil)) (mCons (mBf sumFn (mCons (mIxL (mVar 1) (mVar 6)) mNil)) mNil))))))) mNil)))))
def f_behind_waits : FM := mFn 7 (b_behind_waits)
theorem sc_behind_waits : FnScope ["events", "found", "number", "rows", "one", "other", "two"] ["events"] (defScope (topS 22)) := ⟨rfl, rfl, rfl, by decide +kernel, rfl, by decide +kernel, by decide +kernel⟩
theorem cal_behind_waits {P : Program} {w : World} {K : PySem.W.Frag} {mg : Str → Option Value} {base : Heap} (T : Mo K mg) : CalG P w K mg base 9 "behind_waits" 1 f_behind_waits := by
  obtain ⟨f, fd, F, g, b⟩ := T.d_behind_waits
  have sc := sc_behind_waits
  have C_by_case : CalG P w K mg base 8 "by_case" 1 f_by_case := cal_by_case T
  refine ⟨f, fd, _, fn_ok (k := 8) (b := b_behind_waits) F sc rfl fun cdv A outer s H E Pd hg hr => ?_, g, F.kp, b⟩
  exact (ss_cons (ss_set (i := 1) sc.nd (by rfl) (by first | exact .inl rfl | exact .inr rfl) se_newDL)
  (ss_cons (ss_for (passes_of rfl) rfl (si_tup (se_callG (C_by_case.mono) hg hr (takes_of rfl rfl rfl rfl) (by rfl) (sa_cons (se_var (pv 0)) sa_nil) (mCons_len mNil_len))) (sg_tp rfl (sgs_cons (sg_nm (i := 2) sc.nd (by rfl) (by first | exact .inl rfl | exact .inr rfl)) (sgs_cons (sg_nm (i := 3) sc.nd (by rfl) (by first | exact .inl rfl | exact .inr rfl)) sgs_nil))) (ss_one (ss_for (passes_of rfl) rfl (si_zip (by rfl) T.z_zip (sa_cons (se_var (pv 3)) (sa_cons (se_slice (se_var (pv 3)) (so_some se_int) so_none) sa_nil))) (sg_tp rfl (sgs_cons (sg_nm (i := 4) sc.nd (by rfl) (by first | exact .inl rfl | exact .inr rfl)) (sgs_cons (sg_nm (i := 5) sc.nd (by rfl) (by first | exact .inl rfl | exact .inr rfl)) sgs_nil))) (ss_one (ss_expr (se_bmL PySem.F.slot_list_append PySem.F.type_list_append mm_append (se_setdL hr (se_var (pv 1)) (se_tup (sa_cons (se_ix (se_var (pv 4)) se_int) (sa_cons (se_ix (se_var (pv 5)) se_int) sa_nil)))) (sa_cons (se_op or_sub (se_ix (se_var (pv 5)) se_int) (se_ix (se_var (pv 4)) se_int)) sa_nil)))))))
  (ss_one (ss_ret (se_callTy cr_tuple (by rfl) T.z_tuple (by decide +kernel) (sa_cons (se_lc (own := [("two", 6)]) rfl sc.nd (blkOk_by (show blkC ["events", "found", "number", "rows", "one", "other", "two"] (defScope (topS 22)) _ [("two", 6)] = true from by decide +kernel)) (by decide +kernel) (si_list (se_callB (cr_sorted' rfl hr) (by rfl) T.z_sorted (by decide +kernel) (sa_cons (se_var (pv 1)) sa_nil))) (fun _ _ _ _ _ => (sg_nm (i := 6) sc.nd (by rfl) (by first | exact .inl rfl | exact .inr rfl))) (fun _ _ _ _ _ => sts_nil) (fun _ _ _ _ _ => (se_tup (sa_cons (se_var (pv 6)) (sa_cons (se_callB cr_len (by rfl) T.z_len (by decide +kernel) (sa_cons (se_ixL hr (se_var (pv 1)) (se_var (pv 6))) sa_nil)) (sa_cons (se_callB (cr_min1 rfl) (by rfl) T.z_min (by decide +kernel) (sa_cons (se_ixL hr (se_var (pv 1)) (se_var (pv 6))) sa_nil)) (sa_cons (se_callB (cr_max1 rfl) (by rfl) T.z_max (by decide +kernel) (sa_cons (se_ixL hr (se_var (pv 1)) (se_var (pv 6))) sa_nil)) (sa_cons (se_callB (cr_sum' rfl) (by rfl) T.z_sum (by decide +kernel) (sa_cons (se_ixL hr (se_var (pv 1)) (se_var (pv 6))) sa_nil)) sa_nil)))))))) sa_nil))))))
def l_handovers_1 : MS :=
  (mIfS (mB (m2 (eqF true) (m2 ixF (mVar 4) (mC (.int 3))) (m2 ixF (mVar 5) (mC (.int 3))))) (mSetD (m2 addF (mMtD getFD (mVar 1) (mCons (mTup (mCons (m2 ixF (mVar 4) (mC (.int 3))) (mCons (m2 ixF (mVar 5) (mC (.int 3))) mNil))) (mCons (mC (.int 0)) mNil))) (mC (.int 1))) (mVar 1) (mTup (mCons (m2 ixF (mVar 4) (mC (.int 3))) (mCons (m2 ixF (mVar 5) (mC (.int 3))) mNil)))) mSkip)
def l_handovers_2 : MS :=
  (mFor (.tp [(.nm 4), (.nm 5)]) (mZip (mCons (mVar 3) (mCons (mSl (mVar 3) (mSo (mC (.int 1))) mNo) mNil))) l_handovers_1)
def b_handovers : MS :=
  (mSeq (mSet 1 mNewD)
  (mSeq (mFor (.tp [(.nm 2), (.nm 3)]) (mItT (mCall f_by_case (mCons (mVar 0) mNil))) l_handovers_2)
  (mRet (mBf tupleF (mCons (mSortI (mVar 1)) mNil)))))
def f_handovers : FM := mFn 6 (b_handovers)
theorem sc_handovers : FnScope ["events", "found", "number", "rows", "one", "other"] ["events"] (defScope (topS 26)) := ⟨rfl, rfl, rfl, by decide +kernel, rfl, by decide +kernel, by decide +kernel⟩
theorem cal_handovers {P : Program} {w : World} {K : PySem.W.Frag} {mg : Str → Option Value} {base : Heap} (T : Mo K mg) : CalG P w K mg base 9 "handovers" 1 f_handovers := by
  obtain ⟨f, fd, F, g, b⟩ := T.d_handovers
  have sc := sc_handovers
  have C_by_case : CalG P w K mg base 8 "by_case" 1 f_by_case := cal_by_case T
  refine ⟨f, fd, _, fn_ok (k := 8) (b := b_handovers) F sc rfl fun cdv A outer s H E Pd hg hr => ?_, g, F.kp, b⟩
  exact (ss_cons (ss_set (i := 1) sc.nd (by rfl) (by first | exact .inl rfl | exact .inr rfl) se_newD)
  (ss_cons (ss_for (passes_of rfl) rfl (si_tup (se_callG (C_by_case.mono) hg hr (takes_of rfl rfl rfl rfl) (by rfl) (sa_cons (se_var (pv 0)) sa_nil) (mCons_len mNil_len))) (sg_tp rfl (sgs_cons (sg_nm (i := 2) sc.nd (by rfl) (by first | exact .inl rfl | exact .inr rfl)) (sgs_cons (sg_nm (i := 3) sc.nd (by rfl) (by first | exact .inl rfl | exact .inr rfl)) sgs_nil))) (ss_one (ss_for (passes_of rfl) rfl (si_zip (by rfl) T.z_zip (sa_cons (se_var (pv 3)) (sa_cons (se_slice (se_var (pv 3)) (so_some se_int) so_none) sa_nil))) (sg_tp rfl (sgs_cons (sg_nm (i := 4) sc.nd (by rfl) (by first | exact .inl rfl | exact .inr rfl)) (sgs_cons (sg_nm (i := 5) sc.nd (by rfl) (by first | exact .inl rfl | exact .inr rfl)) sgs_nil))) (ss_one (ss_if (st_cmp (or_ne hr) (se_ix (se_var (pv 4)) se_int) (se_ix (se_var (pv 5)) se_int)) (ss_one (ss_setD hr (se_op or_add (se_bmD PySem.F.slot_dict_get PySem.F.type_dict_get (mm_getD hr) (se_var (pv 1)) (sa_cons (se_tup (sa_cons (se_ix (se_var (pv 4)) se_int) (sa_cons (se_ix (se_var (pv 5)) se_int) sa_nil))) (sa_cons se_int sa_nil))) se_int) (se_var (pv 1)) (se_tup (sa_cons (se_ix (se_var (pv 4)) se_int) (sa_cons (se_ix (se_var (pv 5)) se_int) sa_nil))))) ss_nil)))))
  (ss_one (ss_ret (se_callTy cr_tuple (by rfl) T.z_tuple (by decide +kernel) (sa_cons (se_sortItems rfl hr (by rfl) T.z_sorted (by decide +kernel) (se_var (pv 1))) sa_nil))))))
def l_span_1 : MS :=
  (mIfS (mB (m2 (eqF false) (mVar 2) (mVar 1))) (mRet (m2 subF (m2 ixF (m2 ixF (mVar 3) (m1 negF (mC (.int 1)))) (mC (.int 2))) (m2 ixF (m2 ixF (mVar 3) (mC (.int 0))) (mC (.int 2))))) mSkip)
def b_span : MS :=
  (mSeq (mFor (.tp [(.nm 2), (.nm 3)]) (mItT (mCall f_by_case (mCons (mVar 0) mNil))) l_span_1)
  (mRaise0 "Nothing"))
def f_span : FM := mFn 4 (b_span)
theorem sc_span : FnScope ["events", "number", "its", "rows"] ["events", "number"] (defScope (topS 20)) := ⟨rfl, rfl, rfl, by decide +kernel, rfl, by decide +kernel, by decide +kernel⟩
theorem cal_span {P : Program} {w : World} {K : PySem.W.Frag} {mg : Str → Option Value} {base : Heap} (T : Mo K mg) : CalG P w K mg base 9 "span" 2 f_span := by
  obtain ⟨f, fd, F, g, b⟩ := T.d_span
  have sc := sc_span
  have C_by_case : CalG P w K mg base 8 "by_case" 1 f_by_case := cal_by_case T
  refine ⟨f, fd, _, fn_ok (k := 8) (b := b_span) F sc rfl fun cdv A outer s H E Pd hg hr => ?_, g, F.kp, b⟩
  exact (ss_cons (ss_for (passes_of rfl) rfl (si_tup (se_callG (C_by_case.mono) hg hr (takes_of rfl rfl rfl rfl) (by rfl) (sa_cons (se_var (pv 0)) sa_nil) (mCons_len mNil_len))) (sg_tp rfl (sgs_cons (sg_nm (i := 2) sc.nd (by rfl) (by first | exact .inl rfl | exact .inr rfl)) (sgs_cons (sg_nm (i := 3) sc.nd (by rfl) (by first | exact .inl rfl | exact .inr rfl)) sgs_nil))) (ss_one (ss_if (st_cmp (or_eq hr) (se_var (pv 2)) (se_var (pv 1))) (ss_one (ss_ret (se_op or_sub (se_ix (se_ix (se_var (pv 3)) (se_un or_neg se_int)) se_int) (se_ix (se_ix (se_var (pv 3)) se_int) se_int)))) ss_nil)))
  (ss_one (ss_raiseE T.x_Nothing rfl (takes_of rfl rfl rfl rfl) (by rfl))))
def l_law_1 : MS :=
  (mSeq (mIfS (mB (m2 (isF true) (mCall f_are_events (mCons (mVar 11) mNil)) (mC (.bl false)))) (mRet (mC (.bl false))) mSkip)
  (mTry1 (meets "Nothing") (mSeq (mDrop (mCall f_by_case (mCons (mVar 11) mNil)))
  (mRet (mC (.bl false)))) mCnt))
def l_law_2 : MS :=
  (mSeq (mDrop (mMtL appendF (mSetdL (mVar 6) (mTup (mCons (m2 ixF (mVar 8) (mC (.int 1))) (mCons (m2 ixF (mVar 9) (mC (.int 1))) mNil)))) (mCons (m2 subF (m2 ixF (mVar 9) (mC (.int 2))) (m2 ixF (mVar 8) (mC (.int 2)))) mNil)))
  (mIfS (mB (m2 (eqF true) (m2 ixF (mVar 8) (mC (.int 3))) (m2 ixF (mVar 9) (mC (.int 3))))) (mSetD (m2 addF (mMtD getFD (mVar 7) (mCons (mTup (mCons (m2 ixF (mVar 8) (mC (.int 3))) (mCons (m2 ixF (mVar 9) (mC (.int 3))) mNil))) (mCons (mC (.int 0)) mNil))) (mC (.int 1))) (mVar 7) (mTup (mCons (m2 ixF (mVar 8) (mC (.int 3))) (mCons (m2 ixF (mVar 9) (mC (.int 3))) mNil)))) mSkip))
def l_law_3 : MS :=
  (mSeq (mSet 3 (mCall f__law_events (mCons (mVar 1) mNil)))
  (mSeq (mSet 4 (mCall f__law_cases (mCons (mVar 3) mNil)))
  (mSeq (mIfS (mOr (mB (m2 (isF true) (mCall f_are_events (mCons (mVar 3) mNil)) (mC (.bl true)))) (mNot (mTru (mCall f__law_alike (mCons (mCall f_by_case (mCons (mVar 3) mNil)) (mCons (mBf tupleF (mCons (mVar 4) mNil)) mNil)))))) (mRet (mC (.bl false))) mSkip)
  (mSeq (mIfS (mNot (mTru (mCall f__law_alike (mCons (mCall f_log_of_events (mCons (mVar 3) mNil)) (mCons (mCall f__law_log (mCons (mLcE [12, 13] (.tp [(.nm 12), (.nm 13)]) (mItL (mVar 4)) mYes (mBf tupleF (mCons (mLcE [14] (.nm 14) (mItT (mVar 13)) mYes (m2 ixF (mVar 14) (mC (.int 1)))) mNil))) mNil)) mNil))))) (mRet (mC (.bl false))) mSkip)
  (mSeq (mSet 5 (mBf tupleF (mCons (mLcE [12, 13] (.tp [(.nm 12), (.nm 13)]) (mItL (mVar 4)) mYes (mTup (mCons (mVar 12) (mCons (m2 subF (m2 ixF (m2 ixF (mVar 13) (m1 negF (mC (.int 1)))) (mC (.int 2))) (m2 ixF (m2 ixF (mVar 13) (mC (.int 0))) (mC (.int 2)))) mNil)))) mNil)))
  (mSeq (mIfS (mNot (mTru (mCall f__law_alike (mCons (mLst (mCons (mCall f_spans (mCons (mVar 3) mNil)) (mCons (mBf tupleF (mCons (mLcE [12, 13] (.tp [(.nm 12), (.nm 13)]) (mItL (mVar 4)) mYes (mTup (mCons (mVar 12) (mCons (mCall f_span (mCons (mVar 3) (mCons (mVar 12) mNil))) mNil)))) mNil)) mNil))) (mCons (mLst (mCons (mVar 5) (mCons (mVar 5) mNil))) mNil))))) (mRet (mC (.bl false))) mSkip)
  (mSeq (mPar 6 7 (mCons mNewDL (mCons mNewD mNil)))
  (mSeq (mFor (.tp [(.nm 8), (.nm 9)]) (mItL (mCall f__law_pairs (mCons (mVar 4) mNil))) l_law_2)
  (mSeq (mSet 10 (mBf tupleF (mCons (mLcE [15] (.nm 15) (mItL (mBf sortedF (mCons (mVar 6) mNil))) mYes (mTup (mCons (mVar 15) (mCons (mBf lenF (mCons (mIxL (mVar 6) (mVar 15)) mNil)) (mCons (mBf (endFn false) (mCons (mIxL (mVar 6) (mVar 15)) mNil)) (mCons (mBf (endFn true) (mCons (mIxL (mVar 6) (mVar 15)) mNil)) (mCons (mBf sumFn (mCons (mIxL (mVar 6) (mVar 15)) mNil)) mNil))))))) mNil)))
  (mSeq (mIfS (mNot (mTru (mCall f__law_alike (mCons (mLst (mCons (mCall f_behind_waits (mCons (mVar 3) mNil)) (mCons (mCall f_handovers (mCons (mVar 3) mNil)) mNil))) (mCons (mLst (mCons (mVar 10) (mCons (mBf tupleF (mCons (mSortI (mVar 7)) mNil)) mNil))) mNil))))) (mRet (mC (.bl false))) mSkip)
  (mSeq (mIfS (mNot (mTru (mCall f__law_is_rest (mCons (mVar 1) (mCons (mVar 3) (mCons (mVar 4) mNil)))))) (mRet (mC (.bl false))) mSkip)
  (mFor (.nm 11) (mItT (mTup (mCons (mC .non) (mCons (m2 addF (mVar 3) (mTup (mCons (mTup (mCons (mC (.int 0)) (mCons (mC (.str "a")) (mCons (mC (.int 1)) mNil)))) mNil))) (mCons (mBf listF (mCons (mVar 3) mNil)) (mCons (m2 addF (mVar 3) (mTup (mCons (mTup (mCons (m1 negF (mC (.int 1))) (mCons (mC (.str "a")) (mCons (mC (.int 1)) (mCons (mC (.str "bo")) mNil))))) mNil))) (mCons (m2 addF (mVar 3) (mTup (mCons (mTup (mCons (mC (.int 0)) (mCons (mC (.str "A")) (mCons (mC (.int 1)) (mCons (mC (.str "bo")) mNil))))) mNil))) (mCons (m2 addF (mVar 3) (mTup (mCons (mTup (mCons (mC (.int 0)) (mCons (mC (.str "a")) (mCons (mC (.int 1000001)) (mCons (mC (.str "bo")) mNil))))) mNil))) mNil)))))))) l_law_1))))))))))))
def b_law : MS :=
  (mSeq (mSetNew 1 f__law_bag (mCons (mVar 0) mNil))
  (mSeq (mFor (.nm 2) (mRg1 (mCons (mC (.int 4)) mNil)) l_law_3)
  (mRet (mC (.bl true)))))
def f_law : FM := mFn 16 (b_law)
theorem sc_law : FnScope ["script", "bag", "turn", "events", "cases", "due", "waits", "hands", "one", "other", "told", "odd", "number", "rows", "event", "two"] ["script"] (defScope (topS 43)) := ⟨rfl, rfl, rfl, by decide +kernel, rfl, by decide +kernel, by decide +kernel⟩
theorem fng_law {P : Program} {w : World} {K : PySem.W.Frag} {mg : Str → Option Value} {base : Heap} (T : Mo K mg) {f : Addr} {fd : FuncData} (F : Fun K "law" "law" (topS 43) f fd) : FnG P w K mg base 12 f fd ["script"] (spOf ⟨K, mg, w, base⟩ 1 f_law) := by
  have sc := sc_law
  have C__law_bag : CalN P w K mg base 1 "_law_bag" 1 f__law_bag := cal__law_bag T
  have C__law_events : CalG P w K mg base 3 "_law_events" 1 f__law_events := cal__law_events T
  have C__law_cases : CalG P w K mg base 1 "_law_cases" 1 f__law_cases := cal__law_cases T
  have C__law_pairs : CalG P w K mg base 1 "_law_pairs" 1 f__law_pairs := cal__law_pairs T
  have C__law_alike : CalG P w K mg base 1 "_law_alike" 2 f__law_alike := cal__law_alike T
  have C__law_is_rest : CalG P w K mg base 11 "_law_is_rest" 3 f__law_is_rest := cal__law_is_rest T
  have C_are_events : CalG P w K mg base 4 "are_events" 1 f_are_events := cal_are_events T
  have C_log_of_events : CalG P w K mg base 9 "log_of_events" 1 f_log_of_events := cal_log_of_events T
  have C__law_log : CalG P w K mg base 8 "_law_log" 1 f__law_log := cal__law_log T
  have C_by_case : CalG P w K mg base 8 "by_case" 1 f_by_case := cal_by_case T
  have C_spans : CalG P w K mg base 9 "spans" 1 f_spans := cal_spans T
  have C_behind_waits : CalG P w K mg base 9 "behind_waits" 1 f_behind_waits := cal_behind_waits T
  have C_handovers : CalG P w K mg base 9 "handovers" 1 f_handovers := cal_handovers T
  have C_span : CalG P w K mg base 9 "span" 2 f_span := cal_span T
  refine fn_ok (k := 11) (b := b_law) F sc rfl fun cdv A outer s H E Pd hg hr => ?_
  exact (ss_cons (ss_setNewG (i := 1) (C__law_bag.mono) hg hr (takes_of rfl rfl rfl rfl) (by rfl) sc.nd (by rfl) (by first | exact .inl rfl | exact .inr rfl) (sa_cons (se_var (pv 0)) sa_nil) (mCons_len mNil_len))
  (ss_cons (ss_for (passes_of rfl) rfl (si_range1 (by rfl) T.z_range (sa_cons se_int sa_nil)) (sg_nm (i := 2) sc.nd (by rfl) (by first | exact .inl rfl | exact .inr rfl)) (ss_cons (ss_set (i := 3) sc.nd (by rfl) (by first | exact .inl rfl | exact .inr rfl) (se_callG (C__law_events.mono) hg hr (takes_of rfl rfl rfl rfl) (by rfl) (sa_cons (se_var (pv 1)) sa_nil) (mCons_len mNil_len)))
  (ss_cons (ss_set (i := 4) sc.nd (by rfl) (by first | exact .inl rfl | exact .inr rfl) (se_callG (C__law_cases.mono) hg hr (takes_of rfl rfl rfl rfl) (by rfl) (sa_cons (se_var (pv 3)) sa_nil) (mCons_len mNil_len)))
  (ss_cons (ss_if (st_w (sw_or (st_cmp or_isNot (se_callG (C_are_events.mono) hg hr (takes_of rfl rfl rfl rfl) (by rfl) (sa_cons (se_var (pv 3)) sa_nil) (mCons_len mNil_len)) se_bl) (sw_or1 (st_not (st_tru (se_callG (C__law_alike.mono) hg hr (takes_of rfl rfl rfl rfl) (by rfl) (sa_cons (se_callG (C_by_case.mono) hg hr (takes_of rfl rfl rfl rfl) (by rfl) (sa_cons (se_var (pv 3)) sa_nil) (mCons_len mNil_len)) (sa_cons (se_callTy cr_tuple (by rfl) T.z_tuple (by decide +kernel) (sa_cons (se_var (pv 4)) sa_nil)) sa_nil)) (mCons_len (mCons_len mNil_len)))))))) (ss_one (ss_ret se_bl)) ss_nil)
  (ss_cons (ss_if (st_not (st_tru (se_callG (C__law_alike.mono) hg hr (takes_of rfl rfl rfl rfl) (by rfl) (sa_cons (se_callG (C_log_of_events.mono) hg hr (takes_of rfl rfl rfl rfl) (by rfl) (sa_cons (se_var (pv 3)) sa_nil) (mCons_len mNil_len)) (sa_cons (se_callG (C__law_log.mono) hg hr (takes_of rfl rfl rfl rfl) (by rfl) (sa_cons (se_lc (own := [("number", 12), ("rows", 13)]) rfl sc.nd (blkOk_by (show blkC ["script", "bag", "turn", "events", "cases", "due", "waits", "hands", "one", "other", "told", "odd", "number", "rows", "event", "two"] (defScope (topS 43)) _ [("number", 12), ("rows", 13)] = true from by decide +kernel)) (by decide +kernel) (si_list (se_var (pv 4))) (fun _ _ _ _ _ => (sg_tp rfl (sgs_cons (sg_nm (i := 12) sc.nd (by rfl) (by first | exact .inl rfl | exact .inr rfl)) (sgs_cons (sg_nm (i := 13) sc.nd (by rfl) (by first | exact .inl rfl | exact .inr rfl)) sgs_nil)))) (fun _ _ _ _ _ => sts_nil) (fun _ _ _ _ _ => (se_callTy cr_tuple (by rfl) T.z_tuple (by decide +kernel) (sa_cons (se_lc (own := [("event", 14)]) rfl sc.nd (blkOk_by (show blkC ["script", "bag", "turn", "events", "cases", "due", "waits", "hands", "one", "other", "told", "odd", "number", "rows", "event", "two"] _ _ [("event", 14)] = true from by kernel_rfl)) (by decide +kernel) (si_tup (se_var (pv 13))) (fun _ _ _ _ _ => (sg_nm (i := 14) sc.nd (by rfl) (by first | exact .inl rfl | exact .inr rfl))) (fun _ _ _ _ _ => sts_nil) (fun _ _ _ _ _ => (se_ix (se_var (pv 14)) se_int))) sa_nil)))) sa_nil) (mCons_len mNil_len)) sa_nil)) (mCons_len (mCons_len mNil_len))))) (ss_one (ss_ret se_bl)) ss_nil)
  (ss_cons (ss_set (i := 5) sc.nd (by rfl) (by first | exact .inl rfl | exact .inr rfl) (se_callTy cr_tuple (by rfl) T.z_tuple (by decide +kernel) (sa_cons (se_lc (own := [("number", 12), ("rows", 13)]) rfl sc.nd (blkOk_by (show blkC ["script", "bag", "turn", "events", "cases", "due", "waits", "hands", "one", "other", "told", "odd", "number", "rows", "event", "two"] (defScope (topS 43)) _ [("number", 12), ("rows", 13)] = true from by decide +kernel)) (by decide +kernel) (si_list (se_var (pv 4))) (fun _ _ _ _ _ => (sg_tp rfl (sgs_cons (sg_nm (i := 12) sc.nd (by rfl) (by first | exact .inl rfl | exact .inr rfl)) (sgs_cons (sg_nm (i := 13) sc.nd (by rfl) (by first | exact .inl rfl | exact .inr rfl)) sgs_nil)))) (fun _ _ _ _ _ => sts_nil) (fun _ _ _ _ _ => (se_tup (sa_cons (se_var (pv 12)) (sa_cons (se_op or_sub (se_ix (se_ix (se_var (pv 13)) (se_un or_neg se_int)) se_int) (se_ix (se_ix (se_var (pv 13)) se_int) se_int)) sa_nil))))) sa_nil)))
  (ss_cons (ss_if (st_not (st_tru (se_callG (C__law_alike.mono) hg hr (takes_of rfl rfl rfl rfl) (by rfl) (sa_cons (se_lst (sa_cons (se_callG (C_spans.mono) hg hr (takes_of rfl rfl rfl rfl) (by rfl) (sa_cons (se_var (pv 3)) sa_nil) (mCons_len mNil_len)) (sa_cons (se_callTy cr_tuple (by rfl) T.z_tuple (by decide +kernel) (sa_cons (se_lc (own := [("number", 12), ("rows", 13)]) rfl sc.nd (blkOk_by (show blkC ["script", "bag", "turn", "events", "cases", "due", "waits", "hands", "one", "other", "told", "odd", "number", "rows", "event", "two"] (defScope (topS 43)) _ [("number", 12), ("rows", 13)] = true from by decide +kernel)) (by decide +kernel) (si_list (se_var (pv 4))) (fun _ _ _ _ _ => (sg_tp rfl (sgs_cons (sg_nm (i := 12) sc.nd (by rfl) (by first | exact .inl rfl | exact .inr rfl)) (sgs_cons (sg_nm (i := 13) sc.nd (by rfl) (by first | exact .inl rfl | exact .inr rfl)) sgs_nil)))) (fun _ _ _ _ _ => sts_nil) (fun _ _ _ _ _ => (se_tup (sa_cons (se_var (pv 12)) (sa_cons (se_callG (C_span.mono) hg hr takes0 (by rfl) (sa_cons (se_var (pv 3)) (sa_cons (se_var (pv 12)) sa_nil)) (mCons_len (mCons_len mNil_len))) sa_nil))))) sa_nil)) sa_nil))) (sa_cons (se_lst (sa_cons (se_var (pv 5)) (sa_cons (se_var (pv 5)) sa_nil))) sa_nil)) (mCons_len (mCons_len mNil_len))))) (ss_one (ss_ret se_bl)) ss_nil)
  (ss_cons (ss_parC rfl (sg_nm (i := 6) sc.nd (by rfl) (by first | exact .inl rfl | exact .inr rfl)) (sg_nm (i := 7) sc.nd (by rfl) (by first | exact .inl rfl | exact .inr rfl)) (sa_cons se_newDL (sa_cons se_newD sa_nil)))
  (ss_cons (ss_for (passes_of rfl) rfl (si_list (se_callG (C__law_pairs.mono) hg hr (takes_of rfl rfl rfl rfl) (by rfl) (sa_cons (se_var (pv 4)) sa_nil) (mCons_len mNil_len))) (sg_tp rfl (sgs_cons (sg_nm (i := 8) sc.nd (by rfl) (by first | exact .inl rfl | exact .inr rfl)) (sgs_cons (sg_nm (i := 9) sc.nd (by rfl) (by first | exact .inl rfl | exact .inr rfl)) sgs_nil))) (ss_cons (ss_expr (se_bmL PySem.F.slot_list_append PySem.F.type_list_append mm_append (se_setdL hr (se_var (pv 6)) (se_tup (sa_cons (se_ix (se_var (pv 8)) se_int) (sa_cons (se_ix (se_var (pv 9)) se_int) sa_nil)))) (sa_cons (se_op or_sub (se_ix (se_var (pv 9)) se_int) (se_ix (se_var (pv 8)) se_int)) sa_nil)))
  (ss_one (ss_if (st_cmp (or_ne hr) (se_ix (se_var (pv 8)) se_int) (se_ix (se_var (pv 9)) se_int)) (ss_one (ss_setD hr (se_op or_add (se_bmD PySem.F.slot_dict_get PySem.F.type_dict_get (mm_getD hr) (se_var (pv 7)) (sa_cons (se_tup (sa_cons (se_ix (se_var (pv 8)) se_int) (sa_cons (se_ix (se_var (pv 9)) se_int) sa_nil))) (sa_cons se_int sa_nil))) se_int) (se_var (pv 7)) (se_tup (sa_cons (se_ix (se_var (pv 8)) se_int) (sa_cons (se_ix (se_var (pv 9)) se_int) sa_nil))))) ss_nil))))
  (ss_cons (ss_set (i := 10) sc.nd (by rfl) (by first | exact .inl rfl | exact .inr rfl) (se_callTy cr_tuple (by rfl) T.z_tuple (by decide +kernel) (sa_cons (se_lc (own := [("two", 15)]) rfl sc.nd (blkOk_by (show blkC ["script", "bag", "turn", "events", "cases", "due", "waits", "hands", "one", "other", "told", "odd", "number", "rows", "event", "two"] (defScope (topS 43)) _ [("two", 15)] = true from by decide +kernel)) (by decide +kernel) (si_list (se_callB (cr_sorted' rfl hr) (by rfl) T.z_sorted (by decide +kernel) (sa_cons (se_var (pv 6)) sa_nil))) (fun _ _ _ _ _ => (sg_nm (i := 15) sc.nd (by rfl) (by first | exact .inl rfl | exact .inr rfl))) (fun _ _ _ _ _ => sts_nil) (fun _ _ _ _ _ => (se_tup (sa_cons (se_var (pv 15)) (sa_cons (se_callB cr_len (by rfl) T.z_len (by decide +kernel) (sa_cons (se_ixL hr (se_var (pv 6)) (se_var (pv 15))) sa_nil)) (sa_cons (se_callB (cr_min1 rfl) (by rfl) T.z_min (by decide +kernel) (sa_cons (se_ixL hr (se_var (pv 6)) (se_var (pv 15))) sa_nil)) (sa_cons (se_callB (cr_max1 rfl) (by rfl) T.z_max (by decide +kernel) (sa_cons (se_ixL hr (se_var (pv 6)) (se_var (pv 15))) sa_nil)) (sa_cons (se_callB (cr_sum' rfl) (by rfl) T.z_sum (by decide +kernel) (sa_cons (se_ixL hr (se_var (pv 6)) (se_var (pv 15))) sa_nil)) sa_nil)))))))) sa_nil)))
  (ss_cons (ss_if (st_not (st_tru (se_callG (C__law_alike.mono) hg hr (takes_of rfl rfl rfl rfl) (by rfl) (sa_cons (se_lst (sa_cons (se_callG (C_behind_waits.mono) hg hr (takes_of rfl rfl rfl rfl) (by rfl) (sa_cons (se_var (pv 3)) sa_nil) (mCons_len mNil_len)) (sa_cons (se_callG (C_handovers.mono) hg hr (takes_of rfl rfl rfl rfl) (by rfl) (sa_cons (se_var (pv 3)) sa_nil) (mCons_len mNil_len)) sa_nil))) (sa_cons (se_lst (sa_cons (se_var (pv 10)) (sa_cons (se_callTy cr_tuple (by rfl) T.z_tuple (by decide +kernel) (sa_cons (se_sortItems rfl hr (by rfl) T.z_sorted (by decide +kernel) (se_var (pv 7))) sa_nil)) sa_nil))) sa_nil)) (mCons_len (mCons_len mNil_len))))) (ss_one (ss_ret se_bl)) ss_nil)
  (ss_cons (ss_if (st_not (st_tru (se_callG (C__law_is_rest.mono) hg hr (takes_of rfl rfl rfl rfl) (by rfl) (sa_cons (se_var (pv 1)) (sa_cons (se_var (pv 3)) (sa_cons (se_var (pv 4)) sa_nil))) (mCons_len (mCons_len (mCons_len mNil_len)))))) (ss_one (ss_ret se_bl)) ss_nil)
  (ss_one (ss_for (passes_of rfl) rfl (si_tup (se_tup (sa_cons se_non (sa_cons (se_op or_add (se_var (pv 3)) (se_tup (sa_cons (se_tup (sa_cons se_int (sa_cons se_str (sa_cons se_int sa_nil)))) sa_nil))) (sa_cons (se_callTy cr_list (by rfl) T.z_list (by decide +kernel) (sa_cons (se_var (pv 3)) sa_nil)) (sa_cons (se_op or_add (se_var (pv 3)) (se_tup (sa_cons (se_tup (sa_cons (se_un or_neg se_int) (sa_cons se_str (sa_cons se_int (sa_cons se_str sa_nil))))) sa_nil))) (sa_cons (se_op or_add (se_var (pv 3)) (se_tup (sa_cons (se_tup (sa_cons se_int (sa_cons se_str (sa_cons se_int (sa_cons se_str sa_nil))))) sa_nil))) (sa_cons (se_op or_add (se_var (pv 3)) (se_tup (sa_cons (se_tup (sa_cons se_int (sa_cons se_str (sa_cons se_int (sa_cons se_str sa_nil))))) sa_nil))) sa_nil)))))))) (sg_nm (i := 11) sc.nd (by rfl) (by first | exact .inl rfl | exact .inr rfl)) (ss_cons (ss_if (st_cmp or_isNot (se_callG (C_are_events.mono) hg hr (takes_of rfl rfl rfl rfl) (by rfl) (sa_cons (se_var (pv 11)) sa_nil) (mCons_len mNil_len)) se_bl) (ss_one (ss_ret se_bl)) ss_nil)
  (ss_one (ss_tryE T.x_Nothing rfl rfl (by rfl) (takes_of rfl rfl rfl rfl) (fun W1 pn xe tk1 po => (ss_cons (ss_expr (se_callG (C_by_case.mono) hg hr tk1 (by rfl) (sa_cons (se_var (pv 11)) sa_nil) (mCons_len mNil_len)))
  (ss_one (ss_ret se_bl)))) (fun _ _ _ => (ss_one ss_cont)))))))))))))))))))
  (ss_one (ss_ret se_bl))))
end Lk74

set_option Elab.async false
set_option linter.all false
set_option maxRecDepth 100000
set_option maxHeartbeats 4000000
/-! k74: events, and the looks at them. -/
namespace Lk74
open PySem PySem.Spec PyProof.Rows L2 L2.Py
variable [Tl]

structure Ev where
  n : Int
  a : Str
  m : Int
  h : Str
def ev (e : Ev) : D := .tup [.int e.n, .str e.a, .int e.m, .str e.h]
def nmS : List Str := ["a", "b", "c"]
def hdS : List Str := ["ann", "bo", "cy"]
structure GoodW (e : Ev) : Prop where
  n0 : 0 ≤ e.n
  n1 : e.n < 1000
  a : e.a ∈ nmS
  m0 : 0 ≤ e.m
  m1 : e.m < 900
  h : e.h ∈ hdS
structure Good (e : Ev) : Prop where
  n0 : 0 ≤ e.n
  n1 : e.n < 3
  a : e.a ∈ nmS
  m0 : 0 ≤ e.m
  m1 : e.m < 12
  h : e.h ∈ hdS
theorem Good.w {e : Ev} (g : Good e) : GoodW e := ⟨g.n0, by have := g.n1; omega, g.a, g.m0, by have := g.m1; omega, g.h⟩
def evs (E : List Ev) : D := .tup (E.map ev)

theorem name_nm {x : Str} (h : x ∈ nmS) : f_is_name [.d (.str x)] [] = .ok (.bl true) [] := by
  simp only [nmS, List.mem_cons, List.not_mem_nil, or_false] at h
  rcases h with rfl | rfl | rfl <;> kernel_rfl
theorem name_hd {x : Str} (h : x ∈ hdS) : f_is_name [.d (.str x)] [] = .ok (.bl true) [] := by
  simp only [hdS, List.mem_cons, List.not_mem_nil, or_false] at h
  rcases h with rfl | rfl | rfl <;> kernel_rfl
theorem count_int (i : Int) : f_is_count [.d (.int i)] [] = .ok (.bl (decide (i ≥ 0))) [] := by rfl
theorem ev_ok {e : Ev} (g : GoodW e) : f_is_event [.d (ev e)] [] = .ok (.bl true) [] := by
  have c0 : f_is_count [.d (.int e.n)] [] = .ok (.bl true) [] := by rw [count_int, decide_eq_true g.n0]
  have c1 : f_is_count [.d (.int e.m)] [] = .ok (.bl true) [] := by rw [count_int, decide_eq_true g.m0]
  have le : leF [] (.d (.int e.m)) (.d c_MOST_MOMENT) = some (.bl true) := by
    show some (D.bl (decide (e.m ≤ 1000000))) = _
    rw [decide_eq_true (by have := g.m1; omega)]
  refine Eq.trans (fn_rt (hs1 := []) (d := .bl true) ?_) rfl
  unfold b_is_event
  refine Eq.trans (seq_nx (ρ1 := [some (.d (ev e))]) (hs1 := []) ?_) ?_
  · refine Eq.trans (if_false (hs1 := []) ?_) rfl
    refine Eq.trans (or_f (hs1 := []) rfl) ?_
    refine Eq.trans (or_f (hs1 := []) rfl) ?_
    refine or_ok (j := false) (k := false) (not_ok (k := true) (tru_bl (call1 (x := .int e.n) rfl c0))) (not_ok (k := true) (tru_bl (call1 (x := .str e.a) rfl (name_nm g.a))))
  · refine ret_ok ?_
    refine Eq.trans (andV_t (call1 (x := .int e.m) rfl c1)) ?_
    refine Eq.trans (andV_t (m2_ok (x := .d (.int e.m)) (y := .d c_MOST_MOMENT) rfl rfl le)) ?_
    exact call1 (x := .str e.h) rfl (name_hd g.h)
theorem all_true {hs : Hs} (n : Nat) : allF false hs [.d (.lst (List.replicate n (.bl true)))] = some (.bl true) := by
  have h : allBl (List.replicate n (.bl true)) = some (List.replicate n true) := by
    induction n with
    | zero => rfl
    | succ n ih => simp only [List.replicate_succ, allBl, ih]; rfl
  have v : viewL hs (.d (.lst (List.replicate n (.bl true)))) = some (List.replicate n (.bl true)) := rfl
  have z : (List.replicate n true).all id = true := by simp
  simp only [allF, v, h, Option.map_some, z]
  rfl
theorem are_ok {E : List Ev} (g : ∀ e ∈ E, GoodW e) (hl : E.length ≤ 100) : f_are_events [.d (evs E)] [] = .ok (.bl true) [] := by
  refine Eq.trans (fn_rt (hs1 := []) (d := .bl true) ?_) rfl
  unfold b_are_events
  refine ret_ok ?_
  refine Eq.trans (andV_t (hs1 := []) rfl) ?_
  have le : leF [] (.d (.int (E.map ev).length)) (.d c_MOST_EVENTS) = some (.bl true) := by
    show some (D.bl (decide (((E.map ev).length : Int) ≤ 2000))) = _
    rw [decide_eq_true (by rw [List.length_map]; omega)]
  refine Eq.trans (andV_t (m2_ok (x := .d (.int (E.map ev).length)) (y := .d c_MOST_EVENTS) rfl rfl le)) ?_
  refine bf1 (lc_all (enc := ev) (g := fun _ => .bl true) E rfl (fun e he => ⟨_, rfl, ?_⟩) (by omega)) ?_
  · exact call1 (x := ev e) rfl (ev_ok (g e he))
  · rw [List.map_const']
    exact all_true _
theorem check_ok {E : List Ev} (g : ∀ e ∈ E, GoodW e) (hl : E.length ≤ 100) : f_check_events [.d (evs E)] [] = .ok .non [] := by
  refine Eq.trans (fn_nx (hs1 := []) (ρ1 := [some (.d (evs E))]) ?_) rfl
  unfold b_check_events
  exact Eq.trans (if_false (hs1 := []) (not_ok (k := true) (tru_bl (call1 (x := evs E) rfl (are_ok g hl))))) rfl
end Lk74

set_option Elab.async false
set_option linter.all false
set_option maxRecDepth 100000
set_option maxHeartbeats 4000000
/-! k74: the cases. -/
namespace Lk74
open PySem PySem.Spec PyProof.Rows L2 L2.Py
open PySem.W (dataLe)
variable [Tl]

/-! ### the numbers, each once -/
def dstep (ks : List Int) (k : Int) : List Int := if k ∈ ks then ks else ks ++ [k]
def dist (E : List Ev) : List Int := E.foldl (fun ks e => dstep ks e.n) []
theorem dist_snoc (E : List Ev) (e : Ev) : dist (E ++ [e]) = dstep (dist E) e.n := by simp [dist]
theorem dstep_mem {ks : List Int} {k j : Int} : j ∈ dstep ks k ↔ j ∈ ks ∨ j = k := by
  unfold dstep
  split
  · rename_i h
    exact ⟨.inl, fun q => q.elim id fun z => z ▸ h⟩
  · simp
theorem dstep_nodup {ks : List Int} {k : Int} (h : ks.Nodup) : (dstep ks k).Nodup := by
  unfold dstep
  split
  · exact h
  · rename_i q
    exact List.nodup_append.mpr ⟨h, by simp, fun a ha b hb e => q (by rw [List.mem_singleton] at hb; rw [← hb, ← e]; exact ha)⟩
theorem fold_mem {j : Int} : ∀ (E : List Ev) (ks : List Int), j ∈ E.foldl (fun ks e => dstep ks e.n) ks ↔ j ∈ ks ∨ j ∈ E.map (·.n)
  | [], ks => by simp
  | e :: E, ks => by
    rw [List.foldl_cons, fold_mem E, dstep_mem, List.map_cons, List.mem_cons, or_assoc]
theorem fold_nodup : ∀ (E : List Ev) (ks : List Int), ks.Nodup → (E.foldl (fun ks e => dstep ks e.n) ks).Nodup
  | [], _, h => h
  | e :: E, ks, h => fold_nodup E _ (dstep_nodup h)
theorem dist_mem {j : Int} {E : List Ev} : j ∈ dist E ↔ j ∈ E.map (·.n) := by unfold dist; rw [fold_mem]; simp
theorem dist_nodup (E : List Ev) : (dist E).Nodup := fold_nodup E [] List.nodup_nil
theorem dist_len : ∀ (E : List Ev) (ks : List Int), (E.foldl (fun ks e => dstep ks e.n) ks).length ≤ ks.length + E.length
  | [], _ => Nat.le_refl _
  | e :: E, ks => by
    have := dist_len E (dstep ks e.n)
    have h2 : (dstep ks e.n).length ≤ ks.length + 1 := by unfold dstep; split <;> simp
    rw [List.foldl_cons, List.length_cons]; omega
theorem hasK_int {ks : List Int} {k : Int} : hasK (ks.map D.int) (.int k) = decide (k ∈ ks) := by
  unfold hasK
  rw [List.any_map]
  have : (fun x : Int => keq (D.int x) (.int k)) = fun x => decide (x = k) := by
    funext x
    rw [keq_vk rfl rfl]
    simp [toKey]
  show ks.any (fun x : Int => keq (D.int x) (.int k)) = _
  rw [this]
  induction ks with
  | nil => rfl
  | cons x r ih =>
    rw [List.any_cons, ih]
    by_cases h : x = k
    · simp [h]
    · have h' : ¬ k = x := fun z => h z.symm
      simp [h, h']
theorem putK_int {ks : List Int} {k : Int} : Py.putK (ks.map D.int) (.int k) = (dstep ks k).map .int := by
  unfold Py.putK dstep
  rw [hasK_int]
  by_cases h : k ∈ ks <;> simp [h]
theorem fit_int {ks : List Int} {k : Int} : fitK (ks.map D.int) (.int k) = true := by
  cases ks <;> rfl
theorem le_int {a b : Int} : dataLe false pyK (.int a) (.int b) = decide (a ≤ b) := by
  show (!(decide (b < a) || (!decide (a < b) && false))) = _
  by_cases h : a ≤ b
  · have h' : ¬ b < a := by omega
    simp [h, h']
  · have h' : b < a := by omega
    simp [h, h']
theorem sort_int {l : List Int} (h : l.Nodup) : sortK (l.map D.int) = (setSort l).map .int := by
  unfold sortK
  rw [← List.map_mergeSort (r := fun a b => decide (a ≤ b)) (f := D.int) (fun a _ b _ => le_int.symm)]
  congr 1
  have pw := List.pairwise_mergeSort (le := fun a b : Int => decide (a ≤ b)) (fun a b c h1 h2 => by simp only [decide_eq_true_eq] at *; omega) (fun a b => by simp only [Bool.or_eq_true, decide_eq_true_eq]; omega) l
  have pm := List.mergeSort_perm l (fun a b : Int => decide (a ≤ b))
  have nd : (l.mergeSort fun a b => decide (a ≤ b)).Nodup := pm.nodup_iff.mpr h
  refine pw_uniq ?_ (pw_setSort l) fun k => by rw [mem_setSort]; exact pm.mem_iff
  have both := pw.and nd
  exact both.imp fun {a b} hab => by
    have h1 := hab.1
    simp only [decide_eq_true_eq] at h1
    have h2 := hab.2
    omega
theorem setSort_congr {l m : List Int} (h : ∀ k, k ∈ l ↔ k ∈ m) : setSort l = setSort m :=
  pw_uniq (pw_setSort l) (pw_setSort m) fun k => by rw [mem_setSort, mem_setSort]; exact h k
theorem sortOk_int {l : List Int} (h : l.length ≤ 1000000) : sortOk (l.map D.int) = true := by
  unfold sortOk
  simp only [Bool.and_eq_true, Bool.or_eq_true, List.all_eq_true, decide_eq_true_eq, List.length_map]
  refine ⟨⟨⟨fun x hx => ?_, fun x hx y hy => ?_⟩, .inr fun x hx => ?_⟩, h⟩
  · obtain ⟨i, _, rfl⟩ := List.mem_map.mp hx; rfl
  · obtain ⟨i, _, rfl⟩ := List.mem_map.mp hx
    obtain ⟨j, _, rfl⟩ := List.mem_map.mp hy; rfl
  · obtain ⟨i, _, rfl⟩ := List.mem_map.mp hx; rfl

/-! ### the rows of a number -/
def atN (E : List Ev) (k : Int) : List Ev := E.filter fun e => decide (e.n = k)
def rows (E : List Ev) (k : Int) : List Ev := (List.range 40).flatMap fun (m : Nat) => E.filter fun e => decide (e.n = k) && decide (e.m = (m : Int))
theorem rows_at (E : List Ev) (k : Int) : rows E k = (List.range 40).flatMap fun (m : Nat) => (atN E k).filter fun e => decide (e.m = (m : Int)) := by
  unfold rows atN
  congr 1
  funext m
  rw [List.filter_filter]
  congr 1
  funext e
  rw [Bool.and_comm]
def leM (a b : Ev) : Bool := decide (a.m ≤ b.m)
theorem leM_total : PySem.W.TotalLe leM := ⟨fun a b c h1 h2 => by simp only [leM, decide_eq_true_eq] at *; omega, fun a b => by simp only [leM, decide_eq_true_eq]; omega⟩
theorem flat_one {α : Type} {c : Int} {X : List α} : ∀ n : Nat, (List.range n).flatMap (fun (m : Nat) => if (m : Int) = c then X else []) = if 0 ≤ c ∧ c < (n : Int) then X else []
  | 0 => by
    have h : ¬ (0 ≤ c ∧ c < ((0 : Nat) : Int)) := by omega
    rw [if_neg h]; rfl
  | n + 1 => by
    rw [List.range_succ, List.flatMap_append, flat_one n, List.flatMap_cons, List.flatMap_nil, List.append_nil]
    by_cases h : (n : Int) = c
    · have h1 : ¬ (0 ≤ c ∧ c < (n : Int)) := by omega
      have h2 : 0 ≤ c ∧ c < ((n + 1 : Nat) : Int) := by omega
      rw [if_neg h1, if_pos h, if_pos h2, List.nil_append]
    · rw [if_neg h, List.append_nil]
      by_cases h1 : 0 ≤ c ∧ c < (n : Int)
      · have h2 : 0 ≤ c ∧ c < ((n + 1 : Nat) : Int) := by omega
        rw [if_pos h1, if_pos h2]
      · have h2 : ¬ (0 ≤ c ∧ c < ((n + 1 : Nat) : Int)) := by omega
        rw [if_neg h1, if_neg h2]
theorem rank_m (c : Ev) : PySem.W.sameRank leM c = fun e => decide (e.m = c.m) := by
  funext e
  unfold PySem.W.sameRank leM
  rw [← Bool.decide_and]
  exact decide_eq_decide.mpr ⟨fun h => by omega, fun h => by omega⟩
theorem bucket {F : List Ev} (h : ∀ e ∈ F, 0 ≤ e.m ∧ e.m < 40) : ((List.range 40).flatMap fun (m : Nat) => F.filter fun e => decide (e.m = (m : Int))) = F.mergeSort leM := by
  refine PySem.W.sort_unique leM_total ?_ fun c => ?_
  · rw [List.pairwise_flatMap]
    refine ⟨fun m _ => ?_, ?_⟩
    · refine List.pairwise_iff_forall_sublist.mpr fun {a b} hab => ?_
      have ha := (List.mem_filter.mp (hab.subset (List.mem_cons_self))).2
      have hb := (List.mem_filter.mp (hab.subset (List.mem_cons_of_mem _ List.mem_cons_self))).2
      simp only [decide_eq_true_eq] at ha hb
      simp only [leM, decide_eq_true_eq]; omega
    · refine List.pairwise_lt_range.imp fun {m n} hmn x hx y hy => ?_
      have ha := (List.mem_filter.mp hx).2
      have hb := (List.mem_filter.mp hy).2
      simp only [decide_eq_true_eq] at ha hb
      simp only [leM, decide_eq_true_eq]; omega
  · rw [rank_m, List.filter_flatMap]
    have e : (fun (m : Nat) => (F.filter fun e => decide (e.m = (m : Int))).filter fun e => decide (e.m = c.m)) = fun (m : Nat) => if (m : Int) = c.m then F.filter (fun e => decide (e.m = c.m)) else [] := by
      funext m
      rw [List.filter_filter]
      by_cases q : (m : Int) = c.m
      · rw [if_pos q]
        refine List.filter_congr fun x _ => ?_
        rw [q]; exact Bool.and_self _
      · rw [if_neg q, List.filter_eq_nil_iff]
        intro x _ z
        simp only [Bool.and_eq_true, decide_eq_true_eq] at z
        exact q (z.2.symm.trans z.1)
    rw [e, flat_one]
    by_cases q : 0 ≤ c.m ∧ c.m < ((40 : Nat) : Int)
    · rw [if_pos q]
    · rw [if_neg q]
      symm
      rw [List.filter_eq_nil_iff]
      intro x hx z
      simp only [decide_eq_true_eq] at z
      have := h x hx
      omega
theorem rows_sorted {E : List Ev} (h : ∀ e ∈ E, 0 ≤ e.m ∧ e.m < 40) (k : Int) : rows E k = (atN E k).mergeSort leM := by
  rw [rows_at]; exact bucket fun e he => h e (List.mem_filter.mp he).1
theorem le_ev {a b : Ev} : dataLe false (fun x => pyK (keyD (kfIx 2) x)) (ev a) (ev b) = leM a b := by
  show (!(decide (b.m < a.m) || (!decide (a.m < b.m) && false))) = decide (a.m ≤ b.m)
  by_cases h : a.m ≤ b.m
  · have h' : ¬ b.m < a.m := by omega
    simp [h, h']
  · have h' : b.m < a.m := by omega
    simp [h, h']
theorem sortBy_ev {E : List Ev} (h : ∀ e ∈ E, 0 ≤ e.m ∧ e.m < 40) (k : Int) : sortBy (kfIx 2) ((atN E k).map ev) = (rows E k).map ev := by
  unfold sortBy
  rw [rows_sorted h, ← List.map_mergeSort (r := leM) (f := ev) (fun a _ b _ => le_ev.symm)]
theorem sortByOk_ev {F : List Ev} (h : F.length ≤ 1000000) : sortByOk (kfIx 2) (F.map ev) = true := by
  unfold sortByOk
  rw [Bool.and_eq_true]
  refine ⟨?_, ?_⟩
  · rw [List.all_eq_true]
    intro x hx
    obtain ⟨e, _, rfl⟩ := List.mem_map.mp hx
    rfl
  · have e : (F.map ev).map (keyD (kfIx 2)) = (F.map (·.m)).map D.int := by rw [List.map_map, List.map_map]; rfl
    rw [e]
    exact sortOk_int (by simpa using h)
end Lk74

set_option Elab.async false
set_option linter.all false
set_option maxRecDepth 100000
set_option maxHeartbeats 4000000
/-! k74: by_case and the law's own cases, run. -/
namespace Lk74
open PySem PySem.Spec PyProof.Rows L2 L2.Py
variable [Tl]

abbrev Cs := List (Int × List Ev)
/-- the cases, in order of their numbers -/
def cases (E : List Ev) : Cs := (setSort (E.map (·.n))).map fun k => (k, rows E k)
def cD (c : Int × List Ev) : D := .tup [.int c.1, .tup (c.2.map ev)]
structure GoodE (E : List Ev) : Prop where
  g : ∀ e ∈ E, GoodW e
  m : ∀ e ∈ E, e.m < 40
  few : E.length ≤ 8
theorem GoodE.len {E : List Ev} (g : GoodE E) : E.length ≤ 100 := by have := g.few; omega
theorem GoodE.m40 {E : List Ev} (g : GoodE E) : ∀ e ∈ E, 0 ≤ e.m ∧ e.m < 40 := fun e he => ⟨(g.g e he).m0, g.m e he⟩
theorem atN_snoc (E : List Ev) (e : Ev) (k : Int) : atN (E ++ [e]) k = if e.n = k then atN E k ++ [e] else atN E k := by
  unfold atN
  rw [List.filter_append]
  by_cases h : e.n = k
  · rw [if_pos h, List.filter_cons_of_pos (by simpa using h)]; rfl
  · rw [if_neg h, List.filter_cons_of_neg (by simpa using h)]; simp
theorem atN_nil {E : List Ev} {k : Int} : atN E k = [] ↔ k ∉ E.map (·.n) := by
  unfold atN
  rw [List.filter_eq_nil_iff]
  constructor
  · intro h z
    obtain ⟨e, he, q⟩ := List.mem_map.mp z
    exact h e he (by simpa using q)
  · intro h e he z
    exact h (List.mem_map.mpr ⟨e, he, by simpa using z⟩)
/-- what is known of the rows found -/
structure Fnd (done : List Ev) (G : Gr) : Prop where
  keys : G.map (·.1) = (dist done).map D.int
  row : ∀ k : Int, grow (.int k) G = if atN done k = [] then none else some ((atN done k).map ev)
  len : ∀ x ∈ G, x.2.length ≤ done.length
theorem fnd_nil : Fnd [] [] := ⟨rfl, fun k => rfl, fun x h => nomatch h⟩
theorem fnd_snoc {done : List Ev} {G : Gr} (F : Fnd done G) (e : Ev) : Fnd (done ++ [e]) (gadd (.int e.n) (ev e) G) := by
  refine ⟨?_, fun k => ?_, fun x hx => ?_⟩
  · rw [gadd_keys, F.keys, putK_int, dist_snoc]
  · rw [grow_gadd, F.row, atN_snoc]
    have e1 : keq (.int e.n) (.int k) = decide (e.n = k) := by rw [keq_vk rfl rfl]; simp [toKey]
    rw [e1]
    by_cases h : e.n = k
    · have hn : ¬ (atN done k ++ [e]) = [] := by simp
      simp only [h, decide_true, ↓reduceIte, hn]
      by_cases z : atN done k = []
      · simp [z]
      · simp [z]
    · simp [h]
  · have := gadd_rows (k := .int e.n) (v := ev e) F.len x hx
    simpa using this
theorem Fnd.glen {done : List Ev} {G : Gr} (F : Fnd done G) : G.length ≤ done.length := by
  have h := congrArg List.length F.keys
  rw [List.length_map, List.length_map] at h
  rw [h]
  have := dist_len done []
  simpa [dist] using this
theorem found_loop {E : List Ev} (g : GoodE E) {hs0 : Hs} (S0 : GS hs0 0 1 []) : ∃ x2 hs G, mForL (.nm 2) l_by_case_1 (E.map ev) [some (.d (evs E)), some (.r 0), none, none] hs0 = .nx [some (.d (evs E)), some (.r 0), x2, none] hs ∧ GS hs 0 1 G ∧ Fnd E G := by
  obtain ⟨ρ', hs', e1, x2, e2, G, S, F⟩ := forL_whole (enc := ev) (t := .nm 2) (body := l_by_case_1) (whole := E)
    (I := fun done ρ hs => ∃ x2, ρ = [some (.d (evs E)), some (.r 0), x2, none] ∧ ∃ G, GS hs 0 1 G ∧ Fnd done G)
    (fun done e rest ρ hs ew ⟨x2, er, G, S, F⟩ => by
      subst er
      have hlen : done.length ≤ 100 := by have := g.len; rw [ew] at this; simp at this; omega
      obtain ⟨hs', q1, q2, _⟩ := group_step (mo := mVar 1) (mk := m2 ixF (mVar 2) (mC (.int 0))) (mv := mVar 2) (ρ := [some (.d (evs E)), some (.r 0), some (.d (ev e)), none]) (k := .int e.n) (v := ev e) S (fun _ => rfl) (fun _ => rfl) (fun _ => rfl) (by rw [F.keys]; exact fit_int) (by have := F.glen; omega) (fun x hx => by have := F.len x hx; omega)
      exact ⟨[some (.d (evs E)), some (.r 0), some (.d (ev e)), none], [some (.d (evs E)), some (.r 0), some (.d (ev e)), none], hs', rfl, .inl q1, _, rfl, _, q2, fnd_snoc F e⟩)
    E [] _ _ rfl ⟨none, rfl, [], S0, fnd_nil⟩
  exact ⟨x2, hs', G, by rw [e1, e2], S, F⟩
theorem mem_setSort_n {E : List Ev} {k : Int} : k ∈ setSort (E.map (·.n)) ↔ k ∈ E.map (·.n) := mem_setSort
theorem setSort_len : ∀ l : List Int, (setSort l).length ≤ l.length := by
  have ins : ∀ (k : Int) (xs : List Int), (insU k xs).length ≤ xs.length + 1 := by
    intro k xs
    induction xs with
    | nil => simp [insU]
    | cons x xs ih => unfold insU; split <;> (try split) <;> simp <;> omega
  intro l
  induction l with
  | nil => simp [setSort]
  | cons x l ih => have := ins x (setSort l); simp only [setSort, List.length_cons]; omega
theorem by_case_ok {E : List Ev} (g : GoodE E) : f_by_case [.d (evs E)] [] = .ok (.tup ((cases E).map cD)) [] := by
  have S0 : GS [Cell.dl [] []] 0 1 [] := ⟨rfl, rfl, fun i x h => (by simp at h), by decide⟩
  obtain ⟨x2, hs, G, el, S, F⟩ := found_loop g S0
  have body : b_by_case [some (.d (evs E)), none, none, none] [] = .rt (.d (.tup ((cases E).map cD))) hs := by
    unfold b_by_case
    refine Eq.trans (seq_nx (drop_ok (call1 (x := evs E) rfl (check_ok g.g g.len)))) ?_
    refine Eq.trans (seq_nx (ρ1 := [some (.d (evs E)), some (.r 0), none, none]) (hs1 := [Cell.dl [] []]) rfl) ?_
    refine Eq.trans (seq_nx (Eq.trans (for_ok (items := E.map ev) rfl) el)) ?_
    refine ret_ok (bf1 (x := .d (.lst ((cases E).map cD))) ?_ rfl)
    -- the sorted numbers
    have sk : mItL (mBf sortedF (mCons (mVar 1) mNil)) [some (.d (evs E)), some (.r 0), x2, none] hs = .ok ((setSort (E.map (·.n))).map D.int) hs := by
      have s1 : sortedF hs [.r 0] = some (.lst ((setSort (E.map (·.n))).map D.int)) := by
        have hd : (dist E).length ≤ 1000000 := by have := dist_len E []; have := g.len; simp [dist] at *; omega
        simp only [sortedF, seqS, viewL, S.dl, F.keys]
        rw [if_pos (sortOk_int hd), sort_int (dist_nodup E), setSort_congr fun k => dist_mem (j := k) (E := E)]
      have s2 := bf1 (a := mVar 1) (ρ := [some (.d (evs E)), some (.r 0), x2, none]) (hs := hs) (hs1 := hs) (x := .r 0) (f := sortedF) rfl s1
      simp only [mItL, s2, Out.bind, viewL]
    have := lc_all (enc := D.int) (g := fun k => cD (k, rows E k)) (t := .nm 3) (te := mTup (mCons (mVar 3) (mCons (mBf tupleF (mCons (mSortKey (kfIx 2) (mIxL (mVar 1) (mVar 3))) mNil)) mNil))) (vs := [3]) (setSort (E.map (·.n))) sk (fun k hk => ?_) (by have := setSort_len (E.map (·.n)); have := g.len; simp at *; omega)
    · rw [this]
      unfold cases
      rw [List.map_map]; rfl
    · refine ⟨[some (.d (evs E)), some (.r 0), x2, some (.d (.int k))], rfl, ?_⟩
      have hk' : k ∈ E.map (·.n) := mem_setSort.mp hk
      have hne : ¬ atN E k = [] := fun z => atN_nil.mp z hk'
      have gr : grow (.int k) G = some ((atN E k).map ev) := by rw [F.row, if_neg hne]
      obtain ⟨m, i1, i2⟩ := group_ix (mo := mVar 1) (mk := mVar 3) (ρ := [some (.d (evs E)), some (.r 0), x2, some (.d (.int k))]) (k := .int k) S rfl rfl (by rw [F.keys]; exact fit_int) gr
      have sl : (atN E k).length ≤ 1000000 := by have := List.length_filter_le (fun e : Ev => decide (e.n = k)) E; have := g.len; unfold atN; omega
      have s1 : mSortKey (kfIx 2) (mIxL (mVar 1) (mVar 3)) [some (.d (evs E)), some (.r 0), x2, some (.d (.int k))] hs = .ok (.d (.lst ((rows E k).map ev))) hs := by
        simp only [mSortKey, i1, Out.bind, seqS, viewL, i2]
        rw [if_pos (sortByOk_ev sl), sortBy_ev g.m40]
      have s2 := bf1 (f := tupleF) s1 rfl
      exact tup2 rfl s2
  refine Eq.trans (fn_rt (hs1 := hs) body) ?_
  rfl
end Lk74

set_option Elab.async false
set_option linter.all false
set_option maxRecDepth 100000
set_option maxHeartbeats 4000000
/-! k74: the law's own cases, pairs; the loops over them. -/
namespace Lk74
open PySem PySem.Spec PyProof.Rows L2 L2.Py
variable [Tl]

theorem fn_rtL {n k : Nat} {bd : MS} {ds : List SV} {hs hs1 : Hs} {xs : List D} (h : bd (startE n ds) hs = .rt (.r k) hs1) (hk : hs.length ≤ k) (hx : hs1[k]? = some (.lst xs)) : mFn n bd ds hs = .ok (.lst xs) (hs1.take hs.length) := by
  simp only [mFn, h, Py.finish, hx]
  rw [if_neg (by omega)]
theorem newL_ok {i : Nat} {ρ : Env'} {hs : Hs} : mNewL i mNil ρ hs = .nx (ρ.set i (some (.r hs.length))) (hs ++ [.lst []]) := rfl
theorem eq_int {hs hs1 hs2 : Hs} {ρ : Env'} {a b : ME} {i j : Int} (h1 : a ρ hs = .ok (.d (.int i)) hs1) (h2 : b ρ hs1 = .ok (.d (.int j)) hs2) : mB (m2 (eqF false) a b) ρ hs = .ok (decide (i = j)) hs2 := by
  refine b_ok (m2_ok h1 h2 ?_)
  rfl
theorem range_ok {ρ : Env'} {hs hs1 : Hs} {a : ME} {z : Int} (n : Nat) (h : a ρ hs = .ok (.d (.int z)) hs1) (hz : z = (n : Int)) (hn : n ≤ 1000) : mRg1 (mCons a mNil) ρ hs = .ok ((List.range n).map fun (i : Nat) => D.int (0 + (i : Int))) hs1 := by
  subst hz
  have hb : (n : Int) < 4611686018427387904 := by omega
  simp [mRg1, mCons, mNil, h, Out.bind, rangeD, hb]
def rowsTo (E : List Ev) (k : Int) (ms : List Nat) : List Ev := ms.flatMap fun (m : Nat) => E.filter fun e => decide (e.n = k) && decide (e.m = (m : Int))
theorem flat_len {E : List Ev} {k : Int} : ∀ ms : List Nat, (rowsTo E k ms).length ≤ ms.length * E.length
  | [] => by simp [rowsTo]
  | m :: ms => by
    have ih := flat_len (E := E) (k := k) ms
    have h := List.length_filter_le (fun e : Ev => decide (e.n = k) && decide (e.m = (m : Int))) E
    unfold rowsTo at ih ⊢
    rw [List.flatMap_cons, List.length_append, List.length_cons, Nat.add_mul]
    omega
theorem cases_inner {E : List Ev} (g : GoodE E) (k : Int) {hs : Hs} {x4 : Option SV} (h0 : 0 < hs.length) : ∃ x4' hs', mFor (.nm 4) (mRg1 (mCons (mC (.int 40)) mNil)) l__law_cases_1 [some (.d (evs E)), some (.r 0), some (.d (.int k)), some (.r hs.length), x4, none] (hs ++ [.lst []]) =
    .nx [some (.d (evs E)), some (.r 0), some (.d (.int k)), some (.r hs.length), x4', none] hs' ∧ hs' = hs ++ [.lst ((rows E k).map ev)] := by
  obtain ⟨ρ', hs', e1, x4', e2, e3⟩ := forL_whole (enc := fun (i : Nat) => D.int (0 + (i : Int))) (t := .nm 4) (body := l__law_cases_1) (whole := List.range 40)
    (I := fun done ρ hs2 => ∃ x4, ρ = [some (.d (evs E)), some (.r 0), some (.d (.int k)), some (.r hs.length), x4, none] ∧ hs2 = hs ++ [.lst ((rowsTo E k done).map ev)])
    (fun done m rest ρ hs2 ew ⟨x4, er, eh⟩ => by
      subst er eh
      have hl : done.length ≤ 40 := by have := congrArg List.length ew; simp at this; omega
      refine ⟨[some (.d (evs E)), some (.r 0), some (.d (.int k)), some (.r hs.length), some (.d (.int (0 + (m : Int)))), none], [some (.d (evs E)), some (.r 0), some (.d (.int k)), some (.r hs.length), some (.d (.int (0 + (m : Int)))), none], _, rfl, .inl (ext_ok (n := hs.length) (xs := (rowsTo E k done).map ev) (ys := (E.filter fun e => decide (e.n = k) && decide (e.m = (m : Int))).map ev) (hs1 := hs ++ [.lst ((rowsTo E k done).map ev)]) rfl (by simp) ?_ (by simp) ?_), _, rfl, ?_⟩
      · refine lc_ok (enc := ev) (g := ev) E rfl (fun e he => ⟨[some (.d (evs E)), some (.r 0), some (.d (.int k)), some (.r hs.length), some (.d (.int (0 + (m : Int)))), some (.d (ev e))], rfl, ?_, fun _ => rfl⟩) (by have := g.len; omega)
        refine and_ok (eq_int (i := e.n) (j := k) rfl rfl) ?_
        have := eq_int (hs := hs ++ [.lst ((rowsTo E k done).map ev)]) (a := m2 ixF (mVar 5) (mC (.int 2))) (b := mVar 4) (ρ := [some (.d (evs E)), some (.r 0), some (.d (.int k)), some (.r hs.length), some (.d (.int (0 + (m : Int)))), some (.d (ev e))]) (i := e.m) (j := 0 + (m : Int)) rfl rfl
        rwa [Int.zero_add] at this ⊢
      · have h1 := flat_len (E := E) (k := k) done
        have h2 := List.length_filter_le (fun e : Ev => decide (e.n = k) && decide (e.m = (m : Int))) E
        have h3 := g.len
        rw [List.length_map, List.length_map]
        have h4 : done.length * E.length ≤ 40 * 100 := Nat.mul_le_mul hl h3
        omega
      · rw [List.set_append_right _ _ (Nat.le_refl _)]
        simp [rowsTo])
    (List.range 40) [] _ _ rfl ⟨x4, rfl, rfl⟩
  refine ⟨x4', hs', ?_, e3⟩
  exact Eq.trans (for_ok (range_ok 40 (z := 40) rfl rfl (by decide))) (Eq.trans e1 (by rw [e2]))
theorem sortSet_ok {ρ : Env'} {hs hs1 : Hs} {me : ME} {xs : List D} {ns : List Int} (h : me ρ hs = .ok (.d (.lst xs)) hs1) (hi : intsD xs = some ns) (hl : ns.length < 64) : mSortSet me ρ hs = .ok (.d (.lst ((setSort ns).map D.int))) hs1 := by
  simp only [mSortSet, h, Out.bind, viewL, hi, if_pos hl]
theorem law_cases_ok {E : List Ev} (g : GoodE E) : f__law_cases [.d (evs E)] [] = .ok (.lst ((cases E).map cD)) [] := by
  have ss : (mSortSet (mLcE [5] (.nm 5) (mItT (mVar 0)) mYes (m2 ixF (mVar 5) (mC (.int 0))))) [some (.d (evs E)), some (.r 0), none, none, none, none] [.lst []] = .ok (.d (.lst ((setSort (E.map (·.n))).map D.int))) [.lst []] := by
    have h1 : mLcE [5] (.nm 5) (mItT (mVar 0)) mYes (m2 ixF (mVar 5) (mC (.int 0))) [some (.d (evs E)), some (.r 0), none, none, none, none] [.lst []] = .ok (.d (.lst (E.map fun e => D.int e.n))) [.lst []] :=
      lc_all (enc := ev) (g := fun e => D.int e.n) E rfl (fun e he => ⟨_, rfl, rfl⟩) (by have := g.len; omega)
    have h2 : intsD (E.map fun e => D.int e.n) = some (E.map (·.n)) := by
      have := intsD_map (E.map (·.n))
      rwa [List.map_map] at this
    exact sortSet_ok h1 h2 (by have := g.few; simp; omega)
  obtain ⟨ρ', hs', e1, x2, x3, x4, e2, e3, e4⟩ := forL_whole (enc := D.int) (t := .nm 2) (body := l__law_cases_2) (whole := setSort (E.map (·.n)))
    (I := fun done ρ hs => ∃ x2 x3 x4, ρ = [some (.d (evs E)), some (.r 0), x2, x3, x4, none] ∧ 0 < hs.length ∧ hs[0]? = some (.lst (done.map fun k => cD (k, rows E k))))
    (fun done k rest ρ hs ew ⟨x2, x3, x4, er, h0, hc⟩ => by
      subst er
      have hl : done.length ≤ 100 := by have := congrArg List.length ew; have := setSort_len (E.map (·.n)); have := g.len; simp at *; omega
      obtain ⟨x4', hs2, f1, f2⟩ := cases_inner g k (x4 := x4) h0
      have hc2 : hs2[0]? = some (.lst (done.map fun k => cD (k, rows E k))) := by rw [f2, List.getElem?_append_left h0]; exact hc
      refine ⟨[some (.d (evs E)), some (.r 0), some (.d (.int k)), x3, x4, none], [some (.d (evs E)), some (.r 0), some (.d (.int k)), some (.r hs.length), x4', none], hs2.set 0 (.lst ((done.map fun k => cD (k, rows E k)) ++ [cD (k, rows E k)])), rfl, .inl ?_, _, _, _, rfl, ?_, ?_⟩
      · refine Eq.trans (seq_nx newL_ok) ?_
        refine Eq.trans (seq_nx f1) ?_
        have tl : mBf tupleF (mCons (mVar 3) mNil) [some (.d (evs E)), some (.r 0), some (.d (.int k)), some (.r hs.length), x4', none] hs2 = .ok (.d (.tup ((rows E k).map ev))) hs2 := by
          refine bf1 (x := .r hs.length) rfl ?_
          simp [tupleF, viewL, f2]
        exact app_ok (n := 0) rfl hc2 (tup2 (x := .int k) rfl tl) hc2 (by simp; omega)
      · rw [List.length_set, f2]; simp
      · rw [List.getElem?_set_self (by rw [f2]; simp)]; simp)
    (setSort (E.map (·.n))) [] [some (.d (evs E)), some (.r 0), none, none, none, none] [.lst []] rfl ⟨none, none, none, rfl, by decide, rfl⟩
  have body : b__law_cases [some (.d (evs E)), none, none, none, none, none] [] = .rt (.r 0) hs' := by
    unfold b__law_cases
    refine Eq.trans (seq_nx newL_ok) ?_
    refine Eq.trans (seq_nx (Eq.trans (for_ok (items := (setSort (E.map (·.n))).map D.int) (hs1 := [.lst []]) ?_) e1)) ?_
    · show mItL _ [some (.d (evs E)), some (.r 0), none, none, none, none] [.lst []] = _
      simp only [mItL, ss, Out.bind, viewL]
    · rw [e2]; rfl
  have e5 : (setSort (E.map (·.n))).map (fun k => cD (k, rows E k)) = (cases E).map cD := by unfold cases; rw [List.map_map]; rfl
  rw [← e5]
  exact Eq.trans (fn_rtL (hs1 := hs') body (Nat.zero_le _) e4) rfl
end Lk74

set_option Elab.async false
set_option linter.all false
set_option maxRecDepth 100000
set_option maxHeartbeats 4000000
/-! k74: pairs of rows, waits and hands. -/
namespace Lk74
open PySem PySem.Spec PyProof.Rows L2 L2.Py
variable [Tl]

theorem cut_from {α : Type} (xs : List α) (k : Nat) {z : Int} (hz : z = (k : Int)) : cutL xs (some z) none = xs.drop k := by
  subst hz
  unfold cutL
  rw [HT.sIx_none, HT.sIx_nat]
  by_cases h : k ≤ xs.length
  · rw [Nat.min_eq_left h]
    exact List.take_of_length_le (by simp)
  · rw [Nat.min_eq_right (by omega), List.drop_of_length_le (Nat.le_refl _), List.drop_of_length_le (by omega)]; simp
theorem at_nat {α : Type} {xs : List α} {k : Nat} {z : Int} (hz : z = (k : Int)) (h : k < xs.length) : atI xs z = xs[k]? := by
  subst hz
  unfold atI ixN
  rw [if_pos (by omega), if_pos (by omega)]
  rfl
theorem at_last {α : Type} {xs : List α} (h : xs ≠ []) : atI xs (-1) = some (xs.getLast h) := by
  have hp : 0 < xs.length := List.length_pos_iff.mpr h
  unfold atI ixN
  rw [if_neg (by omega), if_pos (by omega)]
  rw [List.getLast_eq_getElem]
  have e : (-1 + (xs.length : Int)).toNat = xs.length - 1 := by omega
  first
    | (rw [e]; exact List.getElem?_eq_getElem _)
    | (have e2 : ((xs.length : Int) + -1).toNat = xs.length - 1 := by omega
       rw [e2]; exact List.getElem?_eq_getElem _)
abbrev Pr := Ev × Ev
def encP (p : Pr) : D := .tup [ev p.1, ev p.2]
def prs (r : List Ev) : List Pr := r.zip r.tail
theorem zip_prs (r s : List Ev) : zipD (r.map ev) (s.map ev) = (r.zip s).map encP := by
  induction r generalizing s with
  | nil => rfl
  | cons a r ih =>
    cases s with
    | nil => rfl
    | cons b s => simp only [List.map_cons, List.zip_cons_cons, zipD, ih]; rfl
theorem prs_get (r : List Ev) : (List.range (r.length - 1)).map (fun k => (r[k]?, r[k + 1]?)) = (prs r).map fun p => (some p.1, some p.2) := by
  apply List.ext_getElem?
  intro i
  unfold prs
  rw [List.getElem?_map, List.getElem?_map, List.zip, List.getElem?_zipWith, List.getElem?_tail]
  by_cases h : i < r.length - 1
  · rw [List.getElem?_range h, List.getElem?_eq_getElem (by omega : i < r.length), List.getElem?_eq_getElem (by omega : i + 1 < r.length)]
    simp only [Option.map_some]
    rw [List.getElem?_eq_getElem (by omega : i < r.length), List.getElem?_eq_getElem (by omega : i + 1 < r.length)]
  · rw [List.getElem?_eq_none (by simpa using h)]
    by_cases h2 : i + 1 < r.length
    · omega
    · rw [List.getElem?_eq_none (by omega : r.length ≤ i + 1)]
      cases r[i]? <;> rfl
/-- zip(rows, rows[1:]) -/
theorem zip_ok {ρ : Env'} {hs : Hs} {a b : ME} {r : List Ev} (h1 : a ρ hs = .ok (.d (.tup (r.map ev))) hs) (h2 : b ρ hs = .ok (.d (.tup (r.map ev))) hs) : mZip (mCons a (mCons (mSl b (mSo (mC (.int 1))) mNo) mNil)) ρ hs = .ok ((prs r).map encP) hs := by
  have e : mSl b (mSo (mC (.int 1))) mNo ρ hs = .ok (.d (.tup (r.tail.map ev))) hs := by
    simp only [mSl, h2, Out.bind, mSo, mC, mNo, slF, ofO]
    rw [cut_from _ (z := 1) 1 rfl, List.map_tail, List.drop_one]
  have e2 : mCons a (mCons (mSl b (mSo (mC (.int 1))) mNo) mNil) ρ hs = .ok [.d (.tup (r.map ev)), .d (.tup (r.tail.map ev))] hs := cons_ok h1 (cons_ok e rfl)
  simp only [mZip, e2, Out.bind]
  rw [zip_prs]; rfl

/-! ### groups of waits -/
def wk (p : Pr) : D := .tup [.str p.1.a, .str p.2.a]
def wv (p : Pr) : D := .int (p.2.m - p.1.m)
def wG (ps : List Pr) : Gr := ps.foldl (fun G p => gadd (wk p) (wv p) G) []
theorem wG_snoc (ps : List Pr) (p : Pr) : wG (ps ++ [p]) = gadd (wk p) (wv p) (wG ps) := by simp [wG]
/-- keys that are two texts -/
def two (d : D) : Prop := ∃ x y : Str, d = .tup [.str x, .str y]
theorem two_fit {ks : List D} {k : D} (h : ∀ x ∈ ks, two x) (hk : two k) : fitK ks k = true := by
  obtain ⟨a, b, rfl⟩ := hk
  cases ks with
  | nil => rfl
  | cons x r =>
    obtain ⟨c, d, rfl⟩ := h x List.mem_cons_self
    rfl
structure WG (ps : List Pr) (G : Gr) : Prop where
  keys : ∀ x ∈ G.map (·.1), two x
  glen : G.length ≤ ps.length
  len : ∀ x ∈ G, x.2.length ≤ ps.length
theorem putK_mem {ks : List D} {k x : D} (h : x ∈ Py.putK ks k) : x ∈ ks ∨ x = k := by
  unfold Py.putK at h
  split at h
  · exact .inl h
  · rcases List.mem_append.mp h with h | h
    · exact .inl h
    · exact .inr (List.mem_singleton.mp h)
theorem wg_nil : WG [] [] := ⟨fun _ h => (by simp at h), Nat.le_refl _, fun _ h => nomatch h⟩
theorem wg_snoc {ps : List Pr} {G : Gr} (W : WG ps G) (p : Pr) : WG (ps ++ [p]) (gadd (wk p) (wv p) G) := by
  refine ⟨fun x hx => ?_, ?_, fun x hx => ?_⟩
  · rw [gadd_keys] at hx
    rcases putK_mem hx with h | rfl
    · exact W.keys x h
    · exact ⟨_, _, rfl⟩
  · have := gadd_len (k := wk p) (v := wv p) G
    have := W.glen
    simp; omega
  · have := gadd_rows (k := wk p) (v := wv p) W.len x hx
    simpa using this
theorem wg_all (ps : List Pr) : WG ps (wG ps) := by
  have key : ∀ (qs done : List Pr), WG done (wG done) → WG (done ++ qs) (wG (done ++ qs)) := by
    intro qs
    induction qs with
    | nil => intro done h; simpa using h
    | cons q qs ih =>
      intro done h
      have := ih (done ++ [q]) (by rw [wG_snoc]; exact wg_snoc h q)
      simpa using this
  have := key ps [] wg_nil
  simpa using this
def allP (C : Cs) : List Pr := C.flatMap fun c => prs c.2
theorem allP_snoc (C : Cs) (c : Int × List Ev) : allP (C ++ [c]) = allP C ++ prs c.2 := by simp [allP]

/-! ### counts of hands -/
def hk (p : Pr) : D := .tup [.str p.1.h, .str p.2.h]
def hstep (C : Ct) (p : Pr) : Ct := if p.1.h = p.2.h then C else cadd (hk p) C
def hC (ps : List Pr) : Ct := ps.foldl hstep ⟨[], []⟩
theorem hC_snoc (ps : List Pr) (p : Pr) : hC (ps ++ [p]) = hstep (hC ps) p := by simp [hC]
structure HC (q : D → Prop) (n : Nat) (C : Ct) : Prop where
  keys : ∀ x ∈ C.ks, q x
  len : C.ks.length ≤ n
  same : C.ks.length = C.ns.length
  pos : ∀ i ∈ C.ns, 0 ≤ i ∧ i ≤ (n : Int)
theorem cadd_hc {q : D → Prop} {n : Nat} {C : Ct} {k : D} (h : HC q n C) (hk : q k) : HC q (n + 1) (cadd k C) := by
  refine ⟨fun x hx => ?_, ?_, ?_, fun i hi => ?_⟩
  · rcases putK_mem hx with z | rfl
    · exact h.keys x z
    · exact hk
  · have := putK_le C.ks k
    have := h.len
    show (Py.putK C.ks k).length ≤ _
    omega
  · exact (putA_length h.same).symm
  · have lk : 0 ≤ (lookA C.ks C.ns k).getD 0 ∧ (lookA C.ks C.ns k).getD 0 ≤ (n : Int) := by
      cases e : lookA C.ks C.ns k with
      | none => exact ⟨Int.le_refl 0, by show (0 : Int) ≤ n; omega⟩
      | some j =>
        have : j ∈ C.ns := by
          clear hi h
          generalize C.ks = ks at e
          generalize C.ns = ns at e ⊢
          induction ks generalizing ns with
          | nil => simp [lookA] at e
          | cons x ks ih =>
            cases ns with
            | nil => simp [lookA] at e
            | cons y ns =>
              simp only [lookA] at e
              split at e
              · cases e; exact List.mem_cons_self
              · exact List.mem_cons_of_mem _ (ih ns e)
        exact h.pos j this
    have hset : ∀ (ks : List D) (ns : List Int) (a : Int), ∀ i ∈ setA ks ns k a, i ∈ ns ∨ i = a := by
      intro ks
      induction ks with
      | nil => intro ns a i hi; simp [setA] at hi
      | cons x ks ih =>
        intro ns a i hi
        cases ns with
        | nil => simp [setA] at hi
        | cons y ns =>
          simp only [setA] at hi
          rcases List.mem_cons.mp hi with z | z
          · split at z
            · exact .inr z
            · exact .inl (by rw [z]; exact List.mem_cons_self)
          · rcases ih ns a i z with z | z
            · exact .inl (List.mem_cons_of_mem _ z)
            · exact .inr z
    have hi' : i ∈ putA C.ks C.ns k ((lookA C.ks C.ns k).getD 0 + 1) := hi
    unfold putA at hi'
    have fin : i ∈ C.ns ∨ i = (lookA C.ks C.ns k).getD 0 + 1 := by
      split at hi'
      · exact hset _ _ _ i hi'
      · rcases List.mem_append.mp hi' with z | z
        · exact .inl z
        · exact .inr (List.mem_singleton.mp z)
    rcases fin with z | z
    · have := h.pos i z; omega
    · omega
theorem hc_mono {q : D → Prop} {n m : Nat} {C : Ct} (h : HC q n C) (hnm : n ≤ m) : HC q m C := ⟨h.keys, Nat.le_trans h.len hnm, h.same, fun i hi => by have := h.pos i hi; omega⟩
theorem hc_snoc {ps : List Pr} (p : Pr) (h : HC two ps.length (hC ps)) : HC two (ps ++ [p]).length (hC (ps ++ [p])) := by
  rw [hC_snoc, List.length_append, List.length_singleton]
  unfold hstep
  split
  · exact hc_mono h (Nat.le_succ _)
  · exact cadd_hc h ⟨_, _, rfl⟩
theorem hc_all (ps : List Pr) : HC two ps.length (hC ps) := by
  have key : ∀ (qs done : List Pr), HC two done.length (hC done) → HC two (done ++ qs).length (hC (done ++ qs)) := by
    intro qs
    induction qs with
    | nil => intro done h; simpa using h
    | cons q qs ih =>
      intro done h
      have := ih (done ++ [q]) (hc_snoc q h)
      simpa using this
  have := key ps [] ⟨(fun _ h => nomatch h), Nat.le_refl _, rfl, (fun _ h => nomatch h)⟩
  simpa using this
end Lk74

set_option Elab.async false
set_option linter.all false
set_option maxRecDepth 100000
set_option maxHeartbeats 4000000
/-! k74: behind_waits, handovers, run. -/
namespace Lk74
open PySem PySem.Spec PyProof.Rows L2 L2.Py
variable [Tl]

structure GoodC (C : Cs) : Prop where
  ev : ∀ c ∈ C, ∀ e ∈ c.2, GoodW e ∧ e.m < 40
  ne : ∀ c ∈ C, c.2 ≠ []
  rl : ∀ c ∈ C, c.2.length ≤ 8
  len : C.length ≤ 3
theorem prs_len (r : List Ev) : (prs r).length ≤ r.length := by unfold prs; rw [List.length_zip]; exact Nat.min_le_left _ _
theorem allP_len {C : Cs} (h : ∀ c ∈ C, c.2.length ≤ 8) : (allP C).length ≤ C.length * 8 := by
  induction C with
  | nil => simp [allP]
  | cons c C ih =>
    have h1 := ih fun x hx => h x (List.mem_cons_of_mem _ hx)
    have h2 := h c List.mem_cons_self
    have h3 := prs_len c.2
    unfold allP at h1 ⊢
    rw [List.flatMap_cons, List.length_append, List.length_cons, Nat.add_mul]
    omega
theorem GoodC.all {C : Cs} (g : GoodC C) : (allP C).length ≤ 24 := by
  have := allP_len g.rl
  have := g.len
  omega
theorem waits_inner {E : List Ev} (done : List Pr) (r : List Ev) (hl : done.length + r.length ≤ 900) {n : Int} {x4 x5 : Option SV} {hs : Hs} (S : GS hs 0 1 (wG done)) :
    ∃ x4' x5' hs', l_behind_waits_2 [some (.d (evs E)), some (.r 0), some (.d (.int n)), some (.d (.tup (r.map ev))), x4, x5, none] hs = .nx [some (.d (evs E)), some (.r 0), some (.d (.int n)), some (.d (.tup (r.map ev))), x4', x5', none] hs' ∧ GS hs' 0 1 (wG (done ++ prs r)) := by
  obtain ⟨ρ', hs', e1, x4', x5', e2, S'⟩ := forL_whole (enc := encP) (t := .tp [.nm 4, .nm 5]) (body := l_behind_waits_1) (whole := prs r)
    (I := fun d ρ hs => ∃ x4 x5, ρ = [some (.d (evs E)), some (.r 0), some (.d (.int n)), some (.d (.tup (r.map ev))), x4, x5, none] ∧ GS hs 0 1 (wG (done ++ d)))
    (fun d p rest ρ hs ew ⟨x4, x5, er, S⟩ => by
      subst er
      have hd : (done ++ d).length ≤ 900 := by have := prs_len r; have := congrArg List.length ew; simp at *; omega
      have W := wg_all (done ++ d)
      obtain ⟨hs2, q1, q2, _⟩ := group_step (mo := mVar 1) (mk := mTup (mCons (m2 ixF (mVar 4) (mC (.int 1))) (mCons (m2 ixF (mVar 5) (mC (.int 1))) mNil))) (mv := m2 subF (m2 ixF (mVar 5) (mC (.int 2))) (m2 ixF (mVar 4) (mC (.int 2))))
        (ρ := [some (.d (evs E)), some (.r 0), some (.d (.int n)), some (.d (.tup (r.map ev))), some (.d (ev p.1)), some (.d (ev p.2)), none]) (k := wk p) (v := wv p) S (fun _ => rfl) (fun _ => tup2 rfl rfl) (fun _ => rfl) (two_fit W.keys ⟨_, _, rfl⟩) (by have := W.glen; omega) (fun x hx => by have := W.len x hx; omega)
      refine ⟨_, _, hs2, rfl, .inl q1, some (.d (ev p.1)), some (.d (ev p.2)), rfl, ?_⟩
      rw [← List.append_assoc, wG_snoc]
      exact q2)
    (prs r) [] _ _ rfl ⟨x4, x5, rfl, by rw [List.append_nil]; exact S⟩
  exact ⟨x4', x5', hs', Eq.trans (for_ok (zip_ok (r := r) rfl rfl)) (Eq.trans e1 (by rw [e2])), S'⟩
/-- the row of a told wait -/
def intsO : List D → List Int
  | .int i :: r => i :: intsO r
  | _ => []
def toldD (G : Gr) (k : D) : D :=
  let r := intsO ((grow k G).getD [])
  .tup [k, .int r.length, .int (r.tail.foldl min (r.headD 0)), .int (r.tail.foldl max (r.headD 0)), .int r.sum]
def told (G : Gr) : D := .tup ((sortK (G.map (·.1))).map (toldD G))
theorem allInt_map : ∀ ns : List Int, allInt (ns.map D.int) = some ns
  | [] => rfl
  | n :: ns => by simp only [List.map_cons, allInt, allInt_map ns]; rfl
theorem intsO_map : ∀ ns : List Int, intsO (ns.map D.int) = ns
  | [] => rfl
  | n :: ns => by simp only [List.map_cons, intsO, intsO_map ns]
/-- one told wait -/
theorem told_ok {ρ : Env'} {hs : Hs} {p b : Nat} {G : Gr} {a c : ME} {k : D} {ns : List Int} (S : GS hs p b G) (ha : a ρ hs = .ok (.r p) hs) (hk : c ρ hs = .ok (.d k) hs) (hf : fitK (G.map (·.1)) k = true) (h : grow k G = some (ns.map D.int)) (hn : ns ≠ []) :
    mTup (mCons c (mCons (mBf lenF (mCons (mIxL a c) mNil)) (mCons (mBf (endFn false) (mCons (mIxL a c) mNil)) (mCons (mBf (endFn true) (mCons (mIxL a c) mNil)) (mCons (mBf sumFn (mCons (mIxL a c) mNil)) mNil))))) ρ hs = .ok (.d (toldD G k)) hs := by
  obtain ⟨m, i1, i2⟩ := group_ix S ha hk hf h
  obtain ⟨j, js, rfl⟩ : ∃ j js, ns = j :: js := by
    cases ns with
    | nil => exact absurd rfl hn
    | cons j js => exact ⟨j, js, rfl⟩
  have vw : viewL hs (.r m) = some ((j :: js).map D.int) := by simp only [viewL, i2]
  have e : toldD G k = .tup [k, .int ((j :: js).map D.int).length, .int (js.foldl min j), .int (js.foldl max j), .int (j :: js).sum] := by
    unfold toldD
    rw [h]
    simp only [Option.getD_some, intsO_map, List.length_map]
    rfl
  rw [e]
  refine tup5 hk (bf1 i1 ?_) (bf1 i1 ?_) (bf1 i1 ?_) (bf1 i1 ?_)
  · simp only [lenF, vw, Option.map_some]
  · simp only [endFn, vw, Option.bind_some, allInt_map]; rfl
  · simp only [endFn, vw, Option.bind_some, allInt_map]; rfl
  · simp only [sumFn, vw, Option.bind_some, allInt_map]
/-- the waits under a key are ints, and some -/
theorem wG_rows (ps : List Pr) : ∀ k r, grow k (wG ps) = some r → ∃ ns : List Int, r = ns.map D.int ∧ ns ≠ [] := by
  have key : ∀ (qs done : List Pr), (∀ k r, grow k (wG done) = some r → ∃ ns : List Int, r = ns.map D.int ∧ ns ≠ []) → ∀ k r, grow k (wG (done ++ qs)) = some r → ∃ ns : List Int, r = ns.map D.int ∧ ns ≠ [] := by
    intro qs
    induction qs with
    | nil => intro done h; simpa using h
    | cons q qs ih =>
      intro done h
      have := ih (done ++ [q]) (fun k r hr => by
        rw [wG_snoc, grow_gadd] at hr
        split at hr
        · cases hr
          cases e : grow k (wG done) with
          | none => exact ⟨[q.2.m - q.1.m], rfl, by simp⟩
          | some r0 =>
            obtain ⟨ns, rfl, _⟩ := h k r0 e
            exact ⟨ns ++ [q.2.m - q.1.m], by simp [wv], by simp⟩
        · exact h k r hr)
      simpa using this
  have := key ps [] (fun k r h => by cases h)
  simpa using this
theorem grow_some {k : D} : ∀ G : Gr, k ∈ G.map (·.1) → (∃ r, grow k G = some r)
  | [], h => by simp at h
  | p :: r, h => by
    unfold grow
    split
    · exact ⟨_, rfl⟩
    · rename_i q
      rcases List.mem_cons.mp h with z | z
      · exact absurd (by rw [keq_eq, show k = p.1 from z]; simp) q
      · exact grow_some r z
theorem sortOk_two {ks : List D} (h : ∀ x ∈ ks, two x) (hl : ks.length ≤ 1000000) : sortOk ks = true := by
  unfold sortOk
  simp only [Bool.and_eq_true, Bool.or_eq_true, List.all_eq_true, decide_eq_true_eq]
  refine ⟨⟨⟨fun x hx => ?_, fun x hx y hy => ?_⟩, .inl fun x hx => ?_⟩, hl⟩
  · obtain ⟨a, b, rfl⟩ := h x hx; rfl
  · obtain ⟨a, b, rfl⟩ := h x hx
    obtain ⟨c, d, rfl⟩ := h y hy; rfl
  · obtain ⟨a, b, rfl⟩ := h x hx; rfl
/-- the told waits, of any text that has the dict -/
theorem told_list {ρ : Env'} {hs : Hs} {p b : Nat} {ps : List Pr} {a : ME} {vs : List Nat} {t : Nat} {c : ME} (S : GS hs p b (wG ps)) (hl : ps.length ≤ 900) (ha : ∀ k : D, ∃ ρ1, mTg (.nm t) (.d k) (wipeE ρ vs) = some ρ1 ∧ a ρ1 hs = .ok (.r p) hs ∧ c ρ1 hs = .ok (.d k) hs) (ha0 : a ρ hs = .ok (.r p) hs) :
    mLcE vs (.nm t) (mItL (mBf sortedF (mCons a mNil))) mYes (mTup (mCons c (mCons (mBf lenF (mCons (mIxL a c) mNil)) (mCons (mBf (endFn false) (mCons (mIxL a c) mNil)) (mCons (mBf (endFn true) (mCons (mIxL a c) mNil)) (mCons (mBf sumFn (mCons (mIxL a c) mNil)) mNil)))))) ρ hs = .ok (.d (.lst ((sortK ((wG ps).map (·.1))).map (toldD (wG ps))))) hs := by
  have W := wg_all ps
  have sk : mItL (mBf sortedF (mCons a mNil)) ρ hs = .ok ((sortK ((wG ps).map (·.1))).map id) hs := by
    have s1 : sortedF hs [.r p] = some (.lst (sortK ((wG ps).map (·.1)))) := by
      simp only [sortedF, seqS, viewL, S.dl]
      rw [if_pos (sortOk_two W.keys (by rw [List.length_map]; have := W.glen; omega))]
    have s2 := bf1 (f := sortedF) ha0 s1
    simp only [mItL, s2, Out.bind, viewL, List.map_id]
  have hlen : (sortK ((wG ps).map (·.1))).length ≤ 16777216 := by
    unfold sortK
    rw [List.length_mergeSort, List.length_map]
    have := W.glen; omega
  refine lc_all (enc := id) (g := toldD (wG ps)) _ sk (fun k hk => ?_) hlen
  have hk' : k ∈ (wG ps).map (·.1) := List.mem_mergeSort.mp hk
  obtain ⟨ρ1, r1, r2, r3⟩ := ha k
  obtain ⟨r, gr⟩ := grow_some _ hk'
  obtain ⟨ns, rfl, hn⟩ := wG_rows ps k r gr
  exact ⟨ρ1, r1, told_ok S r2 r3 (two_fit W.keys (W.keys k hk')) gr hn⟩
theorem behind_ok {E : List Ev} (g : GoodE E) (gc : GoodC (cases E)) : f_behind_waits [.d (evs E)] [] = .ok (told (wG (allP (cases E)))) [] := by
  obtain ⟨ρ', hs', e1, x2, x3, x4, x5, e2, S⟩ := forL_whole (enc := cD) (t := .tp [.nm 2, .nm 3]) (body := l_behind_waits_2) (whole := cases E)
    (I := fun d ρ hs => ∃ x2 x3 x4 x5, ρ = [some (.d (evs E)), some (.r 0), x2, x3, x4, x5, none] ∧ GS hs 0 1 (wG (allP d)))
    (fun d c rest ρ hs ew ⟨x2, x3, x4, x5, er, S⟩ => by
      subst er
      have hc : c ∈ cases E := by rw [ew]; simp
      have hd : (allP d).length ≤ d.length * 8 := allP_len fun x hx => gc.rl x (by rw [ew]; simp [hx])
      have hdl : d.length ≤ 3 := by have := gc.len; have := congrArg List.length ew; simp at this; omega
      have := gc.rl c hc
      obtain ⟨x4', x5', hs2, q1, q2⟩ := waits_inner (E := E) (allP d) c.2 (by omega) (n := c.1) (x4 := x4) (x5 := x5) S
      exact ⟨_, _, hs2, rfl, .inl q1, _, _, _, _, rfl, by rw [allP_snoc]; exact q2⟩)
    (cases E) [] [some (.d (evs E)), some (.r 0), none, none, none, none, none] [Cell.dl [] []] rfl ⟨none, none, none, none, rfl, rfl, rfl, fun i x h => (by simp [allP, wG] at h), by decide⟩
  have body : b_behind_waits [some (.d (evs E)), none, none, none, none, none, none] [] = .rt (.d (told (wG (allP (cases E))))) hs' := by
    unfold b_behind_waits
    refine Eq.trans (seq_nx (ρ1 := [some (.d (evs E)), some (.r 0), none, none, none, none, none]) (hs1 := [Cell.dl [] []]) rfl) ?_
    refine Eq.trans (seq_nx (Eq.trans (for_ok (items := (cases E).map cD) (hs1 := [Cell.dl [] []]) ?_) e1)) ?_
    · have := call1 (a := mVar 0) (ρ := [some (.d (evs E)), some (.r 0), none, none, none, none, none]) (hs := [Cell.dl [] []]) (x := evs E) rfl (by_case_ok g)
      simp only [mItT, this, Out.bind]
    · rw [e2]
      refine ret_ok (bf1 (told_list (a := mVar 1) (c := mVar 6) S (by have := gc.all; omega) (fun k => ⟨_, rfl, rfl, rfl⟩) rfl) rfl)
  exact Eq.trans (fn_rt (hs1 := hs') body) rfl
end Lk74

set_option Elab.async false
set_option linter.all false
set_option maxRecDepth 100000
set_option maxHeartbeats 4000000
/-! k74: handovers, works_of, logs, spans. -/
namespace Lk74
open PySem PySem.Spec PyProof.Rows L2 L2.Py
variable [Tl]

theorem nm_ok {x : Str} (h : x ∈ nmS) : PyData.strOk x = true := by
  simp only [nmS, List.mem_cons, List.not_mem_nil, or_false] at h
  rcases h with rfl | rfl | rfl <;> decide +kernel
theorem hd_ok {x : Str} (h : x ∈ hdS) : PyData.strOk x = true := by
  simp only [hdS, List.mem_cons, List.not_mem_nil, or_false] at h
  rcases h with rfl | rfl | rfl <;> decide +kernel
theorem eqF_str {hs : Hs} {x y : Str} (h1 : PyData.strOk x = true) (h2 : PyData.strOk y = true) (neg : Bool) : eqF neg hs (.d (.str x)) (.d (.str y)) = some (.bl (if neg = true then !decide (x = y) else decide (x = y))) := by
  have c : fitEq (.str x) (.str y) = true := by
    unfold fitEq
    simp only [PyData.canLay0, h1, h2, Bool.and_eq_true, decide_eq_true_eq]
    exact ⟨⟨trivial, trivial⟩, (show min 0 0 ≤ 150 by decide)⟩
  have r : PyData.eqv (.str x) (.str y) = decide (x = y) := by
    show (x == y) = _
    rfl
  simp only [eqF, Py.dataOf, toPy, if_pos c, r]
theorem eq_strB {hs hs1 hs2 : Hs} {ρ : Env'} {a b : ME} {x y : Str} (h1 : a ρ hs = .ok (.d (.str x)) hs1) (h2 : b ρ hs1 = .ok (.d (.str y)) hs2) (k1 : PyData.strOk x = true) (k2 : PyData.strOk y = true) : mB (m2 (eqF false) a b) ρ hs = .ok (decide (x = y)) hs2 :=
  b_ok (m2_ok h1 h2 (eqF_str k1 k2 false))
theorem ne_strB {hs hs1 hs2 : Hs} {ρ : Env'} {a b : ME} {x y : Str} (h1 : a ρ hs = .ok (.d (.str x)) hs1) (h2 : b ρ hs1 = .ok (.d (.str y)) hs2) (k1 : PyData.strOk x = true) (k2 : PyData.strOk y = true) : mB (m2 (eqF true) a b) ρ hs = .ok (!decide (x = y)) hs2 :=
  b_ok (m2_ok h1 h2 (eqF_str k1 k2 true))
theorem set_same {α : Type} : ∀ {xs : List α} {i : Nat} {a : α}, xs[i]? = some a → xs.set i a = xs
  | [], i, a, h => by simp at h
  | x :: xs, 0, a, h => by simp at h; subst h; rfl
  | x :: xs, i + 1, a, h => by rw [List.set_cons_succ, set_same (by simpa using h)]
/-- the step of hands -/
theorem hand_step {ρ : Env'} {hs : Hs} {p : Nat} {C : Ct} {o a b : ME} {q : Pr} {n : Nat} (S : hs[p]? = some (ctCell C)) (H : HC two n C) (hn : n ≤ 900) (ho : ∀ hs, o ρ hs = .ok (.r p) hs) (ha : ∀ hs, a ρ hs = .ok (.d (.str q.1.h)) hs) (hb : ∀ hs, b ρ hs = .ok (.d (.str q.2.h)) hs) (k1 : q.1.h ∈ hdS) (k2 : q.2.h ∈ hdS) :
    ∃ hs', mIfS (mB (m2 (eqF true) a b)) (mSetD (m2 addF (mMtD getFD o (mCons (mTup (mCons a (mCons b mNil))) (mCons (mC (.int 0)) mNil))) (mC (.int 1))) o (mTup (mCons a (mCons b mNil)))) mSkip ρ hs = .nx ρ hs' ∧ hs' = hs.set p (ctCell (hstep C q)) := by
  have t := ne_strB (ha hs) (hb hs) (hd_ok k1) (hd_ok k2)
  by_cases h : q.1.h = q.2.h
  · rw [decide_eq_true h] at t
    refine ⟨hs, Eq.trans (if_false t) rfl, ?_⟩
    unfold hstep
    rw [if_pos h]
    exact (set_same S).symm
  · rw [decide_eq_false h] at t
    refine ⟨_, Eq.trans (if_true t) (count_step S ho (fun hs => tup2 (ha hs) (hb hs)) (two_fit H.keys ⟨_, _, rfl⟩) (by have := H.len; omega)), ?_⟩
    unfold hstep
    rw [if_neg h]; rfl

theorem prs_mem {r : List Ev} {p : Pr} (h : p ∈ prs r) : p.1 ∈ r ∧ p.2 ∈ r := by
  unfold prs at h
  obtain ⟨h1, h2⟩ := List.of_mem_zip (show (p.1, p.2) ∈ r.zip r.tail from h)
  exact ⟨h1, List.mem_of_mem_tail h2⟩
theorem hands_inner {E : List Ev} (done : List Pr) (r : List Ev) (gr : ∀ e ∈ r, GoodW e) (hl : done.length + r.length ≤ 900) {n : Int} {x4 x5 : Option SV} {hs : Hs} (S : hs[0]? = some (ctCell (hC done))) :
    ∃ x4' x5' hs', l_handovers_2 [some (.d (evs E)), some (.r 0), some (.d (.int n)), some (.d (.tup (r.map ev))), x4, x5] hs = .nx [some (.d (evs E)), some (.r 0), some (.d (.int n)), some (.d (.tup (r.map ev))), x4', x5'] hs' ∧ hs'[0]? = some (ctCell (hC (done ++ prs r))) := by
  obtain ⟨ρ', hs', e1, x4', x5', e2, S'⟩ := forL_whole (enc := encP) (t := .tp [.nm 4, .nm 5]) (body := l_handovers_1) (whole := prs r)
    (I := fun d ρ hs => ∃ x4 x5, ρ = [some (.d (evs E)), some (.r 0), some (.d (.int n)), some (.d (.tup (r.map ev))), x4, x5] ∧ hs[0]? = some (ctCell (hC (done ++ d))))
    (fun d p rest ρ hs ew ⟨x4, x5, er, S⟩ => by
      subst er
      have hd : (done ++ d).length ≤ 900 := by have := prs_len r; have := congrArg List.length ew; simp at *; omega
      have hp := prs_mem (r := r) (p := p) (by rw [ew]; simp)
      obtain ⟨hs2, q1, q2⟩ := hand_step (o := mVar 1) (a := m2 ixF (mVar 4) (mC (.int 3))) (b := m2 ixF (mVar 5) (mC (.int 3))) (q := p)
        (ρ := [some (.d (evs E)), some (.r 0), some (.d (.int n)), some (.d (.tup (r.map ev))), some (.d (ev p.1)), some (.d (ev p.2))]) S (hc_all (done ++ d)) hd (fun _ => rfl) (fun _ => rfl) (fun _ => rfl) (gr _ hp.1).h (gr _ hp.2).h
      refine ⟨_, _, hs2, rfl, .inl q1, some (.d (ev p.1)), some (.d (ev p.2)), rfl, ?_⟩
      rw [← List.append_assoc, hC_snoc, q2, List.getElem?_set_self (List.getElem?_eq_some_iff.mp S).1])
    (prs r) [] _ _ rfl ⟨x4, x5, rfl, by rw [List.append_nil]; exact S⟩
  exact ⟨x4', x5', hs', Eq.trans (for_ok (zip_ok (r := r) rfl rfl)) (Eq.trans e1 (by rw [e2])), S'⟩
def itemsD (C : Ct) : List D := pairsD C.ks (C.ns.map .int)
def handsD (C : Ct) : D := .tup (sortK (itemsD C))
theorem items_shape {C : Ct} (h : ∀ x ∈ C.ks, two x) : ∀ d ∈ itemsD C, ∃ a b i, d = .tup [.tup [.str a, .str b], .int i] := by
  intro d hd
  obtain ⟨j, hj⟩ := List.getElem?_of_mem hd
  unfold itemsD pairsD at hj
  rw [List.getElem?_zipWith] at hj
  cases e1 : C.ks[j]? with
  | none => rw [e1] at hj; cases hj
  | some k =>
    rw [e1, List.getElem?_map] at hj
    cases e2 : C.ns[j]? with
    | none => rw [e2] at hj; cases hj
    | some i =>
      rw [e2] at hj
      cases hj
      obtain ⟨a, b, rfl⟩ := h k (List.mem_of_getElem? e1)
      exact ⟨a, b, i, rfl⟩
theorem sortOk_items {C : Ct} {n : Nat} (H : HC two n C) (hn : n ≤ 1000000) : sortOk (itemsD C) = true := by
  have sh := items_shape H.keys
  unfold sortOk
  simp only [Bool.and_eq_true, Bool.or_eq_true, List.all_eq_true, decide_eq_true_eq]
  refine ⟨⟨⟨fun x hx => ?_, fun x hx y hy => ?_⟩, .inl fun x hx => ?_⟩, ?_⟩
  · obtain ⟨a, b, i, rfl⟩ := sh x hx; rfl
  · obtain ⟨a, b, i, rfl⟩ := sh x hx
    obtain ⟨c, d, j, rfl⟩ := sh y hy; rfl
  · obtain ⟨a, b, i, rfl⟩ := sh x hx; rfl
  · unfold itemsD pairsD
    rw [List.length_zipWith]
    have := H.len
    omega
theorem items_ok {ρ : Env'} {hs : Hs} {p n : Nat} {C : Ct} {o : ME} (S : hs[p]? = some (ctCell C)) (H : HC two n C) (hn : n ≤ 1000000) (ho : o ρ hs = .ok (.r p) hs) : mBf tupleF (mCons (mSortI o) mNil) ρ hs = .ok (.d (handsD C)) hs := by
  have e : mSortI o ρ hs = .ok (.d (.lst (sortK (itemsD C)))) hs := by
    have v : viewD hs (.r p) = some (C.ks, C.ns.map .int) := by
      have S' : hs[p]? = some (.dct C.ks (C.ns.map .int)) := S
      simp only [viewD, S']
    simp only [mSortI, ho, Out.bind, v]
    exact if_pos (sortOk_items H hn)
  exact bf1 e rfl
theorem hand_ok {E : List Ev} (g : GoodE E) (gc : GoodC (cases E)) : f_handovers [.d (evs E)] [] = .ok (handsD (hC (allP (cases E)))) [] := by
  obtain ⟨ρ', hs', e1, x2, x3, x4, x5, e2, S⟩ := forL_whole (enc := cD) (t := .tp [.nm 2, .nm 3]) (body := l_handovers_2) (whole := cases E)
    (I := fun d ρ hs => ∃ x2 x3 x4 x5, ρ = [some (.d (evs E)), some (.r 0), x2, x3, x4, x5] ∧ hs[0]? = some (ctCell (hC (allP d))))
    (fun d c rest ρ hs ew ⟨x2, x3, x4, x5, er, S⟩ => by
      subst er
      have hc : c ∈ cases E := by rw [ew]; simp
      have hd : (allP d).length ≤ d.length * 8 := allP_len fun x hx => gc.rl x (by rw [ew]; simp [hx])
      have hdl : d.length ≤ 3 := by have := gc.len; have := congrArg List.length ew; simp at this; omega
      have := gc.rl c hc
      obtain ⟨x4', x5', hs2, q1, q2⟩ := hands_inner (E := E) (allP d) c.2 (fun e he => (gc.ev c hc e he).1) (by omega) (n := c.1) (x4 := x4) (x5 := x5) S
      exact ⟨_, _, hs2, rfl, .inl q1, _, _, _, _, rfl, by rw [allP_snoc]; exact q2⟩)
    (cases E) [] [some (.d (evs E)), some (.r 0), none, none, none, none] [Cell.dct [] []] rfl ⟨none, none, none, none, rfl, rfl⟩
  have body : b_handovers [some (.d (evs E)), none, none, none, none, none] [] = .rt (.d (handsD (hC (allP (cases E))))) hs' := by
    unfold b_handovers
    refine Eq.trans (seq_nx (ρ1 := [some (.d (evs E)), some (.r 0), none, none, none, none]) (hs1 := [Cell.dct [] []]) rfl) ?_
    refine Eq.trans (seq_nx (Eq.trans (for_ok (items := (cases E).map cD) (hs1 := [Cell.dct [] []]) ?_) e1)) ?_
    · have := call1 (a := mVar 0) (ρ := [some (.d (evs E)), some (.r 0), none, none, none, none]) (hs := [Cell.dct [] []]) (x := evs E) rfl (by_case_ok g)
      simp only [mItT, this, Out.bind]
    · rw [e2]
      exact ret_ok (items_ok S (hc_all _) (by have := gc.all; omega) rfl)
  exact Eq.trans (fn_rt (hs1 := hs') body) rfl

/-! ### works_of, and the law's own counts of works -/
def ok2 (e : Ev) : D := .tup [.str e.h, .str e.a]
def oC (E : List Ev) : Ct := E.foldl (fun C e => cadd (ok2 e) C) ⟨[], []⟩
theorem oC_snoc (E : List Ev) (e : Ev) : oC (E ++ [e]) = cadd (ok2 e) (oC E) := by simp [oC]
theorem oc_all (E : List Ev) : HC two E.length (oC E) := by
  have key : ∀ (qs done : List Ev), HC two done.length (oC done) → HC two (done ++ qs).length (oC (done ++ qs)) := by
    intro qs
    induction qs with
    | nil => intro done h; simpa using h
    | cons q qs ih =>
      intro done h
      have := ih (done ++ [q]) (by rw [oC_snoc, List.length_append]; exact cadd_hc h ⟨_, _, rfl⟩)
      simpa using this
  have := key E [] ⟨(fun _ h => nomatch h), Nat.le_refl _, rfl, (fun _ h => nomatch h)⟩
  simpa using this
theorem works_ok {E : List Ev} (g : GoodE E) : f_works_of [.d (evs E)] [] = .ok (handsD (oC E)) [] := by
  obtain ⟨ρ', hs', e1, x2, x3, x4, x5, e2, S⟩ := forL_whole (enc := ev) (t := .tp [.nm 2, .nm 3, .nm 4, .nm 5]) (body := l_works_of_1) (whole := E)
    (I := fun d ρ hs => ∃ x2 x3 x4 x5, ρ = [some (.d (evs E)), some (.r 0), x2, x3, x4, x5] ∧ hs[0]? = some (ctCell (oC d)))
    (fun d e rest ρ hs ew ⟨x2, x3, x4, x5, er, S⟩ => by
      subst er
      have hd : d.length ≤ 8 := by have := g.few; have := congrArg List.length ew; simp at this; omega
      have H := oc_all d
      refine ⟨[some (.d (evs E)), some (.r 0), some (.d (.int e.n)), some (.d (.str e.a)), some (.d (.int e.m)), some (.d (.str e.h))], _, _, rfl, .inl (count_step (p := 0) (k := ok2 e) S (fun _ => rfl) (fun _ => tup2 rfl rfl) (two_fit H.keys ⟨_, _, rfl⟩) (by have := H.len; omega)), _, _, _, _, rfl, ?_⟩
      rw [oC_snoc, List.getElem?_set_self (List.getElem?_eq_some_iff.mp S).1])
    E [] [some (.d (evs E)), some (.r 0), none, none, none, none] [Cell.dct [] []] rfl ⟨none, none, none, none, rfl, rfl⟩
  have body : b_works_of [some (.d (evs E)), none, none, none, none, none] [] = .rt (.d (handsD (oC E))) hs' := by
    unfold b_works_of
    refine Eq.trans (seq_nx (drop_ok (call1 (x := evs E) rfl (check_ok g.g g.len)))) ?_
    refine Eq.trans (seq_nx (ρ1 := [some (.d (evs E)), some (.r 0), none, none, none, none]) (hs1 := [Cell.dct [] []]) rfl) ?_
    refine Eq.trans (seq_nx (Eq.trans (for_ok (items := E.map ev) (hs1 := [Cell.dct [] []]) rfl) e1)) ?_
    rw [e2]
    exact ret_ok (items_ok S (oc_all _) (by have := g.few; omega) rfl)
  exact Eq.trans (fn_rt (hs1 := hs') body) rfl
end Lk74

set_option Elab.async false
set_option linter.all false
set_option maxRecDepth 100000
set_option maxHeartbeats 4000000
/-! k74: logs, spans. -/
namespace Lk74
open PySem PySem.Spec PyProof.Rows L2 L2.Py
variable [Tl]

/-- a key that is a tuple of texts -/
def sq (d : D) : Prop := ∃ l : List Str, l ≠ [] ∧ d = .tup (l.map .str)
theorem keyInL_str : ∀ (n : Nat) (l : List Str), keyInL n (l.map .str) = true
  | _, [] => rfl
  | n, x :: l => by simp only [List.map_cons, keyInL, keyInL_str n l, keyIn]; rfl
theorem sq_tk {d : D} (h : sq d) : isTK d = true := by
  obtain ⟨l, _, rfl⟩ := h
  exact keyInL_str 7 l
theorem sq_fit {ks : List D} {k : D} (h : ∀ x ∈ ks, sq x) (hk : sq k) : fitK ks k = true := by
  have t := sq_tk hk
  cases ks with
  | nil => simp only [fitK, t, Bool.or_true]
  | cons x r =>
    have t2 := sq_tk (h x List.mem_cons_self)
    simp only [fitK, t, t2, Bool.and_true, Bool.or_true]
theorem alike_str : ∀ l m : List Str, PySem.W.alikeAll (pyKL (l.map .str)) (pyKL (m.map .str)) = true
  | [], m => by cases m <;> rfl
  | _ :: _, [] => rfl
  | x :: l, y :: m => by
    show (PySem.W.alike (.str x) (.str y) && PySem.W.alikeAll (pyKL (l.map .str)) (pyKL (m.map .str))) = true
    rw [alike_str l m]; rfl
theorem kf_sq {d : D} (h : sq d) : ∃ l : List Str, l ≠ [] ∧ d = .tup (l.map .str) ∧ kfLen d = some (.tup [.int l.length, d]) := by
  obtain ⟨l, h0, rfl⟩ := h
  refine ⟨l, h0, rfl, ?_⟩
  have k7 : keyIn 7 (.tup (l.map .str)) = true := keyInL_str 6 l
  simp only [kfLen, k7, ↓reduceIte, List.length_map]
theorem sortByOk_sq {ks : List D} (h : ∀ x ∈ ks, sq x) (hl : ks.length ≤ 1000000) : sortByOk kfLen ks = true := by
  unfold sortByOk
  rw [Bool.and_eq_true]
  have key : ∀ d ∈ ks.map (keyD kfLen), ∃ l : List Str, d = .tup [.int l.length, .tup (l.map .str)] := by
    intro d hd
    obtain ⟨x, hx, rfl⟩ := List.mem_map.mp hd
    obtain ⟨l, _, rfl, e⟩ := kf_sq (h x hx)
    exact ⟨l, by simp only [keyD, e]; rfl⟩
  refine ⟨?_, ?_⟩
  · rw [List.all_eq_true]
    intro x hx
    obtain ⟨l, _, rfl, e⟩ := kf_sq (h x hx)
    rw [e, Bool.and_eq_true]
    exact ⟨keyInL_str 7 l, rfl⟩
  · unfold sortOk
    simp only [Bool.and_eq_true, Bool.or_eq_true, List.all_eq_true, decide_eq_true_eq]
    refine ⟨⟨⟨fun x hx => ?_, fun x hx y hy => ?_⟩, .inl fun x hx => ?_⟩, by simpa using hl⟩
    · obtain ⟨l, rfl⟩ := key x hx
      show (keyIn 7 (.int l.length) && (keyIn 7 (.tup (l.map .str)) && true)) = true
      rw [show keyIn 7 (.tup (l.map .str)) = true from keyInL_str 6 l]; rfl
    · obtain ⟨l, rfl⟩ := key x hx
      obtain ⟨m, rfl⟩ := key y hy
      show (PySem.W.alike (.int l.length) (.int m.length) && (PySem.W.alikeAll (pyKL (l.map .str)) (pyKL (m.map .str)) && true)) = true
      rw [alike_str]; rfl
    · obtain ⟨l, rfl⟩ := key x hx; rfl
def lC (ks : List D) : Ct := ks.foldl (fun C k => cadd k C) ⟨[], []⟩
theorem lC_snoc (ks : List D) (k : D) : lC (ks ++ [k]) = cadd k (lC ks) := by simp [lC]
theorem lc_hc {ks : List D} (h : ∀ k ∈ ks, sq k) : HC sq ks.length (lC ks) := by
  have key : ∀ (qs done : List D), (∀ k ∈ qs, sq k) → HC sq done.length (lC done) → HC sq (done ++ qs).length (lC (done ++ qs)) := by
    intro qs
    induction qs with
    | nil => intro done _ h; simpa using h
    | cons q qs ih =>
      intro done hq h
      have := ih (done ++ [q]) (fun k hk => hq k (List.mem_cons_of_mem _ hk)) (by rw [lC_snoc, List.length_append]; exact cadd_hc h (hq q List.mem_cons_self))
      simpa using this
  have := key ks [] h ⟨(fun _ h => nomatch h), Nat.le_refl _, rfl, (fun _ h => nomatch h)⟩
  simpa using this
def logK (C : Ct) (k : D) : D := .tup [k, .int ((lookA C.ks C.ns k).getD 0)]
def logD (C : Ct) : D := .tup ((sortBy kfLen C.ks).map (logK C))
theorem look_mem {k : D} : ∀ {ks : List D} {ns : List Int}, ks.length = ns.length → k ∈ ks → ∃ i, lookA ks ns k = some i
  | [], _, _, h => by simp at h
  | _ :: _, [], h, _ => by simp at h
  | x :: ks, y :: ns, hl, h => by
    unfold lookA
    split
    · exact ⟨_, rfl⟩
    · rename_i q
      rcases List.mem_cons.mp h with z | z
      · exact absurd (by rw [keq_eq, z]; simp) q
      · exact look_mem (by simpa using hl) z
theorem log_list {ρ : Env'} {hs : Hs} {p n : Nat} {C : Ct} {a c : ME} {vs : List Nat} {t : Nat} (S : hs[p]? = some (ctCell C)) (H : HC sq n C) (hn : n ≤ 900) (ha0 : a ρ hs = .ok (.r p) hs)
    (ha : ∀ k : D, ∃ ρ1, mTg (.nm t) (.d k) (wipeE ρ vs) = some ρ1 ∧ a ρ1 hs = .ok (.r p) hs ∧ c ρ1 hs = .ok (.d k) hs) :
    mBf tupleF (mCons (mLcE vs (.nm t) (mItL (mSortKey kfLen a)) mYes (mTup (mCons c (mCons (m2 ixFD a c) mNil)))) mNil) ρ hs = .ok (.d (logD C)) hs := by
  have S' : hs[p]? = some (.dct C.ks (C.ns.map .int)) := S
  have hl : C.ks.length ≤ 900 := Nat.le_trans H.len hn
  have sk : mItL (mSortKey kfLen a) ρ hs = .ok ((sortBy kfLen C.ks).map id) hs := by
    have s1 : mSortKey kfLen a ρ hs = .ok (.d (.lst (sortBy kfLen C.ks))) hs := by
      simp only [mSortKey, ha0, Out.bind, seqS, viewL, S']
      exact if_pos (sortByOk_sq H.keys (by omega))
    simp only [mItL, s1, Out.bind, viewL, List.map_id]
  have len2 : (sortBy kfLen C.ks).length ≤ 16777216 := by unfold sortBy; rw [List.length_mergeSort]; omega
  refine bf1 (lc_all (enc := id) (g := logK C) _ sk (fun k hk => ?_) len2) rfl
  have hk' : k ∈ C.ks := List.mem_mergeSort.mp hk
  obtain ⟨ρ1, r1, r2, r3⟩ := ha k
  refine ⟨ρ1, r1, tup2 r3 (m2_ok r2 r3 ?_)⟩
  obtain ⟨i, hi⟩ := look_mem H.same hk'
  have v : viewD hs (.r p) = some (C.ks, C.ns.map .int) := by simp only [viewD, S']
  simp only [ixFD, v, dgF, sq_fit H.keys (H.keys k hk'), ↓reduceIte, lookA_map, hi, Option.map_some, Option.join_some, Option.getD_some]
def nmT (r : List Ev) : D := .tup (r.map fun e => .str e.a)
theorem nmT_sq {r : List Ev} (h : r ≠ []) : sq (nmT r) := ⟨r.map (·.a), by simpa using h, by unfold nmT; rw [List.map_map]; rfl⟩
def keysC (C : Cs) : List D := C.map fun c => nmT c.2
theorem keysC_len (C : Cs) : (keysC C).length = C.length := by simp [keysC]
theorem keysC_sq {C : Cs} (g : ∀ c ∈ C, c.2 ≠ []) : ∀ k ∈ keysC C, sq k := by
  intro k hk
  obtain ⟨c, hc, rfl⟩ := List.mem_map.mp hk
  exact nmT_sq (g c hc)
theorem log_ok {E : List Ev} (g : GoodE E) (gc : GoodC (cases E)) : f_log_of_events [.d (evs E)] [] = .ok (logD (lC (keysC (cases E)))) [] := by
  obtain ⟨ρ', hs', e1, x2, x3, x4, e2, S⟩ := forL_whole (enc := cD) (t := .tp [.nm 2, .nm 3]) (body := l_log_of_events_1) (whole := cases E)
    (I := fun d ρ hs => ∃ x2 x3 x4, ρ = [some (.d (evs E)), some (.r 0), x2, x3, x4, none] ∧ hs[0]? = some (ctCell (lC (keysC d))))
    (fun d c rest ρ hs ew ⟨x2, x3, x4, er, S⟩ => by
      subst er
      have hc : c ∈ cases E := by rw [ew]; simp
      have hdl : d.length ≤ 3 := by have := gc.len; have := congrArg List.length ew; simp at this; omega
      have hd : ∀ k ∈ keysC d, sq k := keysC_sq fun x hx => gc.ne x (by rw [ew]; simp [hx])
      have H := lc_hc hd
      have hr := gc.rl c hc
      have nt : mBf tupleF (mCons (mLcE [5] (.nm 5) (mItT (mVar 3)) mYes (m2 ixF (mVar 5) (mC (.int 1)))) mNil) [some (.d (evs E)), some (.r 0), some (.d (.int c.1)), some (.d (.tup (c.2.map ev))), x4, none] hs = .ok (.d (nmT c.2)) hs :=
        bf1 (lc_all (enc := ev) (g := fun e => .str e.a) c.2 rfl (fun e he => ⟨_, rfl, rfl⟩) (by omega)) rfl
      refine ⟨[some (.d (evs E)), some (.r 0), some (.d (.int c.1)), some (.d (.tup (c.2.map ev))), x4, none], _, _, rfl, .inl (Eq.trans (seq_nx (set_ok nt)) (count_step (p := 0) (k := nmT c.2) S (fun _ => rfl) (fun _ => rfl) (sq_fit H.keys (nmT_sq (gc.ne c hc))) (by have := H.len; rw [keysC_len] at this; omega))), _, _, _, rfl, ?_⟩
      rw [List.getElem?_set_self (List.getElem?_eq_some_iff.mp S).1]
      unfold keysC
      rw [List.map_append]
      exact congrArg (fun z => some (ctCell z)) (lC_snoc _ _).symm)
    (cases E) [] [some (.d (evs E)), some (.r 0), none, none, none, none] [Cell.dct [] []] rfl ⟨none, none, none, rfl, rfl⟩
  have body : b_log_of_events [some (.d (evs E)), none, none, none, none, none] [] = .rt (.d (logD (lC (keysC (cases E))))) hs' := by
    unfold b_log_of_events
    refine Eq.trans (seq_nx (ρ1 := [some (.d (evs E)), some (.r 0), none, none, none, none]) (hs1 := [Cell.dct [] []]) rfl) ?_
    refine Eq.trans (seq_nx (Eq.trans (for_ok (items := (cases E).map cD) (hs1 := [Cell.dct [] []]) ?_) e1)) ?_
    · have := call1 (a := mVar 0) (ρ := [some (.d (evs E)), some (.r 0), none, none, none, none]) (hs := [Cell.dct [] []]) (x := evs E) rfl (by_case_ok g)
      simp only [mItT, this, Out.bind]
    · rw [e2]
      exact ret_ok (log_list S (lc_hc (keysC_sq gc.ne)) (by have := gc.len; simp [keysC]; omega) rfl fun k => ⟨_, rfl, rfl, rfl⟩)
  exact Eq.trans (fn_rt (hs1 := hs') body) rfl
theorem law_log_ok {C : Cs} (gc : GoodC C) : f__law_log [.d (.lst (keysC C))] [] = .ok (logD (lC (keysC C))) [] := by
  obtain ⟨ρ', hs', e1, x2, e2, S⟩ := forL_whole (enc := fun c : Int × List Ev => nmT c.2) (t := .nm 2) (body := l__law_log_1) (whole := C)
    (I := fun d ρ hs => ∃ x2, ρ = [some (.d (.lst (keysC C))), some (.r 0), x2] ∧ hs[0]? = some (ctCell (lC (keysC d))))
    (fun d c rest ρ hs ew ⟨x2, er, S⟩ => by
      subst er
      have hc : c ∈ C := by rw [ew]; simp
      have hdl : d.length ≤ 3 := by have := gc.len; have := congrArg List.length ew; simp at this; omega
      have hd : ∀ k ∈ keysC d, sq k := keysC_sq fun x hx => gc.ne x (by rw [ew]; simp [hx])
      have H := lc_hc hd
      refine ⟨[some (.d (.lst (keysC C))), some (.r 0), some (.d (nmT c.2))], _, _, rfl, .inl (count_step (p := 0) (k := nmT c.2) S (fun _ => rfl) (fun _ => rfl) (sq_fit H.keys (nmT_sq (gc.ne c hc))) (by have := H.len; rw [keysC_len] at this; omega)), _, rfl, ?_⟩
      rw [List.getElem?_set_self (List.getElem?_eq_some_iff.mp S).1]
      unfold keysC
      rw [List.map_append]
      exact congrArg (fun z => some (ctCell z)) (lC_snoc _ _).symm)
    C [] [some (.d (.lst (keysC C))), some (.r 0), none] [Cell.dct [] []] rfl ⟨none, rfl, rfl⟩
  have body : b__law_log [some (.d (.lst (keysC C))), none, none] [] = .rt (.d (logD (lC (keysC C)))) hs' := by
    unfold b__law_log
    refine Eq.trans (seq_nx (ρ1 := [some (.d (.lst (keysC C))), some (.r 0), none]) (hs1 := [Cell.dct [] []]) rfl) ?_
    refine Eq.trans (seq_nx (Eq.trans (for_ok (items := keysC C) (hs1 := [Cell.dct [] []]) rfl) e1)) ?_
    rw [e2]
    exact ret_ok (log_list S (lc_hc (keysC_sq gc.ne)) (by have := gc.len; simp [keysC]; omega) rfl fun k => ⟨_, rfl, rfl, rfl⟩)
  exact Eq.trans (fn_rt (hs1 := hs') body) rfl
end Lk74

set_option Elab.async false
set_option linter.all false
set_option maxRecDepth 100000
set_option maxHeartbeats 4000000
/-! k74: spans, pairs, the law's own waits and hands. -/
namespace Lk74
open PySem PySem.Spec PyProof.Rows L2 L2.Py
variable [Tl]

def fstM (r : List Ev) : Int := (r.head?.map (·.m)).getD 0
def lstM (r : List Ev) : Int := (r.getLast?.map (·.m)).getD 0
theorem last_ok {ρ : Env'} {hs : Hs} {a : ME} {r : List Ev} (h : r ≠ []) (ha : a ρ hs = .ok (.d (.tup (r.map ev))) hs) : m2 ixF (m2 ixF a (m1 negF (mC (.int 1)))) (mC (.int 2)) ρ hs = .ok (.d (.int (lstM r))) hs := by
  have e1 : m1 negF (mC (.int 1)) ρ hs = .ok (.d (.int (-1))) hs := rfl
  have hn : r.map ev ≠ [] := by simpa using h
  have e2 : ixF hs (.d (.tup (r.map ev))) (.d (.int (-1))) = some (ev (r.getLast h)) := by
    show atI (r.map ev) (-1) = _
    rw [at_last hn, List.getLast_map]
  have e3 : lstM r = (r.getLast h).m := by unfold lstM; rw [List.getLast?_eq_some_getLast h]; rfl
  rw [e3]
  exact m2_ok (m2_ok ha e1 e2) (y := .d (.int 2)) rfl rfl
theorem first_ok {ρ : Env'} {hs : Hs} {a : ME} {r : List Ev} (h : r ≠ []) (ha : a ρ hs = .ok (.d (.tup (r.map ev))) hs) : m2 ixF (m2 ixF a (mC (.int 0))) (mC (.int 2)) ρ hs = .ok (.d (.int (fstM r))) hs := by
  obtain ⟨x, r, rfl⟩ : ∃ x s, r = x :: s := by
    cases r with
    | nil => exact absurd rfl h
    | cons x s => exact ⟨x, s, rfl⟩
  have e2 : ixF hs (.d (.tup ((x :: r).map ev))) (.d (.int 0)) = some (ev x) := by
    show atI ((x :: r).map ev) 0 = _
    rw [at_nat (z := 0) (k := 0) rfl (by simp)]; rfl
  exact m2_ok (m2_ok ha (y := .d (.int 0)) rfl e2) (y := .d (.int 2)) rfl rfl
def spV (r : List Ev) : D := .int (lstM r - fstM r)
def spD (c : Int × List Ev) : D := .tup [.int c.1, spV c.2]
theorem sp_ok {ρ : Env'} {hs : Hs} {a : ME} {r : List Ev} (h : r ≠ []) (ha : a ρ hs = .ok (.d (.tup (r.map ev))) hs) : m2 subF (m2 ixF (m2 ixF a (m1 negF (mC (.int 1)))) (mC (.int 2))) (m2 ixF (m2 ixF a (mC (.int 0))) (mC (.int 2))) ρ hs = .ok (.d (spV r)) hs :=
  m2_ok (last_ok h ha) (first_ok h ha) rfl
theorem spans_ok {E : List Ev} (g : GoodE E) (gc : GoodC (cases E)) : f_spans [.d (evs E)] [] = .ok (.tup ((cases E).map spD)) [] := by
  have body : b_spans [some (.d (evs E)), none, none] [] = .rt (.d (.tup ((cases E).map spD))) [] := by
    unfold b_spans
    refine ret_ok (bf1 (lc_all (enc := cD) (g := spD) (cases E) ?_ (fun c hc => ⟨[some (.d (evs E)), some (.d (.int c.1)), some (.d (.tup (c.2.map ev)))], rfl, tup2 rfl (sp_ok (gc.ne c hc) rfl)⟩) (by have := gc.len; omega)) rfl)
    have := call1 (a := mVar 0) (ρ := [some (.d (evs E)), none, none]) (hs := []) (x := evs E) rfl (by_case_ok g)
    simp only [mItT, this, Out.bind]
  exact Eq.trans (fn_rt (hs1 := []) body) rfl
theorem cases_snd {E : List Ev} {c : Int × List Ev} (h : c ∈ cases E) : c.2 = rows E c.1 := by
  obtain ⟨k, _, rfl⟩ := List.mem_map.mp h; rfl
theorem span_loop {E : List Ev} {n : Int} : ∀ (C : Cs) (x2 x3 : Option SV), (∀ c ∈ C, c.2 = rows E c.1 ∧ c.2 ≠ []) → (∃ c ∈ C, c.1 = n) → mForL (.tp [.nm 2, .nm 3]) l_span_1 (C.map cD) [some (.d (evs E)), some (.d (.int n)), x2, x3] [] = .rt (.d (spV (rows E n))) []
  | [], _, _, _, h => by obtain ⟨c, hc, _⟩ := h; cases hc
  | c :: C, x2, x3, hg, h => by
    obtain ⟨e1, e2⟩ := hg c List.mem_cons_self
    have t : mTg (.tp [.nm 2, .nm 3]) (.d (cD c)) [some (.d (evs E)), some (.d (.int n)), x2, x3] = some [some (.d (evs E)), some (.d (.int n)), some (.d (.int c.1)), some (.d (.tup (c.2.map ev)))] := rfl
    have te := eq_int (a := mVar 2) (b := mVar 1) (ρ := [some (.d (evs E)), some (.d (.int n)), some (.d (.int c.1)), some (.d (.tup (c.2.map ev)))]) (hs := []) (i := c.1) (j := n) rfl rfl
    by_cases q : c.1 = n
    · rw [decide_eq_true q] at te
      have bd : l_span_1 [some (.d (evs E)), some (.d (.int n)), some (.d (.int c.1)), some (.d (.tup (c.2.map ev)))] [] = .rt (.d (spV (rows E n))) [] := by
        unfold l_span_1
        refine Eq.trans (if_true te) (ret_ok ?_)
        have := sp_ok (a := mVar 3) (ρ := [some (.d (evs E)), some (.d (.int n)), some (.d (.int c.1)), some (.d (.tup (c.2.map ev)))]) (hs := []) e2 rfl
        rw [e1, q] at this
        rw [e1, q]
        exact this
      simp only [List.map_cons, mForL, t, bd]
    · rw [decide_eq_false q] at te
      have bd : l_span_1 [some (.d (evs E)), some (.d (.int n)), some (.d (.int c.1)), some (.d (.tup (c.2.map ev)))] [] = .nx [some (.d (evs E)), some (.d (.int n)), some (.d (.int c.1)), some (.d (.tup (c.2.map ev)))] [] := by
        unfold l_span_1
        exact Eq.trans (if_false te) rfl
      simp only [List.map_cons, mForL, t, bd]
      refine span_loop C _ _ (fun x hx => hg x (List.mem_cons_of_mem _ hx)) ?_
      obtain ⟨d, hd, e⟩ := h
      rcases List.mem_cons.mp hd with rfl | hd
      · exact absurd e q
      · exact ⟨d, hd, e⟩
theorem span_ok {E : List Ev} (g : GoodE E) (gc : GoodC (cases E)) {c : Int × List Ev} (hc : c ∈ cases E) : f_span [.d (evs E), .d (.int c.1)] [] = .ok (spV c.2) [] := by
  have body : b_span [some (.d (evs E)), some (.d (.int c.1)), none, none] [] = .rt (.d (spV c.2)) [] := by
    unfold b_span
    refine seq_rt (Eq.trans (for_ok (items := (cases E).map cD) (hs1 := []) ?_) ?_)
    · have := call1 (a := mVar 0) (ρ := [some (.d (evs E)), some (.d (.int c.1)), none, none]) (hs := []) (x := evs E) rfl (by_case_ok g)
      simp only [mItT, this, Out.bind]
    · rw [cases_snd hc]
      exact span_loop (cases E) none none (fun x hx => ⟨cases_snd hx, gc.ne x hx⟩) ⟨c, hc, rfl⟩
  exact Eq.trans (fn_rt (hs1 := []) body) rfl

/-! ### the law's own pairs -/
def pairAt (r : List Ev) (k : Nat) : D := match r[k]?, r[k + 1]? with
  | some x, some y => .tup [ev x, ev y]
  | _, _ => .non
theorem pairAt_map (r : List Ev) : (List.range (r.length - 1)).map (pairAt r) = (prs r).map encP := by
  have h := congrArg (List.map fun z : Option Ev × Option Ev => match z.1, z.2 with | some x, some y => D.tup [ev x, ev y] | _, _ => .non) (prs_get r)
  rw [List.map_map, List.map_map] at h
  exact h
theorem pairs_ok {C : Cs} (gc : GoodC C) : f__law_pairs [.d (.lst (C.map cD))] [] = .ok (.lst ((allP C).map encP)) [] := by
  obtain ⟨ρ', hs', e1, x2, x3, e2, S⟩ := forL_whole (enc := cD) (t := .tp [.nm 2, .nm 3]) (body := l__law_pairs_1) (whole := C)
    (I := fun d ρ hs => ∃ x2 x3, ρ = [some (.d (.lst (C.map cD))), some (.r 0), x2, x3, none] ∧ hs = [.lst ((allP d).map encP)])
    (fun d c rest ρ hs ew ⟨x2, x3, er, eh⟩ => by
      subst er eh
      have hc : c ∈ C := by rw [ew]; simp
      have hd : (allP d).length ≤ d.length * 8 := allP_len fun x hx => gc.rl x (by rw [ew]; simp [hx])
      have hdl : d.length ≤ 3 := by have := gc.len; have := congrArg List.length ew; simp at this; omega
      have hr := gc.rl c hc
      have hn := gc.ne c hc
      have hp : 0 < c.2.length := List.length_pos_iff.mpr hn
      have hpl := prs_len c.2
      have rg : mRg1 (mCons (m2 subF (mBf lenF (mCons (mVar 3) mNil)) (mC (.int 1))) mNil) [some (.d (.lst (C.map cD))), some (.r 0), some (.d (.int c.1)), some (.d (.tup (c.2.map ev))), none] [.lst ((allP d).map encP)] = .ok ((List.range (c.2.length - 1)).map fun (i : Nat) => D.int (0 + (i : Int))) [.lst ((allP d).map encP)] :=
        range_ok (c.2.length - 1) (z := ((c.2.map ev).length : Int) - 1) rfl (by rw [List.length_map]; omega) (by omega)
      have lc : mLcE [4] (.nm 4) (mRg1 (mCons (m2 subF (mBf lenF (mCons (mVar 3) mNil)) (mC (.int 1))) mNil)) mYes (mTup (mCons (m2 ixF (mVar 3) (mVar 4)) (mCons (m2 ixF (mVar 3) (m2 addF (mVar 4) (mC (.int 1)))) mNil))) [some (.d (.lst (C.map cD))), some (.r 0), some (.d (.int c.1)), some (.d (.tup (c.2.map ev))), none] [.lst ((allP d).map encP)] = .ok (.d (.lst ((prs c.2).map encP))) [.lst ((allP d).map encP)] := by
        rw [← pairAt_map]
        refine lc_all (enc := fun (i : Nat) => D.int (0 + (i : Int))) (g := pairAt c.2) (List.range (c.2.length - 1)) rg (fun k hk => ⟨_, rfl, ?_⟩) (by simp; omega)
        have hk' : k < c.2.length - 1 := List.mem_range.mp hk
        have x1 : c.2[k]? = some c.2[k] := List.getElem?_eq_getElem (by omega)
        have x2 : c.2[k + 1]? = some c.2[k + 1] := List.getElem?_eq_getElem (by omega)
        have pa : pairAt c.2 k = .tup [ev c.2[k], ev c.2[k + 1]] := by unfold pairAt; rw [x1, x2]
        rw [pa]
        refine tup2 (m2_ok (x := .d (.tup (c.2.map ev))) (y := .d (.int (0 + (k : Int)))) rfl rfl ?_) (m2_ok (x := .d (.tup (c.2.map ev))) (y := .d (.int (0 + (k : Int) + 1))) rfl rfl ?_)
        · show atI (c.2.map ev) (0 + (k : Int)) = _
          rw [at_nat (k := k) (by omega) (by simp; omega), List.getElem?_map, x1]; rfl
        · show atI (c.2.map ev) (0 + (k : Int) + 1) = _
          rw [at_nat (k := k + 1) (by omega) (by simp; omega), List.getElem?_map, x2]; rfl
      refine ⟨[some (.d (.lst (C.map cD))), some (.r 0), some (.d (.int c.1)), some (.d (.tup (c.2.map ev))), none], _, _, rfl, .inl (ext_ok (n := 0) (xs := (allP d).map encP) rfl rfl lc rfl (by simp; omega)), _, _, rfl, ?_⟩
      rw [allP_snoc, List.map_append]; rfl)
    C [] [some (.d (.lst (C.map cD))), some (.r 0), none, none, none] [Cell.lst []] rfl ⟨none, none, rfl, rfl⟩
  have body : b__law_pairs [some (.d (.lst (C.map cD))), none, none, none, none] [] = .rt (.r 0) hs' := by
    unfold b__law_pairs
    refine Eq.trans (seq_nx newL_ok) ?_
    refine Eq.trans (seq_nx (Eq.trans (for_ok (items := C.map cD) (hs1 := [Cell.lst []]) rfl) e1)) ?_
    rw [e2]; rfl
  exact Eq.trans (fn_rtL (hs1 := hs') body (Nat.zero_le _) (by rw [S]; rfl)) rfl
end Lk74

set_option Elab.async false
set_option linter.all false
set_option maxRecDepth 100000
set_option maxHeartbeats 4000000
/-! k74: answers, late ones, bounds. -/
namespace Lk74
open PySem PySem.Spec PyProof.Rows L2 L2.Py
variable [Tl]

structure An where
  n : Int
  m : Int
  o : Option Int
def optD : Option Int → D
  | none => .non
  | some x => .int x
def anD (x : An) : D := .tup [.int x.n, .int x.m, optD x.o]
def later (r : List Ev) (i : Nat) (e : Ev) (b : Str) : List Int := ((r.drop (i + 1)).filter fun o => decide (o.a = b)).map fun o => o.m - e.m
def ansAt (c : Int × List Ev) (a b : Str) (i : Nat) : List An := match c.2[i]? with
  | some e => if e.a = a then [⟨c.1, e.m, (later c.2 i e b).head?⟩] else []
  | none => []
def ansTo (c : Int × List Ev) (a b : Str) (is : List Nat) : List An := is.flatMap (ansAt c a b)
def ansC (C : Cs) (a b : Str) : List An := C.flatMap fun c => ansTo c a b (List.range c.2.length)
theorem ansAt_len (c : Int × List Ev) (a b : Str) (i : Nat) : (ansAt c a b i).length ≤ 1 := by
  unfold ansAt
  split
  · split <;> simp
  · simp
theorem ansTo_len (c : Int × List Ev) (a b : Str) : ∀ is : List Nat, (ansTo c a b is).length ≤ is.length
  | [] => by simp [ansTo]
  | i :: is => by
    have h1 := ansAt_len c a b i
    have h2 := ansTo_len c a b is
    unfold ansTo at h2 ⊢
    rw [List.flatMap_cons, List.length_append, List.length_cons]; omega
theorem ansC_len {C : Cs} (h : ∀ c ∈ C, c.2.length ≤ 8) (a b : Str) : (ansC C a b).length ≤ C.length * 8 := by
  induction C with
  | nil => simp [ansC]
  | cons c C ih =>
    have h1 := ih fun x hx => h x (List.mem_cons_of_mem _ hx)
    have h2 := h c List.mem_cons_self
    have h3 := ansTo_len c a b (List.range c.2.length)
    rw [List.length_range] at h3
    unfold ansC at h1 ⊢
    rw [List.flatMap_cons, List.length_append, List.length_cons, Nat.add_mul]
    omega
theorem toPyL_ints : ∀ ns : List Int, toPyL (ns.map D.int) = some (ns.map PyData.int)
  | [] => rfl
  | n :: ns => by simp only [List.map_cons, toPyL, toPy, toPyL_ints ns]
theorem lay_ints : ∀ ns : List Int, PyData.canLayAll0 (ns.map PyData.int) = true
  | [] => rfl
  | n :: ns => by simp only [List.map_cons, PyData.canLayAll0, PyData.canLay0, lay_ints ns]; rfl
theorem ne_nil {hs : Hs} (ns : List Int) : eqF true hs (.d (.lst (ns.map D.int))) (.d (.lst [])) = some (.bl (!ns.isEmpty)) := by
  have c : fitEq (.list (ns.map PyData.int)) (.list []) = true := by
    unfold fitEq
    simp only [PyData.canLay0, lay_ints, Bool.and_eq_true, decide_eq_true_eq]
    exact ⟨⟨trivial, rfl⟩, Nat.le_trans (Nat.min_le_right _ _) (by decide)⟩
  have r : PyData.eqv (.list (ns.map PyData.int)) (.list []) = ns.isEmpty := by
    cases ns <;> rfl
  simp only [eqF, Py.dataOf, toPy, toPyL_ints, toPyL, Option.map_some, if_pos c, r, ↓reduceIte]
theorem enum_at {r : List Ev} : enumD 0 (r.map ev) = (List.range r.length).map fun (i : Nat) => D.tup [.int (0 + (i : Int)), (r[i]?.map ev).getD .non] := by
  apply List.ext_getElem?
  intro j
  rw [enumD_get, List.getElem?_map, List.getElem?_map]
  by_cases h : j < r.length
  · rw [List.getElem?_range h, List.getElem?_eq_getElem h]
    simp only [Option.map_some]
    rw [List.getElem?_eq_getElem h]; rfl
  · rw [List.getElem?_eq_none (by omega), List.getElem?_eq_none (by simpa using h)]; rfl
theorem slice_ok {ρ : Env'} {hs : Hs} {a b : ME} {r : List Ev} {k : Int} (i : Nat) (ha : a ρ hs = .ok (.d (.tup (r.map ev))) hs) (hb : b ρ hs = .ok (.d (.int k)) hs) (hk : k = (i : Int)) : mSl a (mSo b) mNo ρ hs = .ok (.d (.tup ((r.drop i).map ev))) hs := by
  simp only [mSl, ha, Out.bind, mSo, hb, mNo, slF, ofO]
  rw [cut_from _ i hk, List.map_drop]

/-! ### of the program -/
theorem ans_turn {E : List Ev} {c : Int × List Ev} (gr : ∀ e ∈ c.2, GoodW e) {a b : Str} (ka : a ∈ nmS) (kb : b ∈ nmS) {i : Nat} (hi : i < c.2.length) (hl : c.2.length ≤ 8) {acc : List An} (hacc : acc.length ≤ 900) {x8 : Option SV} :
    ∃ x8', l_answers_1 [some (.d (evs E)), some (.d (.str a)), some (.d (.str b)), some (.r 0), some (.d (.int c.1)), some (.d (.tup (c.2.map ev))), some (.d (.int (0 + (i : Int)))), some (.d (ev c.2[i])), x8, none] [.lst (acc.map anD)] =
      .nx [some (.d (evs E)), some (.d (.str a)), some (.d (.str b)), some (.r 0), some (.d (.int c.1)), some (.d (.tup (c.2.map ev))), some (.d (.int (0 + (i : Int)))), some (.d (ev c.2[i])), x8', none] [.lst ((acc ++ ansAt c a b i).map anD)] := by
  have ge := gr _ (List.getElem_mem hi)
  have te := eq_strB (a := m2 ixF (mVar 7) (mC (.int 1))) (b := mVar 1) (ρ := [some (.d (evs E)), some (.d (.str a)), some (.d (.str b)), some (.r 0), some (.d (.int c.1)), some (.d (.tup (c.2.map ev))), some (.d (.int (0 + (i : Int)))), some (.d (ev c.2[i])), x8, none]) (hs := [.lst (acc.map anD)]) (x := c.2[i].a) (y := a) rfl rfl (nm_ok ge.a) (nm_ok ka)
  have ea : ansAt c a b i = if c.2[i].a = a then [⟨c.1, c.2[i].m, (later c.2 i c.2[i] b).head?⟩] else [] := by
    unfold ansAt
    rw [List.getElem?_eq_getElem hi]
  unfold l_answers_1
  by_cases q : c.2[i].a = a
  · rw [decide_eq_true q] at te
    refine ⟨some (.d (.lst ((later c.2 i c.2[i] b).map D.int))), ?_⟩
    refine Eq.trans (if_true te) ?_
    have lc : mLcE [9] (.nm 9) (mItT (mSl (mVar 5) (mSo (m2 addF (mVar 6) (mC (.int 1)))) mNo)) (mB (m2 (eqF false) (m2 ixF (mVar 9) (mC (.int 1))) (mVar 2))) (m2 subF (m2 ixF (mVar 9) (mC (.int 2))) (m2 ixF (mVar 7) (mC (.int 2)))) [some (.d (evs E)), some (.d (.str a)), some (.d (.str b)), some (.r 0), some (.d (.int c.1)), some (.d (.tup (c.2.map ev))), some (.d (.int (0 + (i : Int)))), some (.d (ev c.2[i])), x8, none] [.lst (acc.map anD)] = .ok (.d (.lst ((later c.2 i c.2[i] b).map D.int))) [.lst (acc.map anD)] := by
      have := lc_ok (enc := ev) (p := fun o => decide (o.a = b)) (g := fun o => D.int (o.m - c.2[i].m)) (t := .nm 9) (vs := [9]) (tt := mB (m2 (eqF false) (m2 ixF (mVar 9) (mC (.int 1))) (mVar 2))) (te := m2 subF (m2 ixF (mVar 9) (mC (.int 2))) (m2 ixF (mVar 7) (mC (.int 2)))) (mi := mItT (mSl (mVar 5) (mSo (m2 addF (mVar 6) (mC (.int 1)))) mNo))
        (ρ := [some (.d (evs E)), some (.d (.str a)), some (.d (.str b)), some (.r 0), some (.d (.int c.1)), some (.d (.tup (c.2.map ev))), some (.d (.int (0 + (i : Int)))), some (.d (ev c.2[i])), x8, none]) (hs := [.lst (acc.map anD)]) (hs1 := [.lst (acc.map anD)]) (c.2.drop (i + 1)) ?_ (fun o ho => ⟨_, rfl, eq_strB (x := o.a) (y := b) rfl rfl (nm_ok (gr o (List.mem_of_mem_drop ho)).a) (nm_ok kb), fun _ => rfl⟩) (by simp; omega)
      · rw [this]
        unfold later
        rw [List.map_map]; rfl
      · have s := slice_ok (a := mVar 5) (b := m2 addF (mVar 6) (mC (.int 1))) (ρ := [some (.d (evs E)), some (.d (.str a)), some (.d (.str b)), some (.r 0), some (.d (.int c.1)), some (.d (.tup (c.2.map ev))), some (.d (.int (0 + (i : Int)))), some (.d (ev c.2[i])), x8, none]) (hs := [.lst (acc.map anD)]) (r := c.2) (k := 0 + (i : Int) + 1) (i + 1) rfl rfl (by omega)
        simp only [mItT, s, Out.bind]
    refine Eq.trans (seq_nx (set_ok lc)) ?_
    have nx : mIf (mB (m2 (eqF true) (mVar 8) (mLst mNil))) (m2 ixF (mVar 8) (mC (.int 0))) (mC .non) [some (.d (evs E)), some (.d (.str a)), some (.d (.str b)), some (.r 0), some (.d (.int c.1)), some (.d (.tup (c.2.map ev))), some (.d (.int (0 + (i : Int)))), some (.d (ev c.2[i])), some (.d (.lst ((later c.2 i c.2[i] b).map D.int))), none] [.lst (acc.map anD)] = .ok (.d (optD (later c.2 i c.2[i] b).head?)) [.lst (acc.map anD)] := by
      generalize later c.2 i c.2[i] b = L
      have t := b_ok (m2_ok (a := mVar 8) (b := mLst mNil) (ρ := [some (.d (evs E)), some (.d (.str a)), some (.d (.str b)), some (.r 0), some (.d (.int c.1)), some (.d (.tup (c.2.map ev))), some (.d (.int (0 + (i : Int)))), some (.d (ev c.2[i])), some (.d (.lst (L.map D.int))), none]) (hs := [.lst (acc.map anD)]) (hs1 := [.lst (acc.map anD)]) (hs2 := [.lst (acc.map anD)]) (x := .d (.lst (L.map D.int))) (y := .d (.lst [])) rfl rfl (ne_nil L))
      cases L with
      | nil => exact Eq.trans (mIf_f t) rfl
      | cons x L =>
        refine Eq.trans (mIf_t t) (m2_ok (x := .d (.lst ((x :: L).map D.int))) (y := .d (.int 0)) rfl rfl ?_)
        show atI ((x :: L).map D.int) 0 = _
        rw [at_nat (z := 0) (k := 0) rfl (by simp)]; rfl
    have ap := app_ok (n := 0) (xs := acc.map anD) (a := mVar 3) (hs := [.lst (acc.map anD)]) rfl rfl (tup3 (a := mVar 4) (b := m2 ixF (mVar 7) (mC (.int 2))) (x := .int c.1) (y := .int c.2[i].m) rfl rfl nx) rfl (by simp; omega)
    refine Eq.trans ap ?_
    rw [ea, if_pos q, List.map_append]; rfl
  · rw [decide_eq_false q] at te
    refine ⟨x8, Eq.trans (if_false te) ?_⟩
    rw [ea, if_neg q, List.append_nil]; rfl
theorem answers_ok {E : List Ev} (g : GoodE E) (gc : GoodC (cases E)) {a b : Str} (ka : a ∈ nmS) (kb : b ∈ nmS) : f_answers [.d (evs E), .d (.str a), .d (.str b)] [] = .ok (.tup ((ansC (cases E) a b).map anD)) [] := by
  obtain ⟨ρ', hs', e1, x4, x5, x6, x7, x8, e2, S⟩ := forL_whole (enc := cD) (t := .tp [.nm 4, .nm 5]) (body := l_answers_2) (whole := cases E)
    (I := fun d ρ hs => ∃ x4 x5 x6 x7 x8, ρ = [some (.d (evs E)), some (.d (.str a)), some (.d (.str b)), some (.r 0), x4, x5, x6, x7, x8, none] ∧ hs = [.lst ((ansC d a b).map anD)])
    (fun d c rest ρ hs ew ⟨x4, x5, x6, x7, x8, er, eh⟩ => by
      subst er eh
      have hc : c ∈ cases E := by rw [ew]; simp
      have hdl : d.length ≤ 3 := by have := gc.len; have := congrArg List.length ew; simp at this; omega
      have hd : (ansC d a b).length ≤ d.length * 8 := ansC_len (fun x hx => gc.rl x (by rw [ew]; simp [hx])) a b
      have hr := gc.rl c hc
      obtain ⟨ρ2, hs2, f1, y6, y7, y8, f2, f3⟩ := forL_whole (enc := fun (i : Nat) => D.tup [.int (0 + (i : Int)), (c.2[i]?.map ev).getD .non]) (t := .tp [.nm 6, .nm 7]) (body := l_answers_1) (whole := List.range c.2.length)
        (I := fun is ρ hs => ∃ x6 x7 x8, ρ = [some (.d (evs E)), some (.d (.str a)), some (.d (.str b)), some (.r 0), some (.d (.int c.1)), some (.d (.tup (c.2.map ev))), x6, x7, x8, none] ∧ hs = [.lst ((ansC d a b ++ ansTo c a b is).map anD)])
        (fun is i rest2 ρ hs ew2 ⟨x6, x7, x8, er, eh⟩ => by
          subst er eh
          have hi : i < c.2.length := List.mem_range.mp (by rw [ew2]; simp)
          have hil : is.length ≤ 8 := by have := congrArg List.length ew2; simp at this; omega
          have hal := ansTo_len c a b is
          obtain ⟨x8', q⟩ := ans_turn (E := E) (c := c) (fun e he => (gc.ev c hc e he).1) ka kb hi hr (acc := ansC d a b ++ ansTo c a b is) (by rw [List.length_append]; omega) (x8 := x8)
          have tg : mTg (.tp [.nm 6, .nm 7]) (.d (.tup [.int (0 + (i : Int)), (c.2[i]?.map ev).getD .non])) [some (.d (evs E)), some (.d (.str a)), some (.d (.str b)), some (.r 0), some (.d (.int c.1)), some (.d (.tup (c.2.map ev))), x6, x7, x8, none] = some [some (.d (evs E)), some (.d (.str a)), some (.d (.str b)), some (.r 0), some (.d (.int c.1)), some (.d (.tup (c.2.map ev))), some (.d (.int (0 + (i : Int)))), some (.d (ev c.2[i])), x8, none] := by
            rw [List.getElem?_eq_getElem hi]; rfl
          refine ⟨_, _, _, tg, .inl q, _, _, _, rfl, ?_⟩
          unfold ansTo
          rw [List.flatMap_append, List.append_assoc]
          simp)
        (List.range c.2.length) [] [some (.d (evs E)), some (.d (.str a)), some (.d (.str b)), some (.r 0), some (.d (.int c.1)), some (.d (.tup (c.2.map ev))), x6, x7, x8, none] [.lst ((ansC d a b).map anD)] rfl ⟨x6, x7, x8, rfl, by simp [ansTo]⟩
      refine ⟨[some (.d (evs E)), some (.d (.str a)), some (.d (.str b)), some (.r 0), some (.d (.int c.1)), some (.d (.tup (c.2.map ev))), x6, x7, x8, none], ρ2, hs2, rfl, .inl ?_, _, _, y6, y7, y8, f2, ?_⟩
      · refine Eq.trans (for_ok (items := (List.range c.2.length).map fun (i : Nat) => D.tup [.int (0 + (i : Int)), (c.2[i]?.map ev).getD .non]) (hs1 := [.lst ((ansC d a b).map anD)]) ?_) f1
        rw [← enum_at]; rfl
      · rw [f3]
        unfold ansC
        rw [List.flatMap_append]
        simp)
    (cases E) [] [some (.d (evs E)), some (.d (.str a)), some (.d (.str b)), some (.r 0), none, none, none, none, none, none] [Cell.lst []] rfl ⟨none, none, none, none, none, rfl, rfl⟩
  have body : b_answers [some (.d (evs E)), some (.d (.str a)), some (.d (.str b)), none, none, none, none, none, none, none] [] = .rt (.d (.tup ((ansC (cases E) a b).map anD))) hs' := by
    unfold b_answers
    refine Eq.trans (seq_nx (Eq.trans (if_false (or_ok (j := false) (k := false) (not_ok (k := true) (tru_bl (call1 (x := .str a) rfl (name_nm ka)))) (not_ok (k := true) (tru_bl (call1 (x := .str b) rfl (name_nm kb)))))) rfl)) ?_
    refine Eq.trans (seq_nx newL_ok) ?_
    refine Eq.trans (seq_nx (Eq.trans (for_ok (items := (cases E).map cD) (hs1 := [Cell.lst []]) ?_) e1)) ?_
    · have := call1 (a := mVar 0) (ρ := [some (.d (evs E)), some (.d (.str a)), some (.d (.str b)), some (.r 0), none, none, none, none, none, none]) (hs := [Cell.lst []]) (x := evs E) rfl (by_case_ok g)
      show mItT _ [some (.d (evs E)), some (.d (.str a)), some (.d (.str b)), some (.r 0), none, none, none, none, none, none] [Cell.lst []] = _
      simp only [mItT, this, Out.bind]
    · rw [e2, S]; rfl
  exact Eq.trans (fn_rt (hs1 := hs') body) rfl
end Lk74

set_option Elab.async false
set_option linter.all false
set_option maxRecDepth 100000
set_option maxHeartbeats 4000000
/-! k74: the law's own answers; late ones; bounds. -/
namespace Lk74
open PySem PySem.Spec PyProof.Rows L2 L2.Py
variable [Tl]

theorem row_at {ρ : Env'} {hs : Hs} {a b : ME} {r : List Ev} {i : Nat} {k : Int} (hi : i < r.length) (ha : a ρ hs = .ok (.d (.tup (r.map ev))) hs) (hb : b ρ hs = .ok (.d (.int k)) hs) (hk : k = (i : Int)) : m2 ixF a b ρ hs = .ok (.d (ev r[i])) hs := by
  refine m2_ok ha hb ?_
  show atI (r.map ev) k = _
  rw [at_nat hk (by simpa using hi), List.getElem?_map, List.getElem?_eq_getElem hi]; rfl
theorem lans_turn {C : Cs} {c : Int × List Ev} (gr : ∀ e ∈ c.2, GoodW e) {a b : Str} (ka : a ∈ nmS) (kb : b ∈ nmS) {i : Nat} (hi : i < c.2.length) (hl : c.2.length ≤ 8) {acc : List An} (hacc : acc.length ≤ 900) {x7 : Option SV} :
    ∃ x7', l__law_answers_1 [some (.d (.lst (C.map cD))), some (.d (.str a)), some (.d (.str b)), some (.r 0), some (.d (.int c.1)), some (.d (.tup (c.2.map ev))), some (.d (.int (0 + (i : Int)))), x7, none] [.lst (acc.map anD)] =
      .nx [some (.d (.lst (C.map cD))), some (.d (.str a)), some (.d (.str b)), some (.r 0), some (.d (.int c.1)), some (.d (.tup (c.2.map ev))), some (.d (.int (0 + (i : Int)))), x7', none] [.lst ((acc ++ ansAt c a b i).map anD)] := by
  have ge := gr _ (List.getElem_mem hi)
  have ra : ∀ (y7 : Option SV) (y8 : Option SV), m2 ixF (mVar 5) (mVar 6) [some (.d (.lst (C.map cD))), some (.d (.str a)), some (.d (.str b)), some (.r 0), some (.d (.int c.1)), some (.d (.tup (c.2.map ev))), some (.d (.int (0 + (i : Int)))), y7, y8] [.lst (acc.map anD)] = .ok (.d (ev c.2[i])) [.lst (acc.map anD)] :=
    fun y7 y8 => row_at hi rfl rfl (by omega)
  have te := eq_strB (a := m2 ixF (m2 ixF (mVar 5) (mVar 6)) (mC (.int 1))) (b := mVar 1) (ρ := [some (.d (.lst (C.map cD))), some (.d (.str a)), some (.d (.str b)), some (.r 0), some (.d (.int c.1)), some (.d (.tup (c.2.map ev))), some (.d (.int (0 + (i : Int)))), x7, none]) (hs := [.lst (acc.map anD)]) (x := c.2[i].a) (y := a) (m2_ok (ra x7 none) (y := .d (.int 1)) rfl rfl) rfl (nm_ok ge.a) (nm_ok ka)
  have rm : ∀ (y7 y8 : Option SV), m2 ixF (m2 ixF (mVar 5) (mVar 6)) (mC (.int 2)) [some (.d (.lst (C.map cD))), some (.d (.str a)), some (.d (.str b)), some (.r 0), some (.d (.int c.1)), some (.d (.tup (c.2.map ev))), some (.d (.int (0 + (i : Int)))), y7, y8] [.lst (acc.map anD)] = .ok (.d (.int c.2[i].m)) [.lst (acc.map anD)] := fun y7 y8 => m2_ok (ra y7 y8) (y := .d (.int 2)) rfl rfl
  have ea : ansAt c a b i = if c.2[i].a = a then [⟨c.1, c.2[i].m, (later c.2 i c.2[i] b).head?⟩] else [] := by
    unfold ansAt
    rw [List.getElem?_eq_getElem hi]
  unfold l__law_answers_1
  by_cases q : c.2[i].a = a
  · rw [decide_eq_true q] at te
    refine ⟨some (.d (.lst ((later c.2 i c.2[i] b).map D.int))), ?_⟩
    refine Eq.trans (if_true te) ?_
    have lc : mLcE [8] (.nm 8) (mItT (mSl (mVar 5) (mSo (m2 addF (mVar 6) (mC (.int 1)))) mNo)) (mB (m2 (eqF false) (m2 ixF (mVar 8) (mC (.int 1))) (mVar 2))) (m2 subF (m2 ixF (mVar 8) (mC (.int 2))) (m2 ixF (m2 ixF (mVar 5) (mVar 6)) (mC (.int 2)))) [some (.d (.lst (C.map cD))), some (.d (.str a)), some (.d (.str b)), some (.r 0), some (.d (.int c.1)), some (.d (.tup (c.2.map ev))), some (.d (.int (0 + (i : Int)))), x7, none] [.lst (acc.map anD)] = .ok (.d (.lst ((later c.2 i c.2[i] b).map D.int))) [.lst (acc.map anD)] := by
      have := lc_ok (enc := ev) (p := fun o => decide (o.a = b)) (g := fun o => D.int (o.m - c.2[i].m)) (t := .nm 8) (vs := [8]) (tt := mB (m2 (eqF false) (m2 ixF (mVar 8) (mC (.int 1))) (mVar 2))) (te := m2 subF (m2 ixF (mVar 8) (mC (.int 2))) (m2 ixF (m2 ixF (mVar 5) (mVar 6)) (mC (.int 2)))) (mi := mItT (mSl (mVar 5) (mSo (m2 addF (mVar 6) (mC (.int 1)))) mNo))
        (ρ := [some (.d (.lst (C.map cD))), some (.d (.str a)), some (.d (.str b)), some (.r 0), some (.d (.int c.1)), some (.d (.tup (c.2.map ev))), some (.d (.int (0 + (i : Int)))), x7, none]) (hs := [.lst (acc.map anD)]) (hs1 := [.lst (acc.map anD)]) (c.2.drop (i + 1)) ?_ (fun o ho => ⟨_, rfl, eq_strB (x := o.a) (y := b) rfl rfl (nm_ok (gr o (List.mem_of_mem_drop ho)).a) (nm_ok kb), fun _ => m2_ok (x := .d (.int o.m)) rfl (rm x7 (some (.d (ev o)))) rfl⟩) (by simp; omega)
      · rw [this]
        unfold later
        rw [List.map_map]; rfl
      · have s := slice_ok (a := mVar 5) (b := m2 addF (mVar 6) (mC (.int 1))) (ρ := [some (.d (.lst (C.map cD))), some (.d (.str a)), some (.d (.str b)), some (.r 0), some (.d (.int c.1)), some (.d (.tup (c.2.map ev))), some (.d (.int (0 + (i : Int)))), x7, none]) (hs := [.lst (acc.map anD)]) (r := c.2) (k := 0 + (i : Int) + 1) (i + 1) rfl rfl (by omega)
        simp only [mItT, s, Out.bind]
    refine Eq.trans (seq_nx (set_ok lc)) ?_
    have hll : (later c.2 i c.2[i] b).length ≤ 8 := by
      unfold later
      rw [List.length_map]
      have := List.length_filter_le (fun o : Ev => decide (o.a = b)) (c.2.drop (i + 1))
      rw [List.length_drop] at this
      omega
    have nx : m2 ixF (m2 addF (mVar 7) (mLst (mCons (mC .non) mNil))) (mC (.int 0)) [some (.d (.lst (C.map cD))), some (.d (.str a)), some (.d (.str b)), some (.r 0), some (.d (.int c.1)), some (.d (.tup (c.2.map ev))), some (.d (.int (0 + (i : Int)))), some (.d (.lst ((later c.2 i c.2[i] b).map D.int))), none] [.lst (acc.map anD)] = .ok (.d (optD (later c.2 i c.2[i] b).head?)) [.lst (acc.map anD)] := by
      generalize later c.2 i c.2[i] b = L at hll ⊢
      refine m2_ok (x := .d (.lst (L.map D.int ++ [.non]))) (y := .d (.int 0)) (m2_ok (x := .d (.lst (L.map D.int))) (y := .d (.lst [.non])) rfl rfl ?_) rfl ?_
      · show (if (L.map D.int).length + [D.non].length ≤ sizeLine then some (D.lst (L.map D.int ++ [.non])) else none) = _
        rw [if_pos]
        rw [List.length_map]
        exact Nat.le_trans (show L.length + 1 ≤ 9 by omega) (by decide)
      · show atI (L.map D.int ++ [.non]) 0 = _
        rw [at_nat (z := 0) (k := 0) rfl (by simp)]
        cases L <;> rfl
    have ap := app_ok (n := 0) (xs := acc.map anD) (a := mVar 3) (hs := [.lst (acc.map anD)]) rfl rfl (tup3 (a := mVar 4) (b := m2 ixF (m2 ixF (mVar 5) (mVar 6)) (mC (.int 2))) (x := .int c.1) (y := .int c.2[i].m) rfl (rm _ none) nx) rfl (by simp; omega)
    refine Eq.trans ap ?_
    rw [ea, if_pos q, List.map_append]; rfl
  · rw [decide_eq_false q] at te
    refine ⟨x7, Eq.trans (if_false te) ?_⟩
    rw [ea, if_neg q, List.append_nil]; rfl
theorem lanswers_ok {C : Cs} (gc : GoodC C) {a b : Str} (ka : a ∈ nmS) (kb : b ∈ nmS) : f__law_answers [.d (.lst (C.map cD)), .d (.str a), .d (.str b)] [] = .ok (.tup ((ansC C a b).map anD)) [] := by
  obtain ⟨ρ', hs', e1, x4, x5, x6, x7, e2, S⟩ := forL_whole (enc := cD) (t := .tp [.nm 4, .nm 5]) (body := l__law_answers_2) (whole := C)
    (I := fun d ρ hs => ∃ x4 x5 x6 x7, ρ = [some (.d (.lst (C.map cD))), some (.d (.str a)), some (.d (.str b)), some (.r 0), x4, x5, x6, x7, none] ∧ hs = [.lst ((ansC d a b).map anD)])
    (fun d c rest ρ hs ew ⟨x4, x5, x6, x7, er, eh⟩ => by
      subst er eh
      have hc : c ∈ C := by rw [ew]; simp
      have hdl : d.length ≤ 3 := by have := gc.len; have := congrArg List.length ew; simp at this; omega
      have hd : (ansC d a b).length ≤ d.length * 8 := ansC_len (fun x hx => gc.rl x (by rw [ew]; simp [hx])) a b
      have hr := gc.rl c hc
      obtain ⟨ρ2, hs2, f1, y6, y7, f2, f3⟩ := forL_whole (enc := fun (i : Nat) => D.int (0 + (i : Int))) (t := .nm 6) (body := l__law_answers_1) (whole := List.range c.2.length)
        (I := fun is ρ hs => ∃ x6 x7, ρ = [some (.d (.lst (C.map cD))), some (.d (.str a)), some (.d (.str b)), some (.r 0), some (.d (.int c.1)), some (.d (.tup (c.2.map ev))), x6, x7, none] ∧ hs = [.lst ((ansC d a b ++ ansTo c a b is).map anD)])
        (fun is i rest2 ρ hs ew2 ⟨x6, x7, er, eh⟩ => by
          subst er eh
          have hi : i < c.2.length := List.mem_range.mp (by rw [ew2]; simp)
          have hil : is.length ≤ 8 := by have := congrArg List.length ew2; simp at this; omega
          have hal := ansTo_len c a b is
          obtain ⟨x7', q⟩ := lans_turn (C := C) (c := c) (fun e he => (gc.ev c hc e he).1) ka kb hi hr (acc := ansC d a b ++ ansTo c a b is) (by rw [List.length_append]; omega) (x7 := x7)
          refine ⟨_, _, _, rfl, .inl q, _, _, rfl, ?_⟩
          unfold ansTo
          rw [List.flatMap_append, List.append_assoc]
          simp)
        (List.range c.2.length) [] [some (.d (.lst (C.map cD))), some (.d (.str a)), some (.d (.str b)), some (.r 0), some (.d (.int c.1)), some (.d (.tup (c.2.map ev))), x6, x7, none] [.lst ((ansC d a b).map anD)] rfl ⟨x6, x7, rfl, by simp [ansTo]⟩
      refine ⟨[some (.d (.lst (C.map cD))), some (.d (.str a)), some (.d (.str b)), some (.r 0), some (.d (.int c.1)), some (.d (.tup (c.2.map ev))), x6, x7, none], ρ2, hs2, rfl, .inl ?_, _, _, y6, y7, f2, ?_⟩
      · exact Eq.trans (for_ok (range_ok c.2.length (z := ((c.2.map ev).length : Int)) rfl (by rw [List.length_map]) (by omega))) f1
      · rw [f3]
        unfold ansC
        rw [List.flatMap_append]
        simp)
    C [] [some (.d (.lst (C.map cD))), some (.d (.str a)), some (.d (.str b)), some (.r 0), none, none, none, none, none] [Cell.lst []] rfl ⟨none, none, none, none, rfl, rfl⟩
  have body : b__law_answers [some (.d (.lst (C.map cD))), some (.d (.str a)), some (.d (.str b)), none, none, none, none, none, none] [] = .rt (.d (.tup ((ansC C a b).map anD))) hs' := by
    unfold b__law_answers
    refine Eq.trans (seq_nx newL_ok) ?_
    refine Eq.trans (seq_nx (Eq.trans (for_ok (items := C.map cD) (hs1 := [Cell.lst []]) rfl) e1)) ?_
    rw [e2, S]; rfl
  exact Eq.trans (fn_rt (hs1 := hs') body) rfl

/-! ### late ones -/
def slowP (most : Int) (x : An) : Bool := match x.o with
  | none => true
  | some v => decide (v > most)
theorem slow_test {ρ : Env'} {hs : Hs} {a b : ME} {x : An} {most : Int} (ha : a ρ hs = .ok (.d (anD x)) hs) (hb : b ρ hs = .ok (.d (.int most)) hs) :
    mOr (mB (m2 (isF false) (m2 ixF a (mC (.int 2))) (mC .non))) (mB (m2 gtF (m2 ixF a (mC (.int 2))) b)) ρ hs = .ok (slowP most x) hs := by
  have r : m2 ixF a (mC (.int 2)) ρ hs = .ok (.d (optD x.o)) hs := m2_ok ha (y := .d (.int 2)) rfl rfl
  cases e : x.o with
  | none =>
    rw [e] at r
    have t : mB (m2 (isF false) (m2 ixF a (mC (.int 2))) (mC .non)) ρ hs = .ok true hs := b_ok (m2_ok r (y := .d .non) rfl rfl)
    rw [or_t t]
    unfold slowP; rw [e]
  | some v =>
    rw [e] at r
    have t : mB (m2 (isF false) (m2 ixF a (mC (.int 2))) (mC .non)) ρ hs = .ok false hs := b_ok (m2_ok r (y := .d .non) rfl rfl)
    rw [or_f t]
    unfold slowP; rw [e]
    exact b_ok (m2_ok r hb rfl)
def slow (most : Int) (l : List An) : D := .tup ((l.filter (slowP most)).map anD)
theorem late_ok {E : List Ev} (g : GoodE E) (gc : GoodC (cases E)) {a b : Str} (ka : a ∈ nmS) (kb : b ∈ nmS) {most : Int} (hm : 0 ≤ most) : f_late [.d (evs E), .d (.str a), .d (.str b), .d (.int most)] [] = .ok (slow most (ansC (cases E) a b)) [] := by
  have hl := ansC_len gc.rl a b
  have hl2 := gc.len
  have body : b_late [some (.d (evs E)), some (.d (.str a)), some (.d (.str b)), some (.d (.int most)), none] [] = .rt (.d (slow most (ansC (cases E) a b))) [] := by
    unfold b_late
    refine Eq.trans (seq_nx (Eq.trans (if_false (hs1 := []) (not_ok (k := true) (tru_bl (call1 (x := .int most) rfl (by rw [count_int, decide_eq_true hm]))))) rfl)) ?_
    refine ret_ok (bf1 (lc_ok (enc := anD) (p := slowP most) (g := anD) (ansC (cases E) a b) ?_ (fun x hx => ⟨_, rfl, slow_test rfl rfl, fun _ => rfl⟩) (by omega)) rfl)
    have := call3 (a := mVar 0) (b := mVar 1) (c := mVar 2) (ρ := [some (.d (evs E)), some (.d (.str a)), some (.d (.str b)), some (.d (.int most)), none]) (hs := []) (x := evs E) (y := .str a) (z := .str b) rfl rfl rfl (answers_ok g gc ka kb)
    simp only [mItT, this, Out.bind]
  exact Eq.trans (fn_rt (hs1 := []) body) rfl

/-! ### bounds -/
def anyNone (l : List An) : Bool := l.any fun x => x.o.isNone
def vals (l : List An) : List Int := l.map fun x => x.o.getD 0
def bound (l : List An) : D := if anyNone l = true then .non else .int ((vals l).foldl max 0)
theorem toPyL_opts : ∀ l : List An, ∃ ps, toPyL (l.map fun x => optD x.o) = some ps ∧ PyData.canLayAll0 ps = true ∧ (ps.any fun z => PyData.eqv z .none) = anyNone l
  | [] => ⟨[], rfl, rfl, rfl⟩
  | x :: l => by
    obtain ⟨ps, h1, h2, h3⟩ := toPyL_opts l
    cases e : x.o with
    | none => exact ⟨.none :: ps, by rw [List.map_cons, e]; show toPyL (D.non :: _) = _; simp only [toPyL, toPy, h1], by simp only [PyData.canLayAll0, PyData.canLay0, h2]; rfl, by simp [anyNone, e, PyData.eqv]⟩
    | some v =>
      refine ⟨.int v :: ps, by rw [List.map_cons, e]; show toPyL (D.int v :: _) = _; simp only [toPyL, toPy, h1], by simp only [PyData.canLayAll0, PyData.canLay0, h2]; rfl, ?_⟩
      unfold anyNone at h3 ⊢
      rw [List.any_cons, List.any_cons, h3, e]; rfl
theorem none_in {hs : Hs} (l : List An) : inF false hs (.d .non) (.d (.lst (l.map fun x => optD x.o))) = some (.bl (anyNone l)) := by
  obtain ⟨ps, h1, h2, h3⟩ := toPyL_opts l
  have c : (PyData.canLay0 .none && PyData.canLayAll0 ps && decide (PyData.depth .none ≤ 100)) = true := by rw [h2]; rfl
  simp only [inF, Py.dataOf, toPy, h1, if_pos c, Bool.false_eq_true, ↓reduceIte, h3]
theorem allInt_vals {l : List An} (h : anyNone l = false) : (l.map fun x => optD x.o) = (vals l).map D.int := by
  unfold vals
  rw [List.map_map]
  refine List.map_congr_left fun x hx => ?_
  cases e : x.o with
  | none =>
    have : anyNone l = true := List.any_eq_true.mpr ⟨x, hx, by rw [e]; rfl⟩
    rw [h] at this; cases this
  | some v => simp [optD, e]
theorem max_ok {hs : Hs} (ns : List Int) : endFn true hs [.d (.lst (D.int 0 :: ns.map D.int))] = some (.int (ns.foldl max 0)) := by
  have : allInt (D.int 0 :: ns.map D.int) = some (0 :: ns) := by simp only [allInt, allInt_map]; rfl
  simp only [endFn, viewL, Option.bind_some, this]; rfl
theorem bound_ok {E : List Ev} (g : GoodE E) (gc : GoodC (cases E)) {a b : Str} (ka : a ∈ nmS) (kb : b ∈ nmS) : f_least_bound [.d (evs E), .d (.str a), .d (.str b)] [] = .ok (bound (ansC (cases E) a b)) [] := by
  have hl := ansC_len gc.rl a b
  have hl2 := gc.len
  generalize hL : ansC (cases E) a b = L at hl
  have lc : mLcE [4] (.nm 4) (mItT (mCall f_answers (mCons (mVar 0) (mCons (mVar 1) (mCons (mVar 2) mNil))))) mYes (m2 ixF (mVar 4) (mC (.int 2))) [some (.d (evs E)), some (.d (.str a)), some (.d (.str b)), none, none] [] = .ok (.d (.lst (L.map fun x => optD x.o))) [] := by
    refine lc_all (enc := anD) (g := fun x => optD x.o) L ?_ (fun x hx => ⟨_, rfl, rfl⟩) (by omega)
    have := call3 (a := mVar 0) (b := mVar 1) (c := mVar 2) (ρ := [some (.d (evs E)), some (.d (.str a)), some (.d (.str b)), none, none]) (hs := []) (x := evs E) (y := .str a) (z := .str b) rfl rfl rfl (answers_ok g gc ka kb)
    rw [hL] at this
    simp only [mItT, this, Out.bind]
  have body : b_least_bound [some (.d (evs E)), some (.d (.str a)), some (.d (.str b)), none, none] [] = .rt (.d (bound L)) [] := by
    unfold b_least_bound
    refine Eq.trans (seq_nx (set_ok lc)) ?_
    have t : mB (m2 (inF false) (mC .non) (mVar 3)) [some (.d (evs E)), some (.d (.str a)), some (.d (.str b)), some (.d (.lst (L.map fun x => optD x.o))), none] [] = .ok (anyNone L) [] := b_ok (m2_ok (x := .d .non) (y := .d (.lst (L.map fun x => optD x.o))) rfl rfl (none_in L))
    cases e : anyNone L with
    | true =>
      rw [e] at t
      refine seq_rt (Eq.trans (if_true t) ?_)
      unfold bound
      rw [if_pos e]; rfl
    | false =>
      rw [e] at t
      refine Eq.trans (seq_nx (Eq.trans (if_false t) rfl)) ?_
      unfold bound
      rw [if_neg (by rw [e]; exact Bool.false_ne_true)]
      rw [allInt_vals e]
      have st : mStarL (mC (.int 0)) (mVar 3) [some (.d (evs E)), some (.d (.str a)), some (.d (.str b)), some (.d (.lst ((vals L).map D.int))), none] [] = .ok (.d (.lst (D.int 0 :: (vals L).map D.int))) [] := by
        have hv : ((vals L).map D.int).length ≤ 1000000 := by unfold vals; simp; omega
        show (if ((vals L).map D.int).length ≤ 1000000 then Out.ok (SV.d (D.lst (D.int 0 :: (vals L).map D.int))) ([] : Hs) else Out.bad) = _
        exact if_pos hv
      exact ret_ok (bf1 st (max_ok _))
  exact Eq.trans (fn_rt (hs1 := []) body) rfl
end Lk74

set_option Elab.async false
set_option linter.all false
set_option maxRecDepth 100000
set_option maxHeartbeats 4000000
/-! k74: open cases, the moment with most, shifted. -/
namespace Lk74
open PySem PySem.Spec PyProof.Rows L2 L2.Py
variable [Tl]

/-! ### open at a moment -/
def opP (t : Int) (c : Int × List Ev) : Bool := decide (fstM c.2 ≤ t) && decide (t ≤ lstM c.2)
def opens (C : Cs) (t : Int) : Cs := C.filter (opP t)
def opD (C : Cs) (t : Int) : D := .tup ((opens C t).map fun c => .int c.1)
theorem chain_ok {ρ : Env'} {hs : Hs} {a b c : ME} {i j k : Int} (ha : a ρ hs = .ok (.d (.int i)) hs) (hb : b ρ hs = .ok (.d (.int j)) hs) (hc : c ρ hs = .ok (.d (.int k)) hs) : mB (mChain leF leF a b c) ρ hs = .ok (decide (i ≤ j) && decide (j ≤ k)) hs := by
  have l1 : leF hs (.d (.int i)) (.d (.int j)) = some (.bl (decide (i ≤ j))) := rfl
  have l2 : leF hs (.d (.int j)) (.d (.int k)) = some (.bl (decide (j ≤ k))) := rfl
  refine b_ok ?_
  by_cases h : i ≤ j
  · rw [decide_eq_true h] at l1 ⊢
    simp only [mChain, ha, hb, hc, Out.bind, l1, l2, ofO, asB, Bool.true_and]
  · rw [decide_eq_false h] at l1 ⊢
    simp only [mChain, ha, hb, hc, Out.bind, l1, l2, ofO, asB, Bool.false_and]
theorem open_test {ρ : Env'} {hs : Hs} {a b : ME} {c : Int × List Ev} {t : Int} (hn : c.2 ≠ []) (ha : a ρ hs = .ok (.d (.tup (c.2.map ev))) hs) (hb : b ρ hs = .ok (.d (.int t)) hs) :
    mB (mChain leF leF (m2 ixF (m2 ixF a (mC (.int 0))) (mC (.int 2))) b (m2 ixF (m2 ixF a (m1 negF (mC (.int 1)))) (mC (.int 2)))) ρ hs = .ok (opP t c) hs :=
  chain_ok (first_ok hn ha) hb (last_ok hn ha)
theorem open_ok {E : List Ev} (g : GoodE E) (gc : GoodC (cases E)) {t : Int} (ht : 0 ≤ t) : f_open_at [.d (evs E), .d (.int t)] [] = .ok (opD (cases E) t) [] := by
  have body : b_open_at [some (.d (evs E)), some (.d (.int t)), none, none] [] = .rt (.d (opD (cases E) t)) [] := by
    unfold b_open_at
    refine Eq.trans (seq_nx (Eq.trans (if_false (hs1 := []) (not_ok (k := true) (tru_bl (call1 (x := .int t) rfl (by rw [count_int, decide_eq_true ht]))))) rfl)) ?_
    refine ret_ok (bf1 (lc_ok (enc := cD) (p := opP t) (g := fun c => .int c.1) (cases E) ?_ (fun c hc => ⟨[some (.d (evs E)), some (.d (.int t)), some (.d (.int c.1)), some (.d (.tup (c.2.map ev)))], rfl, open_test (gc.ne c hc) rfl rfl, fun _ => rfl⟩) (by have := gc.len; omega)) rfl)
    have := call1 (a := mVar 0) (ρ := [some (.d (evs E)), some (.d (.int t)), none, none]) (hs := []) (x := evs E) rfl (by_case_ok g)
    simp only [mItT, this, Out.bind]
  exact Eq.trans (fn_rt (hs1 := []) body) rfl
def many (C : Cs) (t : Int) : Int := (opens C t).length

/-! ### the moments, each once -/
def mdict (E : List Ev) : List Int := E.foldl (fun ks e => dstep ks e.m) []
theorem mfold_mem {j : Int} : ∀ (E : List Ev) (ks : List Int), j ∈ E.foldl (fun ks e => dstep ks e.m) ks ↔ j ∈ ks ∨ j ∈ E.map (·.m)
  | [], ks => by simp
  | e :: E, ks => by
    rw [List.foldl_cons, mfold_mem E, dstep_mem, List.map_cons, List.mem_cons, or_assoc]
theorem mfold_nodup : ∀ (E : List Ev) (ks : List Int), ks.Nodup → (E.foldl (fun ks e => dstep ks e.m) ks).Nodup
  | [], _, h => h
  | e :: E, ks, h => mfold_nodup E _ (dstep_nodup h)
theorem mfold_len : ∀ (E : List Ev) (ks : List Int), (E.foldl (fun ks e => dstep ks e.m) ks).length ≤ ks.length + E.length
  | [], _ => Nat.le_refl _
  | e :: E, ks => by
    have := mfold_len E (dstep ks e.m)
    have h2 : (dstep ks e.m).length ≤ ks.length + 1 := by unfold dstep; split <;> simp
    rw [List.foldl_cons, List.length_cons]; omega
theorem dcL_m {hs : Hs} {ρw : Env'} {t : Tg} {tk tv : ME} : ∀ (E : List Ev) (ks : List Int) (ws : List D), (∀ e : Ev, ∃ ρ1, mTg t (.d (ev e)) ρw = some ρ1 ∧ tk ρ1 hs = .ok (.d (.int e.m)) hs ∧ tv ρ1 hs = .ok (.d (.bl true)) hs) → ks.length + E.length ≤ 1000 → ∃ ws', mDcL t mYes tk tv ρw (E.map ev) (ks.map D.int) ws hs = .ok ((E.foldl (fun ks e => dstep ks e.m) ks).map D.int, ws') hs
  | [], ks, ws, _, _ => ⟨ws, rfl⟩
  | e :: E, ks, ws, h, hl => by
    obtain ⟨ρ1, h1, h2, h3⟩ := h e
    have big : (1000 : Nat) < sizeLine := by decide
    have c : isVK (.int e.m) = true ∧ (ks.map D.int).length < sizeLine := ⟨rfl, by rw [List.length_map]; simp at hl; omega⟩
    have hstep : (dstep ks e.m).length ≤ ks.length + 1 := by unfold dstep; split <;> simp
    obtain ⟨ws', q⟩ := dcL_m E (dstep ks e.m) (putA (ks.map D.int) ws (.int e.m) (.bl true)) h (by simp at hl; omega)
    refine ⟨ws', ?_⟩
    simp only [List.map_cons, mDcL, h1, mYes, Out.bind0, ↓reduceIte, h2, if_pos c, h3, putK_int]
    exact q
theorem moments_ok {E : List Ev} (g : GoodE E) {x1 x2 x3 : Option SV} : mItL (mBf sortedF (mCons (mDcE [4] (.nm 4) (mItT (mVar 0)) mYes (m2 ixF (mVar 4) (mC (.int 2))) (mC (.bl true))) mNil)) [some (.d (evs E)), x1, x2, x3, none] [] = .ok ((setSort (E.map (·.m))).map D.int) [] := by
  have hl := g.few
  obtain ⟨ws', q⟩ := dcL_m (hs := []) (t := .nm 4) (ρw := [some (.d (evs E)), x1, x2, x3, none]) (tk := m2 ixF (mVar 4) (mC (.int 2))) (tv := mC (.bl true)) E [] [] (fun e => ⟨_, rfl, rfl, rfl⟩) (by simp; omega)
  have e1 : mDcE [4] (.nm 4) (mItT (mVar 0)) mYes (m2 ixF (mVar 4) (mC (.int 2))) (mC (.bl true)) [some (.d (evs E)), x1, x2, x3, none] [] = .ok (.d (.dct ((mdict E).map D.int) ws')) [] := by
    show ((mDcL (.nm 4) mYes (m2 ixF (mVar 4) (mC (.int 2))) (mC (.bl true)) [some (.d (evs E)), x1, x2, x3, none] (E.map ev) [] [] []).bind fun p hs2 => Out.ok (SV.d (.dct p.1 p.2)) hs2) = _
    rw [show mDcL (.nm 4) mYes (m2 ixF (mVar 4) (mC (.int 2))) (mC (.bl true)) [some (.d (evs E)), x1, x2, x3, none] (E.map ev) [] [] [] = _ from q]
    rfl
  have ml : (mdict E).length ≤ 1000000 := by have := mfold_len E []; unfold mdict; simp at this; omega
  have s1 : sortedF [] [.d (.dct ((mdict E).map D.int) ws')] = some (.lst ((setSort (E.map (·.m))).map D.int)) := by
    simp only [sortedF, seqS, viewL]
    rw [if_pos (sortOk_int ml), sort_int (show (mdict E).Nodup from mfold_nodup E [] List.nodup_nil), setSort_congr (l := mdict E) (m := E.map (·.m)) (fun k => by unfold mdict; rw [mfold_mem]; simp)]
  have s2 := bf1 (f := sortedF) e1 s1
  simp only [mItL, s2, Out.bind, viewL]
/-! ### the best -/
def bstep (C : Cs) (b : Int × Int) (t : Int) : Int × Int := if many C t > b.1 then (many C t, t) else b
def best (C : Cs) (ts : List Int) : Int × Int := ts.foldl (bstep C) (0, 0)
theorem most_ok {E : List Ev} (g : GoodE E) (gc : GoodC (cases E)) : f_most_open [.d (evs E)] [] = .ok (.tup [.int (best (cases E) (setSort (E.map (·.m)))).1, .int (best (cases E) (setSort (E.map (·.m)))).2]) [] := by
  obtain ⟨ρ', hs', e1, x2, x3, e2, S⟩ := forL_whole (enc := D.int) (t := .nm 2) (body := l_most_open_1) (whole := setSort (E.map (·.m)))
    (I := fun d ρ hs => ∃ x2 x3, ρ = [some (.d (evs E)), some (.d (.tup [.int (best (cases E) d).1, .int (best (cases E) d).2])), x2, x3, none] ∧ hs = [])
    (fun d t rest ρ hs ew ⟨x2, x3, er, eh⟩ => by
      subst er eh
      have ht : t ∈ E.map (·.m) := mem_setSort.mp (by rw [ew]; simp)
      have ht0 : 0 ≤ t := by obtain ⟨e, he, rfl⟩ := List.mem_map.mp ht; exact (g.g e he).m0
      have oc := call2 (a := mVar 0) (b := mVar 2) (ρ := [some (.d (evs E)), some (.d (.tup [.int (best (cases E) d).1, .int (best (cases E) d).2])), some (.d (.int t)), x3, none]) (hs := []) (x := evs E) (y := .int t) rfl rfl (open_ok g gc ht0)
      have ln : mBf lenF (mCons (mCall f_open_at (mCons (mVar 0) (mCons (mVar 2) mNil))) mNil) [some (.d (evs E)), some (.d (.tup [.int (best (cases E) d).1, .int (best (cases E) d).2])), some (.d (.int t)), x3, none] [] = .ok (.d (.int (many (cases E) t))) [] :=
        bf1 oc (by simp [lenF, opD, many])
      have bs : best (cases E) (d ++ [t]) = bstep (cases E) (best (cases E) d) t := by simp [best]
      have tt : mB (m2 gtF (mVar 3) (m2 ixF (mVar 1) (mC (.int 0)))) [some (.d (evs E)), some (.d (.tup [.int (best (cases E) d).1, .int (best (cases E) d).2])), some (.d (.int t)), some (.d (.int (many (cases E) t))), none] [] = .ok (decide (many (cases E) t > (best (cases E) d).1)) [] :=
        b_ok (m2_ok (x := .d (.int (many (cases E) t))) (y := .d (.int (best (cases E) d).1)) rfl rfl rfl)
      refine ⟨_, [some (.d (evs E)), some (.d (.tup [.int (best (cases E) (d ++ [t])).1, .int (best (cases E) (d ++ [t])).2])), some (.d (.int t)), some (.d (.int (many (cases E) t))), none], [], rfl, .inl ?_, _, _, rfl, rfl⟩
      unfold l_most_open_1
      refine Eq.trans (seq_nx (set_ok ln)) ?_
      rw [bs]
      unfold bstep
      by_cases h : many (cases E) t > (best (cases E) d).1
      · rw [decide_eq_true h] at tt
        rw [if_pos h]
        exact set_ok (Eq.trans (mIf_t tt) (tup2 (x := .int (many (cases E) t)) (y := .int t) rfl rfl))
      · rw [decide_eq_false h] at tt
        rw [if_neg h]
        exact set_ok (x := .d (.tup [.int (best (cases E) d).1, .int (best (cases E) d).2])) (Eq.trans (mIf_f tt) rfl))
    (setSort (E.map (·.m))) [] [some (.d (evs E)), some (.d (.tup [.int 0, .int 0])), none, none, none] [] rfl ⟨none, none, rfl, rfl⟩
  have body : b_most_open [some (.d (evs E)), none, none, none, none] [] = .rt (.d (.tup [.int (best (cases E) (setSort (E.map (·.m)))).1, .int (best (cases E) (setSort (E.map (·.m)))).2])) [] := by
    unfold b_most_open
    refine Eq.trans (seq_nx (drop_ok (call1 (x := evs E) rfl (check_ok g.g g.len)))) ?_
    refine Eq.trans (seq_nx (ρ1 := [some (.d (evs E)), some (.d (.tup [.int 0, .int 0])), none, none, none]) (hs1 := []) rfl) ?_
    refine Eq.trans (seq_nx (Eq.trans (for_ok (moments_ok g)) e1)) ?_
    rw [e2, S]; rfl
  exact Eq.trans (fn_rt (hs1 := []) body) rfl
/-! ### shifted -/
def shE (n b : Int) (e : Ev) : Ev := { e with m := if e.n = n then e.m + b else e.m }
theorem shift_item {ρ : Env'} {hs : Hs} {v4 v5 v6 v7 v1 v2 : ME} {e : Ev} {n b : Int} (h4 : v4 ρ hs = .ok (.d (.int e.n)) hs) (h5 : v5 ρ hs = .ok (.d (.str e.a)) hs) (h6 : v6 ρ hs = .ok (.d (.int e.m)) hs) (h7 : v7 ρ hs = .ok (.d (.str e.h)) hs) (h1 : v1 ρ hs = .ok (.d (.int n)) hs) (h2 : v2 ρ hs = .ok (.d (.int b)) hs) :
    mTup (mCons v4 (mCons v5 (mCons (mIf (mB (m2 (eqF false) v4 v1)) (m2 addF v6 v2) v6) (mCons v7 mNil)))) ρ hs = .ok (.d (ev (shE n b e))) hs := by
  have t := eq_int h4 h1
  have mi : mIf (mB (m2 (eqF false) v4 v1)) (m2 addF v6 v2) v6 ρ hs = .ok (.d (.int (if e.n = n then e.m + b else e.m))) hs := by
    by_cases q : e.n = n
    · rw [decide_eq_true q] at t
      rw [if_pos q]
      exact Eq.trans (mIf_t t) (m2_ok h6 h2 rfl)
    · rw [decide_eq_false q] at t
      rw [if_neg q]
      exact Eq.trans (mIf_f t) h6
  exact tup4 h4 h5 mi h7
theorem shE_good {e : Ev} {n b : Int} (g : GoodW e) (he : e.m < 40) (h0 : 0 ≤ b) (h1 : b ≤ 100) : GoodW (shE n b e) := by
  refine ⟨g.n0, g.n1, g.a, ?_, ?_, g.h⟩
  · show 0 ≤ (if e.n = n then e.m + b else e.m)
    have := g.m0
    split <;> omega
  · show (if e.n = n then e.m + b else e.m) < 900
    split <;> omega
theorem shifted_ok {E : List Ev} (g : GoodE E) {n b : Int} (h0 : 0 ≤ b) (h1 : b ≤ 100) : f_shifted [.d (evs E), .d (.int n), .d (.int b)] [] = .ok (evs (E.map (shE n b))) [] := by
  have g2 : ∀ e ∈ E.map (shE n b), GoodW e := fun e he => by
    obtain ⟨x, hx, rfl⟩ := List.mem_map.mp he
    exact shE_good (g.g x hx) (g.m x hx) h0 h1
  have hl := g.few
  have body : b_shifted [some (.d (evs E)), some (.d (.int n)), some (.d (.int b)), none, none, none, none, none] [] = .rt (.d (evs (E.map (shE n b)))) [] := by
    unfold b_shifted
    refine Eq.trans (seq_nx (drop_ok (call1 (x := evs E) rfl (check_ok g.g g.len)))) ?_
    refine Eq.trans (seq_nx (Eq.trans (if_false (hs1 := []) (not_ok (k := true) (tru_bl (call1 (x := .int b) rfl (by rw [count_int, decide_eq_true h0]))))) rfl)) ?_
    refine Eq.trans (seq_nx (set_ok (x := .d (evs (E.map (shE n b)))) (hs1 := []) ?_)) ?_
    · refine bf1 (lc_all (enc := ev) (g := fun e => ev (shE n b e)) E rfl (fun e he => ⟨[some (.d (evs E)), some (.d (.int n)), some (.d (.int b)), none, some (.d (.int e.n)), some (.d (.str e.a)), some (.d (.int e.m)), some (.d (.str e.h))], rfl, shift_item rfl rfl rfl rfl rfl rfl⟩) (by omega)) ?_
      show some (D.tup (E.map fun e => ev (shE n b e))) = _
      unfold evs
      rw [List.map_map]; rfl
    · refine Eq.trans (seq_nx (drop_ok (call1 (x := evs (E.map (shE n b))) rfl (check_ok g2 (by simp; omega))))) ?_
      rfl
  exact Eq.trans (fn_rt (hs1 := []) body) rfl
end Lk74

set_option Elab.async false
set_option linter.all false
set_option maxRecDepth 100000
set_option maxHeartbeats 4000000
/-! k74: cases by one hand. -/
namespace Lk74
open PySem PySem.Spec PyProof.Rows L2 L2.Py
variable [Tl]

theorem sm_nm {x : Str} (n : Nat) (h : x ∈ nmS) : sm n (.str x) = true := by
  have key : sm 0 (.str x) = true := by
    simp only [nmS, List.mem_cons, List.not_mem_nil, or_false] at h
    rcases h with rfl | rfl | rfl <;> decide +kernel
  cases n with
  | zero => exact key
  | succ n => simpa only [sm] using key
theorem sm_hd {x : Str} (n : Nat) (h : x ∈ hdS) : sm n (.str x) = true := by
  have key : sm 0 (.str x) = true := by
    simp only [hdS, List.mem_cons, List.not_mem_nil, or_false] at h
    rcases h with rfl | rfl | rfl <;> decide +kernel
  cases n with
  | zero => exact key
  | succ n => simpa only [sm] using key
theorem sm_int (n : Nat) {i : Int} (h1 : -1000 < i) (h2 : i < 1000) : sm n (.int i) = true := by
  cases n <;> simp [sm, h1, h2]
theorem sm_tup {n : Nat} {xs : List D} (hl : xs.length ≤ 32) (h : ∀ x ∈ xs, sm n x = true) : sm (n + 1) (.tup xs) = true := by
  simp only [sm, Bool.and_eq_true, decide_eq_true_eq]
  exact ⟨hl, smL_all.mpr h⟩
theorem sm_lst {n : Nat} {xs : List D} (hl : xs.length ≤ 32) (h : ∀ x ∈ xs, sm n x = true) : sm (n + 1) (.lst xs) = true := by
  simp only [sm, Bool.and_eq_true, decide_eq_true_eq]
  exact ⟨hl, smL_all.mpr h⟩
theorem sm_ev {n : Nat} {e : Ev} (g : GoodW e) : sm (n + 1) (ev e) = true := by
  refine sm_tup (by simp) fun x hx => ?_
  simp only [List.mem_cons, List.not_mem_nil, or_false] at hx
  rcases hx with rfl | rfl | rfl | rfl
  · exact sm_int n (by have := g.n0; omega) g.n1
  · exact sm_nm n g.a
  · exact sm_int n (by have := g.m0; omega) (by have := g.m1; omega)
  · exact sm_hd n g.h
theorem ne_nilG {hs : Hs} {n : Nat} {xs : List D} (h : smL n xs = true) : eqF true hs (.d (.lst xs)) (.d (.lst [])) = some (.bl (!xs.isEmpty)) := by
  obtain ⟨ps, e, l, q⟩ := smL_ok n xs h
  have c : fitEq (.list ps) (.list []) = true := by
    unfold fitEq
    simp only [PyData.canLay0, q.lay, Bool.and_eq_true, decide_eq_true_eq]
    exact ⟨⟨trivial, rfl⟩, Nat.le_trans (Nat.min_le_right _ _) (by decide)⟩
  have r : PyData.eqv (.list ps) (.list []) = xs.isEmpty := by
    cases ps with
    | nil =>
      cases xs with
      | nil => rfl
      | cons x xs => simp at l
    | cons p ps =>
      cases xs with
      | nil => simp at l
      | cons x xs => rfl
  simp only [eqF, Py.dataOf, toPy, e, toPyL, Option.map_some, if_pos c, r, ↓reduceIte]

def doers (a : Str) (r : List Ev) : List Str := (r.filter fun e => decide (e.a = a)).map (·.h)
def handP (a b : Str) (c : Int × List Ev) : Bool := c.2.any fun e => decide (e.a = b) && decide (e.h ∈ doers a c.2)
def oneHand (C : Cs) (a b : Str) : D := .tup ((C.filter (handP a b)).map fun c => .int c.1)
/-! ### the dict of hands -/
def sstep (ks : List Str) (k : Str) : List Str := if k ∈ ks then ks else ks ++ [k]
theorem sstep_mem {ks : List Str} {k j : Str} : j ∈ sstep ks k ↔ j ∈ ks ∨ j = k := by
  unfold sstep
  split
  · rename_i h
    exact ⟨.inl, fun q => q.elim id fun z => z ▸ h⟩
  · simp
theorem hasK_str {ks : List Str} {k : Str} : hasK (ks.map D.str) (.str k) = decide (k ∈ ks) := by
  unfold hasK
  rw [List.any_map]
  have : (fun x : Str => keq (D.str x) (.str k)) = fun x => decide (x = k) := by
    funext x
    rw [keq_vk rfl rfl]
    simp [toKey]
  show ks.any (fun x : Str => keq (D.str x) (.str k)) = _
  rw [this]
  induction ks with
  | nil => rfl
  | cons x r ih =>
    rw [List.any_cons, ih]
    by_cases h : x = k
    · simp [h]
    · have h' : ¬ k = x := fun z => h z.symm
      simp [h, h']
theorem putK_str {ks : List Str} {k : Str} : Py.putK (ks.map D.str) (.str k) = (sstep ks k).map .str := by
  unfold Py.putK sstep
  rw [hasK_str]
  by_cases h : k ∈ ks <;> simp [h]
theorem fit_str {ks : List Str} {k : Str} : fitK (ks.map D.str) (.str k) = true := by
  cases ks <;> rfl
def sfold (a : Str) (E : List Ev) (ks : List Str) : List Str := E.foldl (fun ks e => if e.a = a then sstep ks e.h else ks) ks
theorem sfold_mem {a : Str} {j : Str} : ∀ (E : List Ev) (ks : List Str), j ∈ sfold a E ks ↔ j ∈ ks ∨ j ∈ doers a E
  | [], ks => by simp [sfold, doers]
  | e :: E, ks => by
    have ih := sfold_mem (a := a) (j := j) E (if e.a = a then sstep ks e.h else ks)
    unfold sfold at ih ⊢
    rw [List.foldl_cons, ih]
    unfold doers
    by_cases q : e.a = a
    · rw [if_pos q, sstep_mem, List.filter_cons_of_pos (by simpa using q), List.map_cons, List.mem_cons, or_assoc]
    · rw [if_neg q, List.filter_cons_of_neg (by simpa using q)]
theorem dcL_s {hs : Hs} {ρw : Env'} {t : Tg} {tt : MT} {tk tv : ME} {a : Str} : ∀ (E : List Ev) (ks : List Str) (ws : List D), (∀ e ∈ E, ∃ ρ1, mTg t (.d (ev e)) ρw = some ρ1 ∧ tt ρ1 hs = .ok (decide (e.a = a)) hs ∧ tk ρ1 hs = .ok (.d (.str e.h)) hs ∧ tv ρ1 hs = .ok (.d (.bl true)) hs) → ks.length + E.length ≤ 1000 → ks.length = ws.length →
    ∃ ws', mDcL t tt tk tv ρw (E.map ev) (ks.map D.str) ws hs = .ok ((sfold a E ks).map D.str, ws') hs ∧ (sfold a E ks).length = ws'.length
  | [], ks, ws, _, _, hw => ⟨ws, rfl, hw⟩
  | e :: E, ks, ws, h, hl, hw => by
    obtain ⟨ρ1, h1, h2, h3, h4⟩ := h e List.mem_cons_self
    have big : (1000 : Nat) < sizeLine := by decide
    by_cases q : e.a = a
    · rw [decide_eq_true q] at h2
      have c : isVK (.str e.h) = true ∧ (ks.map D.str).length < sizeLine := ⟨rfl, by rw [List.length_map]; simp at hl; omega⟩
      have hstep : (sstep ks e.h).length ≤ ks.length + 1 := by unfold sstep; split <;> simp
      have hpl := putA_length (k := D.str e.h) (v := D.bl true) (ks := ks.map D.str) (vs := ws) (by rw [List.length_map]; exact hw)
      rw [putK_str, List.length_map] at hpl
      obtain ⟨ws', q1, q2⟩ := dcL_s E (sstep ks e.h) (putA (ks.map D.str) ws (.str e.h) (.bl true)) (fun x hx => h x (List.mem_cons_of_mem _ hx)) (by simp at hl; omega) hpl.symm
      refine ⟨ws', ?_, by simpa [sfold, q] using q2⟩
      simp only [List.map_cons, mDcL, h1, h2, Out.bind0, ↓reduceIte, h3, if_pos c, h4, putK_str]
      rw [q1]; simp [sfold, q]
    · rw [decide_eq_false q] at h2
      obtain ⟨ws', q1, q2⟩ := dcL_s E ks ws (fun x hx => h x (List.mem_cons_of_mem _ hx)) (by simp at hl; omega) hw
      refine ⟨ws', ?_, by simpa [sfold, q] using q2⟩
      simp only [List.map_cons, mDcL, h1, h2, Out.bind0, Bool.false_eq_true, ↓reduceIte]
      rw [q1]; simp [sfold, q]
theorem in_dict {hs : Hs} {ks : List Str} {ws : List D} {h : Str} (hl : ks.length = ws.length) : inFD false hs (.d (.str h)) (.d (.dct (ks.map D.str) ws)) = some (.bl (decide (h ∈ ks))) := by
  have v : viewD hs (.d (.dct (ks.map D.str) ws)) = some (ks.map D.str, ws) := rfl
  simp only [inFD, v, dgF, fit_str, ↓reduceIte, Option.map_some, Bool.false_eq_true]
  rw [lookA_length (by rw [List.length_map]; exact hl), hasK_str]
theorem any_bl {hs : Hs} (bs : List Bool) : allF true hs [.d (.lst (bs.map D.bl))] = some (.bl (bs.any id)) := by
  have h : allBl (bs.map D.bl) = some bs := by
    induction bs with
    | nil => rfl
    | cons b bs ih => simp only [List.map_cons, allBl, ih]; rfl
  simp only [allF, viewL, h, Option.map_some, ↓reduceIte]
theorem hand_turn {E : List Ev} {c : Int × List Ev} (gr : ∀ e ∈ c.2, GoodW e) {a b : Str} (ka : a ∈ nmS) (kb : b ∈ nmS) (hl : c.2.length ≤ 8) {acc : List D} (hacc : acc.length ≤ 900) {x6 : Option SV} :
    ∃ x6', l_by_one_hand_1 [some (.d (evs E)), some (.d (.str a)), some (.d (.str b)), some (.r 0), some (.d (.int c.1)), some (.d (.tup (c.2.map ev))), x6, none] [.lst acc] =
      .nx [some (.d (evs E)), some (.d (.str a)), some (.d (.str b)), some (.r 0), some (.d (.int c.1)), some (.d (.tup (c.2.map ev))), x6', none] [.lst (if handP a b c = true then acc ++ [.int c.1] else acc)] := by
  obtain ⟨ws, q1, q2⟩ := dcL_s (hs := [.lst acc]) (t := .nm 7) (ρw := [some (.d (evs E)), some (.d (.str a)), some (.d (.str b)), some (.r 0), some (.d (.int c.1)), some (.d (.tup (c.2.map ev))), x6, none]) (tt := mB (m2 (eqF false) (m2 ixF (mVar 7) (mC (.int 1))) (mVar 1))) (tk := m2 ixF (mVar 7) (mC (.int 3))) (tv := mC (.bl true)) (a := a) c.2 [] []
    (fun e he => ⟨_, rfl, eq_strB (x := e.a) (y := a) rfl rfl (nm_ok (gr e he).a) (nm_ok ka), rfl, rfl⟩) (by simp; omega) rfl
  generalize hks : sfold a c.2 [] = ks at q1 q2
  have mem : ∀ h, h ∈ ks ↔ h ∈ doers a c.2 := fun h => by rw [← hks, sfold_mem]; simp
  have e1 : mDcE [7] (.nm 7) (mItT (mVar 5)) (mB (m2 (eqF false) (m2 ixF (mVar 7) (mC (.int 1))) (mVar 1))) (m2 ixF (mVar 7) (mC (.int 3))) (mC (.bl true)) [some (.d (evs E)), some (.d (.str a)), some (.d (.str b)), some (.r 0), some (.d (.int c.1)), some (.d (.tup (c.2.map ev))), x6, none] [.lst acc] = .ok (.d (.dct (ks.map D.str) ws)) [.lst acc] := by
    show ((mDcL (.nm 7) (mB (m2 (eqF false) (m2 ixF (mVar 7) (mC (.int 1))) (mVar 1))) (m2 ixF (mVar 7) (mC (.int 3))) (mC (.bl true)) [some (.d (evs E)), some (.d (.str a)), some (.d (.str b)), some (.r 0), some (.d (.int c.1)), some (.d (.tup (c.2.map ev))), x6, none] (c.2.map ev) [] [] [.lst acc]).bind fun p hs2 => Out.ok (SV.d (.dct p.1 p.2)) hs2) = _
    rw [show mDcL (.nm 7) (mB (m2 (eqF false) (m2 ixF (mVar 7) (mC (.int 1))) (mVar 1))) (m2 ixF (mVar 7) (mC (.int 3))) (mC (.bl true)) [some (.d (evs E)), some (.d (.str a)), some (.d (.str b)), some (.r 0), some (.d (.int c.1)), some (.d (.tup (c.2.map ev))), x6, none] (c.2.map ev) [] [] [.lst acc] = _ from q1]
    rfl
  have an : mTru (mBf (allF true) (mCons (mLcE [7] (.nm 7) (mItT (mVar 5)) mYes (mAndV (m2 (eqF false) (m2 ixF (mVar 7) (mC (.int 1))) (mVar 2)) (m2 (inFD false) (m2 ixF (mVar 7) (mC (.int 3))) (mVar 6)))) mNil)) [some (.d (evs E)), some (.d (.str a)), some (.d (.str b)), some (.r 0), some (.d (.int c.1)), some (.d (.tup (c.2.map ev))), some (.d (.dct (ks.map D.str) ws)), none] [.lst acc] = .ok (handP a b c) [.lst acc] := by
    refine tru_bl (bf1 (lc_all (enc := ev) (g := fun e => .bl (decide (e.a = b) && decide (e.h ∈ doers a c.2))) c.2 rfl (fun e he => ⟨[some (.d (evs E)), some (.d (.str a)), some (.d (.str b)), some (.r 0), some (.d (.int c.1)), some (.d (.tup (c.2.map ev))), some (.d (.dct (ks.map D.str) ws)), some (.d (ev e))], rfl, ?_⟩) (by omega)) ?_)
    · have t : m2 (eqF false) (m2 ixF (mVar 7) (mC (.int 1))) (mVar 2) [some (.d (evs E)), some (.d (.str a)), some (.d (.str b)), some (.r 0), some (.d (.int c.1)), some (.d (.tup (c.2.map ev))), some (.d (.dct (ks.map D.str) ws)), some (.d (ev e))] [.lst acc] = .ok (.d (.bl (decide (e.a = b)))) [.lst acc] := m2_ok (x := .d (.str e.a)) (y := .d (.str b)) rfl rfl (eqF_str (nm_ok (gr e he).a) (nm_ok kb) false)
      by_cases q : e.a = b
      · rw [decide_eq_true q] at t ⊢
        rw [Bool.true_and]
        refine Eq.trans (andV_t t) (m2_ok (x := .d (.str e.h)) (y := .d (.dct (ks.map D.str) ws)) rfl rfl ?_)
        rw [in_dict q2]
        exact congrArg (fun z => some (D.bl z)) (decide_eq_decide.mpr (mem e.h))
      · rw [decide_eq_false q] at t ⊢
        rw [Bool.false_and]
        exact andV_f t
    · have := any_bl (hs := [.lst acc]) (c.2.map fun e => decide (e.a = b) && decide (e.h ∈ doers a c.2))
      rw [List.map_map] at this
      rw [List.any_map] at this
      exact this
  refine ⟨some (.d (.dct (ks.map D.str) ws)), ?_⟩
  unfold l_by_one_hand_1
  refine Eq.trans (seq_nx (set_ok e1)) ?_
  cases e : handP a b c with
  | true =>
    rw [e] at an
    rw [if_pos rfl]
    exact Eq.trans (if_true an) (app_ok (n := 0) (xs := acc) (hs := [.lst acc]) (hs1 := [.lst acc]) (v := .int c.1) rfl rfl rfl rfl (by omega))
  | false =>
    rw [e] at an
    rw [if_neg Bool.false_ne_true]
    exact Eq.trans (if_false an) rfl
theorem one_ok {E : List Ev} (g : GoodE E) (gc : GoodC (cases E)) {a b : Str} (ka : a ∈ nmS) (kb : b ∈ nmS) : f_by_one_hand [.d (evs E), .d (.str a), .d (.str b)] [] = .ok (oneHand (cases E) a b) [] := by
  obtain ⟨ρ', hs', e1, x4, x5, x6, e2, S⟩ := forL_whole (enc := cD) (t := .tp [.nm 4, .nm 5]) (body := l_by_one_hand_1) (whole := cases E)
    (I := fun d ρ hs => ∃ x4 x5 x6, ρ = [some (.d (evs E)), some (.d (.str a)), some (.d (.str b)), some (.r 0), x4, x5, x6, none] ∧ hs = [.lst ((d.filter (handP a b)).map fun c => .int c.1)])
    (fun d c rest ρ hs ew ⟨x4, x5, x6, er, eh⟩ => by
      subst er eh
      have hc : c ∈ cases E := by rw [ew]; simp
      have hdl : d.length ≤ 3 := by have := gc.len; have := congrArg List.length ew; simp at this; omega
      have hfl := List.length_filter_le (handP a b) d
      obtain ⟨x6', q⟩ := hand_turn (E := E) (c := c) (fun e he => (gc.ev c hc e he).1) ka kb (gc.rl c hc) (acc := (d.filter (handP a b)).map fun c => .int c.1) (by rw [List.length_map]; omega) (x6 := x6)
      refine ⟨_, _, _, rfl, .inl q, _, _, _, rfl, ?_⟩
      rw [List.filter_append]
      cases e : handP a b c <;> simp [e])
    (cases E) [] [some (.d (evs E)), some (.d (.str a)), some (.d (.str b)), some (.r 0), none, none, none, none] [Cell.lst []] rfl ⟨none, none, none, rfl, rfl⟩
  have body : b_by_one_hand [some (.d (evs E)), some (.d (.str a)), some (.d (.str b)), none, none, none, none, none] [] = .rt (.d (oneHand (cases E) a b)) hs' := by
    unfold b_by_one_hand
    refine Eq.trans (seq_nx (Eq.trans (if_false (or_ok (j := false) (k := false) (not_ok (k := true) (tru_bl (call1 (x := .str a) rfl (name_nm ka)))) (not_ok (k := true) (tru_bl (call1 (x := .str b) rfl (name_nm kb)))))) rfl)) ?_
    refine Eq.trans (seq_nx newL_ok) ?_
    refine Eq.trans (seq_nx (Eq.trans (for_ok (items := (cases E).map cD) (hs1 := [Cell.lst []]) ?_) e1)) ?_
    · have := call1 (a := mVar 0) (ρ := [some (.d (evs E)), some (.d (.str a)), some (.d (.str b)), some (.r 0), none, none, none, none]) (hs := [Cell.lst []]) (x := evs E) rfl (by_case_ok g)
      show mItT _ [some (.d (evs E)), some (.d (.str a)), some (.d (.str b)), some (.r 0), none, none, none, none] [Cell.lst []] = _
      simp only [mItT, this, Out.bind]
    · rw [e2, S]; rfl
  exact Eq.trans (fn_rt (hs1 := hs') body) rfl
end Lk74

set_option Elab.async false
set_option linter.all false
set_option maxRecDepth 100000
set_option maxHeartbeats 4000000
/-! k74: draws. -/
namespace Lk74
open PySem PySem.Spec PyProof.Rows L2 L2.Py
variable [Tl]

theorem callM_r0 {f : FM} {hs : Hs} {c c' : Cell} {d : D} (xs : List D) (h : f (.r 0 :: xs.map .d) [c] = .ok d [c']) (hc : hs[0]? = some c) (hf : c.flat = true) : callM f (.r 0 :: xs.map .d) hs = .ok d (hs.set 0 c') := by
  have r1 : refsOf (.r 0 :: xs.map SV.d) = [0] := by
    unfold refsOf
    rw [refs_data]
    simp
  have r2 : renumL [0] (.r 0 :: xs.map SV.d) = some (.r 0 :: xs.map SV.d) := by
    have key : ∀ ys : List D, renumL [0] (ys.map SV.d) = some (ys.map SV.d) := by
      intro ys
      induction ys with
      | nil => rfl
      | cons y ys ih => simp only [List.map_cons, renumL, renum, ih]
    have k0 : renum [0] (.r 0) = some (.r 0) := rfl
    simp only [renumL, k0, key]
  have r3 : getAll hs [0] = some [c] := by simp [getAll, hc, hf]
  unfold callM
  rw [r1, r2, r3]
  simp only [h]
  rfl
/-- the bag stands first -/
def Bag (ms : List Int) (hs : Hs) : Prop := ∃ x y z : Int, hs[0]? = some (bagC x y z ms) ∧ 0 ≤ x
/-- only the bag has changed -/
structure Drawn (ms : List Int) (hs hs' : Hs) : Prop where
  bag : Bag ms hs'
  oth : ∀ i, i ≠ 0 → hs'[i]? = hs[i]?
  len : hs'.length = hs.length
theorem Drawn.refl {ms : List Int} {hs : Hs} (h : Bag ms hs) : Drawn ms hs hs := ⟨h, fun _ _ => rfl, rfl⟩
theorem Drawn.trans {ms : List Int} {h1 h2 h3 : Hs} (a : Drawn ms h1 h2) (b : Drawn ms h2 h3) : Drawn ms h1 h3 := ⟨b.bag, fun i hi => (b.oth i hi).trans (a.oth i hi), b.len.trans a.len⟩
theorem drawn_set {ms : List Int} {hs : Hs} {x y z x' y' z' : Int} (h : hs[0]? = some (bagC x y z ms)) (hx : 0 ≤ x') : Drawn ms hs (hs.set 0 (bagC x' y' z' ms)) :=
  ⟨⟨x', y', z', List.getElem?_set_self (List.getElem?_eq_some_iff.mp h).1, hx⟩, fun i hi => set_set_ne (Ne.symm hi), List.length_set⟩
theorem take_d {ms : List Int} {hs : Hs} {ρ : Env'} {a : ME} {m : Int} (hb : Bag ms hs) (hl : ms.length ≤ 1000) (ha : a ρ hs = .ok (.r 0) hs) (h0 : 0 < m) (h1 : m ≤ 1000000) :
    ∃ v hs', mCall f__law_take (mCons a (mCons (mC (.int m)) mNil)) ρ hs = .ok (.d (.int v)) hs' ∧ 0 ≤ v ∧ v < m ∧ Drawn ms hs hs' := by
  obtain ⟨x, y, z, hc, hx⟩ := hb
  obtain ⟨v, x', y', z', q, v0, v1, hx'⟩ := take_ok x y z m ms hl hx h0 h1
  have cm := callM_r0 (f := f__law_take) (hs := hs) [.int m] q hc rfl
  have hm : mCons a (mCons (mC (.int m)) mNil) ρ hs = .ok (.r 0 :: ([.int m] : List D).map .d) hs := by simp only [mCons, ha, mC, mNil, Out.bind]; rfl
  exact ⟨v, _, call_ok hm cm, v0, v1, drawn_set hc hx'⟩
theorem some_d {ms : List Int} {hs : Hs} {ρ : Env'} {a b : ME} {things : List Str} (hb : Bag ms hs) (hl : ms.length ≤ 1000) (ha : a ρ hs = .ok (.r 0) hs) (hl2 : b ρ hs = .ok (.d (.lst (things.map .str))) hs) (h0 : things ≠ []) (h1 : things.length ≤ 1000) :
    ∃ x hs', mCall f__law_some (mCons a (mCons b mNil)) ρ hs = .ok (.d (.str x)) hs' ∧ x ∈ things ∧ Drawn ms hs hs' := by
  obtain ⟨x, y, z, hc, hx⟩ := hb
  obtain ⟨d, x', y', z', hd, q, hx'⟩ := some_ok x y z ms hl hx (things.map .str) (by simpa using h0) (by rw [List.length_map]; omega)
  obtain ⟨s, hs1, rfl⟩ := List.mem_map.mp hd
  have cm := callM_r0 (f := f__law_some) (hs := hs) [.lst (things.map .str)] q hc rfl
  have hm : mCons a (mCons b mNil) ρ hs = .ok (.r 0 :: ([.lst (things.map .str)] : List D).map .d) hs := by simp only [mCons, ha, hl2, mNil, Out.bind]; rfl
  exact ⟨s, _, call_ok hm cm, hs1, drawn_set hc hx'⟩
theorem Bag.bag0 {ms : List Int} {x y z : Int} {r : Hs} (hx : 0 ≤ x) : Bag ms (bagC x y z ms :: r) := ⟨x, y, z, rfl, hx⟩
theorem drawn_two {ms : List Int} {c d : Cell} {hs' : Hs} (h : Drawn ms [c, d] hs') : ∃ x y z, hs' = [bagC x y z ms, d] ∧ 0 ≤ x := by
  obtain ⟨x, y, z, h1, h2⟩ := h.bag
  have h3 := h.oth 1 (by decide)
  have h4 := h.len
  match hs', h1, h3, h4 with
  | [u, v], h1, h3, _ =>
    simp at h1 h3
    exact ⟨x, y, z, by rw [h1, h3], h2⟩
theorem drawn_one {ms : List Int} {c : Cell} {hs' : Hs} (h : Drawn ms [c] hs') : ∃ x y z, hs' = [bagC x y z ms] ∧ 0 ≤ x := by
  obtain ⟨x, y, z, h1, h2⟩ := h.bag
  have h4 := h.len
  match hs', h1, h4 with
  | [u], h1, _ =>
    simp at h1
    exact ⟨x, y, z, by rw [h1], h2⟩
theorem event_turn {ms : List Int} (hl : ms.length ≤ 1000) {x y z : Int} (hx : 0 ≤ x) {E : List Ev} (hE : E.length ≤ 100) {k : D} :
    ∃ e x' y' z', l__law_events_1 [some (.r 0), some (.r 1), some (.d k)] [bagC x y z ms, .lst (E.map ev)] = .nx [some (.r 0), some (.r 1), some (.d k)] [bagC x' y' z' ms, .lst ((E ++ [e]).map ev)] ∧ Good e ∧ 0 ≤ x' := by
  obtain ⟨n, h1, q1, n0, n1, d1⟩ := take_d (ρ := [some (.r 0), some (.r 1), some (.d k)]) (a := mVar 0) (m := 3) (Bag.bag0 (r := [.lst (E.map ev)]) (y := y) (z := z) hx) hl rfl (by decide) (by decide)
  obtain ⟨a, h2, q2, a0, d2⟩ := some_d (ρ := [some (.r 0), some (.r 1), some (.d k)]) (a := mVar 0) (b := mLst (mCons (mC (.str "a")) (mCons (mC (.str "b")) (mCons (mC (.str "c")) mNil)))) (things := nmS) d1.bag hl rfl rfl (by decide) (by decide)
  obtain ⟨m, h3, q3, m0, m1, d3⟩ := take_d (ρ := [some (.r 0), some (.r 1), some (.d k)]) (a := mVar 0) (m := 12) d2.bag hl rfl (by decide) (by decide)
  obtain ⟨h, h4, q4, hh, d4⟩ := some_d (ρ := [some (.r 0), some (.r 1), some (.d k)]) (a := mVar 0) (b := mLst (mCons (mC (.str "ann")) (mCons (mC (.str "bo")) (mCons (mC (.str "cy")) mNil)))) (things := hdS) d3.bag hl rfl rfl (by decide) (by decide)
  obtain ⟨x', y', z', e4, hx'⟩ := drawn_two (((d1.trans d2).trans d3).trans d4)
  subst e4
  refine ⟨⟨n, a, m, h⟩, x', y', z', ?_, ⟨n0, n1, a0, m0, m1, hh⟩, hx'⟩
  have tp := tup4 q1 q2 q3 q4
  refine Eq.trans (app_ok (n := 1) (xs := E.map ev) (hs := [bagC x y z ms, .lst (E.map ev)]) (hs1 := [bagC x' y' z' ms, .lst (E.map ev)]) rfl rfl tp rfl (by rw [List.length_map]; omega)) ?_
  rw [List.map_append]; rfl
theorem events_ok {ms : List Int} (hl : ms.length ≤ 1000) {x y z : Int} (hx : 0 ≤ x) : ∃ E x' y' z', f__law_events [.r 0] [bagC x y z ms] = .ok (evs E) [bagC x' y' z' ms] ∧ (∀ e ∈ E, Good e) ∧ E.length ≤ 8 ∧ 0 ≤ x' := by
  obtain ⟨n, h1, q1, n0, n1, d1⟩ := take_d (ρ := [some (.r 0), some (.r 1), none]) (a := mVar 0) (m := 9) (Bag.bag0 (r := [.lst []]) (y := y) (z := z) hx) hl rfl (by decide) (by decide)
  obtain ⟨x1, y1, z1, e1, hx1⟩ := drawn_two d1
  subst e1
  obtain ⟨ρ', hs', f1, x2, E, x', y', z', f2, f3, f4, f5, f6⟩ := forL_whole (enc := fun (i : Nat) => D.int (0 + (i : Int))) (t := .nm 2) (body := l__law_events_1) (whole := List.range n.toNat)
    (I := fun d ρ hs => ∃ x2 E x y z, ρ = [some (.r 0), some (.r 1), x2] ∧ hs = [bagC x y z ms, .lst (E.map ev)] ∧ (∀ e ∈ E, Good e) ∧ E.length = d.length ∧ 0 ≤ x)
    (fun d i rest ρ hs ew ⟨x2, E, x, y, z, er, eh, g, hlen, hx⟩ => by
      subst er eh
      have hd : d.length ≤ 8 := by have := congrArg List.length ew; simp at this; omega
      obtain ⟨e, x', y', z', q, ge, hx'⟩ := event_turn hl hx (E := E) (by omega) (k := .int (0 + (i : Int))) (y := y) (z := z)
      refine ⟨_, _, _, rfl, .inl q, _, E ++ [e], x', y', z', rfl, rfl, fun u hu => ?_, by simp [hlen], hx'⟩
      rcases List.mem_append.mp hu with h | h
      · exact g u h
      · rw [List.mem_singleton.mp h]; exact ge)
    (List.range n.toNat) [] [some (.r 0), some (.r 1), none] [bagC x1 y1 z1 ms, .lst []] rfl ⟨none, [], x1, y1, z1, rfl, rfl, (fun _ h => nomatch h), rfl, hx1⟩
  refine ⟨E, x', y', z', ?_, f4, by rw [f5]; simp; omega, f6⟩
  have body : b__law_events [some (.r 0), none, none] [bagC x y z ms] = .rt (.d (evs E)) hs' := by
    unfold b__law_events
    refine Eq.trans (seq_nx newL_ok) ?_
    refine Eq.trans (seq_nx (Eq.trans (for_ok (range_ok n.toNat (z := n) q1 (by omega) (by omega))) f1)) ?_
    rw [f2, f3]
    exact ret_ok (bf1 (x := .r 1) rfl rfl)
  refine Eq.trans (fn_rt (hs1 := hs') body) ?_
  rw [f3]; rfl
end Lk74

set_option Elab.async false
set_option linter.all false
set_option maxRecDepth 100000
set_option maxHeartbeats 4000000
/-! k74: what drawn events are like; the greatest number of open cases. -/
namespace Lk74
open PySem PySem.Spec PyProof.Rows L2 L2.Py
variable [Tl]

structure GE (E : List Ev) : Prop where
  g : ∀ e ∈ E, Good e
  len : E.length ≤ 8
theorem GE.e {E : List Ev} (h : GE E) : GoodE E := ⟨fun e he => (h.g e he).w, fun e he => by have := (h.g e he).m1; omega, h.len⟩
theorem mem_rows {E : List Ev} {k : Int} {e : Ev} (h : e ∈ rows E k) : e ∈ E ∧ e.n = k := by
  unfold rows at h
  obtain ⟨m, _, hm⟩ := List.mem_flatMap.mp h
  obtain ⟨h1, h2⟩ := List.mem_filter.mp hm
  simp only [Bool.and_eq_true, decide_eq_true_eq] at h2
  exact ⟨h1, h2.1⟩
theorem three {l : List Int} (h : l.Pairwise (· < ·)) (hb : ∀ x ∈ l, 0 ≤ x ∧ x < 3) : l.length ≤ 3 := by
  match l, h, hb with
  | [], _, _ => simp
  | [_], _, _ => simp
  | [_, _], _, _ => simp
  | [_, _, _], _, _ => simp
  | a :: b :: c :: d :: r, h, hb =>
    have h1 := List.pairwise_cons.mp h
    have h2 := List.pairwise_cons.mp h1.2
    have h3 := List.pairwise_cons.mp h2.2
    have x1 := h1.1 b (by simp)
    have x2 := h2.1 c (by simp)
    have x3 := h3.1 d (by simp)
    have a0 := (hb a (by simp)).1
    have d0 := (hb d (by simp)).2
    omega
theorem GE.c {E : List Ev} (h : GE E) : GoodC (cases E) where
  ev := fun c hc e he => by
    rw [cases_snd hc] at he
    have := (mem_rows he).1
    exact ⟨(h.g e this).w, by have := (h.g e this).m1; omega⟩
  ne := fun c hc => by
    rw [cases_snd hc, rows_sorted h.e.m40]
    intro z
    have hl := congrArg List.length z
    rw [List.length_mergeSort] at hl
    obtain ⟨k, hk, rfl⟩ := List.mem_map.mp hc
    exact (atN_nil.mp (List.length_eq_zero_iff.mp hl)) (mem_setSort.mp hk)
  rl := fun c hc => by
    rw [cases_snd hc, rows_sorted h.e.m40, List.length_mergeSort]
    unfold atN
    exact Nat.le_trans (List.length_filter_le _ _) h.len
  len := by
    unfold cases
    rw [List.length_map]
    refine three (pw_setSort _) fun x hx => ?_
    obtain ⟨e, he, rfl⟩ := List.mem_map.mp (mem_setSort.mp hx)
    exact ⟨(h.g e he).n0, (h.g e he).n1⟩

/-! ### the best moment -/
def BestOk (C : Cs) (ts : List Int) (b : Int × Int) : Prop := (∀ t ∈ ts, many C t ≤ b.1) ∧ (b = (0, 0) ∨ (0 < b.1 ∧ (ts.filter fun t => decide (many C t = b.1)).head? = some b.2))
theorem best_snoc (C : Cs) (ts : List Int) (t : Int) : best C (ts ++ [t]) = bstep C (best C ts) t := by simp [best]
theorem best_ok (C : Cs) (ts : List Int) : BestOk C ts (best C ts) := by
  have key : ∀ qs done : List Int, BestOk C done (best C done) → BestOk C (done ++ qs) (best C (done ++ qs)) := by
    intro qs
    induction qs with
    | nil => intro done h; simpa using h
    | cons q qs ih =>
      intro done h
      have := ih (done ++ [q]) (by
        obtain ⟨h1, h2⟩ := h
        rw [best_snoc]
        generalize best C done = b at h1 h2 ⊢
        unfold bstep
        have b0 : 0 ≤ b.1 := by
          rcases h2 with z | z
          · rw [z]; exact Int.le_refl 0
          · omega
        by_cases hq : many C q > b.1
        · rw [if_pos hq]
          refine ⟨fun t ht => ?_, .inr ⟨by show 0 < many C q; omega, ?_⟩⟩
          · rcases List.mem_append.mp ht with z | z
            · have := h1 t z; show many C t ≤ many C q; omega
            · rw [List.mem_singleton.mp z]; exact Int.le_refl _
          · rw [List.filter_append]
            have : done.filter (fun t => decide (many C t = many C q)) = [] := by
              rw [List.filter_eq_nil_iff]
              intro t ht z
              have := h1 t ht
              simp only [decide_eq_true_eq] at z
              omega
            rw [this]
            simp
        · rw [if_neg hq]
          refine ⟨fun t ht => ?_, ?_⟩
          · rcases List.mem_append.mp ht with z | z
            · exact h1 t z
            · rw [List.mem_singleton.mp z]; omega
          · rcases h2 with z | ⟨z1, z2⟩
            · exact .inl z
            · refine .inr ⟨z1, ?_⟩
              rw [List.filter_append, List.head?_append, z2]; rfl)
      simpa using this
  have := key ts [] ⟨fun t ht => (nomatch ht), .inl rfl⟩
  simpa using this
theorem fold_max : ∀ (l : List Int) (a : Int), a ≤ l.foldl max a ∧ (∀ x ∈ l, x ≤ l.foldl max a) ∧ (l.foldl max a = a ∨ l.foldl max a ∈ l)
  | [], a => ⟨Int.le_refl _, fun _ h => (nomatch h), .inl rfl⟩
  | x :: l, a => by
    obtain ⟨h1, h2, h3⟩ := fold_max l (max a x)
    rw [List.foldl_cons]
    refine ⟨by omega, fun y hy => ?_, ?_⟩
    · rcases List.mem_cons.mp hy with rfl | hy
      · omega
      · exact h2 y hy
    · rcases h3 with h3 | h3
      · by_cases q : a ≤ x
        · right; rw [h3, Int.max_eq_right q]; exact List.mem_cons_self
        · left; rw [h3, Int.max_eq_left (by omega)]
      · exact .inr (List.mem_cons_of_mem _ h3)
def maxOf : List Int → Int
  | [] => 0
  | x :: l => l.foldl max x
theorem maxOf_ge {l : List Int} {x : Int} (h : x ∈ l) : x ≤ maxOf l := by
  cases l with
  | nil => cases h
  | cons y l =>
    obtain ⟨h1, h2, _⟩ := fold_max l y
    rcases List.mem_cons.mp h with rfl | h
    · exact h1
    · exact h2 x h
theorem maxOf_mem {l : List Int} (h : l ≠ []) : maxOf l ∈ l := by
  cases l with
  | nil => exact absurd rfl h
  | cons y l =>
    obtain ⟨_, _, h3⟩ := fold_max l y
    rcases h3 with h3 | h3
    · show l.foldl max y ∈ _; rw [h3]; exact List.mem_cons_self
    · exact List.mem_cons_of_mem _ h3
def lens (C : Cs) : List Int := (List.range 14).map fun (t : Nat) => many C (t : Int)
theorem fst_mem {r : List Ev} (h : r ≠ []) : ∃ e ∈ r, e.m = fstM r := by
  cases r with
  | nil => exact absurd rfl h
  | cons e r => exact ⟨e, List.mem_cons_self, rfl⟩
theorem many_up {E : List Ev} (h : GE E) {t0 : Int} (hp : 0 < many (cases E) t0) : ∃ t ∈ E.map (·.m), many (cases E) t0 ≤ many (cases E) t := by
  have hne : opens (cases E) t0 ≠ [] := fun z => by unfold many at hp; rw [z] at hp; simp at hp
  let fs := (opens (cases E) t0).map fun c => fstM c.2
  have hfs : fs ≠ [] := by simpa [fs] using hne
  obtain ⟨c, hc, ec⟩ := List.mem_map.mp (maxOf_mem hfs)
  obtain ⟨hc1, hc2⟩ := List.mem_filter.mp hc
  refine ⟨maxOf fs, ?_, ?_⟩
  · obtain ⟨e, he, em⟩ := fst_mem (h.c.ne c hc1)
    rw [cases_snd hc1] at he
    rw [← ec, ← em]
    exact List.mem_map.mpr ⟨e, (mem_rows he).1, rfl⟩
  · have sub : (opens (cases E) t0).Sublist (opens (cases E) (maxOf fs)) := by
      have : opens (cases E) t0 = (opens (cases E) (maxOf fs)).filter (opP t0) := by
        unfold opens
        rw [List.filter_filter]
        refine List.filter_congr fun d hd => ?_
        by_cases q : opP t0 d = true
        · have m1 : fstM d.2 ≤ maxOf fs := maxOf_ge (List.mem_map.mpr ⟨d, List.mem_filter.mpr ⟨hd, q⟩, rfl⟩)
          have m2 : maxOf fs ≤ t0 := by
            rw [← ec]
            simp only [opP, Bool.and_eq_true, decide_eq_true_eq] at hc2
            exact hc2.1
          have q' := q
          simp only [opP, Bool.and_eq_true, decide_eq_true_eq] at q'
          have : opP (maxOf fs) d = true := by
            simp only [opP, Bool.and_eq_true, decide_eq_true_eq]
            exact ⟨m1, by omega⟩
          rw [q, this]; rfl
        · have q' : opP t0 d = false := by simpa using q
          rw [q']; rfl
      rw [this]
      exact List.filter_sublist
    have := sub.length_le
    unfold many
    omega
theorem best_is {E : List Ev} (h : GE E) : let M := maxOf (lens (cases E)); let ts := setSort (E.map (·.m))
    (0 < M → ∃ t, (ts.filter fun t => decide (many (cases E) t = M)).head? = some t ∧ best (cases E) ts = (M, t)) ∧ (¬ 0 < M → best (cases E) ts = (0, 0)) := by
  intro M ts
  obtain ⟨b1, b2⟩ := best_ok (cases E) ts
  generalize best (cases E) ts = b at b1 b2
  have in14 : ∀ t ∈ ts, many (cases E) t ≤ M := fun t ht => by
    obtain ⟨e, he, rfl⟩ := List.mem_map.mp (mem_setSort.mp ht)
    have g := h.g e he
    refine maxOf_ge (List.mem_map.mpr ⟨e.m.toNat, List.mem_range.mpr (by have := g.m1; have := g.m0; omega), ?_⟩)
    rw [Int.toNat_of_nonneg g.m0]
  have up : 0 < M → M ≤ b.1 := fun hM => by
    have hm : M ∈ lens (cases E) := maxOf_mem (by unfold lens; simp)
    obtain ⟨t0, _, e0⟩ := List.mem_map.mp hm
    obtain ⟨t, ht, hle⟩ := many_up h (t0 := (t0 : Int)) (by rw [e0]; exact hM)
    have := b1 t (mem_setSort.mpr ht)
    rw [e0] at hle
    omega
  have down : b.1 ≤ M ∨ b = (0, 0) := by
    rcases b2 with z | ⟨z1, z2⟩
    · exact .inr z
    · left
      have mem := List.mem_of_mem_head? (by rw [z2]; rfl : b.2 ∈ (ts.filter fun t => decide (many (cases E) t = b.1)).head?)
      obtain ⟨m1, m2⟩ := List.mem_filter.mp mem
      simp only [decide_eq_true_eq] at m2
      have := in14 b.2 m1
      omega
  refine ⟨fun hM => ?_, fun hM => ?_⟩
  · have u := up hM
    have eb : b.1 = M := by
      rcases down with d | d
      · omega
      · rw [d] at u; have : M ≤ 0 := u; omega
    rcases b2 with z | ⟨z1, z2⟩
    · rw [z] at eb; have : (0 : Int) = M := eb; omega
    · rw [eb] at z2
      exact ⟨b.2, z2, by rw [← eb]⟩
  · rcases b2 with z | ⟨z1, z2⟩
    · exact z
    · rcases down with d | d
      · omega
      · exact d
end Lk74

set_option Elab.async false
set_option linter.all false
set_option maxRecDepth 100000
set_option maxHeartbeats 4000000
/-! k74: all that is compared is small. -/
namespace Lk74
open PySem PySem.Spec PyProof.Rows L2 L2.Py
variable [Tl]

theorem sm_mono {n m : Nat} {d : D} (h : n ≤ m) : sm n d = true → sm m d = true := by
  induction h with
  | refl => exact id
  | step _ ih => exact fun z => sm_up (ih z)
where
  sm_up : ∀ {n : Nat} {d : D}, sm n d = true → sm (n + 1) d = true
    | 0, .non, _ => rfl
    | _ + 1, .non, _ => rfl
    | 0, .bl _, _ => rfl
    | _ + 1, .bl _, _ => rfl
    | 0, .int _, h => by simpa only [sm] using h
    | _ + 1, .int _, h => by simpa only [sm] using h
    | 0, .str _, h => by simpa only [sm] using h
    | _ + 1, .str _, h => by simpa only [sm] using h
    | n + 1, .tup xs, h => by
      simp only [sm, Bool.and_eq_true, decide_eq_true_eq] at h
      exact sm_tup h.1 fun x hx => sm_up (smL_all.mp h.2 x hx)
    | n + 1, .lst xs, h => by
      simp only [sm, Bool.and_eq_true, decide_eq_true_eq] at h
      exact sm_lst h.1 fun x hx => sm_up (smL_all.mp h.2 x hx)
    | 0, .tup _, h => by simp [sm] at h
    | 0, .lst _, h => by simp [sm] at h
    | 0, .dct _ _, h => by simp [sm] at h
    | 0, .scr _, h => by simp [sm] at h
    | 0, .glo _, h => by simp [sm] at h
    | 0, .ty _, h => by simp [sm] at h
    | _ + 1, .dct _ _, h => by simp [sm] at h
    | _ + 1, .scr _, h => by simp [sm] at h
    | _ + 1, .glo _, h => by simp [sm] at h
    | _ + 1, .ty _, h => by simp [sm] at h
theorem case_n {E : List Ev} (h : GE E) {c : Int × List Ev} (hc : c ∈ cases E) : 0 ≤ c.1 ∧ c.1 < 3 := by
  obtain ⟨k, hk, rfl⟩ := List.mem_map.mp hc
  obtain ⟨e, he, rfl⟩ := List.mem_map.mp (mem_setSort.mp hk)
  exact ⟨(h.g e he).n0, (h.g e he).n1⟩
theorem case_e {E : List Ev} (h : GE E) {c : Int × List Ev} (hc : c ∈ cases E) {e : Ev} (he : e ∈ c.2) : Good e := by
  rw [cases_snd hc] at he
  exact h.g e (mem_rows he).1
theorem sm_evs {n : Nat} {F : List Ev} (hl : F.length ≤ 32) (h : ∀ e ∈ F, GoodW e) : sm (n + 2) (evs F) = true := by
  refine sm_tup (by rw [List.length_map]; exact hl) fun x hx => ?_
  obtain ⟨e, he, rfl⟩ := List.mem_map.mp hx
  exact sm_ev (h e he)
theorem sm_case {E : List Ev} (h : GE E) {c : Int × List Ev} (hc : c ∈ cases E) : sm 3 (cD c) = true := by
  refine sm_tup (by simp) fun x hx => ?_
  simp only [List.mem_cons, List.not_mem_nil, or_false] at hx
  rcases hx with rfl | rfl
  · have := case_n h hc; exact sm_int _ (by omega) (by omega)
  · exact sm_evs (n := 0) (by have := h.c.rl c hc; omega) fun e he => (case_e h hc he).w
theorem sm_cases {E : List Ev} (h : GE E) : sm 4 (.tup ((cases E).map cD)) = true := by
  refine sm_tup (by rw [List.length_map]; have := h.c.len; omega) fun x hx => ?_
  obtain ⟨c, hc, rfl⟩ := List.mem_map.mp hx
  exact sm_case h hc
theorem fst_b {E : List Ev} (h : GE E) {c : Int × List Ev} (hc : c ∈ cases E) : 0 ≤ fstM c.2 ∧ fstM c.2 < 12 ∧ 0 ≤ lstM c.2 ∧ lstM c.2 < 12 := by
  have hn := h.c.ne c hc
  obtain ⟨e, he, em⟩ := fst_mem hn
  have g1 := case_e h hc he
  have g2 := case_e h hc (List.getLast_mem hn)
  have e2 : lstM c.2 = (c.2.getLast hn).m := by unfold lstM; rw [List.getLast?_eq_some_getLast hn]; rfl
  rw [← em, e2]
  exact ⟨g1.m0, g1.m1, g2.m0, g2.m1⟩
theorem sm_spans {E : List Ev} (h : GE E) : sm 2 (.tup ((cases E).map spD)) = true := by
  refine sm_tup (by rw [List.length_map]; have := h.c.len; omega) fun x hx => ?_
  obtain ⟨c, hc, rfl⟩ := List.mem_map.mp hx
  refine sm_tup (by simp) fun x hx => ?_
  simp only [List.mem_cons, List.not_mem_nil, or_false] at hx
  have b := fst_b h hc
  have n := case_n h hc
  rcases hx with rfl | rfl
  · exact sm_int _ (by omega) (by omega)
  · exact sm_int _ (by omega) (by omega)
/-! ### counts -/
theorem lC_hc {q : D → Prop} {ks : List D} (h : ∀ k ∈ ks, q k) : HC q ks.length (lC ks) := by
  have key : ∀ (qs done : List D), (∀ k ∈ qs, q k) → HC q done.length (lC done) → HC q (done ++ qs).length (lC (done ++ qs)) := by
    intro qs
    induction qs with
    | nil => intro done _ h; simpa using h
    | cons x qs ih =>
      intro done hq h
      have := ih (done ++ [x]) (fun k hk => hq k (List.mem_cons_of_mem _ hk)) (by rw [lC_snoc, List.length_append]; exact cadd_hc h (hq x List.mem_cons_self))
      simpa using this
  have := key ks [] h ⟨(fun _ h => nomatch h), Nat.le_refl _, rfl, (fun _ h => nomatch h)⟩
  simpa using this
theorem oC_lC (E : List Ev) : oC E = lC (E.map ok2) := by unfold oC lC; rw [List.foldl_map]
theorem hC_lC (ps : List Pr) : hC ps = lC ((ps.filter fun p => !decide (p.1.h = p.2.h)).map hk) := by
  unfold hC lC
  rw [List.foldl_map]
  generalize (⟨[], []⟩ : Ct) = C
  induction ps generalizing C with
  | nil => rfl
  | cons p ps ih =>
    rw [List.foldl_cons, ih]
    unfold hstep
    by_cases q : p.1.h = p.2.h
    · rw [if_pos q, List.filter_cons_of_neg (by simp [q])]
    · rw [if_neg q, List.filter_cons_of_pos (by simp [q])]; rfl
theorem sm_items {n : Nat} {C : Ct} (H : HC (fun d => sm 1 d = true) n C) (hn : n ≤ 32) : sm 3 (handsD C) = true := by
  refine sm_tup ?_ fun x hx => ?_
  · unfold sortK itemsD pairsD
    rw [List.length_mergeSort, List.length_zipWith]
    have := H.len
    omega
  · have hx : x ∈ itemsD C := List.mem_mergeSort.mp hx
    obtain ⟨j, hj⟩ := List.getElem?_of_mem hx
    unfold itemsD pairsD at hj
    rw [List.getElem?_zipWith] at hj
    cases e1 : C.ks[j]? with
    | none => rw [e1] at hj; cases hj
    | some k =>
      rw [e1, List.getElem?_map] at hj
      cases e2 : C.ns[j]? with
      | none => rw [e2] at hj; cases hj
      | some i =>
        rw [e2] at hj
        cases hj
        have hk := H.keys k (List.mem_of_getElem? e1)
        have hi := H.pos i (List.mem_of_getElem? e2)
        refine sm_tup (by simp) fun x hx => ?_
        simp only [List.mem_cons, List.not_mem_nil, or_false] at hx
        rcases hx with rfl | rfl
        · exact hk
        · exact sm_int _ (by omega) (by omega)
theorem sm_two {x y : Str} (hx : sm 0 (.str x) = true) (hy : sm 0 (.str y) = true) : sm 1 (.tup [.str x, .str y]) = true := by
  refine sm_tup (by simp) fun z hz => ?_
  simp only [List.mem_cons, List.not_mem_nil, or_false] at hz
  rcases hz with rfl | rfl
  · exact hx
  · exact hy
theorem pair_good {E : List Ev} (h : GE E) {p : Pr} (hp : p ∈ allP (cases E)) : Good p.1 ∧ Good p.2 := by
  unfold allP at hp
  obtain ⟨c, hc, hp⟩ := List.mem_flatMap.mp hp
  have := prs_mem hp
  exact ⟨case_e h hc this.1, case_e h hc this.2⟩
theorem sm_hands {E : List Ev} (h : GE E) : sm 3 (handsD (hC (allP (cases E)))) = true := by
  rw [hC_lC]
  refine sm_items (lC_hc fun k hk' => ?_) ?_
  · obtain ⟨p, hp, rfl⟩ := List.mem_map.mp hk'
    obtain ⟨g1, g2⟩ := pair_good h (List.mem_filter.mp hp).1
    exact sm_two (sm_hd 0 g1.h) (sm_hd 0 g2.h)
  · rw [List.length_map]
    have := List.length_filter_le (fun p : Pr => !decide (p.1.h = p.2.h)) (allP (cases E))
    have := h.c.all
    omega
theorem sm_works {E : List Ev} (h : GE E) : sm 3 (handsD (oC E)) = true := by
  rw [oC_lC]
  refine sm_items (lC_hc fun k hk' => ?_) (by rw [List.length_map]; have := h.len; omega)
  obtain ⟨e, he, rfl⟩ := List.mem_map.mp hk'
  exact sm_two (sm_hd 0 (h.g e he).h) (sm_nm 0 (h.g e he).a)
theorem sm_nmT {r : List Ev} (hl : r.length ≤ 8) (h : ∀ e ∈ r, Good e) : sm 1 (nmT r) = true := by
  refine sm_tup (by rw [List.length_map]; omega) fun x hx => ?_
  obtain ⟨e, he, rfl⟩ := List.mem_map.mp hx
  exact sm_nm 0 (h e he).a
theorem sm_log {E : List Ev} (h : GE E) : sm 3 (logD (lC (keysC (cases E)))) = true := by
  have H := lC_hc (q := fun d => sm 1 d = true) (ks := keysC (cases E)) (fun k hk' => by
    obtain ⟨c, hc, rfl⟩ := List.mem_map.mp hk'
    exact sm_nmT (h.c.rl c hc) fun e he => case_e h hc he)
  have hl : (keysC (cases E)).length ≤ 3 := by rw [keysC_len]; exact h.c.len
  generalize lC (keysC (cases E)) = C at H
  refine sm_tup ?_ fun x hx => ?_
  · unfold sortBy
    rw [List.length_map, List.length_mergeSort]
    have := H.len; omega
  · obtain ⟨k, hk', rfl⟩ := List.mem_map.mp hx
    have hk2 : k ∈ C.ks := List.mem_mergeSort.mp hk'
    refine sm_tup (by simp) fun x hx => ?_
    simp only [List.mem_cons, List.not_mem_nil, or_false] at hx
    rcases hx with rfl | rfl
    · exact H.keys _ hk2
    · obtain ⟨i, hi⟩ := look_mem H.same hk2
      have mem : ∀ (ks : List D) (ns : List Int), lookA ks ns k = some i → i ∈ ns := by
        intro ks
        induction ks with
        | nil => intro ns e; simp [lookA] at e
        | cons x ks ih =>
          intro ns e
          cases ns with
          | nil => simp [lookA] at e
          | cons y ns =>
            simp only [lookA] at e
            split at e
            · cases e; exact List.mem_cons_self
            · exact List.mem_cons_of_mem _ (ih ns e)
      have b := H.pos i (mem _ _ hi)
      rw [hi]
      exact sm_int _ (by show -1000 < i; omega) (by show i < 1000; omega)
end Lk74

set_option Elab.async false
set_option linter.all false
set_option maxRecDepth 100000
set_option maxHeartbeats 4000000
/-! k74: waits and answers are small. -/
namespace Lk74
open PySem PySem.Spec PyProof.Rows L2 L2.Py
variable [Tl]

def b12 (v : Int) : Prop := -12 < v ∧ v < 12
theorem wG_vals (ps : List Pr) (hp : ∀ p ∈ ps, b12 (p.2.m - p.1.m)) : ∀ k r, grow k (wG ps) = some r → ∃ ns : List Int, r = ns.map D.int ∧ ns ≠ [] ∧ ns.length ≤ ps.length ∧ ∀ v ∈ ns, b12 v := by
  have key : ∀ (qs done : List Pr), (∀ p ∈ qs, b12 (p.2.m - p.1.m)) → (∀ k r, grow k (wG done) = some r → ∃ ns : List Int, r = ns.map D.int ∧ ns ≠ [] ∧ ns.length ≤ done.length ∧ ∀ v ∈ ns, b12 v) →
      ∀ k r, grow k (wG (done ++ qs)) = some r → ∃ ns : List Int, r = ns.map D.int ∧ ns ≠ [] ∧ ns.length ≤ (done ++ qs).length ∧ ∀ v ∈ ns, b12 v := by
    intro qs
    induction qs with
    | nil => intro done _ h; simpa using h
    | cons q qs ih =>
      intro done hq h
      have := ih (done ++ [q]) (fun p hp => hq p (List.mem_cons_of_mem _ hp)) (fun k r hr => by
        have hq' := hq q List.mem_cons_self
        rw [wG_snoc, grow_gadd] at hr
        split at hr
        · cases hr
          cases e : grow k (wG done) with
          | none => exact ⟨[q.2.m - q.1.m], rfl, by simp, by simp, fun v hv => by rw [List.mem_singleton.mp hv]; exact hq'⟩
          | some r0 =>
            obtain ⟨ns, rfl, _, n2, n3⟩ := h k r0 e
            refine ⟨ns ++ [q.2.m - q.1.m], by simp [wv], by simp, by simp; omega, fun v hv => ?_⟩
            rcases List.mem_append.mp hv with z | z
            · exact n3 v z
            · rw [List.mem_singleton.mp z]; exact hq'
        · obtain ⟨ns, n0, n1, n2, n3⟩ := h k r hr
          exact ⟨ns, n0, n1, by simp; omega, n3⟩)
      simpa using this
  have := key ps [] hp (fun k r h => by cases h)
  simpa using this
theorem fold_b : ∀ (f : Int → Int → Int) (l : List Int) (a : Int), (∀ x y, f x y = x ∨ f x y = y) → b12 a → (∀ v ∈ l, b12 v) → b12 (l.foldl f a)
  | f, [], a, _, h, _ => h
  | f, x :: l, a, hf, h, hl => by
    rw [List.foldl_cons]
    refine fold_b f l _ hf ?_ fun v hv => hl v (List.mem_cons_of_mem _ hv)
    rcases hf a x with z | z
    · rw [z]; exact h
    · rw [z]; exact hl x List.mem_cons_self
theorem sum_b : ∀ l : List Int, (∀ v ∈ l, b12 v) → -(12 * (l.length : Int)) ≤ l.sum ∧ l.sum ≤ 12 * (l.length : Int)
  | [], _ => by simp
  | x :: l, h => by
    have h1 := h x List.mem_cons_self
    have h2 := sum_b l fun v hv => h v (List.mem_cons_of_mem _ hv)
    unfold b12 at h1
    rw [List.sum_cons, List.length_cons]
    omega
theorem pair_b {E : List Ev} (h : GE E) {p : Pr} (hp : p ∈ allP (cases E)) : b12 (p.2.m - p.1.m) := by
  obtain ⟨g1, g2⟩ := pair_good h hp
  have := g1.m0; have := g1.m1; have := g2.m0; have := g2.m1
  exact ⟨by omega, by omega⟩
theorem key_sm {ps : List Pr} (hg : ∀ p ∈ ps, Good p.1 ∧ Good p.2) : ∀ k ∈ (wG ps).map (·.1), sm 1 k = true := by
  have key : ∀ (qs done : List Pr), (∀ p ∈ qs, Good p.1 ∧ Good p.2) → (∀ k ∈ (wG done).map (·.1), sm 1 k = true) → ∀ k ∈ (wG (done ++ qs)).map (·.1), sm 1 k = true := by
    intro qs
    induction qs with
    | nil => intro done _ h; simpa using h
    | cons q qs ih =>
      intro done hq h
      have := ih (done ++ [q]) (fun p hp => hq p (List.mem_cons_of_mem _ hp)) (fun k hk => by
        rw [wG_snoc, gadd_keys] at hk
        rcases putK_mem hk with z | rfl
        · exact h k z
        · obtain ⟨g1, g2⟩ := hq q List.mem_cons_self
          exact sm_two (sm_nm 0 g1.a) (sm_nm 0 g2.a))
      simpa using this
  have := key ps [] hg (fun k h => by simp [wG] at h)
  simpa using this
theorem sm_told {E : List Ev} (h : GE E) : sm 3 (told (wG (allP (cases E)))) = true := by
  have hl := h.c.all
  have W := wg_all (allP (cases E))
  have ks := key_sm (ps := allP (cases E)) fun p hp => pair_good h hp
  have vs := wG_vals (allP (cases E)) fun p hp => pair_b h hp
  generalize wG (allP (cases E)) = G at W ks vs
  refine sm_tup ?_ fun x hx => ?_
  · unfold sortK
    rw [List.length_map, List.length_mergeSort, List.length_map]
    have := W.glen; omega
  · obtain ⟨k, hk, rfl⟩ := List.mem_map.mp hx
    have hk' : k ∈ G.map (·.1) := List.mem_mergeSort.mp hk
    obtain ⟨r, gr⟩ := grow_some _ hk'
    obtain ⟨ns, rfl, hn, hln, hb⟩ := vs k r gr
    obtain ⟨j, js, rfl⟩ : ∃ j js, ns = j :: js := by
      cases ns with
      | nil => exact absurd rfl hn
      | cons j js => exact ⟨j, js, rfl⟩
    have e : toldD G k = .tup [k, .int ((j :: js).length : Int), .int (js.foldl min j), .int (js.foldl max j), .int (j :: js).sum] := by
      unfold toldD
      rw [gr]
      simp only [Option.getD_some, intsO_map]
      rfl
    rw [e]
    have hj := hb j List.mem_cons_self
    have hjs : ∀ v ∈ js, b12 v := fun v hv => hb v (List.mem_cons_of_mem _ hv)
    have b1 := fold_b min js j (fun x y => by omega) hj hjs
    have b2 := fold_b max js j (fun x y => by omega) hj hjs
    have b3 := sum_b (j :: js) hb
    unfold b12 at b1 b2
    refine sm_tup (by simp) fun x hx => ?_
    simp only [List.mem_cons, List.not_mem_nil, or_false] at hx
    rcases hx with rfl | rfl | rfl | rfl | rfl
    · exact ks _ hk'
    · exact sm_int _ (by omega) (by omega)
    · exact sm_int _ (by omega) (by omega)
    · exact sm_int _ (by omega) (by omega)
    · exact sm_int _ (by omega) (by omega)
/-! ### answers -/
theorem an_b {E : List Ev} (h : GE E) {a b : Str} {x : An} (hx : x ∈ ansC (cases E) a b) : (0 ≤ x.n ∧ x.n < 3) ∧ (0 ≤ x.m ∧ x.m < 12) ∧ ∀ v, x.o = some v → b12 v := by
  unfold ansC at hx
  obtain ⟨c, hc, hx⟩ := List.mem_flatMap.mp hx
  unfold ansTo at hx
  obtain ⟨i, hi, hx⟩ := List.mem_flatMap.mp hx
  have hi' : i < c.2.length := List.mem_range.mp hi
  unfold ansAt at hx
  rw [List.getElem?_eq_getElem hi'] at hx
  simp only at hx
  split at hx
  · obtain rfl := List.mem_singleton.mp hx
    have g := case_e h hc (List.getElem_mem hi')
    refine ⟨case_n h hc, ⟨g.m0, g.m1⟩, fun v hv => ?_⟩
    have hm : v ∈ later c.2 i c.2[i] b := List.mem_of_mem_head? (show v ∈ (later c.2 i c.2[i] b).head? from hv)
    unfold later at hm
    obtain ⟨o, ho, rfl⟩ := List.mem_map.mp hm
    have g2 := case_e h hc (List.mem_of_mem_drop (List.mem_filter.mp ho).1)
    have := g.m0; have := g.m1; have := g2.m0; have := g2.m1
    exact ⟨by omega, by omega⟩
  · cases hx
theorem sm_an {E : List Ev} (h : GE E) {a b : Str} {x : An} (hx : x ∈ ansC (cases E) a b) : sm 1 (anD x) = true := by
  obtain ⟨b1, b2, b3⟩ := an_b h hx
  refine sm_tup (by simp) fun y hy => ?_
  simp only [List.mem_cons, List.not_mem_nil, or_false] at hy
  rcases hy with rfl | rfl | rfl
  · exact sm_int _ (by omega) (by omega)
  · exact sm_int _ (by omega) (by omega)
  · cases e : x.o with
    | none => rfl
    | some v =>
      have := b3 v e
      unfold b12 at this
      exact sm_int _ (by omega) (by omega)
theorem ans_l {E : List Ev} (h : GE E) (a b : Str) : (ansC (cases E) a b).length ≤ 24 := by
  have := ansC_len h.c.rl a b
  have := h.c.len
  omega
theorem sm_rests {E : List Ev} (h : GE E) (a b : Str) (most : Int) : sm 3 (.lst [.tup ((ansC (cases E) a b).map anD), slow most (ansC (cases E) a b), bound (ansC (cases E) a b)]) = true := by
  have hl := ans_l h a b
  refine sm_lst (by simp) fun x hx => ?_
  simp only [List.mem_cons, List.not_mem_nil, or_false] at hx
  rcases hx with rfl | rfl | rfl
  · refine sm_tup (by rw [List.length_map]; omega) fun y hy => ?_
    obtain ⟨z, hz, rfl⟩ := List.mem_map.mp hy
    exact sm_an h hz
  · refine sm_tup ?_ fun y hy => ?_
    · rw [List.length_map]
      have := List.length_filter_le (slowP most) (ansC (cases E) a b)
      omega
    · obtain ⟨z, hz, rfl⟩ := List.mem_map.mp hy
      exact sm_an h (List.mem_filter.mp hz).1
  · unfold bound
    split
    · rfl
    · have hb : b12 ((vals (ansC (cases E) a b)).foldl max 0) := by
        refine fold_b max _ 0 (fun x y => by omega) ⟨by decide, by decide⟩ fun v hv => ?_
        obtain ⟨x, hx, rfl⟩ := List.mem_map.mp hv
        obtain ⟨_, _, b3⟩ := an_b h hx
        cases e : x.o with
        | none => exact ⟨by decide, by decide⟩
        | some v => exact b3 v e
      unfold b12 at hb
      exact sm_int _ (by omega) (by omega)
theorem sm_nums {E : List Ev} (h : GE E) (p : Int × List Ev → Bool) : sm 1 (.tup (((cases E).filter p).map fun c => .int c.1)) = true := by
  refine sm_tup ?_ fun x hx => ?_
  · rw [List.length_map]
    have := List.length_filter_le p (cases E)
    have := h.c.len
    omega
  · obtain ⟨c, hc, rfl⟩ := List.mem_map.mp hx
    have := case_n h (List.mem_filter.mp hc).1
    exact sm_int _ (by omega) (by omega)
theorem many_b {E : List Ev} (h : GE E) (t : Int) : 0 ≤ many (cases E) t ∧ many (cases E) t ≤ 3 := by
  unfold many opens
  have := List.length_filter_le (opP t) (cases E)
  have := h.c.len
  omega
end Lk74

set_option Elab.async false
set_option linter.all false
set_option maxRecDepth 100000
set_option maxHeartbeats 4000000
/-! k74: the loops of the law's rest. -/
namespace Lk74
open PySem PySem.Spec PyProof.Rows L2 L2.Py
variable [Tl]

abbrev RE (E : List Ev) (x3 x4 x5 x6 x7 x8 x9 x10 x11 x12 x13 x14 x15 x16 x17 x18 x19 x20 x21 : Option SV) : Env' :=
  [some (.r 0), some (.d (evs E)), some (.d (.lst ((cases E).map cD))), x3, x4, x5, x6, x7, x8, x9, x10, x11, x12, x13, x14, x15, x16, x17, x18, x19, x20, x21, none, none, none, none]
theorem asg_ok {t : Tg} {a : ME} {ρ ρ1 : Env'} {hs hs1 : Hs} {x : SV} (h : a ρ hs = .ok x hs1) (ht : mTg t x ρ = some ρ1) : mAsg t a ρ hs = .nx ρ1 hs1 := by
  simp only [mAsg, h, Out.bindS, ht]
theorem alike_call {ρ : Env'} {hs hs1 hs2 : Hs} {a b : ME} {d : D} (ha : a ρ hs = .ok (.d d) hs1) (hb : b ρ hs1 = .ok (.d d) hs2) (h : sm 4 d = true) (hq : seqD d = true) : mCall f__law_alike (mCons a (mCons b mNil)) ρ hs = .ok (.d (.bl true)) hs2 :=
  call2 ha hb (alike_ok h (Nat.le_refl 4) hq)
theorem alike_test {ρ : Env'} {hs hs1 hs2 : Hs} {a b : ME} {d : D} {s : MS} (ha : a ρ hs = .ok (.d d) hs1) (hb : b ρ hs1 = .ok (.d d) hs2) (h : sm 4 d = true) (hq : seqD d = true) : mIfS (mNot (mTru (mCall f__law_alike (mCons a (mCons b mNil))))) s mSkip ρ hs = .nx ρ hs2 :=
  Eq.trans (if_false (not_ok (k := true) (tru_bl (alike_call ha hb h hq)))) rfl
section
variable {E : List Ev} {x3 x4 x5 x6 x7 x8 x18 x19 x20 x21 : Option SV}
theorem loop_counts (h : GE E) {c0 : Cell} {x10 x11 x12 x13 : Option SV} : ∃ y10 y11 y12 y13, mFor (.tp [(.nm 10), (.nm 11), (.nm 12), (.nm 13)]) (mItT (mVar 1)) l__law_is_rest_3 (RE E x3 x4 x5 x6 x7 x8 (some (.r 1)) x10 x11 x12 x13 none none none none x18 x19 x20 x21) [c0, ctCell ⟨[], []⟩] =
    .nx (RE E x3 x4 x5 x6 x7 x8 (some (.r 1)) y10 y11 y12 y13 none none none none x18 x19 x20 x21) [c0, ctCell (oC E)] := by
  obtain ⟨ρ', hs', e1, y10, y11, y12, y13, e2, S⟩ := forL_whole (enc := ev) (t := .tp [.nm 10, .nm 11, .nm 12, .nm 13]) (body := l__law_is_rest_3) (whole := E)
    (I := fun d ρ hs => ∃ x10 x11 x12 x13, ρ = RE E x3 x4 x5 x6 x7 x8 (some (.r 1)) x10 x11 x12 x13 none none none none x18 x19 x20 x21 ∧ hs = [c0, ctCell (oC d)])
    (fun d e rest ρ hs ew ⟨x10, x11, x12, x13, er, eh⟩ => by
      subst er eh
      have hd : d.length ≤ 8 := by have := h.len; have := congrArg List.length ew; simp at this; omega
      have H := oc_all d
      refine ⟨RE E x3 x4 x5 x6 x7 x8 (some (.r 1)) (some (.d (.int e.n))) (some (.d (.str e.a))) (some (.d (.int e.m))) (some (.d (.str e.h))) none none none none x18 x19 x20 x21, _, _, rfl, .inl (count_step (p := 1) (C := oC d) (k := ok2 e) rfl (fun _ => rfl) (fun _ => tup2 rfl rfl) (two_fit H.keys ⟨_, _, rfl⟩) (by have := H.len; omega)), _, _, _, _, rfl, ?_⟩
      rw [oC_snoc]; rfl)
    E [] _ _ rfl ⟨x10, x11, x12, x13, rfl, rfl⟩
  refine ⟨y10, y11, y12, y13, ?_⟩
  exact Eq.trans (for_ok (items := E.map ev) rfl) (Eq.trans e1 (by rw [e2, S]))
theorem in_strs {hs : Hs} {x : Str} {l : List Str} (hx : PyData.strOk x = true) (hl : ∀ y ∈ l, PyData.strOk y = true) : inF false hs (.d (.str x)) (.d (.lst (l.map .str))) = some (.bl (decide (x ∈ l))) := by
  have t : toPyL (l.map D.str) = some (l.map PyData.str) := by
    clear hl
    induction l with
    | nil => rfl
    | cons y l ih => simp only [List.map_cons, toPyL, toPy, ih]
  have lay : PyData.canLayAll0 (l.map PyData.str) = true := by
    clear t
    induction l with
    | nil => rfl
    | cons y l ih =>
      simp only [List.map_cons, PyData.canLayAll0, PyData.canLay0, hl y List.mem_cons_self, ih fun z hz => hl z (List.mem_cons_of_mem _ hz)]; rfl
  have c : (PyData.canLay0 (.str x) && PyData.canLayAll0 (l.map PyData.str) && decide (PyData.depth (.str x) ≤ 100)) = true := by
    rw [lay]; simp only [PyData.canLay0, hx]; rfl
  have r : ((l.map PyData.str).any fun z => PyData.eqv z (.str x)) = decide (x ∈ l) := by
    clear hl t lay c
    induction l with
    | nil => rfl
    | cons y l ih =>
      rw [List.map_cons, List.any_cons, ih]
      have e : PyData.eqv (.str y) (.str x) = decide (y = x) := rfl
      rw [e]
      by_cases q : y = x
      · simp [q]
      · have q' : ¬ x = y := fun z => q z.symm
        simp [q, q']
  simp only [inF, Py.dataOf, toPy, t, if_pos c, Bool.false_eq_true, ↓reduceIte, r]
theorem loop_same (h : GE E) {a b : Str} (ka : a ∈ nmS) (kb : b ∈ nmS) {c0 c1 : Cell} {x10 x11 x12 x13 x5 x6 x7 x8 x9 : Option SV} : ∃ y10 y15 y16, mFor (.tp [(.nm 10), (.nm 15)]) (mItL (mVar 2)) l__law_is_rest_2 (RE E (some (.d (.str a))) (some (.d (.str b))) x5 x6 x7 x8 x9 x10 x11 x12 x13 (some (.r 2)) none none none x18 x19 x20 x21) [c0, c1, .lst []] =
    .nx (RE E (some (.d (.str a))) (some (.d (.str b))) x5 x6 x7 x8 x9 y10 x11 x12 x13 (some (.r 2)) y15 y16 none x18 x19 x20 x21) [c0, c1, .lst (((cases E).filter (handP a b)).map fun c => .int c.1)] := by
  have gc := h.c
  obtain ⟨ρ', hs', e1, y10, y15, y16, e2, S⟩ := forL_whole (enc := cD) (t := .tp [.nm 10, .nm 15]) (body := l__law_is_rest_2) (whole := cases E)
    (I := fun d ρ hs => ∃ x10 x15 x16, ρ = RE E (some (.d (.str a))) (some (.d (.str b))) x5 x6 x7 x8 x9 x10 x11 x12 x13 (some (.r 2)) x15 x16 none x18 x19 x20 x21 ∧ hs = [c0, c1, .lst ((d.filter (handP a b)).map fun c => .int c.1)])
    (fun d c rest ρ hs ew ⟨x10, x15, x16, er, eh⟩ => by
      subst er eh
      have hc : c ∈ cases E := by rw [ew]; simp
      have hdl : d.length ≤ 3 := by have := gc.len; have := congrArg List.length ew; simp at this; omega
      have hfl := List.length_filter_le (handP a b) d
      have gr : ∀ e ∈ c.2, GoodW e := fun e he => (case_e h hc he).w
      have hr := gc.rl c hc
      let ρ0 := RE E (some (.d (.str a))) (some (.d (.str b))) x5 x6 x7 x8 x9 (some (.d (.int c.1))) x11 x12 x13 (some (.r 2)) (some (.d (.tup (c.2.map ev)))) x16 none x18 x19 x20 x21
      let ρ1 := RE E (some (.d (.str a))) (some (.d (.str b))) x5 x6 x7 x8 x9 (some (.d (.int c.1))) x11 x12 x13 (some (.r 2)) (some (.d (.tup (c.2.map ev)))) (some (.d (.lst ((doers a c.2).map .str)))) none x18 x19 x20 x21
      let hs := [c0, c1, Cell.lst ((d.filter (handP a b)).map fun c => .int c.1)]
      have e1 : mLcE [23] (.nm 23) (mItT (mVar 15)) (mB (m2 (eqF false) (m2 ixF (mVar 23) (mC (.int 1))) (mVar 3))) (m2 ixF (mVar 23) (mC (.int 3))) ρ0 hs = .ok (.d (.lst ((doers a c.2).map .str))) hs := by
        have := lc_ok (enc := ev) (p := fun e => decide (e.a = a)) (g := fun e => D.str e.h) (t := .nm 23) (vs := [23]) (tt := mB (m2 (eqF false) (m2 ixF (mVar 23) (mC (.int 1))) (mVar 3))) (te := m2 ixF (mVar 23) (mC (.int 3))) (mi := mItT (mVar 15)) (ρ := ρ0) (hs := hs) (hs1 := hs) c.2 rfl (fun e he => ⟨_, rfl, eq_strB (x := e.a) (y := a) rfl rfl (nm_ok (gr e he).a) (nm_ok ka), fun _ => rfl⟩) (by omega)
        rw [this]
        unfold doers
        rw [List.map_map]; rfl
      have hd : ∀ y ∈ doers a c.2, PyData.strOk y = true := fun y hy => by
        unfold doers at hy
        obtain ⟨e, he, rfl⟩ := List.mem_map.mp hy
        exact hd_ok (gr e (List.mem_filter.mp he).1).h
      have e2 : mLcE [23] (.nm 23) (mItT (mVar 15)) (mAnd (mB (m2 (eqF false) (m2 ixF (mVar 23) (mC (.int 1))) (mVar 4))) (mB (m2 (inF false) (m2 ixF (mVar 23) (mC (.int 3))) (mVar 16)))) (mVar 23) ρ1 hs = .ok (.d (.lst ((c.2.filter fun e => decide (e.a = b) && decide (e.h ∈ doers a c.2)).map ev))) hs :=
        lc_ok (enc := ev) (g := ev) c.2 rfl (fun e he => ⟨_, rfl, and_ok (eq_strB (x := e.a) (y := b) rfl rfl (nm_ok (gr e he).a) (nm_ok kb)) (b_ok (m2_ok (x := .d (.str e.h)) (y := .d (.lst ((doers a c.2).map .str))) rfl rfl (in_strs (hd_ok (gr e he).h) hd))), fun _ => rfl⟩) (by omega)
      have sml : smL 1 ((c.2.filter fun e => decide (e.a = b) && decide (e.h ∈ doers a c.2)).map ev) = true := smL_all.mpr fun x hx => by
        obtain ⟨e, he, rfl⟩ := List.mem_map.mp hx
        exact sm_ev (gr e (List.mem_filter.mp he).1)
      have tt := b_ok (m2_ok e2 (b := mLst mNil) (y := .d (.lst [])) (hs2 := hs) rfl (ne_nilG sml))
      have eh : (!((c.2.filter fun e => decide (e.a = b) && decide (e.h ∈ doers a c.2)).map ev).isEmpty) = handP a b c := by
        unfold handP
        generalize c.2 = r
        generalize doers a r = D
        induction r with
        | nil => rfl
        | cons e r ih =>
          rw [List.any_cons]
          cases q : (decide (e.a = b) && decide (e.h ∈ D)) with
          | true => rw [List.filter_cons_of_pos (by exact q)]; rfl
          | false => rw [List.filter_cons_of_neg (by rw [q]; exact Bool.false_ne_true), ih]; rfl
      rw [eh] at tt
      refine ⟨ρ0, ρ1, [c0, c1, .lst (((d ++ [c]).filter (handP a b)).map fun c => .int c.1)], rfl, .inl ?_, _, _, _, rfl, rfl⟩
      unfold l__law_is_rest_2
      refine Eq.trans (seq_nx (ρ1 := ρ1) (set_ok e1)) ?_
      cases e : handP a b c with
      | true =>
        rw [e] at tt
        refine Eq.trans (if_true tt) (Eq.trans (app_ok (n := 2) (xs := (d.filter (handP a b)).map fun c => .int c.1) (hs := hs) (hs1 := hs) (v := .int c.1) rfl rfl rfl rfl (by rw [List.length_map]; omega)) ?_)
        rw [List.filter_append]
        simp [hs, e]
      | false =>
        rw [e] at tt
        refine Eq.trans (if_false tt) ?_
        rw [List.filter_append]
        simp [hs, e, mSkip])
    (cases E) [] _ _ rfl ⟨x10, none, none, rfl, rfl⟩
  refine ⟨y10, y15, y16, ?_⟩
  exact Eq.trans (for_ok (items := (cases E).map cD) rfl) (Eq.trans e1 (by rw [e2, S]))
end
end Lk74

set_option Elab.async false
set_option linter.all false
set_option maxRecDepth 100000
set_option maxHeartbeats 4000000
/-! k74: the law's rest, run. -/
namespace Lk74
open PySem PySem.Spec PyProof.Rows L2 L2.Py
variable [Tl]

def op14 (C : Cs) (is : List Nat) : List D := is.map fun (i : Nat) => opD C (0 + (i : Int))
theorem last_snoc {hs : Hs} {n : Nat} {xs : List D} {d : D} (h : hs[n]? = some (.lst (xs ++ [d]))) : ixF hs (.r n) (.d (.int (-1))) = some d := by
  have v : viewL hs (.r n) = some (xs ++ [d]) := by simp only [viewL, h]
  show (match viewL hs (.r n) with | some xs => atI xs (-1) | none => none) = _
  rw [v]
  show atI (xs ++ [d]) (-1) = _
  rw [at_last (by simp)]
  simp
section
variable {E : List Ev} {x3 x4 x5 x6 x7 x8 x18 x19 x20 x21 : Option SV}
theorem loop_opens (h : GE E) {c0 c1 c2 : Cell} {x9 x10 x11 x12 x13 x14 x15 x16 : Option SV} : ∃ y12, mFor (.nm 12) (mRg1 (mCons (mC (.int 14)) mNil)) l__law_is_rest_1 (RE E x3 x4 x5 x6 x7 x8 x9 x10 x11 x12 x13 x14 x15 x16 (some (.r 3)) x18 x19 x20 x21) [c0, c1, c2, .lst []] =
    .nx (RE E x3 x4 x5 x6 x7 x8 x9 x10 x11 y12 x13 x14 x15 x16 (some (.r 3)) x18 x19 x20 x21) [c0, c1, c2, .lst (op14 (cases E) (List.range 14))] := by
  have gc := h.c
  obtain ⟨ρ', hs', e1, y12, e2, S⟩ := forL_whole (enc := fun (i : Nat) => D.int (0 + (i : Int))) (t := .nm 12) (body := l__law_is_rest_1) (whole := List.range 14)
    (I := fun d ρ hs => ∃ x12, ρ = RE E x3 x4 x5 x6 x7 x8 x9 x10 x11 x12 x13 x14 x15 x16 (some (.r 3)) x18 x19 x20 x21 ∧ hs = [c0, c1, c2, .lst (op14 (cases E) d)])
    (fun d i rest ρ hs ew ⟨x12, er, eh⟩ => by
      subst er eh
      have hd : d.length ≤ 14 := by have := congrArg List.length ew; simp at this; omega
      let ρ0 := RE E x3 x4 x5 x6 x7 x8 x9 x10 x11 (some (.d (.int (0 + (i : Int))))) x13 x14 x15 x16 (some (.r 3)) x18 x19 x20 x21
      let hs := [c0, c1, c2, Cell.lst (op14 (cases E) d)]
      let hs2 := [c0, c1, c2, Cell.lst (op14 (cases E) d ++ [opD (cases E) (0 + (i : Int))])]
      have e1 : mBf tupleF (mCons (mLcE [10, 15] (.tp [(.nm 10), (.nm 15)]) (mItL (mVar 2)) (mB (mChain leF leF (m2 ixF (m2 ixF (mVar 15) (mC (.int 0))) (mC (.int 2))) (mVar 12) (m2 ixF (m2 ixF (mVar 15) (m1 negF (mC (.int 1)))) (mC (.int 2))))) (mVar 10)) mNil) ρ0 hs = .ok (.d (opD (cases E) (0 + (i : Int)))) hs :=
        bf1 (lc_ok (enc := cD) (p := opP (0 + (i : Int))) (g := fun c => .int c.1) (cases E) rfl (fun c hc => ⟨_, rfl, open_test (gc.ne c hc) rfl rfl, fun _ => rfl⟩) (by have := gc.len; omega)) rfl
      have ap : mDrop (mMtL appendF (mVar 17) (mCons (mBf tupleF (mCons (mLcE [10, 15] (.tp [(.nm 10), (.nm 15)]) (mItL (mVar 2)) (mB (mChain leF leF (m2 ixF (m2 ixF (mVar 15) (mC (.int 0))) (mC (.int 2))) (mVar 12) (m2 ixF (m2 ixF (mVar 15) (m1 negF (mC (.int 1)))) (mC (.int 2))))) (mVar 10)) mNil)) mNil)) ρ0 hs = .nx ρ0 hs2 :=
        app_ok (n := 3) (xs := op14 (cases E) d) (hs := hs) (hs1 := hs) rfl rfl e1 rfl (by unfold op14; rw [List.length_map]; omega)
      have cl := call2 (a := mVar 1) (b := mVar 12) (ρ := ρ0) (hs := hs2) (x := evs E) (y := .int (0 + (i : Int))) rfl rfl (open_ok h.e gc (t := 0 + (i : Int)) (by omega))
      have lt : m2 ixF (mVar 17) (m1 negF (mC (.int 1))) ρ0 hs2 = .ok (.d (opD (cases E) (0 + (i : Int)))) hs2 := m2_ok (x := .r 3) (y := .d (.int (-1))) rfl rfl (last_snoc (xs := op14 (cases E) d) rfl)
      refine ⟨ρ0, ρ0, hs2, rfl, .inl ?_, _, rfl, ?_⟩
      · unfold l__law_is_rest_1
        exact Eq.trans (seq_nx ap) (alike_test cl lt (sm_mono (by decide) (sm_nums h (opP (0 + (i : Int))))) rfl)
      · unfold op14
        rw [List.map_append]; rfl)
    (List.range 14) [] _ _ rfl ⟨x12, rfl, rfl⟩
  refine ⟨y12, ?_⟩
  exact Eq.trans (for_ok (range_ok 14 (z := 14) rfl rfl (by decide))) (Eq.trans e1 (by rw [e2, S]))
end
theorem endmax {hs : Hs} {ns : List Int} (h : ns ≠ []) : endFn true hs [.d (.lst (ns.map D.int))] = some (.int (maxOf ns)) := by
  obtain ⟨j, js, rfl⟩ : ∃ j js, ns = j :: js := by
    cases ns with
    | nil => exact absurd rfl h
    | cons j js => exact ⟨j, js, rfl⟩
  simp only [endFn, viewL, Option.bind_some, allInt_map]; rfl
theorem drawn_four {ms : List Int} {a b c d : Cell} {hs' : Hs} (h : Drawn ms [a, b, c, d] hs') : ∃ x y z, hs' = [bagC x y z ms, b, c, d] ∧ 0 ≤ x := by
  obtain ⟨x, y, z, h1, h2⟩ := h.bag
  have h3 := h.oth 1 (by decide)
  have h5 := h.oth 2 (by decide)
  have h6 := h.oth 3 (by decide)
  have h4 := h.len
  match hs', h1, h3, h5, h6, h4 with
  | [u, v, w, t], h1, h3, h5, h6, _ =>
    simp at h1 h3 h5 h6
    exact ⟨x, y, z, by rw [h1, h3, h5, h6], h2⟩
theorem lcR_all {α : Type} {enc g : α → D} {t : Tg} {te a : ME} {vs : List Nat} {ρ : Env'} {hs hs1 : Hs} {x : SV} (xs : List α) (ha : a ρ hs = .ok x hs1) (hv : viewL hs1 x = some (xs.map enc)) (h : ∀ x ∈ xs, ∃ ρ1, mTg t (.d (enc x)) (wipeE ρ vs) = some ρ1 ∧ te ρ1 hs1 = .ok (.d (g x)) hs1) (hl : xs.length ≤ 16777216) :
    mLcR vs t a mYes te ρ hs = .ok (.d (.lst (xs.map g))) hs1 := by
  simp only [mLcR, ha, Out.bind, hv]
  rw [lcL_enc (tt := mYes) (p := fun _ => true) (g := g) xs [] (fun x hx => let ⟨ρ1, a, b⟩ := h x hx; ⟨ρ1, a, rfl, fun _ => b⟩) (by simpa using hl), List.filter_eq_self.mpr (fun _ _ => rfl)]
  rfl
set_option maxHeartbeats 8000000 in
theorem rest_ok {E : List Ev} (h : GE E) {ms : List Int} (hl : ms.length ≤ 1000) {x y z : Int} (hx : 0 ≤ x) :
    ∃ x' y' z', f__law_is_rest [.r 0, .d (evs E), .d (.lst ((cases E).map cD))] [bagC x y z ms] = .ok (.bl true) [bagC x' y' z' ms] ∧ 0 ≤ x' := by
  have gc := h.c
  have ge := h.e
  let n : Option SV := none
  let ρ0 := RE E n n n n n n n n n n n n n n n n n n n
  -- draws
  obtain ⟨a, h1, q1, ka, d1⟩ := some_d (ρ := ρ0) (a := mVar 0) (b := mLst (mCons (mC (.str "a")) (mCons (mC (.str "b")) (mCons (mC (.str "c")) mNil)))) (things := nmS) (Bag.bag0 (r := []) (y := y) (z := z) hx) hl rfl rfl (by decide) (by decide)
  obtain ⟨b, h2, q2, kb, d2⟩ := some_d (ρ := ρ0) (a := mVar 0) (b := mLst (mCons (mC (.str "a")) (mCons (mC (.str "b")) (mCons (mC (.str "c")) mNil)))) (things := nmS) d1.bag hl rfl rfl (by decide) (by decide)
  obtain ⟨most, h3, q3, m0, m1, d3⟩ := take_d (ρ := ρ0) (a := mVar 0) (m := 8) d2.bag hl rfl (by decide) (by decide)
  obtain ⟨x1, y1, z1, e3, hx1⟩ := drawn_one ((d1.trans d2).trans d3)
  subst e3
  let B := bagC x1 y1 z1 ms
  let L := ansC (cases E) a b
  have hL : L.length ≤ 24 := ans_l h a b
  let A : Option SV := some (.d (.str a))
  let Bb : Option SV := some (.d (.str b))
  let M : Option SV := some (.d (.int most))
  let due : D := .tup (L.map anD)
  -- slow
  have sl : mBf tupleF (mCons (mLcE [22] (.nm 22) (mItT (mVar 6)) (mOr (mB (m2 (isF false) (m2 ixF (mVar 22) (mC (.int 2))) (mC .non))) (mB (m2 gtF (m2 ixF (mVar 22) (mC (.int 2))) (mVar 5)))) (mVar 22)) mNil) (RE E A Bb M (some (.d due)) n n n n n n n n n n n n n n n) [B] = .ok (.d (slow most L)) [B] :=
    bf1 (lc_ok (enc := anD) (p := slowP most) (g := anD) L rfl (fun x hx => ⟨_, rfl, slow_test rfl rfl, fun _ => rfl⟩) (by omega)) rfl
  -- bound
  let ρ7 := RE E A Bb M (some (.d due)) (some (.d (slow most L))) n n n n n n n n n n n n n n
  have lw : mLcE [22] (.nm 22) (mItT (mVar 6)) mYes (m2 ixF (mVar 22) (mC (.int 2))) ρ7 [B] = .ok (.d (.lst (L.map fun x => optD x.o))) [B] :=
    lc_all (enc := anD) (g := fun x => optD x.o) L rfl (fun x hx => ⟨_, rfl, rfl⟩) (by omega)
  have bd : mIf (mB (m2 (inF false) (mC .non) (mLcE [22] (.nm 22) (mItT (mVar 6)) mYes (m2 ixF (mVar 22) (mC (.int 2)))))) (mC .non) (mBf (endFn true) (mCons (m2 addF (mLst (mCons (mC (.int 0)) mNil)) (mLcE [22] (.nm 22) (mItT (mVar 6)) mYes (m2 ixF (mVar 22) (mC (.int 2))))) mNil)) ρ7 [B] = .ok (.d (bound L)) [B] := by
    have t := b_ok (m2_ok (a := mC .non) (x := .d .non) rfl lw (none_in L))
    cases e : anyNone L with
    | true =>
      rw [e] at t
      refine Eq.trans (mIf_t t) ?_
      unfold bound
      rw [if_pos e]; rfl
    | false =>
      rw [e] at t
      refine Eq.trans (mIf_f t) ?_
      unfold bound
      rw [if_neg (by rw [e]; exact Bool.false_ne_true)]
      rw [allInt_vals e] at lw
      refine bf1 (m2_ok (x := .d (.lst [.int 0])) rfl lw ?_) (max_ok _)
      show (if [D.int 0].length + ((vals L).map D.int).length ≤ sizeLine then some (D.lst ([D.int 0] ++ (vals L).map D.int)) else none) = _
      rw [if_pos]; rfl
      unfold vals
      rw [List.length_map, List.length_map]
      exact Nat.le_trans (show 1 + L.length ≤ 25 by omega) (by decide)
  let ρ8 := RE E A Bb M (some (.d due)) (some (.d (slow most L))) (some (.d (bound L))) n n n n n n n n n n n n n
  have al1 := alike_test (s := mRet (mC (.bl false))) (ρ := ρ8) (hs := [B]) (lst3 (call3 (a := mVar 1) (b := mVar 3) (c := mVar 4) (x := evs E) (y := .str a) (z := .str b) rfl rfl rfl (answers_ok ge gc ka kb)) (call4 (a := mVar 1) (b := mVar 3) (c := mVar 4) (e := mVar 5) (x := evs E) (y := .str a) (z := .str b) (v := .int most) rfl rfl rfl rfl (late_ok ge gc ka kb m0)) (call3 (a := mVar 1) (b := mVar 3) (c := mVar 4) (x := evs E) (y := .str a) (z := .str b) rfl rfl rfl (bound_ok ge gc ka kb)))
    (lst3 (a := mVar 6) (b := mVar 7) (c := mVar 8) (x := due) (y := slow most L) (z := bound L) rfl rfl rfl) (sm_mono (by decide) (sm_rests h a b most)) rfl
  -- works and hands
  obtain ⟨y10, y11, y12, y13, lc⟩ := loop_counts (E := E) (x3 := A) (x4 := Bb) (x5 := M) (x6 := some (.d due)) (x7 := some (.d (slow most L))) (x8 := some (.d (bound L))) (x18 := n) (x19 := n) (x20 := n) (x21 := n) h (c0 := B) (x10 := n) (x11 := n) (x12 := n) (x13 := n)
  obtain ⟨w10, w15, w16, ls⟩ := loop_same (E := E) (x5 := M) (x6 := some (.d due)) (x7 := some (.d (slow most L))) (x8 := some (.d (bound L))) (x9 := some (.r 1)) (x10 := y10) (x11 := y11) (x12 := y12) (x13 := y13) (x18 := n) (x19 := n) (x20 := n) (x21 := n) h ka kb (c0 := B) (c1 := ctCell (oC E))
  let sm1 := Cell.lst (((cases E).filter (handP a b)).map fun c => .int c.1)
  let ρ16 := RE E A Bb M (some (.d due)) (some (.d (slow most L))) (some (.d (bound L))) (some (.r 1)) w10 y11 y12 y13 (some (.r 2)) w15 w16 n n n n n
  have al2 := alike_test (s := mRet (mC (.bl false))) (ρ := ρ16) (hs := [B, ctCell (oC E), sm1]) (lst2 (call1 (a := mVar 1) (x := evs E) rfl (works_ok ge)) (call3 (a := mVar 1) (b := mVar 3) (c := mVar 4) (x := evs E) (y := .str a) (z := .str b) rfl rfl rfl (one_ok ge gc ka kb)))
    (lst2 (items_ok (p := 1) (C := oC E) (o := mVar 9) rfl (oc_all E) (by have := h.len; omega) rfl) (bf1 (a := mVar 14) (x := .r 2) (f := tupleF) (d := oneHand (cases E) a b) rfl rfl)) (sm_lst (by simp) fun x hx => by
      simp only [List.mem_cons, List.not_mem_nil, or_false] at hx
      rcases hx with rfl | rfl
      · exact sm_works h
      · exact sm_mono (by decide) (sm_nums h (handP a b))) rfl
  obtain ⟨v12, lo⟩ := loop_opens (E := E) (x3 := A) (x4 := Bb) (x5 := M) (x6 := some (.d due)) (x7 := some (.d (slow most L))) (x8 := some (.d (bound L))) (x9 := some (.r 1)) (x10 := w10) (x11 := y11) (x12 := y12) (x13 := y13) (x14 := some (.r 2)) (x15 := w15) (x16 := w16) (x18 := n) (x19 := n) (x20 := n) (x21 := n) h (c0 := B) (c1 := ctCell (oC E)) (c2 := sm1)
  let OP := Cell.lst (op14 (cases E) (List.range 14))
  let hs := [B, ctCell (oC E), sm1, OP]
  let Mx := maxOf (lens (cases E))
  let ρ17 := RE E A Bb M (some (.d due)) (some (.d (slow most L))) (some (.d (bound L))) (some (.r 1)) w10 y11 v12 y13 (some (.r 2)) w15 w16 (some (.r 3)) n n n n
  have mx : mBf (endFn true) (mCons (mLcR [24] (.nm 24) (mVar 17) mYes (mBf lenF (mCons (mVar 24) mNil))) mNil) ρ17 hs = .ok (.d (.int Mx)) hs := by
    have l1 : mLcR [24] (.nm 24) (mVar 17) mYes (mBf lenF (mCons (mVar 24) mNil)) ρ17 hs = .ok (.d (.lst ((List.range 14).map fun (i : Nat) => D.int (many (cases E) (0 + (i : Int)))))) hs :=
      lcR_all (enc := fun (i : Nat) => opD (cases E) (0 + (i : Int))) (g := fun (i : Nat) => D.int (many (cases E) (0 + (i : Int)))) (x := .r 3) (List.range 14) rfl (show viewL hs (.r 3) = some (op14 (cases E) (List.range 14)) from rfl) (fun i hi => ⟨_, rfl, bf1 (x := .d (opD (cases E) (0 + (i : Int)))) rfl (by simp [lenF, opD, many])⟩) (by decide)
    have l2 : (List.range 14).map (fun (i : Nat) => D.int (many (cases E) (0 + (i : Int)))) = (lens (cases E)).map D.int := by
      unfold lens
      rw [List.map_map]
      refine List.map_congr_left fun i _ => ?_
      simp
    rw [l2] at l1
    exact bf1 l1 (endmax (by unfold lens; simp))
  let ρ18 := RE E A Bb M (some (.d due)) (some (.d (slow most L))) (some (.d (bound L))) (some (.r 1)) w10 y11 v12 y13 (some (.r 2)) w15 w16 (some (.r 3)) (some (.d (.int Mx))) n n n
  let F := (setSort (E.map (·.m))).filter fun t => decide (many (cases E) t = Mx)
  have fs : mLcE [12] (.nm 12) (mItL (mSortSet (mLcE [23] (.nm 23) (mItT (mVar 1)) mYes (m2 ixF (mVar 23) (mC (.int 2)))))) (mB (m2 (eqF false) (mBf lenF (mCons (m2 ixF (mVar 17) (mVar 12)) mNil)) (mVar 18))) (mVar 12) ρ18 hs = .ok (.d (.lst (F.map D.int))) hs := by
    have h1 : mLcE [23] (.nm 23) (mItT (mVar 1)) mYes (m2 ixF (mVar 23) (mC (.int 2))) ρ18 hs = .ok (.d (.lst (E.map fun e => D.int e.m))) hs :=
      lc_all (enc := ev) (g := fun e => D.int e.m) E rfl (fun e he => ⟨_, rfl, rfl⟩) (by have := h.len; omega)
    have h2 : intsD (E.map fun e => D.int e.m) = some (E.map (·.m)) := by
      have := intsD_map (E.map (·.m))
      rwa [List.map_map] at this
    have ss := sortSet_ok h1 h2 (by rw [List.length_map]; have := h.len; omega)
    have it : mItL (mSortSet (mLcE [23] (.nm 23) (mItT (mVar 1)) mYes (m2 ixF (mVar 23) (mC (.int 2))))) ρ18 hs = .ok ((setSort (E.map (·.m))).map D.int) hs := by
      simp only [mItL, ss, Out.bind, viewL]
    have := lc_ok (enc := D.int) (p := fun t => decide (many (cases E) t = Mx)) (g := D.int) (t := .nm 12) (vs := [12]) (tt := mB (m2 (eqF false) (mBf lenF (mCons (m2 ixF (mVar 17) (mVar 12)) mNil)) (mVar 18))) (te := mVar 12) (setSort (E.map (·.m))) it (fun t ht => ?_) (by have := setSort_len (E.map (·.m)); rw [List.length_map] at this; have := h.len; omega)
    · exact this
    · obtain ⟨e, he, et⟩ := List.mem_map.mp (mem_setSort.mp ht)
      have g := h.g e he
      have t0 : 0 ≤ t := by rw [← et]; exact g.m0
      have t1 : t < 12 := by rw [← et]; exact g.m1
      refine ⟨RE E A Bb M (some (.d due)) (some (.d (slow most L))) (some (.d (bound L))) (some (.r 1)) w10 y11 (some (.d (.int t))) y13 (some (.r 2)) w15 w16 (some (.r 3)) (some (.d (.int Mx))) n n n, rfl, eq_int (i := many (cases E) t) (j := Mx) (bf1 (x := .d (opD (cases E) t)) (m2_ok (x := .r 3) (y := .d (.int t)) rfl rfl ?_) (by simp [lenF, opD, many])) rfl, fun _ => rfl⟩
      show atI (op14 (cases E) (List.range 14)) t = _
      rw [at_nat (k := t.toNat) (by omega) (by unfold op14; simp; omega)]
      unfold op14
      rw [List.getElem?_map, List.getElem?_range (by omega)]
      simp only [Option.map_some]
      rw [show (0 : Int) + (t.toNat : Int) = t by omega]
  let ρ19 := RE E A Bb M (some (.d due)) (some (.d (slow most L))) (some (.d (bound L))) (some (.r 1)) w10 y11 v12 y13 (some (.r 2)) w15 w16 (some (.r 3)) (some (.d (.int Mx))) (some (.d (.lst (F.map D.int)))) n n
  let bst := best (cases E) (setSort (E.map (·.m)))
  have cond : mIf (mB (m2 gtF (mVar 18) (mC (.int 0)))) (mTup (mCons (mVar 18) (mCons (m2 ixF (mVar 19) (mC (.int 0))) mNil))) (mTup (mCons (mC (.int 0)) (mCons (mC (.int 0)) mNil))) ρ19 hs = .ok (.d (.tup [.int bst.1, .int bst.2])) hs := by
    have t : mB (m2 gtF (mVar 18) (mC (.int 0))) ρ19 hs = .ok (decide (Mx > 0)) hs := b_ok (m2_ok (x := .d (.int Mx)) (y := .d (.int 0)) rfl rfl rfl)
    obtain ⟨u1, u2⟩ := best_is h
    by_cases q : 0 < Mx
    · obtain ⟨t', hf, hb⟩ := u1 q
      rw [decide_eq_true q] at t
      have eb : bst = (Mx, t') := hb
      rw [eb]
      refine Eq.trans (mIf_t t) (tup2 (x := .int Mx) rfl (m2_ok (x := .d (.lst (F.map D.int))) (y := .d (.int 0)) rfl rfl ?_))
      show atI (F.map D.int) 0 = _
      have hF : F.head? = some t' := hf
      cases hF2 : F with
      | nil => rw [hF2] at hF; cases hF
      | cons u r =>
        rw [hF2] at hF
        have : u = t' := by simpa using hF
        subst this
        rw [at_nat (z := 0) (k := 0) rfl (by simp)]; rfl
    · rw [decide_eq_false q] at t
      have eb : bst = (0, 0) := u2 q
      rw [eb]
      exact Eq.trans (mIf_f t) (tup2 (x := .int 0) (y := .int 0) rfl rfl)
  have smb : sm 4 (.tup [.int bst.1, .int bst.2]) = true := by
    obtain ⟨u1, u2⟩ := best_is h
    have b0 : (0 ≤ bst.1 ∧ bst.1 ≤ 3) ∧ (0 ≤ bst.2 ∧ bst.2 < 12) := by
      by_cases q : 0 < Mx
      · obtain ⟨t', hf, hb⟩ := u1 q
        have eb : bst = (Mx, t') := hb
        rw [eb]
        have mem := List.mem_of_mem_head? (show t' ∈ F.head? from hf)
        obtain ⟨m1', m2'⟩ := List.mem_filter.mp mem
        obtain ⟨e, he, et⟩ := List.mem_map.mp (mem_setSort.mp m1')
        have g := h.g e he
        have mb := many_b h t'
        simp only [decide_eq_true_eq] at m2'
        rw [m2'] at mb
        exact ⟨mb, by rw [← et]; exact ⟨g.m0, g.m1⟩⟩
      · have eb : bst = (0, 0) := u2 q
        rw [eb]; exact ⟨⟨by decide, by decide⟩, by decide, by decide⟩
    refine sm_tup (by simp) fun x hx => ?_
    simp only [List.mem_cons, List.not_mem_nil, or_false] at hx
    rcases hx with rfl | rfl
    · exact sm_int _ (by omega) (by omega)
    · exact sm_int _ (by omega) (by omega)
  have al3 := alike_test (s := mRet (mC (.bl false))) (ρ := ρ19) (hs := hs) (call1 (a := mVar 1) (x := evs E) rfl (most_ok ge gc)) cond smb rfl
  -- the last draws
  obtain ⟨num, hs5, q5, n0, n1, d5⟩ := take_d (ρ := ρ19) (hs := hs) (a := mVar 0) (m := 3) (Bag.bag0 (r := [ctCell (oC E), sm1, OP]) (y := y1) (z := z1) hx1) hl rfl (by decide) (by decide)
  obtain ⟨by', hs6, q6, b0, b1, d6⟩ := take_d (ρ := ρ19) (a := mVar 0) (m := 5) d5.bag hl rfl (by decide) (by decide)
  obtain ⟨x6, y6, z6, e6, hx6⟩ := drawn_four (d5.trans d6)
  subst e6
  let hs7 := [bagC x6 y6 z6 ms, ctCell (oC E), sm1, OP]
  let ρ20 := RE E A Bb M (some (.d due)) (some (.d (slow most L))) (some (.d (bound L))) (some (.r 1)) (some (.d (.int num))) y11 v12 y13 (some (.r 2)) w15 w16 (some (.r 3)) (some (.d (.int Mx))) (some (.d (.lst (F.map D.int)))) (some (.d (.int by'))) n
  have par : mPar 10 20 (mCons (mCall f__law_take (mCons (mVar 0) (mCons (mC (.int 3)) mNil))) (mCons (mCall f__law_take (mCons (mVar 0) (mCons (mC (.int 5)) mNil))) mNil)) ρ19 hs = .nx ρ20 hs7 := by
    have c := cons_ok q5 (cons_ok q6 (m := mNil) rfl)
    simp only [mPar, c, Out.bindS]
    rfl
  have sh := call3 (a := mVar 1) (b := mVar 10) (c := mVar 20) (ρ := ρ20) (hs := hs7) (x := evs E) (y := .int num) (z := .int by') rfl rfl rfl (shifted_ok ge (n := num) b0 (by omega))
  let ρ21 := RE E A Bb M (some (.d due)) (some (.d (slow most L))) (some (.d (bound L))) (some (.r 1)) (some (.d (.int num))) y11 v12 y13 (some (.r 2)) w15 w16 (some (.r 3)) (some (.d (.int Mx))) (some (.d (.lst (F.map D.int)))) (some (.d (.int by'))) (some (.d (evs (E.map (shE num by')))))
  have lsh : mBf tupleF (mCons (mLcE [25, 11, 12, 13] (.tp [(.nm 25), (.nm 11), (.nm 12), (.nm 13)]) (mItT (mVar 1)) mYes (mTup (mCons (mVar 25) (mCons (mVar 11) (mCons (mIf (mB (m2 (eqF false) (mVar 25) (mVar 10))) (m2 addF (mVar 12) (mVar 20)) (mVar 12)) (mCons (mVar 13) mNil)))))) mNil) ρ21 hs7 = .ok (.d (evs (E.map (shE num by')))) hs7 := by
    refine bf1 (lc_all (enc := ev) (g := fun e => ev (shE num by' e)) E rfl (fun e he => ⟨_, rfl, shift_item (e := e) (n := num) (b := by') rfl rfl rfl rfl rfl rfl⟩) (by have := h.len; omega)) ?_
    show some (D.tup (E.map fun e => ev (shE num by' e))) = _
    unfold evs
    rw [List.map_map]; rfl
  have smsh : sm 4 (evs (E.map (shE num by'))) = true := sm_evs (n := 2) (by rw [List.length_map]; have := h.len; omega) fun e he => by
    obtain ⟨u, hu, rfl⟩ := List.mem_map.mp he
    exact shE_good (h.g u hu).w (by have := (h.g u hu).m1; omega) b0 (by omega)
  have fin := alike_call (ρ := ρ21) (hs := hs7) (a := mVar 21) (d := evs (E.map (shE num by'))) rfl lsh smsh rfl
  refine ⟨x6, y6, z6, ?_, hx6⟩
  have body : b__law_is_rest ρ0 [bagC x y z ms] = .rt (.d (.bl true)) hs7 := by
    unfold b__law_is_rest
    refine Eq.trans (seq_nx (ρ1 := RE E A Bb M n n n n n n n n n n n n n n n n) (hs1 := [B]) (asg_ok (x := .d (.tup [.str a, .str b, .int most])) (tup3 q1 q2 q3) rfl)) ?_
    refine Eq.trans (seq_nx (ρ1 := RE E A Bb M (some (.d due)) n n n n n n n n n n n n n n n) (hs1 := [B]) (set_ok (x := .d due) (call3 (a := mVar 2) (b := mVar 3) (c := mVar 4) (x := .lst ((cases E).map cD)) (y := .str a) (z := .str b) rfl rfl rfl (lanswers_ok gc ka kb)))) ?_
    refine Eq.trans (seq_nx (ρ1 := ρ7) (hs1 := [B]) (set_ok sl)) ?_
    refine Eq.trans (seq_nx (ρ1 := ρ8) (hs1 := [B]) (set_ok bd)) ?_
    refine Eq.trans (seq_nx al1) ?_
    refine Eq.trans (seq_nx (ρ1 := RE E A Bb M (some (.d due)) (some (.d (slow most L))) (some (.d (bound L))) (some (.r 1)) n n n n n n n n n n n n) (hs1 := [B, ctCell ⟨[], []⟩]) rfl) ?_
    refine Eq.trans (seq_nx lc) ?_
    refine Eq.trans (seq_nx (ρ1 := RE E A Bb M (some (.d due)) (some (.d (slow most L))) (some (.d (bound L))) (some (.r 1)) y10 y11 y12 y13 (some (.r 2)) n n n n n n n) (hs1 := [B, ctCell (oC E), .lst []]) rfl) ?_
    refine Eq.trans (seq_nx ls) ?_
    refine Eq.trans (seq_nx al2) ?_
    refine Eq.trans (seq_nx (ρ1 := RE E A Bb M (some (.d due)) (some (.d (slow most L))) (some (.d (bound L))) (some (.r 1)) w10 y11 y12 y13 (some (.r 2)) w15 w16 (some (.r 3)) n n n n) (hs1 := [B, ctCell (oC E), sm1, .lst []]) rfl) ?_
    refine Eq.trans (seq_nx lo) ?_
    refine Eq.trans (seq_nx (ρ1 := ρ18) (hs1 := hs) (set_ok mx)) ?_
    refine Eq.trans (seq_nx (ρ1 := ρ19) (hs1 := hs) (set_ok fs)) ?_
    refine Eq.trans (seq_nx al3) ?_
    refine Eq.trans (seq_nx par) ?_
    refine Eq.trans (seq_nx (ρ1 := ρ21) (hs1 := hs7) (set_ok sh)) ?_
    exact ret_ok fin
  exact Eq.trans (fn_rt (hs1 := hs7) body) rfl
end Lk74

set_option Elab.async false
set_option linter.all false
set_option maxRecDepth 100000
set_option maxHeartbeats 4000000
/-! k74: values that are no events. -/
namespace Lk74
open PySem PySem.Spec PyProof.Rows L2 L2.Py
variable [Tl]

theorem all_bl {hs : Hs} (bs : List Bool) : allF false hs [.d (.lst (bs.map D.bl))] = some (.bl (bs.all id)) := by
  have h : allBl (bs.map D.bl) = some bs := by
    induction bs with
    | nil => rfl
    | cons b bs ih => simp only [List.map_cons, allBl, ih]; rfl
  simp only [allF, viewL, h, Option.map_some, Bool.false_eq_true, ↓reduceIte]
theorem are_bad {E : List Ev} {d : D} (g : ∀ e ∈ E, GoodW e) (hl : E.length ≤ 100) (hd : f_is_event [.d d] [] = .ok (.bl false) []) : f_are_events [.d (.tup (E.map ev ++ [d]))] [] = .ok (.bl false) [] := by
  let xs : List (D × Bool) := E.map (fun e => (ev e, true)) ++ [(d, false)]
  have ex : xs.map (·.1) = E.map ev ++ [d] := by simp [xs]
  refine Eq.trans (fn_rt (hs1 := []) (d := .bl false) ?_) rfl
  unfold b_are_events
  refine ret_ok ?_
  refine Eq.trans (andV_t (hs1 := []) rfl) ?_
  have le : leF [] (.d (.int (E.map ev ++ [d]).length)) (.d c_MOST_EVENTS) = some (.bl true) := by
    show some (D.bl (decide (((E.map ev ++ [d]).length : Int) ≤ 2000))) = _
    rw [decide_eq_true (by simp; omega)]
  refine Eq.trans (andV_t (m2_ok (x := .d (.int (E.map ev ++ [d]).length)) (y := .d c_MOST_EVENTS) rfl rfl le)) ?_
  refine bf1 (lc_all (enc := fun x : D × Bool => x.1) (g := fun x : D × Bool => .bl x.2) xs (show mItT (mVar 0) [some (.d (.tup (E.map ev ++ [d]))), none] [] = _ by rw [ex]; rfl) (fun x hx => ⟨_, rfl, ?_⟩) (by simp [xs]; omega)) ?_
  · rcases List.mem_append.mp hx with z | z
    · obtain ⟨e, he, rfl⟩ := List.mem_map.mp z
      exact call1 (x := ev e) rfl (ev_ok (g e he))
    · rw [List.mem_singleton.mp z]
      exact call1 (x := d) rfl hd
  · have := all_bl (hs := []) (xs.map (·.2))
    rw [List.map_map] at this
    rw [show (xs.map fun x : D × Bool => D.bl x.2) = xs.map (D.bl ∘ fun x => x.2) from rfl, this]
    simp [xs]
/-- no events: by_case raises Nothing -/
theorem case_bad {d : D} (h : f_are_events [.d d] [] = .ok (.bl false) []) : f_by_case [.d d] [] = .exc "Nothing" [] [] [] := by
  have ck : f_check_events [.d d] [] = .exc "Nothing" [] [] [] := by
    refine Eq.trans (fn_exc (hs1 := []) (ρ1 := [some (.d d)]) ?_) rfl
    unfold b_check_events
    exact Eq.trans (if_true (hs1 := []) (not_ok (k := false) (tru_bl (call1 (x := d) rfl h)))) rfl
  have cc := callM_exc (f := f_check_events) (hs := []) [d] ck
  refine Eq.trans (fn_exc (hs1 := []) (ρ1 := [some (.d d), none, none, none]) (c := "Nothing") (ns := []) (ws := []) ?_) rfl
  unfold b_by_case
  refine seq_exc ?_
  have m : mCall f_check_events (mCons (mVar 0) mNil) [some (.d d), none, none, none] [] = .exc "Nothing" [] [] [] := by
    show ((callM f_check_events [.d d] []).bind fun d hs2 => Out.ok (SV.d d) hs2) = _
    rw [show callM f_check_events [.d d] [] = _ from cc]; rfl
  have st : startE 4 [SV.d d] = [some (.d d), none, none, none] := rfl
  rw [st]
  simp only [mDrop, m, Out.bindS]
theorem bad1 : f_is_event [.d (.tup [.int 0, .str "a", .int 1])] [] = .ok (.bl false) [] := by kernel_rfl
theorem bad2 : f_is_event [.d (.tup [.int (-1), .str "a", .int 1, .str "bo"])] [] = .ok (.bl false) [] := by kernel_rfl
theorem bad3 : f_is_event [.d (.tup [.int 0, .str "A", .int 1, .str "bo"])] [] = .ok (.bl false) [] := by kernel_rfl
theorem bad4 : f_is_event [.d (.tup [.int 0, .str "a", .int 1000001, .str "bo"])] [] = .ok (.bl false) [] := by kernel_rfl
theorem bad5 : f_are_events [.d .non] [] = .ok (.bl false) [] := by rfl
theorem bad6 (xs : List D) : f_are_events [.d (.lst xs)] [] = .ok (.bl false) [] := by rfl
abbrev LE (x0 x2 x3 x4 x5 x6 x7 x8 x9 x10 x11 : Option SV) : Env' := [x0, some (.r 0), x2, x3, x4, x5, x6, x7, x8, x9, x10, x11, none, none, none, none]
theorem odd_turn {d : D} {hs : Hs} {x0 x2 x3 x4 x5 x6 x7 x8 x9 x10 : Option SV} (h : f_are_events [.d d] [] = .ok (.bl false) []) : l_law_1 (LE x0 x2 x3 x4 x5 x6 x7 x8 x9 x10 (some (.d d))) hs = .ct (LE x0 x2 x3 x4 x5 x6 x7 x8 x9 x10 (some (.d d))) hs := by
  have t : mB (m2 (isF true) (mCall f_are_events (mCons (mVar 11) mNil)) (mC (.bl false))) (LE x0 x2 x3 x4 x5 x6 x7 x8 x9 x10 (some (.d d))) hs = .ok false hs :=
    b_ok (m2_ok (call1 (x := d) rfl h) (y := .d (.bl false)) rfl rfl)
  have cc := callM_exc (f := f_by_case) (hs := hs) [d] (case_bad h)
  have m : mCall f_by_case (mCons (mVar 11) mNil) (LE x0 x2 x3 x4 x5 x6 x7 x8 x9 x10 (some (.d d))) hs = .exc "Nothing" [] [] hs := by
    show ((callM f_by_case [.d d] hs).bind fun d hs2 => Out.ok (SV.d d) hs2) = _
    rw [show callM f_by_case [.d d] hs = _ from cc]; rfl
  have dr : mDrop (mCall f_by_case (mCons (mVar 11) mNil)) (LE x0 x2 x3 x4 x5 x6 x7 x8 x9 x10 (some (.d d))) hs = .exc "Nothing" [] [] (LE x0 x2 x3 x4 x5 x6 x7 x8 x9 x10 (some (.d d))) hs := by
    simp only [mDrop, m, Out.bindS]
  unfold l_law_1
  refine Eq.trans (seq_nx (Eq.trans (if_false t) rfl)) ?_
  simp only [mTry1, seq_exc dr]
  rfl
theorem odd_loop {hs : Hs} {x0 x2 x3 x4 x5 x6 x7 x8 x9 x10 : Option SV} : ∀ (ds : List D) (x11 : Option SV), (∀ d ∈ ds, f_are_events [.d d] [] = .ok (.bl false) []) → ∃ y11, mForL (.nm 11) l_law_1 ds (LE x0 x2 x3 x4 x5 x6 x7 x8 x9 x10 x11) hs = .nx (LE x0 x2 x3 x4 x5 x6 x7 x8 x9 x10 y11) hs
  | [], x11, _ => ⟨x11, rfl⟩
  | d :: ds, x11, h => by
    have t : mTg (.nm 11) (.d d) (LE x0 x2 x3 x4 x5 x6 x7 x8 x9 x10 x11) = some (LE x0 x2 x3 x4 x5 x6 x7 x8 x9 x10 (some (.d d))) := rfl
    obtain ⟨y11, q⟩ := odd_loop (hs := hs) (x0 := x0) (x2 := x2) (x3 := x3) (x4 := x4) (x5 := x5) (x6 := x6) (x7 := x7) (x8 := x8) (x9 := x9) (x10 := x10) ds (some (.d d)) fun y hy => h y (List.mem_cons_of_mem _ hy)
    refine ⟨y11, ?_⟩
    simp only [mForL, t, odd_turn (h d List.mem_cons_self)]
    exact q
end Lk74

set_option Elab.async false
set_option linter.all false
set_option maxRecDepth 100000
set_option maxHeartbeats 4000000
/-! k74: the law's waits and hands. -/
namespace Lk74
open PySem PySem.Spec PyProof.Rows L2 L2.Py
variable [Tl]

theorem GS.set {hs : Hs} {p b i : Nat} {G : Gr} {c : Cell} (S : GS hs p b G) (h1 : i < b) (h2 : i ≠ p) : GS (hs.set i c) p b G := by
  refine ⟨?_, ?_, fun j x hx => ?_, S.pb⟩
  · rw [set_set_ne h2]; exact S.dl
  · rw [List.length_set]; exact S.len
  · rw [set_set_ne (by omega)]; exact S.row j x hx
theorem waits_loop {E : List Ev} (h : GE E) {n : Nat} {hs0 hs : Hs} {x0 x2 x3 x4 x5 x8 x9 x10 x11 : Option SV} (S : GS hs n (n + 2) []) (Sc : hs[n + 1]? = some (ctCell ⟨[], []⟩)) (So : ∀ i, i < n → hs[i]? = hs0[i]?) :
    ∃ y8 y9 hs', mForL (.tp [.nm 8, .nm 9]) l_law_2 ((allP (cases E)).map encP) (LE x0 x2 x3 x4 x5 (some (.r n)) (some (.r (n + 1))) x8 x9 x10 x11) hs = .nx (LE x0 x2 x3 x4 x5 (some (.r n)) (some (.r (n + 1))) y8 y9 x10 x11) hs' ∧
      GS hs' n (n + 2) (wG (allP (cases E))) ∧ hs'[n + 1]? = some (ctCell (hC (allP (cases E)))) ∧ ∀ i, i < n → hs'[i]? = hs0[i]? := by
  obtain ⟨ρ', hs', e1, y8, y9, e2, S1, S2, S3⟩ := forL_whole (enc := encP) (t := .tp [.nm 8, .nm 9]) (body := l_law_2) (whole := allP (cases E))
    (I := fun d ρ hs => ∃ x8 x9, ρ = LE x0 x2 x3 x4 x5 (some (.r n)) (some (.r (n + 1))) x8 x9 x10 x11 ∧ GS hs n (n + 2) (wG d) ∧ hs[n + 1]? = some (ctCell (hC d)) ∧ ∀ i, i < n → hs[i]? = hs0[i]?)
    (fun d p rest ρ hs ew ⟨x8, x9, er, S1, S2, S3⟩ => by
      subst er
      have hd : d.length ≤ 24 := by have := h.c.all; have := congrArg List.length ew; simp at this; omega
      have W := wg_all d
      obtain ⟨g1, g2⟩ := pair_good h (p := p) (by rw [ew]; simp)
      let ρ1 := LE x0 x2 x3 x4 x5 (some (.r n)) (some (.r (n + 1))) (some (.d (ev p.1))) (some (.d (ev p.2))) x10 x11
      obtain ⟨hs2, q1, q2, q3⟩ := group_step (mo := mVar 6) (mk := mTup (mCons (m2 ixF (mVar 8) (mC (.int 1))) (mCons (m2 ixF (mVar 9) (mC (.int 1))) mNil))) (mv := m2 subF (m2 ixF (mVar 9) (mC (.int 2))) (m2 ixF (mVar 8) (mC (.int 2))))
        (ρ := ρ1) (k := wk p) (v := wv p) S1 (fun _ => rfl) (fun _ => tup2 rfl rfl) (fun _ => rfl) (two_fit W.keys ⟨_, _, rfl⟩) (by have := W.glen; omega) (fun x hx => by have := W.len x hx; omega)
      have S2' : hs2[n + 1]? = some (ctCell (hC d)) := by rw [q3 (n + 1) (by omega) (by omega)]; exact S2
      obtain ⟨hs3, r1, r2⟩ := hand_step (o := mVar 7) (a := m2 ixF (mVar 8) (mC (.int 3))) (b := m2 ixF (mVar 9) (mC (.int 3))) (q := p) (ρ := ρ1) S2' (hc_all d) (by omega) (fun _ => rfl) (fun _ => rfl) (fun _ => rfl) g1.h g2.h
      refine ⟨ρ1, ρ1, hs3, rfl, .inl (Eq.trans (seq_nx q1) r1), _, _, rfl, ?_, ?_, fun i hi => ?_⟩
      · rw [wG_snoc, r2]
        exact GS.set q2 (by omega) (by omega)
      · rw [hC_snoc, r2, List.getElem?_set_self (List.getElem?_eq_some_iff.mp S2').1]
      · rw [r2, set_set_ne (by omega), q3 i (by omega) (by omega)]
        exact S3 i hi)
    (allP (cases E)) [] _ _ rfl ⟨x8, x9, rfl, S, Sc, So⟩
  exact ⟨y8, y9, hs', by rw [e1, e2], S1, S2, S3⟩
end Lk74

set_option Elab.async false
set_option linter.all false
set_option maxRecDepth 100000
set_option maxHeartbeats 8000000
/-! k74: one turn of the law. -/
namespace Lk74
open PySem PySem.Spec PyProof.Rows L2 L2.Py
variable [Tl]

theorem callr {f : FM} {a : ME} {m : MA} {ρ : Env'} {hs : Hs} {c c' : Cell} {d : D} (xs : List D) (ha : a ρ hs = .ok (.r 0) hs) (hm : m ρ hs = .ok (xs.map .d) hs) (h : f (.r 0 :: xs.map .d) [c] = .ok d [c']) (hc : hs[0]? = some c) (hf : c.flat = true) : mCall f (mCons a m) ρ hs = .ok (.d d) (hs.set 0 c') :=
  call_ok (cons_ok ha hm) (callM_r0 xs h hc hf)
theorem draw_ev {ms : List Int} (hl : ms.length ≤ 1000) {hs : Hs} (hb : Bag ms hs) {ρ : Env'} (h1 : mVar 1 ρ hs = .ok (.r 0) hs) : ∃ E x' y' z', GE E ∧ 0 ≤ x' ∧ mCall f__law_events (mCons (mVar 1) mNil) ρ hs = .ok (.d (evs E)) (hs.set 0 (bagC x' y' z' ms)) := by
  obtain ⟨x, y, z, hc, hx⟩ := hb
  obtain ⟨E, x', y', z', q, g, l, hx'⟩ := events_ok hl hx (y := y) (z := z)
  exact ⟨E, x', y', z', ⟨g, l⟩, hx', callr (c := bagC x y z ms) [] h1 rfl q hc rfl⟩
section
variable {E : List Ev} {x0 x2 x5 x6 x7 x8 x9 x10 x11 : Option SV} {hs : Hs}
abbrev cL (E : List Ev) : Option SV := some (.d (.lst ((cases E).map cD)))
abbrev eT (E : List Ev) : Option SV := some (.d (evs E))
theorem first_test (h : GE E) : mIfS (mOr (mB (m2 (isF true) (mCall f_are_events (mCons (mVar 3) mNil)) (mC (.bl true)))) (mNot (mTru (mCall f__law_alike (mCons (mCall f_by_case (mCons (mVar 3) mNil)) (mCons (mBf tupleF (mCons (mVar 4) mNil)) mNil)))))) (mRet (mC (.bl false))) mSkip (LE x0 x2 (eT E) (cL E) x5 x6 x7 x8 x9 x10 x11) hs = .nx (LE x0 x2 (eT E) (cL E) x5 x6 x7 x8 x9 x10 x11) hs := by
  have ge := h.e
  have t1 : mB (m2 (isF true) (mCall f_are_events (mCons (mVar 3) mNil)) (mC (.bl true))) (LE x0 x2 (eT E) (cL E) x5 x6 x7 x8 x9 x10 x11) hs = .ok false hs := b_ok (m2_ok (call1 (x := evs E) rfl (are_ok ge.g ge.len)) (y := .d (.bl true)) rfl rfl)
  have t2 := alike_call (ρ := LE x0 x2 (eT E) (cL E) x5 x6 x7 x8 x9 x10 x11) (hs := hs) (call1 (a := mVar 3) (x := evs E) rfl (by_case_ok ge)) (bf1 (a := mVar 4) (x := .d (.lst ((cases E).map cD))) (f := tupleF) rfl rfl) (sm_cases h) rfl
  exact Eq.trans (if_false (or_ok (j := false) (k := false) t1 (not_ok (k := true) (tru_bl t2)))) rfl
theorem log_test (h : GE E) : mIfS (mNot (mTru (mCall f__law_alike (mCons (mCall f_log_of_events (mCons (mVar 3) mNil)) (mCons (mCall f__law_log (mCons (mLcE [12, 13] (.tp [(.nm 12), (.nm 13)]) (mItL (mVar 4)) mYes (mBf tupleF (mCons (mLcE [14] (.nm 14) (mItT (mVar 13)) mYes (m2 ixF (mVar 14) (mC (.int 1)))) mNil))) mNil)) mNil))))) (mRet (mC (.bl false))) mSkip (LE x0 x2 (eT E) (cL E) x5 x6 x7 x8 x9 x10 x11) hs = .nx (LE x0 x2 (eT E) (cL E) x5 x6 x7 x8 x9 x10 x11) hs := by
  have gc := h.c
  have lc : mLcE [12, 13] (.tp [(.nm 12), (.nm 13)]) (mItL (mVar 4)) mYes (mBf tupleF (mCons (mLcE [14] (.nm 14) (mItT (mVar 13)) mYes (m2 ixF (mVar 14) (mC (.int 1)))) mNil)) (LE x0 x2 (eT E) (cL E) x5 x6 x7 x8 x9 x10 x11) hs = .ok (.d (.lst (keysC (cases E)))) hs :=
    lc_all (enc := cD) (g := fun c => nmT c.2) (cases E) rfl (fun c hc => ⟨_, rfl, bf1 (lc_all (enc := ev) (g := fun e => .str e.a) c.2 rfl (fun e he => ⟨_, rfl, rfl⟩) (by have := gc.rl c hc; omega)) rfl⟩) (by have := gc.len; omega)
  exact alike_test (call1 (a := mVar 3) (x := evs E) rfl (log_ok h.e gc)) (call1 lc (law_log_ok gc)) (sm_mono (by decide) (sm_log h)) rfl
theorem due_ok (h : GE E) : mBf tupleF (mCons (mLcE [12, 13] (.tp [(.nm 12), (.nm 13)]) (mItL (mVar 4)) mYes (mTup (mCons (mVar 12) (mCons (m2 subF (m2 ixF (m2 ixF (mVar 13) (m1 negF (mC (.int 1)))) (mC (.int 2))) (m2 ixF (m2 ixF (mVar 13) (mC (.int 0))) (mC (.int 2)))) mNil)))) mNil) (LE x0 x2 (eT E) (cL E) x5 x6 x7 x8 x9 x10 x11) hs = .ok (.d (.tup ((cases E).map spD))) hs :=
  bf1 (lc_all (enc := cD) (g := spD) (cases E) rfl (fun c hc => ⟨_, rfl, tup2 (x := .int c.1) rfl (sp_ok (h.c.ne c hc) rfl)⟩) (by have := h.c.len; omega)) rfl
theorem span_test (h : GE E) : mIfS (mNot (mTru (mCall f__law_alike (mCons (mLst (mCons (mCall f_spans (mCons (mVar 3) mNil)) (mCons (mBf tupleF (mCons (mLcE [12, 13] (.tp [(.nm 12), (.nm 13)]) (mItL (mVar 4)) mYes (mTup (mCons (mVar 12) (mCons (mCall f_span (mCons (mVar 3) (mCons (mVar 12) mNil))) mNil)))) mNil)) mNil))) (mCons (mLst (mCons (mVar 5) (mCons (mVar 5) mNil))) mNil))))) (mRet (mC (.bl false))) mSkip (LE x0 x2 (eT E) (cL E) (some (.d (.tup ((cases E).map spD)))) x6 x7 x8 x9 x10 x11) hs = .nx (LE x0 x2 (eT E) (cL E) (some (.d (.tup ((cases E).map spD)))) x6 x7 x8 x9 x10 x11) hs := by
  have gc := h.c
  have lc : mBf tupleF (mCons (mLcE [12, 13] (.tp [(.nm 12), (.nm 13)]) (mItL (mVar 4)) mYes (mTup (mCons (mVar 12) (mCons (mCall f_span (mCons (mVar 3) (mCons (mVar 12) mNil))) mNil)))) mNil) (LE x0 x2 (eT E) (cL E) (some (.d (.tup ((cases E).map spD)))) x6 x7 x8 x9 x10 x11) hs = .ok (.d (.tup ((cases E).map spD))) hs :=
    bf1 (lc_all (enc := cD) (g := spD) (cases E) rfl (fun c hc => ⟨_, rfl, tup2 (x := .int c.1) rfl (call2 (x := evs E) (y := .int c.1) rfl rfl (span_ok h.e gc hc))⟩) (by have := gc.len; omega)) rfl
  exact alike_test (lst2 (call1 (a := mVar 3) (x := evs E) rfl (spans_ok h.e gc)) lc) (lst2 (a := mVar 5) (b := mVar 5) (x := .tup ((cases E).map spD)) (y := .tup ((cases E).map spD)) rfl rfl) (sm_mono (n := 3) (by decide) (sm_lst (by simp) fun x hx => by
    simp only [List.mem_cons, List.not_mem_nil, or_false, or_self] at hx
    rw [hx]; exact sm_spans h)) rfl
theorem told_test (h : GE E) {n : Nat} {hs : Hs} {x8 x9 : Option SV} (S : GS hs n (n + 2) (wG (allP (cases E)))) (Sc : hs[n + 1]? = some (ctCell (hC (allP (cases E))))) :
    mSet 10 (mBf tupleF (mCons (mLcE [15] (.nm 15) (mItL (mBf sortedF (mCons (mVar 6) mNil))) mYes (mTup (mCons (mVar 15) (mCons (mBf lenF (mCons (mIxL (mVar 6) (mVar 15)) mNil)) (mCons (mBf (endFn false) (mCons (mIxL (mVar 6) (mVar 15)) mNil)) (mCons (mBf (endFn true) (mCons (mIxL (mVar 6) (mVar 15)) mNil)) (mCons (mBf sumFn (mCons (mIxL (mVar 6) (mVar 15)) mNil)) mNil))))))) mNil)) (LE x0 x2 (eT E) (cL E) x5 (some (.r n)) (some (.r (n + 1))) x8 x9 x10 x11) hs = .nx (LE x0 x2 (eT E) (cL E) x5 (some (.r n)) (some (.r (n + 1))) x8 x9 (some (.d (told (wG (allP (cases E)))))) x11) hs ∧
    mIfS (mNot (mTru (mCall f__law_alike (mCons (mLst (mCons (mCall f_behind_waits (mCons (mVar 3) mNil)) (mCons (mCall f_handovers (mCons (mVar 3) mNil)) mNil))) (mCons (mLst (mCons (mVar 10) (mCons (mBf tupleF (mCons (mSortI (mVar 7)) mNil)) mNil))) mNil))))) (mRet (mC (.bl false))) mSkip (LE x0 x2 (eT E) (cL E) x5 (some (.r n)) (some (.r (n + 1))) x8 x9 (some (.d (told (wG (allP (cases E)))))) x11) hs = .nx (LE x0 x2 (eT E) (cL E) x5 (some (.r n)) (some (.r (n + 1))) x8 x9 (some (.d (told (wG (allP (cases E)))))) x11) hs := by
  have gc := h.c
  have hl := gc.all
  refine ⟨set_ok (x := .d (told (wG (allP (cases E))))) (bf1 (told_list (a := mVar 6) (c := mVar 15) S (by omega) (fun k => ⟨_, rfl, rfl, rfl⟩) rfl) rfl), ?_⟩
  exact alike_test (lst2 (call1 (a := mVar 3) (x := evs E) rfl (behind_ok h.e gc)) (call1 (a := mVar 3) (x := evs E) rfl (hand_ok h.e gc))) (lst2 (a := mVar 10) (x := told (wG (allP (cases E)))) rfl (items_ok (o := mVar 7) Sc (hc_all _) (by omega) rfl)) (sm_lst (by simp) fun x hx => by
    simp only [List.mem_cons, List.not_mem_nil, or_false] at hx
    rcases hx with rfl | rfl
    · exact sm_told h
    · exact sm_hands h) rfl
end
end Lk74

set_option Elab.async false
set_option linter.all false
set_option maxRecDepth 100000
set_option maxHeartbeats 8000000
/-! k74: the law. -/
namespace Lk74
open PySem PySem.Spec PyProof.Rows L2 L2.Py
variable [Tl]

theorem turn_ok {ms : List Int} (hl : ms.length ≤ 1000) {hs : Hs} (hb : Bag ms hs) {x0 x2 x3 x4 x5 x6 x7 x8 x9 x10 x11 : Option SV} :
    ∃ y3 y4 y5 y6 y7 y8 y9 y10 y11 hs', l_law_3 (LE x0 x2 x3 x4 x5 x6 x7 x8 x9 x10 x11) hs = .nx (LE x0 x2 y3 y4 y5 y6 y7 y8 y9 y10 y11) hs' ∧ Bag ms hs' := by
  obtain ⟨E, x', y', z', h, hx', q⟩ := draw_ev hl hb (ρ := LE x0 x2 x3 x4 x5 x6 x7 x8 x9 x10 x11) rfl
  obtain ⟨_, _, _, hc0, _⟩ := hb
  have l0 : 0 < hs.length := (List.getElem?_eq_some_iff.mp hc0).1
  generalize hh1 : hs.set 0 (bagC x' y' z' ms) = hs1 at q
  have c1 : hs1[0]? = some (bagC x' y' z' ms) := by rw [← hh1]; exact List.getElem?_set_self l0
  have l1 : 0 < hs1.length := (List.getElem?_eq_some_iff.mp c1).1
  let n := hs1.length
  let hs2 : Hs := (hs1 ++ [.dl [] []]) ++ [.dct [] []]
  have par : mPar 6 7 (mCons mNewDL (mCons mNewD mNil)) (LE x0 x2 (eT E) (cL E) (some (.d (.tup ((cases E).map spD)))) x6 x7 x8 x9 x10 x11) hs1 = .nx (LE x0 x2 (eT E) (cL E) (some (.d (.tup ((cases E).map spD)))) (some (.r n)) (some (.r (n + 1))) x8 x9 x10 x11) hs2 := by
    have e : (hs1 ++ [Cell.dl [] []]).length = n + 1 := by simp [n]
    simp only [mPar, mCons, mNewDL, mNewD, mNil, Out.bind, Out.bindS, e]
    rfl
  have S0 : GS hs2 n (n + 2) [] := ⟨by simp [hs2, n], by simp [hs2, n], fun i x hx => (by simp at hx), by omega⟩
  have Sc0 : hs2[n + 1]? = some (ctCell ⟨[], []⟩) := by
    show ((hs1 ++ [Cell.dl [] []]) ++ [Cell.dct [] []])[n + 1]? = _
    rw [List.getElem?_append_right (by simp [n])]
    simp [n, ctCell]
  have So0 : ∀ i, i < n → hs2[i]? = hs1[i]? := fun i hi => by
    show ((hs1 ++ [Cell.dl [] []]) ++ [Cell.dct [] []])[i]? = _
    rw [List.getElem?_append_left (by simp; omega), List.getElem?_append_left hi]
  obtain ⟨y8, y9, hs3, wl, S, Sc, So⟩ := waits_loop h (x0 := x0) (x2 := x2) (x3 := eT E) (x4 := cL E) (x5 := some (.d (.tup ((cases E).map spD)))) (x8 := x8) (x9 := x9) (x10 := x10) (x11 := x11) S0 Sc0 So0
  have c3 : hs3[0]? = some (bagC x' y' z' ms) := by rw [So 0 l1]; exact c1
  obtain ⟨t1, t2⟩ := told_test (x0 := x0) (x2 := x2) (x5 := some (.d (.tup ((cases E).map spD)))) (x10 := x10) (x11 := x11) (x8 := y8) (x9 := y9) h S Sc
  obtain ⟨x4', y4', z4', r1, r2⟩ := rest_ok h hl hx' (y := y') (z := z')
  let ρ10 := LE x0 x2 (eT E) (cL E) (some (.d (.tup ((cases E).map spD)))) (some (.r n)) (some (.r (n + 1))) y8 y9 (some (.d (told (wG (allP (cases E)))))) x11
  have rc : mCall f__law_is_rest (mCons (mVar 1) (mCons (mVar 3) (mCons (mVar 4) mNil))) ρ10 hs3 = .ok (.d (.bl true)) (hs3.set 0 (bagC x4' y4' z4' ms)) := callr (c := bagC x' y' z' ms) [evs E, .lst ((cases E).map cD)] rfl rfl r1 c3 rfl
  let hs4 := hs3.set 0 (bagC x4' y4' z4' ms)
  have g := h.e.g
  have len := h.e.len
  let odds : List D := [.non, .tup (E.map ev ++ [.tup [.int 0, .str "a", .int 1]]), .lst (E.map ev), .tup (E.map ev ++ [.tup [.int (-1), .str "a", .int 1, .str "bo"]]), .tup (E.map ev ++ [.tup [.int 0, .str "A", .int 1, .str "bo"]]), .tup (E.map ev ++ [.tup [.int 0, .str "a", .int 1000001, .str "bo"]])]
  obtain ⟨y11, ol⟩ := odd_loop (hs := hs4) (x0 := x0) (x2 := x2) (x3 := eT E) (x4 := cL E) (x5 := some (.d (.tup ((cases E).map spD)))) (x6 := some (.r n)) (x7 := some (.r (n + 1))) (x8 := y8) (x9 := y9) (x10 := some (.d (told (wG (allP (cases E)))))) odds x11 (fun d hd => by
    simp only [odds, List.mem_cons, List.not_mem_nil, or_false] at hd
    rcases hd with rfl | rfl | rfl | rfl | rfl | rfl
    · exact bad5
    · exact are_bad g len bad1
    · exact bad6 _
    · exact are_bad g len bad2
    · exact are_bad g len bad3
    · exact are_bad g len bad4)
  refine ⟨eT E, cL E, some (.d (.tup ((cases E).map spD))), some (.r n), some (.r (n + 1)), y8, y9, some (.d (told (wG (allP (cases E))))), y11, hs4, ?_, ⟨x4', y4', z4', List.getElem?_set_self (List.getElem?_eq_some_iff.mp c3).1, r2⟩⟩
  unfold l_law_3
  refine Eq.trans (seq_nx (ρ1 := LE x0 x2 (eT E) x4 x5 x6 x7 x8 x9 x10 x11) (hs1 := hs1) (set_ok q)) ?_
  refine Eq.trans (seq_nx (ρ1 := LE x0 x2 (eT E) (cL E) x5 x6 x7 x8 x9 x10 x11) (hs1 := hs1) (set_ok (call1 (a := mVar 3) (x := evs E) rfl (law_cases_ok h.e)))) ?_
  refine Eq.trans (seq_nx (first_test h)) ?_
  refine Eq.trans (seq_nx (log_test h)) ?_
  refine Eq.trans (seq_nx (ρ1 := LE x0 x2 (eT E) (cL E) (some (.d (.tup ((cases E).map spD)))) x6 x7 x8 x9 x10 x11) (hs1 := hs1) (set_ok (due_ok h))) ?_
  refine Eq.trans (seq_nx (span_test h)) ?_
  refine Eq.trans (seq_nx par) ?_
  refine Eq.trans (seq_nx (Eq.trans (for_ok (items := (allP (cases E)).map encP) (hs1 := hs2) ?_) wl)) ?_
  · have := call1 (a := mVar 4) (ρ := LE x0 x2 (eT E) (cL E) (some (.d (.tup ((cases E).map spD)))) (some (.r n)) (some (.r (n + 1))) x8 x9 x10 x11) (hs := hs2) (x := .lst ((cases E).map cD)) rfl (pairs_ok h.c)
    simp only [mItL, this, Out.bind]
  refine Eq.trans (seq_nx t1) ?_
  refine Eq.trans (seq_nx t2) ?_
  refine Eq.trans (seq_nx (Eq.trans (if_false (hs1 := hs4) (not_ok (k := true) (tru_bl rc))) rfl)) ?_
  refine Eq.trans (for_ok (items := odds) (hs1 := hs4) ?_) ol
  have ad : ∀ (ρ : Env') (m : ME) (d : D), mVar 3 ρ hs4 = .ok (.d (evs E)) hs4 → m ρ hs4 = .ok (.d (.tup [d])) hs4 → m2 addF (mVar 3) m ρ hs4 = .ok (.d (.tup (E.map ev ++ [d]))) hs4 := fun ρ m d h3 hm => by
    refine m2_ok h3 hm ?_
    show (if (E.map ev).length + [d].length ≤ sizeLine then some (D.tup (E.map ev ++ [d])) else none) = _
    rw [if_pos]
    rw [List.length_map]
    exact Nat.le_trans (show E.length + 1 ≤ 101 by omega) (by decide)
  have tp := tup_ok (m := mCons (mC .non) (mCons (m2 addF (mVar 3) (mTup (mCons (mTup (mCons (mC (.int 0)) (mCons (mC (.str "a")) (mCons (mC (.int 1)) mNil)))) mNil))) (mCons (mBf listF (mCons (mVar 3) mNil)) (mCons (m2 addF (mVar 3) (mTup (mCons (mTup (mCons (m1 negF (mC (.int 1))) (mCons (mC (.str "a")) (mCons (mC (.int 1)) (mCons (mC (.str "bo")) mNil))))) mNil))) (mCons (m2 addF (mVar 3) (mTup (mCons (mTup (mCons (mC (.int 0)) (mCons (mC (.str "A")) (mCons (mC (.int 1)) (mCons (mC (.str "bo")) mNil))))) mNil))) (mCons (m2 addF (mVar 3) (mTup (mCons (mTup (mCons (mC (.int 0)) (mCons (mC (.str "a")) (mCons (mC (.int 1000001)) (mCons (mC (.str "bo")) mNil))))) mNil))) mNil)))))) (ρ := ρ10) (hs := hs4) (hs1 := hs4) odds
    (cons_ok (sx := .d .non) rfl (cons_ok (ad ρ10 _ _ rfl rfl) (cons_ok (sx := .d (.lst (E.map ev))) rfl (cons_ok (ad ρ10 _ _ rfl rfl) (cons_ok (ad ρ10 _ _ rfl rfl) (cons_ok (ad ρ10 _ _ rfl rfl) rfl)))))) (by simp [odds])
  show (mTup _ ρ10 hs4).bind _ = _
  rw [tp]
  rfl
end Lk74

set_option Elab.async false
set_option linter.all false
set_option maxRecDepth 100000
set_option maxHeartbeats 8000000
/-! k74: the law, whole. -/
namespace Lk74
open PySem PySem.Spec PyProof.Rows L2 L2.Py
variable [Tl]

theorem law_ok : ∀ ns : List Int, ns.length ≤ 63 → f_law [.d (.scr (ns.map .int))] [] = .ok (.bl true) [] := fun ns hn => by
  obtain ⟨ms, h1, h2, hb⟩ := bag_ok ns hn
  have hs0 : Bag ms [bagC 0 1234567891 0 ms] := ⟨0, _, _, rfl, by decide⟩
  have st : mSetNew 1 f__law_bag (mCons (mVar 0) mNil) (startE 16 [.d (.scr (ns.map .int))]) [] = .nx (LE (some (.d (.scr (ns.map .int)))) none none none none none none none none none none) [bagC 0 1234567891 0 ms] := by
    have e : callN f__law_bag [.d (.scr (ns.map .int))] [] = .ok (bagC 0 1234567891 0 ms) [] := by
      simp only [callN, refsOf, renumL, renum, getAll, hb, setAll]
      rfl
    have e2 : (mCons (mVar 0) mNil) (startE 16 [.d (.scr (ns.map .int))]) [] = .ok [.d (.scr (ns.map .int))] [] := rfl
    simp only [mSetNew, e2, e, Out.bindS]
    rfl
  let I : List Nat → Env' → Hs → Prop := fun _ ρ hs => ∃ x2 x3 x4 x5 x6 x7 x8 x9 x10 x11, ρ = LE (some (.d (.scr (ns.map .int)))) x2 x3 x4 x5 x6 x7 x8 x9 x10 x11 ∧ Bag ms hs
  have turn : ∀ (done : List Nat) (x : Nat) (rest : List Nat) (ρ : Env') (hs : Hs), List.range 4 = done ++ x :: rest → I done ρ hs →
      ∃ ρ1 ρ2 hs2, mTg (.nm 2) (.d (.int (0 + (x : Int)))) ρ = some ρ1 ∧ (l_law_3 ρ1 hs = .nx ρ2 hs2 ∨ l_law_3 ρ1 hs = .ct ρ2 hs2) ∧ I (done ++ [x]) ρ2 hs2 := fun done x rest ρ hs _ i => by
    obtain ⟨x2, x3, x4, x5, x6, x7, x8, x9, x10, x11, rfl, b⟩ := i
    obtain ⟨y3, y4, y5, y6, y7, y8, y9, y10, y11, hs', q, b'⟩ := turn_ok (by omega : ms.length ≤ 1000) b (x0 := some (.d (.scr (ns.map .int)))) (x2 := some (.d (.int (0 + (x : Int))))) (x3 := x3) (x4 := x4) (x5 := x5) (x6 := x6) (x7 := x7) (x8 := x8) (x9 := x9) (x10 := x10) (x11 := x11)
    exact ⟨_, _, hs', rfl, .inl q, _, _, _, _, _, _, _, _, _, _, rfl, b'⟩
  obtain ⟨ρ', hs', f1, _⟩ := forL_whole turn (List.range 4) [] (LE (some (.d (.scr (ns.map .int)))) none none none none none none none none none none) _ rfl ⟨_, _, _, _, _, _, _, _, _, _, rfl, hs0⟩
  unfold f_law
  refine Eq.trans (fn_rt (hs1 := hs') (d := .bl true) ?_) (by simp)
  unfold b_law
  refine Eq.trans (seq_nx st) ?_
  refine Eq.trans (seq_nx (Eq.trans (for_ok (range_ok 4 (z := 4) rfl rfl (by decide))) f1)) ?_
  rfl
end Lk74

section
open PySem PySem.W PyProof.Rows
set_option maxRecDepth 100000 in
set_option maxHeartbeats 0 in
open_top head for PySem.Challenge.rw_casetrees_k74_cases_with_moments_and_han
end

set_option Elab.async false
set_option linter.all false
set_option maxRecDepth 100000
set_option maxHeartbeats 4000000
namespace Lk74
open PySem PySem.Spec PyProof.Rows L2 L2.Py
section
variable [Tl]
theorem mo_mk {K : PySem.W.Frag} {h : Heap} {mg : Str → Option Value} (X : K.In h) (G : h.Ns mainGlobals mg)
    {f0 : Addr} {od0 an0 : Option Addr} {sl0 : Array (Option Value)} {oc0 kV0 dc0 pm0 cd0 ct0 : Value}
    {f1 : Addr} {od1 an1 : Option Addr} {sl1 : Array (Option Value)} {oc1 kV1 dc1 pm1 cd1 ct1 : Value}
    {f2 : Addr} {od2 an2 : Option Addr} {sl2 : Array (Option Value)} {oc2 kV2 dc2 pm2 cd2 ct2 : Value}
    {f3 : Addr} {od3 an3 : Option Addr} {sl3 : Array (Option Value)} {oc3 kV3 dc3 pm3 cd3 ct3 : Value}
    {f4 : Addr} {od4 an4 : Option Addr} {sl4 : Array (Option Value)} {oc4 kV4 dc4 pm4 cd4 ct4 : Value}
    {f5 : Addr} {od5 an5 : Option Addr} {sl5 : Array (Option Value)} {oc5 kV5 dc5 pm5 cd5 ct5 : Value}
    {f6 : Addr} {od6 an6 : Option Addr} {sl6 : Array (Option Value)} {oc6 kV6 dc6 pm6 cd6 ct6 : Value}
    {f7 : Addr} {od7 an7 : Option Addr} {sl7 : Array (Option Value)} {oc7 kV7 dc7 pm7 cd7 ct7 : Value}
    {f8 : Addr} {od8 an8 : Option Addr} {sl8 : Array (Option Value)} {oc8 kV8 dc8 pm8 cd8 ct8 : Value}
    {f9 : Addr} {od9 an9 : Option Addr} {sl9 : Array (Option Value)} {oc9 kV9 dc9 pm9 cd9 ct9 : Value}
    {f10 : Addr} {od10 an10 : Option Addr} {sl10 : Array (Option Value)} {oc10 kV10 dc10 pm10 cd10 ct10 : Value}
    {f11 : Addr} {od11 an11 : Option Addr} {sl11 : Array (Option Value)} {oc11 kV11 dc11 pm11 cd11 ct11 : Value}
    {f12 : Addr} {od12 an12 : Option Addr} {sl12 : Array (Option Value)} {oc12 kV12 dc12 pm12 cd12 ct12 : Value}
    {f13 : Addr} {od13 an13 : Option Addr} {sl13 : Array (Option Value)} {oc13 kV13 dc13 pm13 cd13 ct13 : Value}
    {f14 : Addr} {od14 an14 : Option Addr} {sl14 : Array (Option Value)} {oc14 kV14 dc14 pm14 cd14 ct14 : Value}
    {f15 cd15 pt15 : Addr} {od15 an15 : Option Addr} {sl15 : Array (Option Value)} {oc15 kV15 dc15 pm15 ct15 : Value}
    {f16 : Addr} {od16 an16 : Option Addr} {sl16 : Array (Option Value)} {oc16 kV16 dc16 pm16 cd16 ct16 : Value}
    {f17 : Addr} {od17 an17 : Option Addr} {sl17 : Array (Option Value)} {oc17 kV17 dc17 pm17 cd17 ct17 : Value}
    {f18 : Addr} {od18 an18 : Option Addr} {sl18 : Array (Option Value)} {oc18 kV18 dc18 pm18 cd18 ct18 : Value}
    {f19 : Addr} {od19 an19 : Option Addr} {sl19 : Array (Option Value)} {oc19 kV19 dc19 pm19 cd19 ct19 : Value}
    {f20 : Addr} {od20 an20 : Option Addr} {sl20 : Array (Option Value)} {oc20 kV20 dc20 pm20 cd20 ct20 : Value}
    {f21 : Addr} {od21 an21 : Option Addr} {sl21 : Array (Option Value)} {oc21 kV21 dc21 pm21 cd21 ct21 : Value}
    {f22 : Addr} {od22 an22 : Option Addr} {sl22 : Array (Option Value)} {oc22 kV22 dc22 pm22 cd22 ct22 : Value}
    {f23 : Addr} {od23 an23 : Option Addr} {sl23 : Array (Option Value)} {oc23 kV23 dc23 pm23 cd23 ct23 : Value}
    {f24 cd24 pt24 : Addr} {od24 an24 : Option Addr} {sl24 : Array (Option Value)} {oc24 kV24 dc24 pm24 ct24 : Value}
    {f25 cd25 pt25 : Addr} {od25 an25 : Option Addr} {sl25 : Array (Option Value)} {oc25 kV25 dc25 pm25 ct25 : Value}
    {f26 : Addr} {od26 an26 : Option Addr} {sl26 : Array (Option Value)} {oc26 kV26 dc26 pm26 cd26 ct26 : Value}
    {f27 : Addr} {od27 an27 : Option Addr} {sl27 : Array (Option Value)} {oc27 kV27 dc27 pm27 cd27 ct27 : Value}
    {f28 : Addr} {od28 an28 : Option Addr} {sl28 : Array (Option Value)} {oc28 kV28 dc28 pm28 cd28 ct28 : Value}
    {f29 : Addr} {od29 an29 : Option Addr} {sl29 : Array (Option Value)} {oc29 kV29 dc29 pm29 cd29 ct29 : Value}
    {f30 : Addr} {od30 an30 : Option Addr} {sl30 : Array (Option Value)} {oc30 kV30 dc30 pm30 cd30 ct30 : Value}
    {u_DIGITS : Value}
    {u_LETTERS : Value}
    {u_MOST_EVENTS : Value}
    {u_MOST_LETTERS : Value}
    {u_MOST_MOMENT : Value}
    {b_RESERVED : Addr} {o_RESERVED : Obj}
    {C_Nothing : Addr}
    (a0 : PySem.W.nsIn K mainGlobals "_law_bag" = some (some (.ref f0))) (l0 : K.lookup f0 = some ⟨oc0, od0, .func (PySem.W.fnOf "_law_bag" "_law_bag" (defArgs (topS 33)) (defBody (topS 33)) (defScope (topS 33)) .none kV0 dc0 pm0 an0 cd0 ct0), sl0⟩) (c0 : PySem.W.codeIn K cd0 "_law_bag" = true) (k0 : PySem.W.keepIn K (.ref f0) = true)
    (a1 : PySem.W.nsIn K mainGlobals "_law_take" = some (some (.ref f1))) (l1 : K.lookup f1 = some ⟨oc1, od1, .func (PySem.W.fnOf "_law_take" "_law_take" (defArgs (topS 34)) (defBody (topS 34)) (defScope (topS 34)) .none kV1 dc1 pm1 an1 cd1 ct1), sl1⟩) (c1 : PySem.W.codeIn K cd1 "_law_take" = true) (k1 : PySem.W.keepIn K (.ref f1) = true)
    (a2 : PySem.W.nsIn K mainGlobals "_law_some" = some (some (.ref f2))) (l2 : K.lookup f2 = some ⟨oc2, od2, .func (PySem.W.fnOf "_law_some" "_law_some" (defArgs (topS 35)) (defBody (topS 35)) (defScope (topS 35)) .none kV2 dc2 pm2 an2 cd2 ct2), sl2⟩) (c2 : PySem.W.codeIn K cd2 "_law_some" = true) (k2 : PySem.W.keepIn K (.ref f2) = true)
    (a3 : PySem.W.nsIn K mainGlobals "_law_events" = some (some (.ref f3))) (l3 : K.lookup f3 = some ⟨oc3, od3, .func (PySem.W.fnOf "_law_events" "_law_events" (defArgs (topS 38)) (defBody (topS 38)) (defScope (topS 38)) .none kV3 dc3 pm3 an3 cd3 ct3), sl3⟩) (c3 : PySem.W.codeIn K cd3 "_law_events" = true) (k3 : PySem.W.keepIn K (.ref f3) = true)
    (a4 : PySem.W.nsIn K mainGlobals "_law_cases" = some (some (.ref f4))) (l4 : K.lookup f4 = some ⟨oc4, od4, .func (PySem.W.fnOf "_law_cases" "_law_cases" (defArgs (topS 39)) (defBody (topS 39)) (defScope (topS 39)) .none kV4 dc4 pm4 an4 cd4 ct4), sl4⟩) (c4 : PySem.W.codeIn K cd4 "_law_cases" = true) (k4 : PySem.W.keepIn K (.ref f4) = true)
    (a5 : PySem.W.nsIn K mainGlobals "_law_pairs" = some (some (.ref f5))) (l5 : K.lookup f5 = some ⟨oc5, od5, .func (PySem.W.fnOf "_law_pairs" "_law_pairs" (defArgs (topS 40)) (defBody (topS 40)) (defScope (topS 40)) .none kV5 dc5 pm5 an5 cd5 ct5), sl5⟩) (c5 : PySem.W.codeIn K cd5 "_law_pairs" = true) (k5 : PySem.W.keepIn K (.ref f5) = true)
    (a6 : PySem.W.nsIn K mainGlobals "_law_alike" = some (some (.ref f6))) (l6 : K.lookup f6 = some ⟨oc6, od6, .func (PySem.W.fnOf "_law_alike" "_law_alike" (defArgs (topS 36)) (defBody (topS 36)) (defScope (topS 36)) .none kV6 dc6 pm6 an6 cd6 ct6), sl6⟩) (c6 : PySem.W.codeIn K cd6 "_law_alike" = true) (k6 : PySem.W.keepIn K (.ref f6) = true)
    (a7 : PySem.W.nsIn K mainGlobals "_law_answers" = some (some (.ref f7))) (l7 : K.lookup f7 = some ⟨oc7, od7, .func (PySem.W.fnOf "_law_answers" "_law_answers" (defArgs (topS 41)) (defBody (topS 41)) (defScope (topS 41)) .none kV7 dc7 pm7 an7 cd7 ct7), sl7⟩) (c7 : PySem.W.codeIn K cd7 "_law_answers" = true) (k7 : PySem.W.keepIn K (.ref f7) = true)
    (a8 : PySem.W.nsIn K mainGlobals "is_integer" = some (some (.ref f8))) (l8 : K.lookup f8 = some ⟨oc8, od8, .func (PySem.W.fnOf "is_integer" "is_integer" (defArgs (topS 9)) (defBody (topS 9)) (defScope (topS 9)) .none kV8 dc8 pm8 an8 cd8 ct8), sl8⟩) (c8 : PySem.W.codeIn K cd8 "is_integer" = true) (k8 : PySem.W.keepIn K (.ref f8) = true)
    (a9 : PySem.W.nsIn K mainGlobals "is_count" = some (some (.ref f9))) (l9 : K.lookup f9 = some ⟨oc9, od9, .func (PySem.W.fnOf "is_count" "is_count" (defArgs (topS 10)) (defBody (topS 10)) (defScope (topS 10)) .none kV9 dc9 pm9 an9 cd9 ct9), sl9⟩) (c9 : PySem.W.codeIn K cd9 "is_count" = true) (k9 : PySem.W.keepIn K (.ref f9) = true)
    (a10 : PySem.W.nsIn K mainGlobals "is_name" = some (some (.ref f10))) (l10 : K.lookup f10 = some ⟨oc10, od10, .func (PySem.W.fnOf "is_name" "is_name" (defArgs (topS 11)) (defBody (topS 11)) (defScope (topS 11)) .none kV10 dc10 pm10 an10 cd10 ct10), sl10⟩) (c10 : PySem.W.codeIn K cd10 "is_name" = true) (k10 : PySem.W.keepIn K (.ref f10) = true)
    (a11 : PySem.W.nsIn K mainGlobals "is_event" = some (some (.ref f11))) (l11 : K.lookup f11 = some ⟨oc11, od11, .func (PySem.W.fnOf "is_event" "is_event" (defArgs (topS 15)) (defBody (topS 15)) (defScope (topS 15)) .none kV11 dc11 pm11 an11 cd11 ct11), sl11⟩) (c11 : PySem.W.codeIn K cd11 "is_event" = true) (k11 : PySem.W.keepIn K (.ref f11) = true)
    (a12 : PySem.W.nsIn K mainGlobals "are_events" = some (some (.ref f12))) (l12 : K.lookup f12 = some ⟨oc12, od12, .func (PySem.W.fnOf "are_events" "are_events" (defArgs (topS 16)) (defBody (topS 16)) (defScope (topS 16)) .none kV12 dc12 pm12 an12 cd12 ct12), sl12⟩) (c12 : PySem.W.codeIn K cd12 "are_events" = true) (k12 : PySem.W.keepIn K (.ref f12) = true)
    (a13 : PySem.W.nsIn K mainGlobals "check_events" = some (some (.ref f13))) (l13 : K.lookup f13 = some ⟨oc13, od13, .func (PySem.W.fnOf "check_events" "check_events" (defArgs (topS 17)) (defBody (topS 17)) (defScope (topS 17)) .none kV13 dc13 pm13 an13 cd13 ct13), sl13⟩) (c13 : PySem.W.codeIn K cd13 "check_events" = true) (k13 : PySem.W.keepIn K (.ref f13) = true)
    (a14 : PySem.W.nsIn K mainGlobals "shifted" = some (some (.ref f14))) (l14 : K.lookup f14 = some ⟨oc14, od14, .func (PySem.W.fnOf "shifted" "shifted" (defArgs (topS 31)) (defBody (topS 31)) (defScope (topS 31)) .none kV14 dc14 pm14 an14 cd14 ct14), sl14⟩) (c14 : PySem.W.codeIn K cd14 "shifted" = true) (k14 : PySem.W.keepIn K (.ref f14) = true)
    (a15 : PySem.W.nsIn K mainGlobals "by_case" = some (some (.ref f15))) (l15 : K.lookup f15 = some ⟨oc15, od15, .func (PySem.W.fnOf "by_case" "by_case" (defArgs (topS 18)) (defBody (topS 18)) (defScope (topS 18)) .none kV15 dc15 pm15 an15 (.ref cd15) ct15), sl15⟩) (c15 : PySem.W.codeIn K (.ref cd15) "by_case" = true) (k15 : PySem.W.keepIn K (.ref f15) = true) (t15 : (cd15, pt15, ("by_case.<locals>.<lambda>" : Str)) ∈ Tl.T) (u15 : ∀ p ∈ Tl.T, p.2.1 = pt15 → p.2.2 = "by_case.<locals>.<lambda>")
    (a16 : PySem.W.nsIn K mainGlobals "open_at" = some (some (.ref f16))) (l16 : K.lookup f16 = some ⟨oc16, od16, .func (PySem.W.fnOf "open_at" "open_at" (defArgs (topS 29)) (defBody (topS 29)) (defScope (topS 29)) .none kV16 dc16 pm16 an16 cd16 ct16), sl16⟩) (c16 : PySem.W.codeIn K cd16 "open_at" = true) (k16 : PySem.W.keepIn K (.ref f16) = true)
    (a17 : PySem.W.nsIn K mainGlobals "most_open" = some (some (.ref f17))) (l17 : K.lookup f17 = some ⟨oc17, od17, .func (PySem.W.fnOf "most_open" "most_open" (defArgs (topS 30)) (defBody (topS 30)) (defScope (topS 30)) .none kV17 dc17 pm17 an17 cd17 ct17), sl17⟩) (c17 : PySem.W.codeIn K cd17 "most_open" = true) (k17 : PySem.W.keepIn K (.ref f17) = true)
    (a18 : PySem.W.nsIn K mainGlobals "answers" = some (some (.ref f18))) (l18 : K.lookup f18 = some ⟨oc18, od18, .func (PySem.W.fnOf "answers" "answers" (defArgs (topS 23)) (defBody (topS 23)) (defScope (topS 23)) .none kV18 dc18 pm18 an18 cd18 ct18), sl18⟩) (c18 : PySem.W.codeIn K cd18 "answers" = true) (k18 : PySem.W.keepIn K (.ref f18) = true)
    (a19 : PySem.W.nsIn K mainGlobals "late" = some (some (.ref f19))) (l19 : K.lookup f19 = some ⟨oc19, od19, .func (PySem.W.fnOf "late" "late" (defArgs (topS 24)) (defBody (topS 24)) (defScope (topS 24)) .none kV19 dc19 pm19 an19 cd19 ct19), sl19⟩) (c19 : PySem.W.codeIn K cd19 "late" = true) (k19 : PySem.W.keepIn K (.ref f19) = true)
    (a20 : PySem.W.nsIn K mainGlobals "least_bound" = some (some (.ref f20))) (l20 : K.lookup f20 = some ⟨oc20, od20, .func (PySem.W.fnOf "least_bound" "least_bound" (defArgs (topS 25)) (defBody (topS 25)) (defScope (topS 25)) .none kV20 dc20 pm20 an20 cd20 ct20), sl20⟩) (c20 : PySem.W.codeIn K cd20 "least_bound" = true) (k20 : PySem.W.keepIn K (.ref f20) = true)
    (a21 : PySem.W.nsIn K mainGlobals "works_of" = some (some (.ref f21))) (l21 : K.lookup f21 = some ⟨oc21, od21, .func (PySem.W.fnOf "works_of" "works_of" (defArgs (topS 27)) (defBody (topS 27)) (defScope (topS 27)) .none kV21 dc21 pm21 an21 cd21 ct21), sl21⟩) (c21 : PySem.W.codeIn K cd21 "works_of" = true) (k21 : PySem.W.keepIn K (.ref f21) = true)
    (a22 : PySem.W.nsIn K mainGlobals "by_one_hand" = some (some (.ref f22))) (l22 : K.lookup f22 = some ⟨oc22, od22, .func (PySem.W.fnOf "by_one_hand" "by_one_hand" (defArgs (topS 28)) (defBody (topS 28)) (defScope (topS 28)) .none kV22 dc22 pm22 an22 cd22 ct22), sl22⟩) (c22 : PySem.W.codeIn K cd22 "by_one_hand" = true) (k22 : PySem.W.keepIn K (.ref f22) = true)
    (a23 : PySem.W.nsIn K mainGlobals "_law_is_rest" = some (some (.ref f23))) (l23 : K.lookup f23 = some ⟨oc23, od23, .func (PySem.W.fnOf "_law_is_rest" "_law_is_rest" (defArgs (topS 42)) (defBody (topS 42)) (defScope (topS 42)) .none kV23 dc23 pm23 an23 cd23 ct23), sl23⟩) (c23 : PySem.W.codeIn K cd23 "_law_is_rest" = true) (k23 : PySem.W.keepIn K (.ref f23) = true)
    (a24 : PySem.W.nsIn K mainGlobals "log_of_events" = some (some (.ref f24))) (l24 : K.lookup f24 = some ⟨oc24, od24, .func (PySem.W.fnOf "log_of_events" "log_of_events" (defArgs (topS 19)) (defBody (topS 19)) (defScope (topS 19)) .none kV24 dc24 pm24 an24 (.ref cd24) ct24), sl24⟩) (c24 : PySem.W.codeIn K (.ref cd24) "log_of_events" = true) (k24 : PySem.W.keepIn K (.ref f24) = true) (t24 : (cd24, pt24, ("log_of_events.<locals>.<lambda>" : Str)) ∈ Tl.T) (u24 : ∀ p ∈ Tl.T, p.2.1 = pt24 → p.2.2 = "log_of_events.<locals>.<lambda>")
    (a25 : PySem.W.nsIn K mainGlobals "_law_log" = some (some (.ref f25))) (l25 : K.lookup f25 = some ⟨oc25, od25, .func (PySem.W.fnOf "_law_log" "_law_log" (defArgs (topS 37)) (defBody (topS 37)) (defScope (topS 37)) .none kV25 dc25 pm25 an25 (.ref cd25) ct25), sl25⟩) (c25 : PySem.W.codeIn K (.ref cd25) "_law_log" = true) (k25 : PySem.W.keepIn K (.ref f25) = true) (t25 : (cd25, pt25, ("_law_log.<locals>.<lambda>" : Str)) ∈ Tl.T) (u25 : ∀ p ∈ Tl.T, p.2.1 = pt25 → p.2.2 = "_law_log.<locals>.<lambda>")
    (a26 : PySem.W.nsIn K mainGlobals "spans" = some (some (.ref f26))) (l26 : K.lookup f26 = some ⟨oc26, od26, .func (PySem.W.fnOf "spans" "spans" (defArgs (topS 21)) (defBody (topS 21)) (defScope (topS 21)) .none kV26 dc26 pm26 an26 cd26 ct26), sl26⟩) (c26 : PySem.W.codeIn K cd26 "spans" = true) (k26 : PySem.W.keepIn K (.ref f26) = true)
    (a27 : PySem.W.nsIn K mainGlobals "behind_waits" = some (some (.ref f27))) (l27 : K.lookup f27 = some ⟨oc27, od27, .func (PySem.W.fnOf "behind_waits" "behind_waits" (defArgs (topS 22)) (defBody (topS 22)) (defScope (topS 22)) .none kV27 dc27 pm27 an27 cd27 ct27), sl27⟩) (c27 : PySem.W.codeIn K cd27 "behind_waits" = true) (k27 : PySem.W.keepIn K (.ref f27) = true)
    (a28 : PySem.W.nsIn K mainGlobals "handovers" = some (some (.ref f28))) (l28 : K.lookup f28 = some ⟨oc28, od28, .func (PySem.W.fnOf "handovers" "handovers" (defArgs (topS 26)) (defBody (topS 26)) (defScope (topS 26)) .none kV28 dc28 pm28 an28 cd28 ct28), sl28⟩) (c28 : PySem.W.codeIn K cd28 "handovers" = true) (k28 : PySem.W.keepIn K (.ref f28) = true)
    (a29 : PySem.W.nsIn K mainGlobals "span" = some (some (.ref f29))) (l29 : K.lookup f29 = some ⟨oc29, od29, .func (PySem.W.fnOf "span" "span" (defArgs (topS 20)) (defBody (topS 20)) (defScope (topS 20)) .none kV29 dc29 pm29 an29 cd29 ct29), sl29⟩) (c29 : PySem.W.codeIn K cd29 "span" = true) (k29 : PySem.W.keepIn K (.ref f29) = true)
    (a30 : PySem.W.nsIn K mainGlobals "law" = some (some (.ref f30))) (l30 : K.lookup f30 = some ⟨oc30, od30, .func (PySem.W.fnOf "law" "law" (defArgs (topS 43)) (defBody (topS 43)) (defScope (topS 43)) .none kV30 dc30 pm30 an30 cd30 ct30), sl30⟩) (c30 : PySem.W.codeIn K cd30 "law" = true) (k30 : PySem.W.keepIn K (.ref f30) = true)
    (ac_DIGITS : PySem.W.nsIn K mainGlobals "DIGITS" = some (some u_DIGITS)) (hc_DIGITS : atomD u_DIGITS = some c_DIGITS)
    (ac_LETTERS : PySem.W.nsIn K mainGlobals "LETTERS" = some (some u_LETTERS)) (hc_LETTERS : atomD u_LETTERS = some c_LETTERS)
    (ac_MOST_EVENTS : PySem.W.nsIn K mainGlobals "MOST_EVENTS" = some (some u_MOST_EVENTS)) (hc_MOST_EVENTS : atomD u_MOST_EVENTS = some c_MOST_EVENTS)
    (ac_MOST_LETTERS : PySem.W.nsIn K mainGlobals "MOST_LETTERS" = some (some u_MOST_LETTERS)) (hc_MOST_LETTERS : atomD u_MOST_LETTERS = some c_MOST_LETTERS)
    (ac_MOST_MOMENT : PySem.W.nsIn K mainGlobals "MOST_MOMENT" = some (some u_MOST_MOMENT)) (hc_MOST_MOMENT : atomD u_MOST_MOMENT = some c_MOST_MOMENT)
    (ac_RESERVED : PySem.W.nsIn K mainGlobals "RESERVED" = some (some (.ref b_RESERVED))) (lc_RESERVED : K.lookup b_RESERVED = some o_RESERVED) (hc_RESERVED : (match o_RESERVED.cls, o_RESERVED.data with | .type t, .seq its _ => decide (t = "tuple" ∧ its.size ≤ 1000) | _, _ => false) = true) (hd_RESERVED : (match o_RESERVED.data with | .seq its _ => atomsD its.toList | _ => none) = some [.str "again", .str "beside", .str "case", .str "end", .str "log", .str "of", .str "one", .str "quiet", .str "row", .str "times", .str "tree", .str "work"])
    (z_abs : PySem.W.nsIn K mainGlobals "abs" = some none)
    (z_all : PySem.W.nsIn K mainGlobals "all" = some none)
    (z_any : PySem.W.nsIn K mainGlobals "any" = some none)
    (z_bool : PySem.W.nsIn K mainGlobals "bool" = some none)
    (z_enumerate : PySem.W.nsIn K mainGlobals "enumerate" = some none)
    (z_int : PySem.W.nsIn K mainGlobals "int" = some none)
    (z_isinstance : PySem.W.nsIn K mainGlobals "isinstance" = some none)
    (z_len : PySem.W.nsIn K mainGlobals "len" = some none)
    (z_list : PySem.W.nsIn K mainGlobals "list" = some none)
    (z_max : PySem.W.nsIn K mainGlobals "max" = some none)
    (z_min : PySem.W.nsIn K mainGlobals "min" = some none)
    (z_range : PySem.W.nsIn K mainGlobals "range" = some none)
    (z_repr : PySem.W.nsIn K mainGlobals "repr" = some none)
    (z_set : PySem.W.nsIn K mainGlobals "set" = some none)
    (z_sorted : PySem.W.nsIn K mainGlobals "sorted" = some none)
    (z_str : PySem.W.nsIn K mainGlobals "str" = some none)
    (z_sum : PySem.W.nsIn K mainGlobals "sum" = some none)
    (z_tuple : PySem.W.nsIn K mainGlobals "tuple" = some none)
    (z_zip : PySem.W.nsIn K mainGlobals "zip" = some none)
    (xa_Nothing : PySem.W.nsIn K mainGlobals "Nothing" = some (some (.ref C_Nothing))) (xq_Nothing : PySem.W.excIn K C_Nothing bmVE "ValueError.__new__" = true) (xk_Nothing : PySem.W.keepIn K (.ref C_Nothing) = true) (xb_Nothing : PySem.W.subIn K (.ref C_Nothing) (.type "BaseException") = some true) (xt_Nothing : PySem.W.typeIn K (.ref C_Nothing) = some (.type "type")) (xm_Nothing : PySem.W.exmOne K (.ref C_Nothing) (.ref C_Nothing) = some true) : Mo K mg where
  d__law_bag := defG_mk X G a0 l0 c0 k0 fun _ _ _ _ _ _ us hl => match us, hl with | [_], _ => rfl
  d__law_take := defG_mk X G a1 l1 c1 k1 fun _ _ _ _ _ _ us hl => match us, hl with | [_, _], _ => rfl
  d__law_some := defG_mk X G a2 l2 c2 k2 fun _ _ _ _ _ _ us hl => match us, hl with | [_, _], _ => rfl
  d__law_events := defG_mk X G a3 l3 c3 k3 fun _ _ _ _ _ _ us hl => match us, hl with | [_], _ => rfl
  d__law_cases := defG_mk X G a4 l4 c4 k4 fun _ _ _ _ _ _ us hl => match us, hl with | [_], _ => rfl
  d__law_pairs := defG_mk X G a5 l5 c5 k5 fun _ _ _ _ _ _ us hl => match us, hl with | [_], _ => rfl
  d__law_alike := defG_mk X G a6 l6 c6 k6 fun _ _ _ _ _ _ us hl => match us, hl with | [_, _], _ => rfl
  d__law_answers := defG_mk X G a7 l7 c7 k7 fun _ _ _ _ _ _ us hl => match us, hl with | [_, _, _], _ => rfl
  d_is_integer := defG_mk X G a8 l8 c8 k8 fun _ _ _ _ _ _ us hl => match us, hl with | [_], _ => rfl
  d_is_count := defG_mk X G a9 l9 c9 k9 fun _ _ _ _ _ _ us hl => match us, hl with | [_], _ => rfl
  d_is_name := defG_mk X G a10 l10 c10 k10 fun _ _ _ _ _ _ us hl => match us, hl with | [_], _ => rfl
  d_is_event := defG_mk X G a11 l11 c11 k11 fun _ _ _ _ _ _ us hl => match us, hl with | [_], _ => rfl
  d_are_events := defG_mk X G a12 l12 c12 k12 fun _ _ _ _ _ _ us hl => match us, hl with | [_], _ => rfl
  d_check_events := defG_mk X G a13 l13 c13 k13 fun _ _ _ _ _ _ us hl => match us, hl with | [_], _ => rfl
  d_shifted := defG_mk X G a14 l14 c14 k14 fun _ _ _ _ _ _ us hl => match us, hl with | [_, _, _], _ => rfl
  d_by_case := defL_mk X G a15 l15 c15 k15 t15 u15 fun _ _ _ _ _ _ us hl => match us, hl with | [_], _ => rfl
  d_open_at := defG_mk X G a16 l16 c16 k16 fun _ _ _ _ _ _ us hl => match us, hl with | [_, _], _ => rfl
  d_most_open := defG_mk X G a17 l17 c17 k17 fun _ _ _ _ _ _ us hl => match us, hl with | [_], _ => rfl
  d_answers := defG_mk X G a18 l18 c18 k18 fun _ _ _ _ _ _ us hl => match us, hl with | [_, _, _], _ => rfl
  d_late := defG_mk X G a19 l19 c19 k19 fun _ _ _ _ _ _ us hl => match us, hl with | [_, _, _, _], _ => rfl
  d_least_bound := defG_mk X G a20 l20 c20 k20 fun _ _ _ _ _ _ us hl => match us, hl with | [_, _, _], _ => rfl
  d_works_of := defG_mk X G a21 l21 c21 k21 fun _ _ _ _ _ _ us hl => match us, hl with | [_], _ => rfl
  d_by_one_hand := defG_mk X G a22 l22 c22 k22 fun _ _ _ _ _ _ us hl => match us, hl with | [_, _, _], _ => rfl
  d__law_is_rest := defG_mk X G a23 l23 c23 k23 fun _ _ _ _ _ _ us hl => match us, hl with | [_, _, _], _ => rfl
  d_log_of_events := defL_mk X G a24 l24 c24 k24 t24 u24 fun _ _ _ _ _ _ us hl => match us, hl with | [_], _ => rfl
  d__law_log := defL_mk X G a25 l25 c25 k25 t25 u25 fun _ _ _ _ _ _ us hl => match us, hl with | [_], _ => rfl
  d_spans := defG_mk X G a26 l26 c26 k26 fun _ _ _ _ _ _ us hl => match us, hl with | [_], _ => rfl
  d_behind_waits := defG_mk X G a27 l27 c27 k27 fun _ _ _ _ _ _ us hl => match us, hl with | [_], _ => rfl
  d_handovers := defG_mk X G a28 l28 c28 k28 fun _ _ _ _ _ _ us hl => match us, hl with | [_], _ => rfl
  d_span := defG_mk X G a29 l29 c29 k29 fun _ _ _ _ _ _ us hl => match us, hl with | [_, _], _ => rfl
  d_law := defG_mk X G a30 l30 c30 k30 fun _ _ _ _ _ _ us hl => match us, hl with | [_], _ => rfl
  c_DIGITS := gv_atom X G ac_DIGITS hc_DIGITS
  c_LETTERS := gv_atom X G ac_LETTERS hc_LETTERS
  c_MOST_EVENTS := gv_atom X G ac_MOST_EVENTS hc_MOST_EVENTS
  c_MOST_LETTERS := gv_atom X G ac_MOST_LETTERS hc_MOST_LETTERS
  c_MOST_MOMENT := gv_atom X G ac_MOST_MOMENT hc_MOST_MOMENT
  c_RESERVED := gv_tup X G ac_RESERVED lc_RESERVED hc_RESERVED hd_RESERVED
  z_abs := PySem.W.mg_none_of X G z_abs
  z_all := PySem.W.mg_none_of X G z_all
  z_any := PySem.W.mg_none_of X G z_any
  z_bool := PySem.W.mg_none_of X G z_bool
  z_enumerate := PySem.W.mg_none_of X G z_enumerate
  z_int := PySem.W.mg_none_of X G z_int
  z_isinstance := PySem.W.mg_none_of X G z_isinstance
  z_len := PySem.W.mg_none_of X G z_len
  z_list := PySem.W.mg_none_of X G z_list
  z_max := PySem.W.mg_none_of X G z_max
  z_min := PySem.W.mg_none_of X G z_min
  z_range := PySem.W.mg_none_of X G z_range
  z_repr := PySem.W.mg_none_of X G z_repr
  z_set := PySem.W.mg_none_of X G z_set
  z_sorted := PySem.W.mg_none_of X G z_sorted
  z_str := PySem.W.mg_none_of X G z_str
  z_sum := PySem.W.mg_none_of X G z_sum
  z_tuple := PySem.W.mg_none_of X G z_tuple
  z_zip := PySem.W.mg_none_of X G z_zip
  x_Nothing := ⟨C_Nothing, PySem.W.mg_of X G xa_Nothing, xq_Nothing, xk_Nothing, xb_Nothing, xt_Nothing, xm_Nothing⟩
theorem fin {P : Program} {w : World} {K : PySem.W.Frag} {mg : Str → Option Value} {fa : Addr} (T : Mo K mg) (hmg : mg "law" = some (.ref fa)) :
    ∃ fd : FuncData, (∀ (s : Shared) (u : Value), BindsTo s fd ⟨[u], []⟩ [("script", u)]) ∧ ∀ base : Heap, K.In base → base.Ns mainGlobals mg → FnG P w K mg base 12 fa fd ["script"] (spOf ⟨K, mg, w, base⟩ 1 f_law) := by
  obtain ⟨f, fd, F, g, b⟩ := T.d_law
  have e := hmg.symm.trans g
  cases e
  have F' := F
  obtain ⟨oc, od, kV, doc, pm, an, cdv, ct, osl, rfl, lk, hcd⟩ := F.ex
  exact ⟨_, fun s u => .of_eq rfl, fun base h1 h2 => fng_law T F'⟩
end
/-- the tables of the lambdas -/
@[reducible] instance tl : Tl := ⟨[(198, 196, "_law_log.<locals>.<lambda>"), (101, 99, "log_of_events.<locals>.<lambda>"), (96, 94, "by_case.<locals>.<lambda>")]⟩
theorem in_tl {Q : Nat × Nat × Str → Prop} (h0 : Q (198, 196, "_law_log.<locals>.<lambda>")) (h1 : Q (101, 99, "log_of_events.<locals>.<lambda>")) (h2 : Q (96, 94, "by_case.<locals>.<lambda>")) : ∀ p ∈ tl.T, Q p := fun p hp => by
  rcases hp with _ | ⟨_, hp⟩
  · exact h0
  · rcases hp with _ | ⟨_, hp⟩
    · exact h1
    · rcases hp with _ | ⟨_, hp⟩
      · exact h2
      · cases hp
end Lk74
open PySem PySem.W PyProof.Rows
set_option maxHeartbeats 0 in
theorem PySem.Challenge.cw_casetrees_k74_cases_with_moments_and_han_holds : PySem.Challenge.rw_casetrees_k74_cases_with_moments_and_han.Holds := by
  refine head ?_
  k_fill
  refine L2.Py.walk_ofG (n := 63) (k := 12) (x := "script") (fm := Lk74.f_law) rfl (by decide) rfl ⟨rfl, by decide, by decide⟩ (fun w h Y => PySem.W.km_in_of Y) ?tabs ?F Lk74.law_ok
  case tabs =>
    intro w h Y
    have Z := PySem.W.km_tabs_of Y
    have X := PySem.W.km_in_of Y
    refine L2.Py.tabs_ok X (Lk74.in_tl (Z _ ?n0) (Z _ ?n1) (Z _ ?n2)) (Lk74.in_tl ?o0 ?o1 ?o2) (Lk74.in_tl ?e0 ?e1 ?e2)
    case n0 => simp
    case n1 => simp
    case n2 => simp
    case o0 => kernel_rfl
    case o1 => kernel_rfl
    case o2 => kernel_rfl
    case e0 => kernel_rfl
    case e1 => kernel_rfl
    case e2 => kernel_rfl
  case F =>
    intro w mg fa h KX G hmg
    replace hmg : mg "law" = some (.ref fa) := hmg
    refine Lk74.fin ?TT hmg
    case TT =>
      refine' Lk74.mo_mk KX G ?a0 ?l0 ?c0 ?k0 ?a1 ?l1 ?c1 ?k1 ?a2 ?l2 ?c2 ?k2 ?a3 ?l3 ?c3 ?k3 ?a4 ?l4 ?c4 ?k4 ?a5 ?l5 ?c5 ?k5 ?a6 ?l6 ?c6 ?k6 ?a7 ?l7 ?c7 ?k7 ?a8 ?l8 ?c8 ?k8 ?a9 ?l9 ?c9 ?k9 ?a10 ?l10 ?c10 ?k10 ?a11 ?l11 ?c11 ?k11 ?a12 ?l12 ?c12 ?k12 ?a13 ?l13 ?c13 ?k13 ?a14 ?l14 ?c14 ?k14 ?a15 ?l15 ?c15 ?k15 ?t15 ?u15 ?a16 ?l16 ?c16 ?k16 ?a17 ?l17 ?c17 ?k17 ?a18 ?l18 ?c18 ?k18 ?a19 ?l19 ?c19 ?k19 ?a20 ?l20 ?c20 ?k20 ?a21 ?l21 ?c21 ?k21 ?a22 ?l22 ?c22 ?k22 ?a23 ?l23 ?c23 ?k23 ?a24 ?l24 ?c24 ?k24 ?t24 ?u24 ?a25 ?l25 ?c25 ?k25 ?t25 ?u25 ?a26 ?l26 ?c26 ?k26 ?a27 ?l27 ?c27 ?k27 ?a28 ?l28 ?c28 ?k28 ?a29 ?l29 ?c29 ?k29 ?a30 ?l30 ?c30 ?k30 ?ac_DIGITS ?hc_DIGITS ?ac_LETTERS ?hc_LETTERS ?ac_MOST_EVENTS ?hc_MOST_EVENTS ?ac_MOST_LETTERS ?hc_MOST_LETTERS ?ac_MOST_MOMENT ?hc_MOST_MOMENT ?ac_RESERVED ?lc_RESERVED ?hc_RESERVED ?hd_RESERVED ?z_abs ?z_all ?z_any ?z_bool ?z_enumerate ?z_int ?z_isinstance ?z_len ?z_list ?z_max ?z_min ?z_range ?z_repr ?z_set ?z_sorted ?z_str ?z_sum ?z_tuple ?z_zip ?xa_Nothing ?xq_Nothing ?xk_Nothing ?xb_Nothing ?xt_Nothing ?xm_Nothing
      (case a0 => k_is)
      (case l0 => k_is)
      (case c0 => k_is)
      (case k0 => k_is)
      (case a1 => k_is)
      (case l1 => k_is)
      (case c1 => k_is)
      (case k1 => k_is)
      (case a2 => k_is)
      (case l2 => k_is)
      (case c2 => k_is)
      (case k2 => k_is)
      (case a3 => k_is)
      (case l3 => k_is)
      (case c3 => k_is)
      (case k3 => k_is)
      (case a4 => k_is)
      (case l4 => k_is)
      (case c4 => k_is)
      (case k4 => k_is)
      (case a5 => k_is)
      (case l5 => k_is)
      (case c5 => k_is)
      (case k5 => k_is)
      (case a6 => k_is)
      (case l6 => k_is)
      (case c6 => k_is)
      (case k6 => k_is)
      (case a7 => k_is)
      (case l7 => k_is)
      (case c7 => k_is)
      (case k7 => k_is)
      (case a8 => k_is)
      (case l8 => k_is)
      (case c8 => k_is)
      (case k8 => k_is)
      (case a9 => k_is)
      (case l9 => k_is)
      (case c9 => k_is)
      (case k9 => k_is)
      (case a10 => k_is)
      (case l10 => k_is)
      (case c10 => k_is)
      (case k10 => k_is)
      (case a11 => k_is)
      (case l11 => k_is)
      (case c11 => k_is)
      (case k11 => k_is)
      (case a12 => k_is)
      (case l12 => k_is)
      (case c12 => k_is)
      (case k12 => k_is)
      (case a13 => k_is)
      (case l13 => k_is)
      (case c13 => k_is)
      (case k13 => k_is)
      (case a14 => k_is)
      (case l14 => k_is)
      (case c14 => k_is)
      (case k14 => k_is)
      (case a15 => k_is)
      (case l15 => k_is)
      (case c15 => k_is)
      (case k15 => k_is)
      (case t15 => first | exact .head _ | exact .tail _ (.head _) | exact .tail _ (.tail _ (.head _)))
      (case u15 => exact Lk74.in_tl (fun e => by first | rfl | exact absurd e (by decide)) (fun e => by first | rfl | exact absurd e (by decide)) (fun e => by first | rfl | exact absurd e (by decide)))
      (case a16 => k_is)
      (case l16 => k_is)
      (case c16 => k_is)
      (case k16 => k_is)
      (case a17 => k_is)
      (case l17 => k_is)
      (case c17 => k_is)
      (case k17 => k_is)
      (case a18 => k_is)
      (case l18 => k_is)
      (case c18 => k_is)
      (case k18 => k_is)
      (case a19 => k_is)
      (case l19 => k_is)
      (case c19 => k_is)
      (case k19 => k_is)
      (case a20 => k_is)
      (case l20 => k_is)
      (case c20 => k_is)
      (case k20 => k_is)
      (case a21 => k_is)
      (case l21 => k_is)
      (case c21 => k_is)
      (case k21 => k_is)
      (case a22 => k_is)
      (case l22 => k_is)
      (case c22 => k_is)
      (case k22 => k_is)
      (case a23 => k_is)
      (case l23 => k_is)
      (case c23 => k_is)
      (case k23 => k_is)
      (case a24 => k_is)
      (case l24 => k_is)
      (case c24 => k_is)
      (case k24 => k_is)
      (case t24 => first | exact .head _ | exact .tail _ (.head _) | exact .tail _ (.tail _ (.head _)))
      (case u24 => exact Lk74.in_tl (fun e => by first | rfl | exact absurd e (by decide)) (fun e => by first | rfl | exact absurd e (by decide)) (fun e => by first | rfl | exact absurd e (by decide)))
      (case a25 => k_is)
      (case l25 => k_is)
      (case c25 => k_is)
      (case k25 => k_is)
      (case t25 => first | exact .head _ | exact .tail _ (.head _) | exact .tail _ (.tail _ (.head _)))
      (case u25 => exact Lk74.in_tl (fun e => by first | rfl | exact absurd e (by decide)) (fun e => by first | rfl | exact absurd e (by decide)) (fun e => by first | rfl | exact absurd e (by decide)))
      (case a26 => k_is)
      (case l26 => k_is)
      (case c26 => k_is)
      (case k26 => k_is)
      (case a27 => k_is)
      (case l27 => k_is)
      (case c27 => k_is)
      (case k27 => k_is)
      (case a28 => k_is)
      (case l28 => k_is)
      (case c28 => k_is)
      (case k28 => k_is)
      (case a29 => k_is)
      (case l29 => k_is)
      (case c29 => k_is)
      (case k29 => k_is)
      (case a30 => k_is)
      (case l30 => k_is)
      (case c30 => k_is)
      (case k30 => k_is)
      (case ac_DIGITS => k_is)
      (case hc_DIGITS => first | rfl | kernel_rfl | decide +kernel)
      (case ac_LETTERS => k_is)
      (case hc_LETTERS => first | rfl | kernel_rfl | decide +kernel)
      (case ac_MOST_EVENTS => k_is)
      (case hc_MOST_EVENTS => first | rfl | kernel_rfl | decide +kernel)
      (case ac_MOST_LETTERS => k_is)
      (case hc_MOST_LETTERS => first | rfl | kernel_rfl | decide +kernel)
      (case ac_MOST_MOMENT => k_is)
      (case hc_MOST_MOMENT => first | rfl | kernel_rfl | decide +kernel)
      (case ac_RESERVED => k_is)
      (case lc_RESERVED => k_is)
      (case hc_RESERVED => first | rfl | kernel_rfl | decide +kernel)
      (case hd_RESERVED => first | rfl | kernel_rfl | decide +kernel)
      (case z_abs => k_is)
      (case z_all => k_is)
      (case z_any => k_is)
      (case z_bool => k_is)
      (case z_enumerate => k_is)
      (case z_int => k_is)
      (case z_isinstance => k_is)
      (case z_len => k_is)
      (case z_list => k_is)
      (case z_max => k_is)
      (case z_min => k_is)
      (case z_range => k_is)
      (case z_repr => k_is)
      (case z_set => k_is)
      (case z_sorted => k_is)
      (case z_str => k_is)
      (case z_sum => k_is)
      (case z_tuple => k_is)
      (case z_zip => k_is)
      (case xa_Nothing => k_is)
      (case xq_Nothing => first | k_exc | kernel_rfl)
      (case xk_Nothing => k_is)
      (case xb_Nothing => k_is)
      (case xt_Nothing => k_is)
      (case xm_Nothing => first | k_is | kit_is | kts_exm | kernel_rfl)

