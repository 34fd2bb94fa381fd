/- Schemas that change: what a row of changes makes of a table of types, in plain words; own rows of the call. -/
import Derived.Test.YtmadafejenjkcaaDoorSc5
import Derived.Test.YtmadafejenjkcaaDoorTw0
namespace Go.Proofs.YtmadafejenjkcaaDoor
open Go.RowKit Go.Deep
set_option linter.unusedVariables false

structure Fd where
  nm : ByteArray
  fr : Int
  fl : Int
deriving Inhabited
structure Kd where
  nm : ByteArray
  fr : Int
  fs : List Fd
deriving Inhabited
structure Cg where
  kd : Int
  ty : ByteArray
  at_ : ByteArray
  nm : ByteArray
  ats : List ByteArray
  n : Int
def fdV (f : Fd) : List Value := [.string f.nm, .int .i64 f.fr, .int .i64 f.fl]
def fdD (f : Fd) : List D := [.v (.string f.nm), .v (.int .i64 f.fr), .v (.int .i64 f.fl)]
def kdD (k : Kd) : List D := [.v (.string k.nm), .v (.int .i64 k.fr), .sl k.fs.length (k.fs.flatMap fdD)]
def cgD (c : Cg) : List D := [.v (.int .i64 c.kd), .v (.string c.ty), .v (.string c.at_), .v (.string c.nm), .sl c.ats.length (c.ats.flatMap strD), .v (.int .i64 c.n)]
def tdOf (k : Kd) : Td := ⟨k.nm, k.fs.map (·.nm)⟩
theorem fdD_rd (w : World) (G : Nat → Prop) (f : Fd) : RdL w G (fdV f) (fdD f) := ⟨.v _ rfl, .v _ rfl, .v _ rfl, trivial⟩

def idxA (l : List ByteArray) (s : ByteArray) : Option Nat := l.findIdx? (fun a => decide (a = s))
theorem idxA_none {l : List ByteArray} {s : ByteArray} (h : ∀ (i : Nat) a, l[i]? = some a → a ≠ s) : idxA l s = none := by
  rw [idxA, List.findIdx?_eq_none_iff]
  intro a ha
  obtain ⟨i, hi⟩ := List.getElem?_of_mem ha
  simpa using h i a hi
theorem idxA_some {l : List ByteArray} {s : ByteArray} {j : Nat} (h : l[j]? = some s) (hp : ∀ i a, l[i]? = some a → i < j → a ≠ s) : idxA l s = some j := by
  rw [idxA, List.findIdx?_eq_some_iff_getElem]
  obtain ⟨hj, e⟩ := List.getElem?_eq_some_iff.1 h
  refine ⟨hj, by simpa using e, fun i hi => ?_⟩
  simpa using hp i l[i] (List.getElem?_eq_getElem (by omega)) hi
theorem idxA_lt {l : List ByteArray} {s : ByteArray} {j : Nat} (h : idxA l s = some j) : j < l.length := by
  rw [idxA, List.findIdx?_eq_some_iff_getElem] at h
  exact h.1
def optI : Option Nat → Int
  | some i => i
  | none => -1

def tyAt (l : List Kd) (s : ByteArray) : Option Nat := idxA (l.map (·.nm)) s
def flAt (l : List Fd) (s : ByteArray) : Option Nat := idxA (l.map (·.nm)) s
theorem tyAt_lt {l : List Kd} {s : ByteArray} {j : Nat} (h : tyAt l s = some j) : j < l.length := by simpa using idxA_lt h
theorem flAt_lt {l : List Fd} {s : ByteArray} {j : Nat} (h : flAt l s = some j) : j < l.length := by simpa using idxA_lt h

def mvF (l : List Fd) (k n : Nat) : List Fd := (l.eraseIdx k).take n ++ (l[k]?.toList ++ (l.eraseIdx k).drop n)
/-- what a change makes of the attributes of its type -/
def chF (l : List Fd) (c : Cg) : Option (List Fd) :=
  if c.kd = 4 then some (l ++ [⟨c.nm, -1, c.n⟩]) else
    match flAt l c.at_ with
    | none => none
    | some k => if c.kd = 5 then some (l.eraseIdx k) else if c.kd = 6 then some (l.modify k fun f => { f with nm := c.nm }) else if 0 ≤ c.n ∧ c.n < l.length then some (mvF l k c.n.toNat) else none
def addK (c : Cg) : Kd := ⟨c.ty, -1, c.ats.map fun a => ⟨a, -1, 0⟩⟩
/-- what a change makes of the types -/
def chK (l : List Kd) (c : Cg) : Option (List Kd) :=
  if c.kd = 1 then some (l ++ [addK c]) else
    if 2 ≤ c.kd ∧ c.kd ≤ 7 then
      match tyAt l c.ty with
      | none => none
      | some i => if c.kd = 2 then some (l.eraseIdx i) else if c.kd = 3 then some (l.modify i fun k => { k with nm := c.nm }) else
          match l[i]? with
          | none => none
          | some k => (chF k.fs c).map fun fs => l.set i { k with fs := fs }
    else none
/-- the table of a schema that has not been changed -/
def fstF (l : List ByteArray) : List Fd := l.mapIdx fun j a => ⟨a, j, 0⟩
def fstK (S : List Td) : List Kd := S.mapIdx fun i t => ⟨t.name, i, fstF t.attrs⟩
def mdTo (S : List Td) (L : List Cg) : Nat → List Kd
  | 0 => fstK S
  | k + 1 => match L[k]? with
    | some c => (chK (mdTo S L k) c).getD []
    | none => mdTo S L k
def okAt (S : List Td) (L : List Cg) (k : Nat) : Prop := ∃ c l, L[k]? = some c ∧ chK (mdTo S L k) c = some l ∧ scC (l.map tdOf) = 0
theorem mdTo_next {S : List Td} {L : List Cg} {k : Nat} {c : Cg} {l : List Kd} (h : L[k]? = some c) (hc : chK (mdTo S L k) c = some l) : mdTo S L (k + 1) = l := by
  rw [mdTo, h]; simp [hc]
/-- the answer: the table, the error and its change -/
def MdIs (S : List Td) (L : List Cg) (T : Option (List Kd)) (code at_ : Int) : Prop :=
  (scC S ≠ 0 ∧ T = none ∧ code = scC S ∧ at_ = 0) ∨ (scC S = 0 ∧ 32 < L.length ∧ T = none ∧ code = 290 ∧ at_ = 32) ∨
  (scC S = 0 ∧ L.length ≤ 32 ∧ ∃ k, k < L.length ∧ (∀ j, j < k → okAt S L j) ∧ ¬ okAt S L k ∧ T = none ∧ code = 290 ∧ at_ = k) ∨
  (scC S = 0 ∧ L.length ≤ 32 ∧ (∀ j, j < L.length → okAt S L j) ∧ T = some (mdTo S L L.length) ∧ code = 0 ∧ at_ = 0)
theorem MdIs.uniq {S : List Td} {L : List Cg} {T T' : Option (List Kd)} {c c' a a' : Int} (h : MdIs S L T c a) (h' : MdIs S L T' c' a') : T' = T ∧ c' = c ∧ a' = a := by
  rcases h with ⟨h1, rfl, rfl, rfl⟩ | ⟨h1, h2, rfl, rfl, rfl⟩ | ⟨h1, h2, k, hk, hj, hn, rfl, rfl, rfl⟩ | ⟨h1, h2, hj, rfl, rfl, rfl⟩ <;>
    rcases h' with ⟨g1, rfl, rfl, rfl⟩ | ⟨g1, g2, rfl, rfl, rfl⟩ | ⟨g1, g2, m, gk, gj, gn, rfl, rfl, rfl⟩ | ⟨g1, g2, gj, rfl, rfl, rfl⟩ <;> first | exact ⟨rfl, rfl, rfl⟩ | omega | skip
  · have : k = m := by
      rcases Nat.lt_trichotomy k m with h | h | h
      · exact absurd (gj k h) hn
      · exact h
      · exact absurd (hj m h) gn
    subst this
    exact ⟨rfl, rfl, rfl⟩
  · exact absurd (gj k hk) hn
  · exact absurd (hj m gk) gn
end Go.Proofs.YtmadafejenjkcaaDoor
