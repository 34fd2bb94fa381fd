/- Events: what an event becomes, in plain words. -/
import Derived.Test.YtmadafejenjkcaaDoorE1
import Derived.Test.YtmadafejenjkcaaDoorVb
namespace Go.Proofs.YtmadafejenjkcaaDoor
open Go.RowKit Go.Deep
set_option linter.unusedVariables false

/-- the fields' places in the first schema are places of an event -/
def FrOk (t : List Kd) : Prop := ∀ k ∈ t, ∀ f ∈ k.fs, f.fr < 8
theorem chF_fr {l : List Fd} {c : Cg} {fs : List Fd} (hl : ∀ f ∈ l, f.fr < 8) (h : chF l c = some fs) : ∀ f ∈ fs, f.fr < 8 := by
  unfold chF at h
  split at h
  · injection h with h
    subst h
    intro f hf
    rcases List.mem_append.1 hf with hf | hf
    · exact hl f hf
    · simp at hf; subst hf; show (-1 : Int) < 8; omega
  · split at h
    · cases h
    · split at h
      · injection h with h
        subst h
        exact fun f hf => hl f (mem_eraseIdx hf)
      · split at h
        · injection h with h
          subst h
          intro f hf
          rcases mem_modify hf with hf | ⟨y, hy, rfl⟩
          · exact hl f hf
          · exact hl y hy
        · split at h
          · injection h with h
            subst h
            intro f hf
            unfold mvF at hf
            rcases List.mem_append.1 hf with hf | hf
            · exact hl f (mem_eraseIdx (List.mem_of_mem_take hf))
            · rcases List.mem_append.1 hf with hf | hf
              · exact hl f (List.mem_of_getElem? (by simpa using hf))
              · exact hl f (mem_eraseIdx (List.mem_of_mem_drop hf))
          · cases h
theorem chK_fr {l l' : List Kd} {c : Cg} (hl : FrOk l) (h : chK l c = some l') : FrOk l' := by
  unfold chK at h
  split at h
  · injection h with h
    subst h
    intro k hk
    rcases List.mem_append.1 hk with hk | hk
    · exact hl k hk
    · simp at hk
      subst hk
      intro f hf
      simp [addK] at hf
      obtain ⟨a, ha, rfl⟩ := hf
      show (-1 : Int) < 8
      omega
  · split at h
    · split at h
      · cases h
      · split at h
        · injection h with h
          subst h
          exact fun k hk => hl k (mem_eraseIdx hk)
        · split at h
          · injection h with h
            subst h
            intro k hk
            rcases mem_modify hk with hk | ⟨y, hy, rfl⟩
            · exact hl k hk
            · exact hl y hy
          · split at h
            · cases h
            · rename_i k hk
              obtain ⟨fs, hfs, rfl⟩ := Option.map_eq_some_iff.1 h
              intro x hx
              rcases mem_set_ hx with hx | rfl
              · exact hl x hx
              · exact chF_fr (hl k (List.mem_of_getElem? hk)) hfs
    · cases h
theorem mdTo_fr {S : List Td} {L : List Cg} (h0 : scC S = 0) : ∀ k, (∀ j, j < k → okAt S L j) → FrOk (mdTo S L k)
  | 0, _ => fun k hk f hf => by
    rw [show mdTo S L 0 = fstK S from rfl, fstK] at hk
    obtain ⟨i, hi, rfl⟩ := List.mem_mapIdx.1 hk
    have h8 := ((scC_ok h0).2.2 _ (List.getElem_mem hi)).2.1
    obtain ⟨j, hj, rfl⟩ := List.mem_mapIdx.1 hf
    show (j : Int) < 8
    omega
  | k + 1, h => by
    obtain ⟨c, l, h1, h2, h3⟩ := h k (by omega)
    rw [mdTo_next h1 h2]
    exact chK_fr (mdTo_fr h0 k fun j hj => h j (by omega)) h2
theorem MdIs.fr {S : List Td} {L : List Cg} {t : List Kd} {c a : Int} (h : MdIs S L (some t) c a) : FrOk t := by
  rcases h with ⟨_, h, _⟩ | ⟨_, _, h, _, _⟩ | ⟨_, _, k, _, _, _, h, _⟩ | ⟨h0, _, h1, h2, _⟩
  · cases h
  · cases h
  · cases h
  · injection h2 with h2
    subst h2
    exact mdTo_fr h0 _ h1

/-- the kind that came from the type -/
def frAt (t : List Kd) (x : Int) : Option Nat := t.findIdx? (fun k => decide (k.fr = x))
theorem frAt_none {t : List Kd} {x : Int} (h : ∀ (i : Nat) k, t[i]? = some k → k.fr ≠ x) : frAt t x = none := by
  rw [frAt, List.findIdx?_eq_none_iff]
  intro a ha
  obtain ⟨i, hi⟩ := List.getElem?_of_mem ha
  simpa using h i a hi
theorem frAt_some {t : List Kd} {x : Int} {j : Nat} {k : Kd} (h : t[j]? = some k) (hk : k.fr = x) (hp : ∀ (i : Nat) a, t[i]? = some a → i < j → a.fr ≠ x) : frAt t x = some j := by
  rw [frAt, List.findIdx?_eq_some_iff_getElem]
  obtain ⟨hj, e⟩ := List.getElem?_eq_some_iff.1 h
  refine ⟨hj, by simpa [e] using hk, fun i hi => ?_⟩
  simpa using hp i t[i] (List.getElem?_eq_getElem (by omega)) hi
theorem frAt_lt {t : List Kd} {x : Int} {j : Nat} (h : frAt t x = some j) : j < t.length := by
  rw [frAt, List.findIdx?_eq_some_iff_getElem] at h
  exact h.1
/-- an attribute of the event -/
def vAt (fs : List Fd) (e : Ev) (k : Nat) : Int := match fs[k]? with
  | none => 0
  | some f => if 0 ≤ f.fr then ((atL e)[f.fr.toNat]?).getD 0 else f.fl
def zeroE : Ev := ⟨0, 0, 0, 0, 0, 0, 0, 0, 0, 0, 0⟩
def evOf (fs : List Fd) (e : Ev) (i : Nat) : Ev := ⟨e.ts, e.id, i, vAt fs e 0, vAt fs e 1, vAt fs e 2, vAt fs e 3, vAt fs e 4, vAt fs e 5, vAt fs e 6, vAt fs e 7⟩
def toEv (t : List Kd) (e : Ev) : Ev × Bool := match frAt t e.typ with
  | none => (zeroE, false)
  | some i => match t[i]? with
    | none => (zeroE, false)
    | some k => (evOf k.fs e i, true)
theorem toEv_none {t : List Kd} {e : Ev} (h : frAt t e.typ = none) : toEv t e = (zeroE, false) := by unfold toEv; rw [h]
theorem toEv_some {t : List Kd} {e : Ev} {i : Nat} {k : Kd} (h : frAt t e.typ = some i) (hk : t[i]? = some k) : toEv t e = (evOf k.fs e i, true) := by unfold toEv; rw [h]; simp only [hk]
theorem vAt_none {fs : List Fd} {e : Ev} {k : Nat} (h : fs.length ≤ k) : vAt fs e k = 0 := by
  unfold vAt; rw [List.getElem?_eq_none h]
theorem vAt_fl {fs : List Fd} {e : Ev} {k : Nat} {f : Fd} (h : fs[k]? = some f) (hf : ¬ 0 ≤ f.fr) : vAt fs e k = f.fl := by
  unfold vAt; rw [h]; exact if_neg hf
theorem vAt_fr {fs : List Fd} {e : Ev} {k m : Nat} {f : Fd} {x : Int} (h : fs[k]? = some f) (hf : f.fr = m) (hx : (atL e)[m]? = some x) : vAt fs e k = x := by
  unfold vAt; rw [h]
  show (if 0 ≤ f.fr then _ else _) = _
  rw [if_pos (by omega), show f.fr.toNat = m by omega, hx]; rfl
/-- the cells of the event behind so many attributes -/
def outC (fs : List Fd) (e : Ev) (i j : Nat) : List Value := [.int .i64 e.ts, .int .u64 e.id, .int .i64 i] ++ (List.range 8).map fun k => .int .i64 (if k < j then vAt fs e k else 0)
theorem outC_0 (fs : List Fd) (e : Ev) (i : Nat) : outC fs e i 0 = [.int .i64 e.ts, .int .u64 e.id, .int .i64 i, .int .i64 0, .int .i64 0, .int .i64 0, .int .i64 0, .int .i64 0, .int .i64 0, .int .i64 0, .int .i64 0] := rfl
theorem outC_end {fs : List Fd} (e : Ev) (i : Nat) (h : fs.length ≤ 8) : outC fs e i fs.length = evV (evOf fs e i) := by
  have hk : ∀ k, (if k < fs.length then vAt fs e k else 0) = vAt fs e k := fun k => by
    by_cases h : k < fs.length
    · rw [if_pos h]
    · rw [if_neg h, vAt_none (by omega)]
  unfold outC
  simp only [hk]
  rfl
theorem outC_len (fs : List Fd) (e : Ev) (i j : Nat) : (outC fs e i j).length = 11 := rfl
theorem outC_get {fs : List Fd} {e : Ev} {i j k : Nat} (h : k < 8) : (outC fs e i j)[3 + k]? = some (.int .i64 (if k < j then vAt fs e k else 0)) := by
  unfold outC
  rw [List.getElem?_append_right (by show 3 ≤ 3 + k; omega)]
  show (List.map _ _)[3 + k - 3]? = _
  rw [show 3 + k - 3 = k by omega, List.getElem?_map, List.getElem?_range h]
  rfl
theorem outC_next {fs : List Fd} {e : Ev} {i j : Nat} (h : j < 8) : (outC fs e i j).set (3 + j) (.int .i64 (vAt fs e j)) = outC fs e i (j + 1) := by
  apply List.ext_getElem?
  intro m
  rw [List.getElem?_set]
  by_cases hm : m < 3
  · rw [if_neg (by omega)]
    match m, hm with
    | 0, _ => rfl
    | 1, _ => rfl
    | 2, _ => rfl
  · obtain ⟨k, rfl⟩ : ∃ k, m = 3 + k := ⟨m - 3, by omega⟩
    by_cases hk : k < 8
    · rw [outC_get hk, outC_get hk, outC_len]
      by_cases e1 : j = k
      · subst e1
        rw [if_pos rfl, if_pos (by omega), if_pos (by omega)]
      · rw [if_neg (by omega)]
        by_cases h2 : k < j
        · rw [if_pos h2, if_pos (by omega)]
        · rw [if_neg h2, if_neg (by omega)]
    · rw [if_neg (by omega), List.getElem?_eq_none (by rw [outC_len]; omega), List.getElem?_eq_none (by rw [outC_len]; omega)]
end Go.Proofs.YtmadafejenjkcaaDoor
