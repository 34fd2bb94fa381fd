/- Schemas that change: sizes of the tables; what a sound schema is bounded by. -/
import Derived.Test.YtmadafejenjkcaaDoorV7
namespace Go.Proofs.YtmadafejenjkcaaDoor
open Go.RowKit Go.Deep
set_option linter.unusedVariables false

theorem isNm_size {s : ByteArray} (h : isNm s = true) : s.size ≤ 16 := by
  by_cases hn : IsNm s
  · exact hn.le
  · rw [isNm_false hn] at h; cases h
theorem atC_nm {l : List ByteArray} {k : Nat} {a : ByteArray} (h : l[k]? = some a) (h0 : atC l k = 0) : isNm a = true := by
  cases hn : isNm a with
  | true => rfl
  | false => rw [atC_22 h (.inl hn)] at h0; omega
theorem tyC_nm {l : List Td} {i : Nat} {t : Td} (h : l[i]? = some t) (h0 : tyC l i = 0) : isNm t.name = true ∧ t.attrs.length ≤ 8 ∧ ∀ a ∈ t.attrs, isNm a = true := by
  have h1 : isNm t.name = true := by
    cases hn : isNm t.name with
    | true => rfl
    | false => rw [tyC_22 h hn] at h0; omega
  have h3 : placeI (l.map (·.name)) t.name = i := Classical.byContradiction fun h3 => by rw [tyC_25 h h1 h3] at h0; omega
  have h4 : ¬ 8 < t.attrs.length := fun h4 => by rw [tyC_24 h h1 h3 h4] at h0; omega
  refine ⟨h1, by omega, fun a ha => ?_⟩
  rw [tyC_at h h1 h3 h4] at h0
  obtain ⟨k, hk⟩ := List.getElem?_of_mem ha
  exact atC_nm hk (fstC_none h0 k (List.getElem?_eq_some_iff.1 hk).1)
theorem scC_ok {l : List Td} (h : scC l = 0) : 1 ≤ l.length ∧ l.length ≤ 16 ∧ ∀ t ∈ l, isNm t.name = true ∧ t.attrs.length ≤ 8 ∧ ∀ a ∈ t.attrs, isNm a = true := by
  have h1 : ¬ (l.length < 1 ∨ 16 < l.length) := fun h1 => by rw [scC_23 h1] at h; omega
  refine ⟨by omega, by omega, fun t ht => ?_⟩
  rw [scC_ty (by omega) (by omega)] at h
  obtain ⟨k, hk⟩ := List.getElem?_of_mem ht
  exact tyC_nm hk (fstC_none h k (List.getElem?_eq_some_iff.1 hk).1)

/-- the table of a sound schema -/
structure SmK (l : List Kd) : Prop where
  len : l.length ≤ 16
  nm : ∀ k ∈ l, k.nm.size ≤ 16
  fl : ∀ k ∈ l, k.fs.length ≤ 8
  fn : ∀ k ∈ l, ∀ f ∈ k.fs, f.nm.size ≤ 16
theorem SmK.of {l : List Kd} (h : scC (l.map tdOf) = 0) : SmK l := by
  obtain ⟨_, h1, h2⟩ := scC_ok h
  have h3 : ∀ k ∈ l, isNm k.nm = true ∧ (k.fs.map (·.nm)).length ≤ 8 ∧ ∀ a ∈ k.fs.map (·.nm), isNm a = true := fun k hk => h2 (tdOf k) (List.mem_map_of_mem hk)
  exact ⟨by simpa using h1, fun k hk => isNm_size (h3 k hk).1, fun k hk => by simpa using (h3 k hk).2.1, fun k hk f hf => isNm_size ((h3 k hk).2.2 _ (List.mem_map_of_mem hf))⟩
theorem SmK.szK {l : List Kd} (h : SmK l) : SzK l := ⟨by have := h.len; omega, fun k hk => by have := h.fl k hk; omega⟩
/-- a change whose texts and lists are bounded -/
structure SzC (c : Cg) : Prop where
  ty : c.ty.size ≤ 1048576
  nm : c.nm.size ≤ 1048576
  ats : SzS c.ats

/-- a row of attributes that is bounded -/
def SzF (l : List Fd) : Prop := l.length ≤ 1048576 ∧ ∀ f ∈ l, f.nm.size ≤ 1048576
theorem SzF.szS {l : List Fd} (h : SzF l) : SzS (l.map (·.nm)) := ⟨by simpa using h.1, fun a ha => by
  obtain ⟨f, hf, rfl⟩ := List.mem_map.1 ha
  exact h.2 f hf⟩
structure SzKd (k : Kd) : Prop where
  nm : k.nm.size ≤ 1048576
  fs : SzF k.fs
theorem SmK.szKd {l : List Kd} (h : SmK l) : ∀ k ∈ l, SzKd k := fun k hk => ⟨by have := h.nm k hk; omega, by have := h.fl k hk; omega, fun f hf => by have := h.fn k hk f hf; omega⟩
theorem mem_eraseIdx {α : Type} {l : List α} {i : Nat} {x : α} (h : x ∈ l.eraseIdx i) : x ∈ l := (List.eraseIdx_sublist l i).mem h
theorem mem_modify {α : Type} {l : List α} {i : Nat} {f : α → α} {x : α} (h : x ∈ l.modify i f) : x ∈ l ∨ ∃ y ∈ l, x = f y := by
  obtain ⟨j, hj⟩ := List.getElem?_of_mem h
  rw [List.getElem?_modify] at hj
  obtain ⟨y, hy, he⟩ := Option.map_eq_some_iff.1 hj
  have hm := List.mem_of_getElem? hy
  by_cases e : i = j
  · rw [if_pos e] at he; exact .inr ⟨y, hm, he.symm⟩
  · rw [if_neg e] at he; exact .inl (he ▸ hm)
theorem mem_set_ {α : Type} {l : List α} {i : Nat} {y x : α} (h : x ∈ l.set i y) : x ∈ l ∨ x = y := by
  rcases List.mem_or_eq_of_mem_set h with h | h
  · exact .inl h
  · exact .inr h
theorem chF_sz {l : List Fd} {c : Cg} {fs : List Fd} (hl : l.length ≤ 8) (hn : ∀ f ∈ l, f.nm.size ≤ 1048576) (hc : SzC c) (h : chF l c = some fs) : fs.length ≤ 9 ∧ ∀ f ∈ fs, f.nm.size ≤ 1048576 := by
  unfold chF at h
  split at h
  · injection h with h
    subst h
    refine ⟨by simp; omega, fun f hf => ?_⟩
    rcases List.mem_append.1 hf with hf | hf
    · exact hn f hf
    · simp at hf; subst hf; exact hc.nm
  · split at h
    · cases h
    · rename_i k hk
      have hkl := flAt_lt hk
      split at h
      · injection h with h
        subst h
        exact ⟨by rw [List.length_eraseIdx_of_lt hkl]; omega, fun f hf => hn f (mem_eraseIdx hf)⟩
      · split at h
        · injection h with h
          subst h
          refine ⟨by simp; omega, fun f hf => ?_⟩
          rcases mem_modify hf with hf | ⟨y, hy, rfl⟩
          · exact hn f hf
          · exact hc.nm
        · split at h
          · injection h with h
            subst h
            refine ⟨?_, fun f hf => ?_⟩
            · obtain ⟨x, hx⟩ := getx hkl
              unfold mvF
              rw [hx]
              simp [List.length_eraseIdx_of_lt hkl]
              omega
            · unfold mvF at hf
              rcases List.mem_append.1 hf with hf | hf
              · exact hn f (mem_eraseIdx (List.mem_of_mem_take hf))
              · rcases List.mem_append.1 hf with hf | hf
                · exact hn f (List.mem_of_getElem? (by simpa using hf))
                · exact hn f (mem_eraseIdx (List.mem_of_mem_drop hf))
          · cases h
theorem chK_sz {l l' : List Kd} {c : Cg} (hl : SmK l) (hc : SzC c) (h : chK l c = some l') : l'.length ≤ 17 ∧ ∀ k ∈ l', SzKd k := by
  have h0 := hl.szKd
  have hlen := hl.len
  unfold chK at h
  split at h
  · injection h with h
    subst h
    refine ⟨by simp; omega, fun k hk => ?_⟩
    rcases List.mem_append.1 hk with hk | hk
    · exact h0 k hk
    · simp at hk
      subst hk
      refine ⟨hc.ty, by have := hc.ats.1; simpa [addK] using this, fun f hf => ?_⟩
      simp [addK] at hf
      obtain ⟨a, ha, rfl⟩ := hf
      exact hc.ats.2 a ha
  · split at h
    · split at h
      · cases h
      · rename_i i hi
        have hil := tyAt_lt hi
        split at h
        · injection h with h
          subst h
          exact ⟨by rw [List.length_eraseIdx_of_lt hil]; omega, fun k hk => h0 k (mem_eraseIdx hk)⟩
        · split at h
          · injection h with h
            subst h
            refine ⟨by simp; omega, fun k hk => ?_⟩
            rcases mem_modify hk with hk | ⟨y, hy, rfl⟩
            · exact h0 k hk
            · exact ⟨hc.nm, (h0 y hy).fs⟩
          · split at h
            · cases h
            · rename_i k hk
              obtain ⟨fs, hfs, rfl⟩ := Option.map_eq_some_iff.1 h
              have hkm := List.mem_of_getElem? hk
              obtain ⟨s1, s2⟩ := chF_sz (hl.fl k hkm) (fun f hf => by have := hl.fn k hkm f hf; omega) hc hfs
              refine ⟨by simp; omega, fun x hx => ?_⟩
              rcases mem_set_ hx with hx | rfl
              · exact h0 x hx
              · exact ⟨(h0 k hkm).nm, by show fs.length ≤ _; omega, s2⟩
    · cases h
theorem szT_tdOf {l : List Kd} (h1 : l.length ≤ 17) (h2 : ∀ k ∈ l, SzKd k) : SzT (l.map tdOf) := ⟨by simp; omega, fun t ht => by
  obtain ⟨k, hk, rfl⟩ := List.mem_map.1 ht
  exact ⟨(h2 k hk).nm, (h2 k hk).fs.szS⟩⟩
theorem szK_of {l : List Kd} (h1 : l.length ≤ 17) (h2 : ∀ k ∈ l, SzKd k) : SzK l := ⟨by omega, fun k hk => by have := (h2 k hk).fs.1; omega⟩
theorem fst_tdOf (S : List Td) : (fstK S).map tdOf = S := by
  apply List.ext_getElem?
  intro i
  simp only [fstK, List.getElem?_map, List.getElem?_mapIdx]
  cases S[i]? with
  | none => rfl
  | some t =>
    show some (Td.mk t.name ((fstF t.attrs).map (·.nm))) = some t
    have : (fstF t.attrs).map (·.nm) = t.attrs := by
      apply List.ext_getElem?
      intro j
      simp only [fstF, List.getElem?_map, List.getElem?_mapIdx]
      cases t.attrs[j]? <;> rfl
    rw [this]
/-- behind changes that could be made the table is sound -/
theorem md_sc {S : List Td} {L : List Cg} {k : Nat} (h0 : scC S = 0) (h : ∀ j, j < k → okAt S L j) : scC ((mdTo S L k).map tdOf) = 0 := by
  cases k with
  | zero => rw [show mdTo S L 0 = fstK S from rfl, fst_tdOf]; exact h0
  | succ k =>
    obtain ⟨c, l, h1, h2, h3⟩ := h k (by omega)
    rw [mdTo_next h1 h2]
    exact h3
end Go.Proofs.YtmadafejenjkcaaDoor
