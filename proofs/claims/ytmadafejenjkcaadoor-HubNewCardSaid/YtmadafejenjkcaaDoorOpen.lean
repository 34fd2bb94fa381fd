/- An argument that can be read as data is a plain datum of its type's shape, and not larger than its bulk. No conditions. -/
import Derived.Test.YtmadafejenjkcaaDoorRows
import Derived.Test.YtmadafejenjkcaaDoorBase
namespace Go.Proofs.YtmadafejenjkcaaDoor
open Go.RowKit Go.Deep
set_option linter.unusedVariables false

inductive Ty where
  | bool
  | int (k : IntKind)
  | str
  | sl (l : List Ty)

def layF (g : TypeId → Option (List Ty)) (P : Program) : Nat → List Field → Option (List Ty)
  | _, [] => some []
  | off, f :: r => match g f.type with
    | none => none
    | some l => if f.offset = off ∧ P.cellsOf f.type = l.length then (layF g P (off + l.length) r).map (l ++ ·) else none

/-- the cells of a type: arrays and structs laid flat -/
def lay (P : Program) : Nat → TypeId → Option (List Ty)
  | 0, _ => none
  | n + 1, t => match P.underlying t with
    | some .bool => some [.bool]
    | some (.int k) => some [.int k]
    | some .string => some [.str]
    | some (.slice e) => (match lay P n e with
      | some l => if P.cellsOf e = l.length ∧ 0 < l.length then some [.sl l] else none
      | none => none)
    | some (.struct fs) => (match layF (lay P n) P 0 fs.toList with
      | some l => if P.cellsOf t = l.length then some l else none
      | none => none)
    | some (.array m e) => (match lay P n e with
      | some l => if P.cellsOf e = l.length ∧ P.cellsOf t = m * l.length then some ((List.range m).flatMap fun _ => l) else none
      | none => none)
    | _ => none

def sumTo (g : Nat → Nat) : Nat → Nat
  | 0 => 0
  | n + 1 => sumTo g n + g n

theorem addr_add' (b o j : Nat) : (⟨b, o, none⟩ : Addr).add j = ⟨b, o + j, none⟩ := by unfold Addr.add; split <;> simp_all

/-- the datum is of the type and of bulk at most N -/
inductive Fits : Ty → D → Nat → Prop
  | bool (b : Bool) (N : Nat) : 1 ≤ N → Fits .bool (.v (.bool b)) N
  | int (k : IntKind) (n : Int) (N : Nat) : (Lit.int k n).wf = true → 1 ≤ N → Fits (.int k) (.v (.int k n)) N
  | str (s : ByteArray) (N : Nat) : s.size ≤ maxLen → s.size + 1 ≤ N → Fits .str (.v (.string s)) N
  | sl (l : List Ty) (n : Nat) (ds : List D) (g : Nat → Nat) (N : Nat) : ds.length = n * l.length → 0 < l.length → (∀ k d ty, ds[k]? = some d → l[k % l.length]? = some ty → Fits ty d (g k)) →
      sumTo g ds.length + 1 ≤ N → Fits (.sl l) (.sl n ds) N

theorem sumTo_congr {f g : Nat → Nat} {n : Nat} (h : ∀ k, k < n → f k = g k) : sumTo f n = sumTo g n := by
  induction n with
  | zero => rfl
  | succ n ih => simp only [sumTo]; rw [ih fun k hk => h k (by omega), h n (by omega)]

theorem sumTo_add (f : Nat → Nat) (n m : Nat) : sumTo f (n + m) = sumTo f n + sumTo (fun k => f (n + k)) m := by
  induction m with
  | zero => rfl
  | succ m ih => rw [← Nat.add_assoc]; simp only [sumTo]; rw [ih]; omega

theorem sumTo_mul (f : Nat → Nat → Nat) (n L : Nat) (hL : 0 < L) : sumTo (fun k => f (k / L) (k % L)) (n * L) = sumTo (fun i => sumTo (f i) L) n := by
  induction n with
  | zero => simp [sumTo]
  | succ n ih =>
    rw [Nat.succ_mul, sumTo_add, ih]
    simp only [sumTo]
    congr 1
    refine sumTo_congr fun k hk => ?_
    rw [Nat.mul_comm n L, Nat.mul_add_div hL, Nat.mul_add_mod, Nat.div_eq_of_lt hk, Nat.mod_eq_of_lt hk]
    simp

theorem bulkAll_append {H : Type} (l r : List (DataW H)) : Rows.uptoBulkAll (l ++ r) = Rows.uptoBulkAll l + Rows.uptoBulkAll r := by
  induction l with
  | nil => simp [Rows.uptoBulkAll]
  | cons x l ih => simp only [List.cons_append, Rows.uptoBulkAll, ih]; omega

theorem bulkAll_range {H : Type} (D : Nat → DataW H) (n : Nat) : Rows.uptoBulkAll ((List.range n).map D) = sumTo (fun i => Rows.uptoBulk (D i)) n := by
  induction n with
  | zero => simp [Rows.uptoBulkAll, sumTo]
  | succ n ih => rw [List.range_succ, List.map_append, bulkAll_append, ih]; simp [Rows.uptoBulkAll, sumTo]

theorem sumTo_le {f g : Nat → Nat} {n : Nat} (h : ∀ k, k < n → f k ≤ g k) : sumTo f n ≤ sumTo g n := by
  induction n with
  | zero => exact Nat.le_refl _
  | succ n ih =>
    have := h n (by omega)
    have := ih fun k hk => h k (by omega)
    simp only [sumTo]; omega

def OpenTo (w : World) (tys : List Ty) (get : Nat → Option Value) (N : Nat) : Prop :=
  ∃ (ds : List D) (g : Nat → Nat), ds.length = tys.length ∧ (∀ k d, ds[k]? = some d → ∃ u ty, get k = some u ∧ tys[k]? = some ty ∧ Rd w (fun b => b < w.heap.size) u d ∧ Fits ty d (g k)) ∧ sumTo g tys.length ≤ N

section
variable {w : World}
theorem OpenTo.one {u : Value} {d : D} {ty : Ty} {N : Nat} {cs : List Value} (hcs : cs = [u]) (h : Rd w (fun b => b < w.heap.size) u d) (hf : Fits ty d N) : OpenTo w [ty] (fun k => cs[k]?) N := by
  refine ⟨[d], fun _ => N, rfl, fun k d' hd => ?_, by simp [sumTo]⟩
  cases k with
  | zero => simp at hd; subst hd; exact ⟨u, ty, by simp [hcs], rfl, h, hf⟩
  | succ k => simp at hd

theorem OpenTo.app {l1 l2 : List Ty} {get1 get2 get : Nat → Option Value} {N1 N2 N : Nat} (h1 : OpenTo w l1 get1 N1) (h2 : OpenTo w l2 get2 N2) (hg1 : ∀ k u, k < l1.length → get1 k = some u → get k = some u)
    (hg2 : ∀ k u, get2 k = some u → get (l1.length + k) = some u) (hN : N1 + N2 ≤ N) : OpenTo w (l1 ++ l2) get N := by
  obtain ⟨d1, g1, a1, b1, c1⟩ := h1
  obtain ⟨d2, g2, a2, b2, c2⟩ := h2
  refine ⟨d1 ++ d2, fun k => if k < l1.length then g1 k else g2 (k - l1.length), by simp [a1, a2], fun k d hd => ?_, ?_⟩
  · rcases Nat.lt_or_ge k l1.length with hk | hk
    · rw [List.getElem?_append_left (by omega)] at hd
      obtain ⟨u, ty, e1, e2, e3, e4⟩ := b1 k d hd
      exact ⟨u, ty, hg1 k u hk e1, by rw [List.getElem?_append_left hk]; exact e2, e3, by simp only [if_pos hk]; exact e4⟩
    · rw [List.getElem?_append_right (by omega)] at hd
      rw [a1] at hd
      obtain ⟨u, ty, e1, e2, e3, e4⟩ := b2 _ d hd
      refine ⟨u, ty, ?_, by rw [List.getElem?_append_right hk]; exact e2, e3, by simp only [if_neg (Nat.not_lt.2 hk)]; exact e4⟩
      have := hg2 _ u e1
      rwa [show l1.length + (k - l1.length) = k by omega] at this
  · rw [List.length_append, sumTo_add]
    have e1 : sumTo (fun k => if k < l1.length then g1 k else g2 (k - l1.length)) l1.length = sumTo g1 l1.length := sumTo_congr fun k hk => by rw [if_pos hk]
    have e2 : sumTo (fun k => if l1.length + k < l1.length then g1 (l1.length + k) else g2 (l1.length + k - l1.length)) l2.length = sumTo g2 l2.length := sumTo_congr fun k hk => by rw [if_neg (by omega)]; congr 1; omega
    rw [e1, e2]
    omega
end

section
variable {H : Type} {enc : TypeId × Value → H} {P : Program} {w : World} {base : Nat} {spare : Nat → Bool} {held : Bool}

theorem layF_opens {n : Nat} {m : Nat} {cs : List Value}
    (ih : ∀ (t : TypeId) (tys : List Ty) (cs : List Value) (x : DataW H × List MemPlace), lay P n t = some tys → DataW.trod enc P w base spare held m t cs = some x → OpenTo w tys (fun k => cs[k]?) (Rows.uptoBulk x.1))
    (fs : List Field) : ∀ (xs : List (DataW H × List MemPlace)) (off : Nat) (tys : List Ty), layF (lay P n) P off fs = some tys → xs.length = fs.length →
      (∀ (i : Nat) (f : Field), fs[i]? = some f → DataW.trod enc P w base spare held m f.type ((cs.drop f.offset).take (P.cellsOf f.type)) = xs[i]?) → OpenTo w tys (fun k => cs[off + k]?) (Rows.uptoBulkAll (xs.map (·.1))) := by
  induction fs with
  | nil =>
    intro xs off tys hl hx _
    simp [layF] at hl
    subst hl
    exact ⟨[], fun _ => 0, rfl, fun k d h => by simp at h, Nat.zero_le _⟩
  | cons f r ihr =>
    intro xs off tys hl hx hf
    match xs, hx with
    | x :: xr, hx =>
      simp only [layF] at hl
      split at hl
      · cases hl
      · rename_i l hlf
        split at hl
        · rename_i hc
          obtain ⟨ho, hC⟩ := hc
          cases hr : layF (lay P n) P (off + l.length) r with
          | none => rw [hr] at hl; cases hl
          | some tr =>
            rw [hr] at hl
            simp only [Option.map_some, Option.some.injEq] at hl
            subst hl
            have h0 := hf 0 f rfl
            simp only [List.getElem?_cons_zero] at h0
            have h1 := ih f.type l _ x hlf h0
            have h2 := ihr xr (off + l.length) tr hr (by simpa using hx) (fun i g hg => by simpa using hf (i + 1) g (by simpa using hg))
            refine h1.app h2 (fun k u hk hu => ?_) (fun k u hu => ?_) (by simp [Rows.uptoBulkAll])
            · rw [List.getElem?_take] at hu
              split at hu
              · rw [List.getElem?_drop, ho] at hu; exact hu
              · cases hu
            · rw [← Nat.add_assoc]; exact hu
        · cases hl

theorem arr_opens {l : List Ty} {cs : List Value} {xs : List (DataW H × List MemPlace)} {k : Nat} (hk : xs.length = k)
    (h : ∀ i x, xs[i]? = some x → OpenTo w l (fun j => ((cs.drop (i * l.length)).take l.length)[j]?) (Rows.uptoBulk x.1)) (q : Nat) : q ≤ k →
    OpenTo w ((List.range q).flatMap fun _ => l) (fun j => cs[j]?) (Rows.uptoBulkAll ((xs.take q).map (·.1))) := by
  induction q with
  | zero => intro _; exact ⟨[], fun _ => 0, rfl, fun k d h => by simp at h, Nat.zero_le _⟩
  | succ q ih =>
    intro hq
    rw [List.range_succ, List.flatMap_append]
    have hx : xs[q]? = some xs[q] := List.getElem?_eq_getElem (by omega)
    have h1 := h q _ hx
    simp only [List.flatMap_cons, List.flatMap_nil, List.append_nil]
    have hlen : ((List.range q).flatMap fun _ => l).length = q * l.length := by rw [flatMap_length (m := l.length) (fun _ => rfl)]; simp
    refine (ih (by omega)).app h1 (fun k u _ hu => hu) (fun k u hu => ?_) ?_
    · rw [hlen]
      rw [List.getElem?_take] at hu
      split at hu
      · rw [List.getElem?_drop] at hu; exact hu
      · cases hu
    · rw [List.take_add_one, hx]
      simp only [List.map_append, bulkAll_append, Option.toList_some, List.map_cons, List.map_nil, Rows.uptoBulkAll]
      omega

theorem slice_opens {a : Addr} {len cap : Nat} {l : List Ty} {D' : Nat → DataW H} {N : Nat} {cs : Nat → List Value} (hlc : len ≤ cap) (hm : cap ≤ maxLen) (hL : 0 < l.length)
    (hc : ∀ i j, i < len → j < l.length → w.cell? ((a.add (i * l.length)).add j) = (cs i)[j]?)
    (h : ∀ i, i < len → OpenTo w l (fun j => (cs i)[j]?) (Rows.uptoBulk (D' i))) (hN : sumTo (fun i => Rows.uptoBulk (D' i)) len + 1 ≤ N) :
    OpenTo w [.sl l] (fun j => [Value.slice (some a) len cap][j]?) N := by
  have hex : ∀ i, i < len → ∃ y : List D × (Nat → Nat), y.1.length = l.length ∧ (∀ k d, y.1[k]? = some d → ∃ u ty, (cs i)[k]? = some u ∧ l[k]? = some ty ∧ Rd w (fun b => b < w.heap.size) u d ∧ Fits ty d (y.2 k)) ∧ sumTo y.2 l.length ≤ Rows.uptoBulk (D' i) := fun i hi => by
    obtain ⟨ds, g, h1, h2, h3⟩ := h i hi
    exact ⟨(ds, g), h1, h2, h3⟩
  obtain ⟨y, hy⟩ := choose_lt hex
  have hlen : ((List.range len).flatMap fun i => if i < len then (y i).1 else List.replicate l.length (D.sl 0 [])).length = len * l.length := by
    rw [flatMap_length (m := l.length)]
    · simp
    · intro i
      split
      · exact (hy i ‹_›).1
      · simp
  -- the k-th cell
  have hk : ∀ k d, ((List.range len).flatMap fun i => if i < len then (y i).1 else List.replicate l.length (D.sl 0 []))[k]? = some d → k / l.length < len ∧ (y (k / l.length)).1[k % l.length]? = some d := fun k d hd => by
    have hlt : k < len * l.length := by rw [← hlen]; exact (List.getElem?_eq_some_iff.1 hd).1
    have hq : k / l.length < len := Nat.div_lt_of_lt_mul (by rw [Nat.mul_comm]; exact hlt)
    refine ⟨hq, ?_⟩
    have hr : k % l.length < (y (k / l.length)).1.length := by rw [(hy _ hq).1]; exact Nat.mod_lt _ hL
    have := flatMap_get (f := fun i => if i < len then (y i).1 else List.replicate l.length (D.sl 0 [])) (m := l.length) (l := List.range len) (i := k / l.length) (x := k / l.length) (fun i => by
      split
      · exact (hy i ‹_›).1
      · simp) (by simp [hq]) (j := k % l.length) (y := (y (k / l.length)).1[k % l.length]) (by simp only [if_pos hq]; exact List.getElem?_eq_getElem hr)
    rw [Nat.mul_comm, Nat.div_add_mod] at this
    rw [this] at hd
    rw [List.getElem?_eq_getElem hr]
    exact hd
  have hcell : ∀ k d, ((List.range len).flatMap fun i => if i < len then (y i).1 else List.replicate l.length (D.sl 0 []))[k]? = some d →
      ∃ u ty, w.cell? (a.add k) = some u ∧ l[k % l.length]? = some ty ∧ Rd w (fun b => b < w.heap.size) u d ∧ Fits ty d ((y (k / l.length)).2 (k % l.length)) := fun k d hd => by
    obtain ⟨hq, hd'⟩ := hk k d hd
    obtain ⟨u, ty, e1, e2, e3, e4⟩ := (hy _ hq).2.1 _ d hd'
    have := hc _ (k % l.length) hq (Nat.mod_lt _ hL)
    rw [Go.Deep.add_add, Nat.mul_comm, Nat.div_add_mod] at this
    exact ⟨u, ty, this.trans e1, e2, e3, e4⟩
  refine .one (d := .sl len ((List.range len).flatMap fun i => if i < len then (y i).1 else List.replicate l.length (D.sl 0 []))) rfl ?_ (.sl l len _ (fun k => (y (k / l.length)).2 (k % l.length)) _ hlen hL (fun k d ty hd hty => ?_) ?_)
  · obtain ⟨b, off, spot⟩ := a
    refine .sl _ len cap b off _ (fun k => ((w.cell? ((⟨b, off, spot⟩ : Addr).add k))).getD (.bool false)) hlc hm (fun hne => ?_) (fun k d hd => ?_) (fun k d hd => ?_)
    · obtain ⟨d, ds', e⟩ := List.exists_cons_of_ne_nil hne
      obtain ⟨u, _, h1, _⟩ := hcell 0 d (by rw [e]; rfl)
      have h1' : w.cell? ⟨b, off, spot⟩ = some u := by simpa [Addr.add] using h1
      have hs : spot = none := by simpa using World.cell?_spot h1'
      subst hs
      exact ⟨rfl, World.block_lt_of_cell? w _ h1'⟩
    · obtain ⟨u, _, h1, _⟩ := hcell k d hd
      have hne := ne_nil_of_get hd
      obtain ⟨d0, ds', e⟩ := List.exists_cons_of_ne_nil hne
      obtain ⟨u0, _, h0, _⟩ := hcell 0 d0 (by rw [e]; rfl)
      have hs : spot = none := by simpa [Addr.add] using World.cell?_spot h0
      subst hs
      rw [addr_add'] at h1 ⊢
      rw [h1]; rfl
    · obtain ⟨u, _, h1, _, h3, _⟩ := hcell k d hd
      rw [h1]
      exact h3
  · obtain ⟨u, ty', _, h2, _, h4⟩ := hcell k d hd
    rw [hty] at h2
    injection h2 with h2
    subst h2
    exact h4
  · have e : sumTo (fun k => (y (k / l.length)).2 (k % l.length)) (len * l.length) = sumTo (fun i => sumTo (y i).2 l.length) len := sumTo_mul (fun i => (y i).2) _ _ hL
    rw [hlen, e]
    have := sumTo_le (f := fun i => sumTo (y i).2 l.length) (g := fun i => Rows.uptoBulk (D' i)) (n := len) fun i hi => (hy i hi).2.2
    omega

theorem opens (n : Nat) : ∀ (m : Nat) (t : TypeId) (tys : List Ty) (cs : List Value) (x : DataW H × List MemPlace), lay P n t = some tys → DataW.trod enc P w base spare held m t cs = some x →
    OpenTo w tys (fun k => cs[k]?) (Rows.uptoBulk x.1) := by
  induction n with
  | zero => intro m t tys cs x hl; simp [lay] at hl
  | succ n ih =>
    intro m t tys cs x hl h
    unfold lay at hl
    split at hl
    · rename_i ht
      obtain ⟨b, rfl, rfl⟩ := DataW.trod_bool ht h
      injection hl with hl
      subst hl
      exact .one rfl (.v _ rfl) (.bool b _ (by simp [Rows.uptoBulk]))
    · rename_i k ht
      obtain ⟨b, rfl, rfl, hw⟩ := DataW.trod_int ht h
      injection hl with hl
      subst hl
      exact .one rfl (.v _ rfl) (.int k b _ hw (by simp [Rows.uptoBulk]))
    · rename_i ht
      obtain ⟨s, rfl, rfl, hw⟩ := DataW.trod_string ht h
      injection hl with hl
      subst hl
      exact .one rfl (.v _ rfl) (.str s _ hw (Nat.le_of_eq (by simp only [Rows.uptoBulk, Array.length_toList]; rfl)))
    · rename_i e ht
      split at hl
      · rename_i l hle
        split at hl
        · rename_i hc
          obtain ⟨hC, hL⟩ := hc
          injection hl with hl
          subst hl
          rcases open_slice ht h with ⟨rfl, rfl⟩ | ⟨a, len, cap, mm, m', D', Pl, rfl, _, hlc, hm, hmm, rfl, hi⟩
          · refine .one rfl (.sl none 0 0 0 0 [] (fun _ => .bool false) (Nat.le_refl _) (Nat.zero_le _) (fun h => absurd rfl h) (fun k d h => by simp at h) (fun k d h => by simp at h))
              (.sl l 0 [] (fun _ => 0) _ (by simp) hL (fun k d ty h => by simp at h) (by simp [sumTo, Rows.uptoBulk]))
          · have hlm : len ≤ mm := by rw [hmm]; split <;> omega
            have hex : ∀ i, i < len → ∃ cs', w.cells? base (a.add (i * P.cellsOf e)) (P.cellsOf e) = some cs' ∧ DataW.trod enc P w base spare held m' e cs' = some (D' i, Pl i) := fun i h => hi i (by omega)
            obtain ⟨cs, hcs⟩ := choose_lt hex
            refine slice_opens (cs := cs) (D' := D') hlc hm hL (fun i j h1 h2 => ?_) (fun i h1 => ih m' e l (cs i) _ hle (hcs i h1).2) ?_
            · have := (World.cells?_some (hcs i h1).1).2.2 j (by omega)
              rwa [hC] at this
            · simp only [Rows.uptoBulk]
              rw [bulkAll_range]
              omega
        · cases hl
      · cases hl
    · rename_i fs ht
      obtain ⟨xs, m', rfl, rfl, hlen, hxl, hf⟩ := DataW.trod_struct ht h
      split at hl
      · rename_i l hle
        split at hl
        · rename_i hc
          injection hl with hl
          subst hl
          have := layF_opens (ih m') fs.toList xs 0 _ hle (by simpa using hxl) (cs := cs) (fun i f hi => hf i f (by simpa using hi))
          obtain ⟨ds, g, a, b, c⟩ := this
          exact ⟨ds, g, a, by simpa using b, by simp only [Rows.uptoBulk]; omega⟩
        · cases hl
      · cases hl
    · rename_i k e ht
      obtain ⟨xs, m', rfl, rfl, hlen, hxl, hf⟩ := DataW.trod_array ht h
      split at hl
      · rename_i l hle
        split at hl
        · rename_i hc
          obtain ⟨hC, hT⟩ := hc
          injection hl with hl
          subst hl
          have := arr_opens (w := w) (l := l) (cs := cs) hxl (fun i x hx => by
            have hlt : i < k := by rw [← hxl]; exact (List.getElem?_eq_some_iff.1 hx).1
            have h1 := hf i hlt
            rw [hx, hC] at h1
            exact ih m' e l _ x hle h1) k (Nat.le_refl _)
          obtain ⟨ds, g, a, b, c⟩ := this
          refine ⟨ds, g, a, b, ?_⟩
          rw [List.take_of_length_le (by omega)] at c
          simp only [Rows.uptoBulk]
          omega
        · cases hl
      · cases hl
    · cases hl
end
end Go.Proofs.YtmadafejenjkcaaDoor
