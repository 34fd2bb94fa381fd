/- EvolveEvents: the walk in the form in which the statement's frame asks it; what the row's listed variable gives. -/
import Derived.Test.YtmadafejenjkcaaDoorConv
import Derived.Test.YtmadafejenjkcaaDoorE8
import Derived.Lib.LaidTab
namespace Go.Proofs.YtmadafejenjkcaaDoor
open Go.RowKit Go.Deep
set_option linter.unusedVariables false

theorem sum_mem {α : Type} {f : α → Nat} {l : List α} {x : α} (h : x ∈ l) : f x ≤ (l.map f).sum := by
  induction l with
  | nil => cases h
  | cons a l ih =>
    cases h with
    | head => simp
    | tail _ h => have := ih h; simp; omega
theorem sum_len {α : Type} {f : α → Nat} (hf : ∀ x, 1 ≤ f x) (l : List α) : l.length ≤ (l.map f).sum := by
  induction l with
  | nil => simp
  | cons a l ih => have := hf a; simp; omega
theorem Fits.szS {d : D} {N : Nat} (h : Fits (.sl [.str]) d N) (hN : N ≤ 1048576) : ∃ l : List ByteArray, d = .sl l.length (l.flatMap strD) ∧ SzS l := by
  obtain ⟨l, h1, _, h3⟩ := h.strs
  refine ⟨l, h1, ?_, fun a ha => ?_⟩
  · have := sum_len (f := fun s : ByteArray => s.size + 1) (fun _ => by omega) l; omega
  · have := sum_mem (f := fun s : ByteArray => s.size + 1) ha; omega

def tdB (t : Td) : Nat := t.name.size + 1 + ((t.attrs.map fun s => s.size + 1).sum + 1)
theorem conv_td' (ds : List D) (g : Nat → Nat) (h : FitsL [.str, .sl [.str]] ds g) : ∃ t : Td, ds = tdD t ∧ True ∧ tdB t ≤ sumTo g [Ty.str, Ty.sl [Ty.str]].length := by
  obtain ⟨d0, r, rfl, h0, h⟩ := h.cons
  obtain ⟨d1, r, rfl, h1, h⟩ := h.cons
  have := h.nil; subst this
  obtain ⟨a, rfl, _, ha⟩ := h0.str_inv
  obtain ⟨l, rfl, _, hl⟩ := h1.strs
  refine ⟨⟨a, l⟩, rfl, trivial, ?_⟩
  have ha' : a.size + 1 ≤ g 0 := ha
  have hl' : (l.map fun s : ByteArray => s.size + 1).sum + 1 ≤ g (0 + 1) := hl
  simp [sumTo, tdB] at *; omega
theorem szS_of {l : List ByteArray} {N : Nat} (h : (l.map fun s : ByteArray => s.size + 1).sum ≤ N) (hN : N ≤ 1048576) : SzS l := by
  refine ⟨?_, fun a ha => ?_⟩
  · have := sum_len (f := fun s : ByteArray => s.size + 1) (fun _ => by omega) l; omega
  · have := sum_mem (f := fun s : ByteArray => s.size + 1) ha; omega
theorem szT_of {l : List Td} {N : Nat} (h : (l.map tdB).sum ≤ N) (hN : N ≤ 1048576) : SzT l := by
  refine ⟨?_, fun t ht => ?_⟩
  · have := sum_len (f := tdB) (fun _ => by unfold tdB; omega) l; omega
  · have h1 := sum_mem (f := tdB) ht
    have h2 : tdB t = t.name.size + 1 + ((t.attrs.map fun s => s.size + 1).sum + 1) := rfl
    exact ⟨by omega, szS_of (N := 1048576) (by omega) (Nat.le_refl _)⟩
def cgB (c : Cg) : Nat := c.ty.size + 1 + (c.at_.size + 1) + (c.nm.size + 1) + ((c.ats.map fun s => s.size + 1).sum + 1)
theorem conv_cg (ds : List D) (g : Nat → Nat) (h : FitsL [.int .i64, .str, .str, .str, .sl [.str], .int .i64] ds g) : ∃ t : Cg, ds = cgD t ∧ True ∧ cgB t ≤ sumTo g [Ty.int .i64, Ty.str, Ty.str, Ty.str, Ty.sl [Ty.str], Ty.int .i64].length := by
  obtain ⟨d0, r, rfl, h0, h⟩ := h.cons
  obtain ⟨d1, r, rfl, h1, h⟩ := h.cons
  obtain ⟨d2, r, rfl, h2, h⟩ := h.cons
  obtain ⟨d3, r, rfl, h3, h⟩ := h.cons
  obtain ⟨d4, r, rfl, h4, h⟩ := h.cons
  obtain ⟨d5, r, rfl, h5, h⟩ := h.cons
  have := h.nil; subst this
  obtain ⟨kd, rfl, _⟩ := h0.int_inv
  obtain ⟨ty, rfl, _, ha⟩ := h1.str_inv
  obtain ⟨at_, rfl, _, hb⟩ := h2.str_inv
  obtain ⟨nm, rfl, _, hc⟩ := h3.str_inv
  obtain ⟨l, rfl, _, hl⟩ := h4.strs
  obtain ⟨n, rfl, _⟩ := h5.int_inv
  refine ⟨⟨kd, ty, at_, nm, l, n⟩, rfl, trivial, ?_⟩
  have ha' : ty.size + 1 ≤ g (0 + 1) := ha
  have hb' : at_.size + 1 ≤ g (0 + 1 + 1) := hb
  have hc' : nm.size + 1 ≤ g (0 + 1 + 1 + 1) := hc
  have hl' : (l.map fun s : ByteArray => s.size + 1).sum + 1 ≤ g (0 + 1 + 1 + 1 + 1) := hl
  simp [sumTo, cgB] at *; omega
theorem szC_of {l : List Cg} {N : Nat} (h : (l.map cgB).sum ≤ N) (hN : N ≤ 1048576) : l.length ≤ 1048576 ∧ ∀ c ∈ l, SzC c := by
  refine ⟨?_, fun t ht => ?_⟩
  · have := sum_len (f := cgB) (fun _ => by unfold cgB; omega) l; omega
  · have h1 := sum_mem (f := cgB) ht
    have h2 : cgB t = t.ty.size + 1 + (t.at_.size + 1) + (t.nm.size + 1) + ((t.ats.map fun s => s.size + 1).sum + 1) := rfl
    exact ⟨by omega, by omega, szS_of (N := 1048576) (by omega) (Nat.le_refl _)⟩

def evTys : List Ty := [.int .i64, .int .u64, .int .i64, .int .i64, .int .i64, .int .i64, .int .i64, .int .i64, .int .i64, .int .i64, .int .i64]
theorem conv_ev {ds : List D} {g : Nat → Nat} {c : Array Value} {W : World} {F : Nat → Prop} (sz : c.size = 11) (h : FitsL evTys ds g) (rd : ∀ (k : Nat) (d : D), ds[k]? = some d → ∃ u, c[k]? = some u ∧ Rd W F u d) : ∃ e : Ev, c = ⟨evV e⟩ := by
  obtain ⟨d0, r, rfl, h0, h⟩ := h.cons
  obtain ⟨d1, r, rfl, h1, h⟩ := h.cons
  obtain ⟨d2, r, rfl, h2, h⟩ := h.cons
  obtain ⟨d3, r, rfl, h3, h⟩ := h.cons
  obtain ⟨d4, r, rfl, h4, h⟩ := h.cons
  obtain ⟨d5, r, rfl, h5, h⟩ := h.cons
  obtain ⟨d6, r, rfl, h6, h⟩ := h.cons
  obtain ⟨d7, r, rfl, h7, h⟩ := h.cons
  obtain ⟨d8, r, rfl, h8, h⟩ := h.cons
  obtain ⟨d9, r, rfl, h9, h⟩ := h.cons
  obtain ⟨d10, r, rfl, h10, h⟩ := h.cons
  have := h.nil; subst this
  obtain ⟨ts, rfl, _⟩ := h0.int_inv
  obtain ⟨id, rfl, _⟩ := h1.int_inv
  obtain ⟨typ, rfl, _⟩ := h2.int_inv
  obtain ⟨a0, rfl, _⟩ := h3.int_inv
  obtain ⟨a1, rfl, _⟩ := h4.int_inv
  obtain ⟨a2, rfl, _⟩ := h5.int_inv
  obtain ⟨a3, rfl, _⟩ := h6.int_inv
  obtain ⟨a4, rfl, _⟩ := h7.int_inv
  obtain ⟨a5, rfl, _⟩ := h8.int_inv
  obtain ⟨a6, rfl, _⟩ := h9.int_inv
  obtain ⟨a7, rfl, _⟩ := h10.int_inv
  obtain ⟨u0, c0, r0⟩ := rd 0 _ rfl
  obtain rfl := r0.v_inv
  obtain ⟨u1, c1, r1⟩ := rd 1 _ rfl
  obtain rfl := r1.v_inv
  obtain ⟨u2, c2, r2⟩ := rd 2 _ rfl
  obtain rfl := r2.v_inv
  obtain ⟨u3, c3, r3⟩ := rd 3 _ rfl
  obtain rfl := r3.v_inv
  obtain ⟨u4, c4, r4⟩ := rd 4 _ rfl
  obtain rfl := r4.v_inv
  obtain ⟨u5, c5, r5⟩ := rd 5 _ rfl
  obtain rfl := r5.v_inv
  obtain ⟨u6, c6, r6⟩ := rd 6 _ rfl
  obtain rfl := r6.v_inv
  obtain ⟨u7, c7, r7⟩ := rd 7 _ rfl
  obtain rfl := r7.v_inv
  obtain ⟨u8, c8, r8⟩ := rd 8 _ rfl
  obtain rfl := r8.v_inv
  obtain ⟨u9, c9, r9⟩ := rd 9 _ rfl
  obtain rfl := r9.v_inv
  obtain ⟨u10, c10, r10⟩ := rd 10 _ rfl
  obtain rfl := r10.v_inv
  refine ⟨⟨ts, id, typ, a0, a1, a2, a3, a4, a5, a6, a7⟩, ?_⟩
  obtain ⟨l⟩ := c
  simp only [List.size_toArray] at sz
  simp only [List.getElem?_toArray] at c0 c1 c2 c3 c4 c5 c6 c7 c8 c9 c10
  show (⟨l⟩ : Array Value) = ⟨[.int .i64 ts, .int .u64 id, .int .i64 typ, .int .i64 a0, .int .i64 a1, .int .i64 a2, .int .i64 a3, .int .i64 a4, .int .i64 a5, .int .i64 a6, .int .i64 a7]⟩
  congr 1
  match l, sz with
  | [b0, b1, b2, b3, b4, b5, b6, b7, b8, b9, b10], _ =>
    obtain rfl := Option.some.inj c0
    obtain rfl := Option.some.inj c1
    obtain rfl := Option.some.inj c2
    obtain rfl := Option.some.inj c3
    obtain rfl := Option.some.inj c4
    obtain rfl := Option.some.inj c5
    obtain rfl := Option.some.inj c6
    obtain rfl := Option.some.inj c7
    obtain rfl := Option.some.inj c8
    obtain rfl := Option.some.inj c9
    obtain rfl := Option.some.inj c10
    rfl
namespace evolveEventsW
theorem walk {c0 c2 : Array Value} {x0 x2 : List D} {g0 g2 : Nat → Nat} {N0 N1 N2 : Nat} {B : Option Addr} {m d : Nat} {x1 : D} (W : World) (hK : KwIs W) (sz0 : c0.size = 1) (ft0 : FitsL [.sl [.str, .sl [.str]]] x0 g0)
    (rd0 : ∀ (k : Nat) (d : D), x0[k]? = some d → ∃ u, c0[k]? = some u ∧ Rd W (fun b => b < W.heap.size) u d) (bk0 : sumTo g0 1 ≤ N0)
    (rd1 : Rd W (fun b => b < W.heap.size) (.slice B m d) x1) (ft1 : Fits (.sl [.int .i64, .str, .str, .str, .sl [.str], .int .i64]) x1 N1)
    (sz2 : c2.size = 11) (ft2 : FitsL evTys x2 g2) (rd2 : ∀ (k : Nat) (d : D), x2[k]? = some d → ∃ u, c2[k]? = some u ∧ Rd W (fun b => b < W.heap.size) u d) (hN : N0 + (N1 + N2) ≤ 1048576) :
    Calls Tryd.prog 4 #[.agg c0, .slice B m d, .agg c2] W fun e w' => e = .returned (.bool true) ∧ Below W.heap.size W w' := by
  obtain ⟨e, rfl⟩ := conv_ev sz2 ft2 rd2
  obtain ⟨d0, r, rfl, h0, h⟩ := ft0.cons
  have := h.nil; subst this
  obtain ⟨S, rfl, _, hS⟩ := h0.conv (b := tdB) conv_td'
  obtain ⟨L, rfl, _, hR⟩ := ft1.conv (b := cgB) conv_cg
  obtain ⟨u0, e0, r0⟩ := rd0 0 _ rfl
  obtain ⟨A, c, rfl, _, _⟩ := r0.sl_inv
  obtain ⟨B', d', e', _⟩ := rd1.sl_inv
  injection e' with e1 e2 e3
  subst e1 e2 e3
  have hc : c0 = #[.slice A S.length c] := by
    obtain ⟨l⟩ := c0
    simp at sz0 e0
    match l, sz0 with
    | [a], _ => simp at e0; subst e0; rfl
  subst hc
  have hb : sumTo g0 1 = g0 0 := by simp [sumTo]
  obtain ⟨hL, hC⟩ := szC_of (l := L) (N := 1048576) (by omega) (Nat.le_refl _)
  exact evW.lawE_k A _ c _ _ _ S L e (szT_of (N := 1048576) (by omega) (Nat.le_refl _)) hL hC W hK (fun _ h => h) (fun _ h => h) r0 rd1
end evolveEventsW

/-- what the row's list gives: the keywords stand in their variable -/
theorem kwIs_of {W : World} {rest : List (String × DataW Unit)} {t e : TypeId} {n : Nat} (hg : Tryd.prog.globalNamed "sluice/api.Keywords" = some 0) (hty : (Tryd.prog.globals[0]?).map (·.type) = some t)
    (ht : Tryd.prog.underlying t = some (.array n e)) (he : Tryd.prog.underlying e = some .string) (hce : Tryd.prog.cellsOf e = 1) (hct : Tryd.prog.cellsOf t = n)
    (h : laidMet Tryd.prog (("sluice/api.Keywords", .agg (kwds.map fun s => .lit (.string s.data.toList))) :: rest) W) : KwIs W := by
  obtain ⟨ps, ⟨g', t', cs, fuel, p, q, hg', ht', hvar, hd, _, _⟩, _⟩ := h
  obtain rfl := Option.some.inj (hg.symm.trans hg')
  obtain rfl := Option.some.inj (hty.symm.trans ht')
  cases fuel with
  | zero => simp [DataW.trod] at hd
  | succ fuel =>
    simp only [DataW.trod, ht, hce, hct, Nat.mul_one] at hd
    split at hd
    · obtain ⟨xs, hm, hx⟩ := Option.map_eq_some_iff.1 hd
      have hxs : xs.map (·.1) = kwds.map fun s => (DataW.lit (.string s.data.toList) : DataW Unit) := by
        have := congrArg Prod.fst hx
        simpa using this
      have hxl : xs.length = n := by simpa using Lib.mapM_length hm
      intro i k hk
      have hki : i < n := by
        have h1 := (List.getElem?_eq_some_iff.1 hk).1
        have h2 := congrArg List.length hxs
        simp at h2
        omega
      obtain ⟨b, hb, hf⟩ := Lib.mapM_at hm i i (by simp [hki])
      obtain ⟨s, hc, hbs, _⟩ := DataW.trod_string he hf
      have h1 : cs[i]? = some (.string s) := by
        have := congrArg (·[0]?) hc
        simpa [List.getElem?_take, List.getElem?_drop] using this
      have h2 : (xs.map (·.1))[i]? = some (DataW.lit (.string s.data.toList) : DataW Unit) := by simp [hb, hbs]
      rw [hxs] at h2
      simp only [List.getElem?_map, hk, Option.map_some, Option.some.injEq, DataW.lit.injEq, Lit.string.injEq] at h2
      obtain rfl : k = s := ByteArray.ext (Array.ext' h2)
      have := World.var?_cell hg hvar i
      rw [this]
      simpa using h1
    · cases hd
end Go.Proofs.YtmadafejenjkcaaDoor
