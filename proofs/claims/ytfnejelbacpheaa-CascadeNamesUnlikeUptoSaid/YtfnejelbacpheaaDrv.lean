/- Derive of the program and of the document. -/
import Derived.Test.YtfnejelbacpheaaProg
import Derived.Test.YtfnejelbacpheaaOwn
namespace Go.Proofs.Ytfnejelbacpheaa.cascadeDerivesW
open Go.RowKit Go.Deep
set_option linter.unusedVariables false

def valD (x : Bool × Int) : List D := [.v (.bool x.1), .v (.int .i64 x.2)]

/-- the values behind k rounds -/
def attl (vals : List (Bool × Int)) (k : Nat) : List Int := (List.range 8).map fun j => if j < k then (vals[j]?.getD (false, 0)).2 else 0
def evC (ts id typ : Int) (l : List Int) : List Value := .int .i64 ts :: .int .u64 id :: .int .i64 typ :: l.map (.int .i64)
def zeroC : List Value := evC 0 0 0 (attl [] 0)

theorem attl_len (vals : List (Bool × Int)) (k : Nat) : (attl vals k).length = 8 := by simp [attl]
theorem attl_succ {vals : List (Bool × Int)} {k : Nat} {x : Bool × Int} (hx : vals[k]? = some x) (hk : k < 8) : attl vals (k + 1) = (attl vals k).set k x.2 := by
  apply List.ext_getElem?
  intro j
  rw [List.getElem?_set]
  simp only [attl, List.length_map, List.length_range, List.getElem?_map]
  rcases Nat.lt_or_ge j 8 with hj | hj
  · rw [List.getElem?_range hj]
    by_cases e : k = j
    · subst e; simp [hx, hj]
    · simp only [if_neg e, Option.map_some]
      congr 1
      by_cases h : j < k
      · rw [if_pos h, if_pos (by omega)]
      · rw [if_neg h, if_neg (by omega)]
  · rw [List.getElem?_eq_none (by simpa using hj)]
    rw [if_neg (by omega)]; rfl

def known (vals : List (Bool × Int)) : Bool := vals.all (·.1)
def fits (rule typ nth dec : Int) (vals : List (Bool × Int)) : Prop := 0 ≤ rule ∧ rule < 8 ∧ 0 ≤ typ ∧ nth < 281474976710656 ∧ vals.length ≤ 8 ∧ -1152921504606846976 ≤ dec ∧ dec ≤ 1152921504606846976

/-- what is derived: the cells of the event, and whether there is one -/
def Drv (rule typ nth dec : Int) (vals : List (Bool × Int)) (cs : List Value) (ok : Bool) : Prop :=
  (fits rule typ nth dec vals ∧ known vals = true ∧ ok = true ∧ cs = evC dec (9223372036854775808 + rule * 281474976710656 + nth) typ (attl vals vals.length)) ∨
  (¬ (fits rule typ nth dec vals ∧ known vals = true) ∧ ok = false ∧ cs = zeroC)

def DrvPost (rule typ nth dec : Int) (vals : List (Bool × Int)) (w : World) (e : Ending) (w' : World) : Prop :=
  ∃ cs ok, e = .returned (.tuple #[.agg ⟨cs⟩, .bool ok]) ∧ Drv rule typ nth dec vals cs ok ∧ Below w.heap.size w w'
theorem DrvPost.mk {rule typ nth dec : Int} {vals : List (Bool × Int)} {w w' : World} (cs : List Value) (ok : Bool) (h : Drv rule typ nth dec vals cs ok) (hb : Below w.heap.size w w') :
    DrvPost rule typ nth dec vals w (.returned (.tuple #[.agg ⟨cs⟩, .bool ok])) w' := ⟨cs, ok, rfl, h, hb⟩

theorem aggEv : AggT Try.prog 38 11 := ⟨_, Try.underlying38, rfl, by kernel_rfl⟩

theorem evC_len (ts id typ : Int) (vals : List (Bool × Int)) (k : Nat) : (evC ts id typ (attl vals k)).length = 11 := by simp [evC, attl]
theorem aggEv' (ts id typ : Int) (vals : List (Bool × Int)) (k : Nat) : AggT Try.prog 38 (evC ts id typ (attl vals k)).length := by rw [evC_len]; exact aggEv
theorem evC_one (ts id typ : Int) (l : List Int) : (evC ts id typ l).all (·.oneCell') = true := by
  simp only [evC, List.all_cons, Value.oneCell', Bool.true_and, List.all_map]
  exact List.all_eq_true.2 fun x _ => rfl

set_option maxHeartbeats 1600000 in
theorem drv_ok (A1 A2 A3 : Option Addr) (n1 n2 c1 c2 c3 : Nat) (F : Nat → Prop) (rule typ nth dec : Int) (vals : List (Bool × Int)) (w : World) (h4 : 0 ≤ nth) (hF : ∀ b, F b → b < w.heap.size)
    (h1 : 0 ≤ rule) (h2 : rule < 8) (h3 : 0 ≤ typ) (h5 : nth < 281474976710656) (h6 : vals.length ≤ 8) (h7 : -1152921504606846976 ≤ dec) (h8 : dec ≤ 1152921504606846976)
    (ra : Rd w F (.slice A3 vals.length c3) (.sl vals.length (vals.flatMap valD))) :
    Calls Try.prog 14 #[.int .i64 rule, .int .i64 typ, .int .u64 nth, .agg #[.int .i64 dec, .slice A1 n1 c1, .slice A2 n2 c2, .slice A3 vals.length c3]] w
      (DrvPost rule typ nth dec vals w) := by
  have hfit : Hid (fits rule typ nth dec vals) := ⟨h1, h2, h3, h5, h6, h7, h8⟩
  obtain ⟨evk, hevk⟩ : ∃ evk : Nat → List Value, evk = fun k => evC dec (9223372036854775808 + rule * 281474976710656 + nth) typ (attl vals k) := ⟨_, rfl⟩
  have hlen : ∀ k, (evk k).length = 11 := fun k => by rw [hevk]; exact evC_len _ _ _ _ _
  have hone : ∀ k, (evk k).all (·.oneCell') = true := fun k => by rw [hevk]; exact evC_one _ _ _ _
  have hset : ∀ k x, vals[k]? = some x → k < 8 → evk (k + 1) = (evk k).set (3 + k) (.int .i64 x.2) := fun k x hx hk => by
    rw [hevk, show 3 + k = k + 3 by omega]
    simp only [attl_succ hx hk, evC, List.set_cons_succ, List.map_set]
  have hget : ∀ k, k < 8 → ∃ y, (evk k)[3 + k]? = some y := fun k hk => ⟨_, List.getElem?_eq_getElem (by rw [hlen]; omega)⟩
  replace hset := Lib.hid hset
  replace hlen := Lib.hid hlen
  replace hone := Lib.hid hone
  replace hget := Lib.hid hget
  have hevk' := Lib.hid hevk
  have hev0 : evk 0 = evC dec (9223372036854775808 + rule * 281474976710656 + nth) typ (attl vals 0) := by rw [hevk]
  replace hev0 := Lib.hid hev0
  clear hevk
  go_enter Try.func14, Try.ntmps14
  go_wp2
  go_loopw [11, 12, 57] (fun _ _ i wr => ∃ k : Nat, k ≤ vals.length ∧ i = .int .i64 k ∧ Below w.heap.size w wr ∧ Blk wr (w.heap.size + 1) 38 zeroC ∧
    Blk wr (w.heap.size + 1 + 1) 38 (evk k) ∧ Hid (∀ j x, vals[j]? = some x → j < k → x.1 = true)) (fun _ _ i _ => vals.length - (intOf i).toNat)
  case atStart =>
    refine ⟨0, Nat.zero_le _, rfl, ?_, ?_, ?_, fun j x _ h => by omega⟩
    · exact (((Below.refl _ _).alloc (Nat.le_refl _) _).alloc (by simp) _).alloc (by simp; omega) _
    · exact (Blk.new' (cs := zeroC) (by simp)).alloc _
    · rw [hev0.out]
      exact Blk.new' (cs := evC dec (9223372036854775808 + rule * 281474976710656 + nth) typ (attl vals 0)) (by simp)
  case round =>
    obtain ⟨k, hk, rfl, hb, hz, he, hkn⟩ := hrel
    have hsz := he.lt
    by_cases hlt : k < vals.length
    · obtain ⟨⟨kn, x⟩, hx⟩ := getx hlt
      obtain ⟨b, off, rfl, _, hc, _⟩ := (ra.under hb hF).rowv (m := 2) (fun _ => rfl) hx (by omega)
      have c0 : wr.cell? ⟨b, off + k * 2, none⟩ = some (.bool kn) := hc 0 _ rfl
      have c1 : wr.cell? ⟨b, off + k * 2 + 1, none⟩ = some (.int .i64 x) := hc 1 _ rfl
      obtain ⟨y, hy⟩ := hget.out k (by omega)
      have hcell : wr.cell? ⟨w.heap.size + 1 + 1, 3 + k, none⟩ = some y := by rw [he.cell, hy]
      have hfr : wr.frozen? ⟨w.heap.size + 1 + 1, 3 + k, none⟩ = false := he.frozen _
      have hs := Lib.hid (hset.out k _ hx (by omega))
      have hx' := Lib.hid hx
      have hz' := Lib.hid hz
      have he' := Lib.hid he
      clear hx hc he hz hy
      cases kn
      · clear hcell hfr
        go_wp2_with (refine at_op (.store 38 (.tmp 8) (.tmp 65)) rfl ?_; refine wpList_store_blk rfl 38 (.tmp 8) (.tmp 65) rfl (cs' := zeroC) (hz'.out.alloc _) aggEv rfl rfl rfl rfl ?_; intro w1 hz1 hg1)
        refine bodyPost_cell2 (v := .bool false) rfl hz1 aggEv rfl rfl rfl (.mk zeroC false (.inr ⟨fun h => ?_, rfl, rfl⟩) ((hb.alloc (by omega) _).grown hg1 (by simp; omega) (fun q hq => by injection hq with hq; omega)))
        have := h.2
        unfold known at this
        rw [List.all_eq_true] at this
        have := this _ (List.mem_of_getElem? hx'.out)
        cases this
      · go_wp2
        go_roundw
        case rel =>
          refine ⟨k + 1, by omega, by go_num, ?_, ?_, ?_, ?_⟩
          · exact (hb.setCell (by simp; omega) _).alloc (by simp [World.setCell]; omega) _
          · exact (hz'.out.far (by simp) _).alloc _
          · rw [hs.out]
            exact (he'.out.set_ (3 + k) (.int .i64 x)).alloc _
          · intro j y hy hj
            by_cases e : j = k
            · subst e; rw [hx'.out] at hy; injection hy with hy; subst hy; rfl
            · exact hkn.out j y hy (by omega)
        case measure => simp [intOf]; omega
    · have hkk : k = vals.length := by omega
      subst hkk
      have hz' := Lib.hid hz
      have he' := Lib.hid he
      clear he hz
      go_wp2_with (first
        | (refine at_op (.load 38 (.tmp 10)) rfl ?_; refine wpList_load_blk rfl 38 (.tmp 10) rfl he'.out (by rw [hlen.out]; exact aggEv) rfl ?_)
        | (refine at_op (.store 38 (.tmp 8) (.tmp 72)) rfl ?_; refine wpList_store_blk rfl 38 (.tmp 8) (.tmp 72) rfl (cs' := evk vals.length) hz'.out (by rw [hlen.out]; exact aggEv) (by rw [hlen.out]; rfl) rfl rfl (hone.out _) ?_; intro w1 hz1 hg1))
      refine bodyPost_cell2 (v := .bool true) rfl hz1 (by rw [hlen.out]; exact aggEv) rfl rfl rfl (.mk (evk vals.length) true (.inl ⟨hfit.out, ?_, rfl, by rw [hevk'.out]⟩) (hb.grown hg1 hb.size (fun q hq => by injection hq with hq; omega)))
      unfold known
      rw [List.all_eq_true]
      intro x hx
      obtain ⟨j, hj⟩ := List.getElem?_of_mem hx
      exact hkn.out j x hj (List.getElem?_eq_some_iff.1 hj).1

theorem res14 : Try.f14.results = #[.cell 8 38, .tmp 9] := rfl

set_option maxHeartbeats 1600000 in
theorem drv_bad (A1 A2 A3 : Option Addr) (n1 n2 n3 c1 c2 c3 : Nat) (rule typ nth dec : Int) (vals : List (Bool × Int)) (w : World) (h4 : 0 ≤ nth) (hn : vals.length = n3)
    (hbad : rule < 0 ∨ (0 ≤ rule ∧ 8 ≤ rule) ∨ (0 ≤ rule ∧ rule < 8 ∧ typ < 0) ∨ (0 ≤ rule ∧ rule < 8 ∧ 0 ≤ typ ∧ 281474976710656 ≤ nth) ∨ (0 ≤ rule ∧ rule < 8 ∧ 0 ≤ typ ∧ nth < 281474976710656 ∧ (8 : Int) < n3) ∨
      (0 ≤ rule ∧ rule < 8 ∧ 0 ≤ typ ∧ nth < 281474976710656 ∧ (n3 : Int) ≤ 8 ∧ dec < -1152921504606846976) ∨ (0 ≤ rule ∧ rule < 8 ∧ 0 ≤ typ ∧ nth < 281474976710656 ∧ (n3 : Int) ≤ 8 ∧ -1152921504606846976 ≤ dec ∧ 1152921504606846976 < dec)) :
    Calls Try.prog 14 #[.int .i64 rule, .int .i64 typ, .int .u64 nth, .agg #[.int .i64 dec, .slice A1 n1 c1, .slice A2 n2 c2, .slice A3 n3 c3]] w
      (DrvPost rule typ nth dec vals w) := by
  have hno : Hid (Drv rule typ nth dec vals zeroC false) := .inr ⟨fun h => by have := h.1; unfold fits at this; omega, rfl, rfl⟩
  clear hn
  rcases hbad with h | ⟨g1, h⟩ | ⟨g1, g2, h⟩ | ⟨g1, g2, g3, h⟩ | ⟨g1, g2, g3, g5, h⟩ | ⟨g1, g2, g3, g5, g6, h⟩ | ⟨g1, g2, g3, g5, g6, g7, h⟩
  all_goals
    go_enter Try.func14, Try.ntmps14
    go_wp2
    exact bodyPost_cell2 (v := .bool false) (g := w.heap.size + 1) (t := 38) (cs := zeroC) rfl (Blk.new' (cs := zeroC) (by simp)) aggEv rfl rfl rfl (.mk zeroC false hno.out (((Below.refl _ _).alloc (Nat.le_refl _) _).alloc (by simp) _))
end Go.Proofs.Ytfnejelbacpheaa.cascadeDerivesW
