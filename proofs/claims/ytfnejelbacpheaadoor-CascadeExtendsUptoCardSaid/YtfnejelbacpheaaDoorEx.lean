/- Schemas that grow by rules: the map of the types' names; a type added. -/
import Derived.Test.YtfnejelbacpheaaDoorTw2
import Derived.Test.YtfnejelbacpheaaDoorSc5
import Derived.Maps.OwnSet
import Derived.Deep.AppendLies
namespace Go.Proofs.YtfnejelbacpheaaDoor
open Go.RowKit Go.Deep Go.Maps
set_option linter.unusedVariables false

theorem keyS : Keyed Tryd.prog 9 := string_keyed Tryd.underlying9
theorem zeroI (w : World) : (zeroValue 3).run Tryd.prog w = .ok (.int .i64 0) w := by kernel_rfl
def kl (s : ByteArray) : Lit := .string s.data.toList
theorem kl_key {s : ByteArray} (h : s.size ≤ 1048576) : keyOf Tryd.prog 9 (.string s) = some (kl s) := WideMaps.keyOf_string_mk Tryd.underlying9 (by unfold maxLen; omega)
theorem kl_ne {s t : ByteArray} (h : s ≠ t) : kl s ≠ kl t := fun e => h (by unfold kl at e; injection e with e; exact ByteArray.ext (Array.ext' e))

/-- block m is a map of at most n entries whose keys are these names -/
def MapIs (w : World) (m n : Nat) (l : List ByteArray) : Prop :=
  ∃ D : DataW Unit, w.ownsMap Tryd.prog 9 (plainElem Tryd.prog 3) m n D ∧ ∀ s, Maps.has D (kl s) = (l.any fun a => decide (a = s))
theorem MapIs.made (w : World) : MapIs (w.alloc (.map #[] 0)) w.heap.size 0 [] :=
  ⟨.map [], World.ownsMap_made _ _ _ _, fun s => by simp [Maps.has]⟩
theorem MapIs.lt {w : World} {m n : Nat} {l : List ByteArray} (h : MapIs w m n l) : m < w.heap.size := let ⟨_, h1, _⟩ := h; h1.lt
theorem MapIs.kept {w w' : World} {m n : Nat} {l : List ByteArray} {row : Option Nat} (h : MapIs w m n l) (hg : w.grownBy w' row) (hne : some m ≠ row) : MapIs w' m n l :=
  let ⟨D, h1, h2⟩ := h; ⟨D, h1.kept hg hne, h2⟩
theorem MapIs.stay {w w' : World} {m n : Nat} {l : List ByteArray} (h : MapIs w m n l) (hb : Below w.heap.size w w') : MapIs w' m n l := h.kept (row := none) (Below.grown_none hb) (by simp)
theorem MapIs.setCell {w : World} {m n : Nat} {l : List ByteArray} (h : MapIs w m n l) {a : Addr} (ha : m ≠ a.block) (u : Value) : MapIs (w.setCell a u) m n l :=
  let ⟨D, h1, h2⟩ := h; ⟨D, h1.setCell ha u, h2⟩
theorem MapIs.look {w : World} {m n : Nat} {l : List ByteArray} (h : MapIs w m n l) {s : ByteArray} (hs : s.size ≤ 1048576) :
    ∃ c : Int, (Instr.lookup 45 (.map (some m)) (.string s) true).run Tryd.prog w = .ok (.tuple #[.int .i64 c, .bool ((l.any fun a => decide (a = s)))]) w := by
  obtain ⟨D, h1, h2⟩ := h
  obtain ⟨v, ps, hrun, hv⟩ := h1.look_ok keyS Tryd.underlying45 (zeroI w) (plainElem_int Tryd.underlying3 (by decide)) (kl_key hs)
  obtain ⟨c, rfl, _, _⟩ := plainElem_int_inv Tryd.underlying3 hv
  exact ⟨c, by rw [hrun, h2]⟩

theorem wpList_put {w : World} {ops : Array Oper} {rest : List Oper} {o : Oper} {a : Act} {Q : Exit → Act → World → Prop} (hg : o.guard = none) (m x v : Operand) (hop : o.op = Op.mapUpdate 45 m x v)
    {b n : Nat} {l : List ByteArray} {s : ByteArray} {k : Int} (hm : a.eval m = .map (some b)) (h : MapIs w b n l) (hn : n ≤ 1048576) (hx : a.eval x = .string s) (hv : a.eval v = .int .i64 k) (hs : s.size ≤ 1048576) (hk : (Lit.int .i64 k).wf = true)
    (hK : ∀ w', MapIs w' b (n + 1) (l ++ [s]) → w.grownBy w' (some b) → wpList Tryd.prog ops Q rest (a.put o.dst undef) w') : wpList Tryd.prog ops Q (o :: rest) a w := by
  obtain ⟨D, h1, h2⟩ := h
  refine wpList_mapUpdate_own w hg m x v _ hop 9 3 keyS Tryd.underlying45 _ b n D hm h1 (by unfold maxLen; omega) _ _ (kl s) hx hv (kl_key hs) _ [] (plainElem_int Tryd.underlying3 hk) fun w' h3 h4 => hK w' ⟨_, h3, fun t => ?_⟩ h4
  by_cases e : t = s
  · subst e
    rw [has_put_same h1.isMap (by unfold kl; trivial)]
    simp
  · rw [has_put_other (kl_ne e), h2]
    simp [Ne.symm e]

/-- the schema that grows: its block, its map, its types -/
structure GS (B0 B : Nat) (w : World) (g m : Nat) (v : Value) (S : List Td) : Prop where
  hb : Blk w g 47 [v, .map (some m)]
  hm : MapIs w m S.length (S.map (·.name))
  ho : OL w B (fun b => B ≤ b) 39 2 v S.length (S.flatMap tdD)
  g0 : B0 ≤ g
  g1 : g < B
  m0 : B0 ≤ m
  m1 : m < B
theorem GS.stay {B0 B : Nat} {w w' : World} {g m : Nat} {v : Value} {S : List Td} (h : GS B0 B w g m v S) (hb : Below w.heap.size w w') : GS B0 B w' g m v S :=
  ⟨h.hb.stay hb, h.hm.stay hb, h.ho.stay hb, h.g0, h.g1, h.m0, h.m1⟩
end Go.Proofs.YtfnejelbacpheaaDoor
