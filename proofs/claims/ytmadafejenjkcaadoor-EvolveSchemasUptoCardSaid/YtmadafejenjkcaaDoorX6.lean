/- The program's Schema. -/
import Derived.Test.YtmadafejenjkcaaDoorX4
import Derived.Test.YtmadafejenjkcaaDoorVb
namespace Go.Proofs.YtmadafejenjkcaaDoor
open Go.RowKit Go.Deep
set_option linter.unusedVariables false
/-- the schema, of new memory of its own (nothing beside an error), the error, its change -/
def EPost (S : List Td) (L : List Cg) (w : World) (e : Ending) (w' : World) : Prop := ∃ v code at_ T ls, e = .returned (.tuple #[.agg #[v], .int .i64 code, .int .i64 at_]) ∧ MdIs S L T code at_ ∧
  (∀ t, T = some t → SmK t) ∧ OSc w' w.heap.size v ls ∧ ls.map (·.1) = rlT T ∧ Below w.heap.size w w'
namespace evW
open nmW
set_option maxRecDepth 100000 in
set_option maxHeartbeats 2000000 in
theorem Schema_k (A B : Option Addr) (ca cb : Nat) (F G : Nat → Prop) (S : List Td) (L : List Cg) (hS : SzT S) (hL : L.length ≤ 1048576) (hC : ∀ c ∈ L, SzC c) (w : World) (hK : KwIs w) (hF : ∀ b, F b → b < w.heap.size) (hG : ∀ b, G b → b < w.heap.size)
    (r : Rd w F (.slice A S.length ca) (.sl S.length (S.flatMap tdD))) (rc : Rd w G (.slice B L.length cb) (.sl L.length (L.flatMap cgD))) :
    Calls Tryd.prog 8 #[.agg #[.slice A S.length ca], .slice B L.length cb] w (EPost S L w) := by
  have h0 : Below w.heap.size w ((w.alloc (.cells ⟨[.slice A S.length ca]⟩ 24)).alloc (.cells ⟨[.slice none 0 0]⟩ 24)) := ((Below.refl _ _).alloc (Nat.le_refl _) _).alloc (by simp) _
  have hb0 : Blk ((w.alloc (.cells ⟨[.slice A S.length ca]⟩ 24)).alloc (.cells ⟨[.slice none 0 0]⟩ 24)) (w.heap.size + 1) 24 [.slice none 0 0] := Blk.new' (by simp)
  have kt : Calls Tryd.prog 20 #[.agg #[.slice A S.length ca], .slice B L.length cb] ((w.alloc (.cells ⟨[.slice A S.length ca]⟩ 24)).alloc (.cells ⟨[.slice none 0 0]⟩ 24)) (MdPost S L ((w.alloc (.cells ⟨[.slice A S.length ca]⟩ 24)).alloc (.cells ⟨[.slice none 0 0]⟩ 24))) :=
    made_k A B ca cb F G S L hS hL hC _ (hK.stay h0) (fun b h => Nat.lt_of_lt_of_le (hF b h) h0.size) (fun b h => Nat.lt_of_lt_of_le (hG b h) h0.size) (r.under h0 hF) (rc.under h0 hG)
  have hsch : ∀ (W : World) (B' g : Nat) (t : List Kd) (N : Nat), SmK t → DS W B' g t N → Calls Tryd.prog 21 #[.pointer (some ⟨g, 0, none⟩)] W (OSPost (t.map tdOf) W) := fun W B' g t N hm hDt => by
    obtain ⟨_, _, _, _, l', hD', rfl, _⟩ := hDt
    refine schema_k hD' (by have := hm.len; simp at this; omega) (fun p hp => by have := hm.fl p.1 (List.mem_map_of_mem hp); omega)
  replace h0 := Lib.hid h0
  replace hb0 := Lib.hid hb0
  replace kt := Lib.hid kt
  replace hsch := Lib.hid hsch
  clear hK hF hG r rc hC
  go_enter Tryd.func8, Tryd.ntmps8
  go_upto_region 2 with (go_at_call 20; refine kt.out.mono ?_; rintro e w' ⟨v, code, at_, T, rfl, hM, hT, hB1⟩)
  have hbx := hb0.out.stay hB1
  have hBw := h0.out.trans (hB1.mono h0.out.size)
  have f0 : w'.cell? ⟨w.heap.size + 1, 0, none⟩ = some (.slice none 0 0) := hbx.cell 0
  have f1 : w'.frozen? ⟨w.heap.size + 1, 0, none⟩ = false := hbx.frozen 0
  have hlt := hbx.lt
  replace hbx := Lib.hid hbx
  replace hBw := Lib.hid hBw
  by_cases hc : code = 0
  · subst hc
    obtain ⟨t, rfl, rfl⟩ := hM.ok
    obtain ⟨hm, g, rfl, hDS⟩ := hT t rfl
    have hm' := Lib.hid hm
    have hk := Lib.hid (hsch.out w' _ g t _ hm hDS)
    replace hM := Lib.hid hM
    clear hT hDS hm
    go_wp2_with (go_at_call 21; refine hk.out.mono ?_; rintro e w2 ⟨u, ls, rfl, hO, hls, hB2⟩; obtain ⟨U, cu, rfl⟩ := hO.kr.form; have f2 : w2.cell? ⟨w.heap.size + 1, 0, none⟩ = some (.slice none 0 0) := (hbx.out.stay hB2).cell 0; have f3 : w2.frozen? ⟨w.heap.size + 1, 0, none⟩ = false := (hbx.out.stay hB2).frozen 0)
    have e1 : Blk (w2.setCell ⟨w.heap.size + 1, 0, none⟩ (.slice U ls.length cu)) (w.heap.size + 1) 24 [.slice U ls.length cu] := (hbx.out.stay hB2).set_ 0 _
    have e2 : OSc (w2.setCell ⟨w.heap.size + 1, 0, none⟩ (.slice U ls.length cu)) w.heap.size (.slice U ls.length cu) ls := (hO.far (by show w.heap.size + 1 < _; omega)).base (by omega)
    have e3 : Below w.heap.size w (w2.setCell ⟨w.heap.size + 1, 0, none⟩ (.slice U ls.length cu)) := (hBw.out.trans (hB2.mono hBw.out.size)).setCell (by show _ ≤ w.heap.size + 1; omega) _
    exact bodyPost_cell3 rfl e1 aggSc rfl rfl rfl rfl ⟨_, _, _, _, ls, rfl, hM.out, (fun t' h => by injection h with h; subst h; exact hm'.out), e2, hls, e3⟩
  · have hne : (code == 0) = false := by simpa using hc
    obtain rfl := hM.no hc
    replace hM := Lib.hid hM
    clear hT hc
    go_wp2
    have e1 : Blk (w'.setCell ⟨w.heap.size + 1, 0, none⟩ (.slice none 0 0)) (w.heap.size + 1) 24 [.slice none 0 0] := hbx.out.set_ 0 _
    have e3 : Below w.heap.size w (w'.setCell ⟨w.heap.size + 1, 0, none⟩ (.slice none 0 0)) := hBw.out.setCell (by show _ ≤ w.heap.size + 1; omega) _
    exact bodyPost_cell3 rfl e1 aggSc rfl rfl rfl rfl ⟨_, _, _, _, [], rfl, hM.out, (fun t' h => by cases h), .nil _ _, rfl, e3⟩
end evW
end Go.Proofs.YtmadafejenjkcaaDoor
