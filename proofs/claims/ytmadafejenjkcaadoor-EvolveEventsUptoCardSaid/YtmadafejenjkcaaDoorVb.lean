/- The document's answer for changed schemas: the schema behind a row of changes. -/
import Derived.Test.YtmadafejenjkcaaDoorVa
namespace Go.Proofs.YtmadafejenjkcaaDoor
open Go.RowKit Go.Deep
set_option linter.unusedVariables false

def rlT (T : Option (List Kd)) : List Td := (T.getD []).map tdOf
/-- the schema (nothing beside an error), the error, its change -/
def SRPost (S : List Td) (L : List Cg) (w : World) (e : Ending) (w' : World) : Prop := ∃ v code at_ T, e = .returned (.tuple #[.agg #[v], .int .i64 code, .int .i64 at_]) ∧ MdIs S L T code at_ ∧
  (∀ t, T = some t → SmK t) ∧ Rd w' (fun b => w.heap.size ≤ b ∧ b < w'.heap.size) v (.sl (rlT T).length ((rlT T).flatMap tdD)) ∧ Below w.heap.size w w'
theorem MdIs.ok {S : List Td} {L : List Cg} {T : Option (List Kd)} {a : Int} (h : MdIs S L T 0 a) : ∃ t, T = some t ∧ a = 0 := by
  rcases h with ⟨h1, _, h2, _⟩ | ⟨_, _, _, h2, _⟩ | ⟨_, _, k, _, _, _, _, h2, _⟩ | ⟨_, _, _, h1, _, h2⟩
  · exact absurd h2.symm h1
  · cases h2
  · cases h2
  · exact ⟨_, h1, h2⟩
theorem MdIs.no {S : List Td} {L : List Cg} {T : Option (List Kd)} {c a : Int} (h : MdIs S L T c a) (hc : c ≠ 0) : T = none := by
  rcases h with ⟨h1, h2, _⟩ | ⟨_, _, h2, _, _⟩ | ⟨_, _, k, _, _, _, h2, _⟩ | ⟨_, _, _, _, h2, _⟩
  · exact h2
  · exact h2
  · exact h2
  · exact absurd h2 hc
namespace evW
open nmW
set_option maxRecDepth 100000 in
set_option maxHeartbeats 2000000 in
theorem refSchema_k (A B : Option Addr) (ca cb : Nat) (F G : Nat → Prop) (S : List Td) (L : List Cg) (hS : SzT S) (hL : L.length ≤ 1048576) (hC : ∀ c ∈ L, SzC c) (w : World) (hK : KwIs w) (hF : ∀ b, F b → b < w.heap.size) (hG : ∀ b, G b → b < w.heap.size)
    (r : Rd w F (.slice A S.length ca) (.sl S.length (S.flatMap tdD))) (rc : Rd w G (.slice B L.length cb) (.sl L.length (L.flatMap cgD))) :
    Calls Tryd.prog 9 #[.agg #[.slice A S.length ca], .slice B L.length cb] w (SRPost S L w) := by
  have h0 : Below w.heap.size w ((w.alloc (.cells ⟨[.slice A S.length ca]⟩ 24)).alloc (.cells ⟨[.slice none 0 0]⟩ 24)) := ((Below.refl _ _).alloc (Nat.le_refl _) _).alloc (by simp) _
  have hb0 : Blk ((w.alloc (.cells ⟨[.slice A S.length ca]⟩ 24)).alloc (.cells ⟨[.slice none 0 0]⟩ 24)) (w.heap.size + 1) 24 [.slice none 0 0] := Blk.new' (by simp)
  have kt : Calls Tryd.prog 22 #[.agg #[.slice A S.length ca], .slice B L.length cb] ((w.alloc (.cells ⟨[.slice A S.length ca]⟩ 24)).alloc (.cells ⟨[.slice none 0 0]⟩ 24)) (TbPost S L ((w.alloc (.cells ⟨[.slice A S.length ca]⟩ 24)).alloc (.cells ⟨[.slice none 0 0]⟩ 24))) :=
    table_k A B ca cb F G S L hS hL hC _ (hK.stay h0) (fun b h => Nat.lt_of_lt_of_le (hF b h) h0.size) (fun b h => Nat.lt_of_lt_of_le (hG b h) h0.size) (r.under h0 hF) (rc.under h0 hG)
  have kp : ∀ (W : World) (l : List Kd) (v : Value), SmK l → Rd W (fun b => b < W.heap.size) v (.sl l.length (l.flatMap kdD)) → Calls Tryd.prog 23 #[v] W (ScPost (l.map tdOf) W) := fun W l v h1 ra => by
    obtain ⟨A', c', rfl, _⟩ := ra.sl_inv
    exact plain_k A' c' _ l h1.szK W (fun _ h => h) ra
  replace h0 := Lib.hid h0
  replace hb0 := Lib.hid hb0
  replace kt := Lib.hid kt
  replace kp := Lib.hid kp
  clear hK hF hG r rc hC
  go_enter Tryd.func9, Tryd.ntmps9
  go_upto_region 2 with (go_at_call 22; refine kt.out.mono ?_; rintro e w' ⟨v, code, at_, T, rfl, hM, hT, hB1⟩)
  have hbx := hb0.out.stay hB1
  have hBw := h0.out.trans (hB1.mono h0.out.size)
  have f0 : w'.cell? ⟨w.heap.size + 1, 0, none⟩ = some (.slice none 0 0) := hbx.cell 0
  have f1 : w'.frozen? ⟨w.heap.size + 1, 0, none⟩ = false := hbx.frozen 0
  have hlt := hbx.lt
  replace hbx := Lib.hid hbx
  replace hBw := Lib.hid hBw
  by_cases hc : code = 0
  · subst hc
    obtain ⟨t, rfl, rfl⟩ := hM.ok
    obtain ⟨hm, hR⟩ := hT t rfl
    have hm' := Lib.hid hm
    have hk := Lib.hid (kp.out w' t v hm hR)
    replace hM := Lib.hid hM
    clear hT hR hm
    go_wp2_with (go_at_call 23; refine hk.out.mono ?_; rintro e w2 ⟨u, rfl, hO, hB2⟩; obtain ⟨U, cu, rfl⟩ := hO.form; have f2 : w2.cell? ⟨w.heap.size + 1, 0, none⟩ = some (.slice none 0 0) := (hbx.out.stay hB2).cell 0; have f3 : w2.frozen? ⟨w.heap.size + 1, 0, none⟩ = false := (hbx.out.stay hB2).frozen 0)
    rw [List.length_map] at hO
    have e1 : Blk (w2.setCell ⟨w.heap.size + 1, 0, none⟩ (.slice U t.length cu)) (w.heap.size + 1) 24 [.slice U t.length cu] := (hbx.out.stay hB2).set_ 0 _
    have e2 : Rd (w2.setCell ⟨w.heap.size + 1, 0, none⟩ (.slice U t.length cu)) (fun b => w.heap.size ≤ b ∧ b < (w2.setCell ⟨w.heap.size + 1, 0, none⟩ (.slice U t.length cu)).heap.size) (.slice U t.length cu) (.sl (rlT (some t)).length ((rlT (some t)).flatMap tdD)) := by
      have hO2 := hO.setCell (p := ⟨w.heap.size + 1, 0, none⟩) (fun e => by have := (hO.lt _ e).1; simp at this; omega) (by show ¬ (w'.heap.size ≤ w.heap.size + 1 ∧ _); omega) (.slice U t.length cu)
      rw [show (rlT (some t)).length = t.length from List.length_map ..]
      exact hO2.rd (fun b h1 h => ⟨by omega, h⟩) (fun b h1 h => ⟨by omega, h⟩)
    have e3 : Below w.heap.size w (w2.setCell ⟨w.heap.size + 1, 0, none⟩ (.slice U t.length cu)) := (hBw.out.trans (hB2.mono hBw.out.size)).setCell (by show _ ≤ w.heap.size + 1; omega) _
    exact bodyPost_cell3 rfl e1 aggSc rfl rfl rfl rfl ⟨_, _, _, _, rfl, hM.out, fun t' h => (by injection h with h; subst h; exact hm'.out), e2, e3⟩
  · have hne : (code == 0) = false := by simpa using hc
    obtain rfl := hM.no hc
    replace hM := Lib.hid hM
    clear hT hc
    go_wp2
    have e1 : Blk (w'.setCell ⟨w.heap.size + 1, 0, none⟩ (.slice none 0 0)) (w.heap.size + 1) 24 [.slice none 0 0] := hbx.out.set_ 0 _
    have e3 : Below w.heap.size w (w'.setCell ⟨w.heap.size + 1, 0, none⟩ (.slice none 0 0)) := hBw.out.setCell (by show _ ≤ w.heap.size + 1; omega) _
    exact bodyPost_cell3 rfl e1 aggSc rfl rfl rfl rfl ⟨_, _, _, _, rfl, hM.out, fun t' h => (by cases h), Rd.nil _ _, e3⟩
end evW
end Go.Proofs.YtmadafejenjkcaaDoor
