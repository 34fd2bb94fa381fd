/- Matches as data; their copy and their comparison. -/
import Derived.Test.YtfnejelbacpheaaDrv
import Derived.Deep.QuietTactic
import Derived.BigQuiet
import Derived.Deep.RegionLaw
import Derived.Deep.DeepCutAuto
namespace Go.Proofs.Ytfnejelbacpheaa.cascadeDerivesW
open Go.RowKit Go.Deep
set_option linter.unusedVariables false

structure Mt where
  dec : Int
  names : List (Int × Int)
  lens : List Int
  vals : List (Bool × Int)

def nameD (x : Int × Int) : List D := [.v (.int .i64 x.1), .v (.int .u64 x.2)]
theorem nameD_pl (x : Int × Int) : PlainL (nameD x) := by intro d h; simp [nameD] at h; rcases h with rfl | rfl <;> exact ⟨_, rfl⟩
theorem valD_pl (x : Bool × Int) : PlainL (valD x) := by intro d h; simp [valD] at h; rcases h with rfl | rfl <;> exact ⟨_, rfl⟩
theorem intD_pl (k : IntKind) (x : Int) : PlainL (intD k x) := by intro d h; simp [intD] at h; exact ⟨_, h⟩
def Mt.d (m : Mt) : List D := [.v (.int .i64 m.dec), .sl m.names.length (m.names.flatMap nameD), .sl m.lens.length (m.lens.flatMap (intD .i64)), .sl m.vals.length (m.vals.flatMap valD)]

theorem el34 : ElT Try.prog 34 33 4 80 := .of Try.underlying34 (by kernel_rfl) (by omega)
theorem el29 : ElT Try.prog 29 70 2 16 := .of Try.underlying29 (by kernel_rfl) (by omega)
theorem el30 : ElT Try.prog 30 3 1 8 := .of Try.underlying30 (by kernel_rfl) (by omega)
theorem el31 : ElT Try.prog 31 44 2 16 := .of Try.underlying31 (by kernel_rfl) (by omega)

def Small (m : Mt) : Prop := m.names.length ≤ 1048576 ∧ m.lens.length ≤ 1048576 ∧ m.vals.length ≤ 1048576

/-- a copy that is being made: its block, the list of the copies that are done -/
def TS (w W : World) (g t e size : Nat) (cs : List Value) (ds : List D) (v : Value) (k : Nat) (done : List D) : Prop :=
  Blk W g t cs ∧ Below w.heap.size w W ∧ w.heap.size ≤ g ∧ OL W w.heap.size (fun b => w.heap.size ≤ b ∧ b ≠ g) e size v k done ∧ v.ownBlock ≠ some g ∧ RdL W (fun b => w.heap.size ≤ b ∧ b ≠ g ∧ some b ≠ v.ownBlock) cs ds

theorem TS.start {w wr : World} {t e size k : Nat} {cs : List Value} {ds done : List D} {v : Value} (hb : Below w.heap.size w wr) (hO : OL wr w.heap.size (fun b => w.heap.size ≤ b) e size v k done)
    (hc : RdL wr (fun b => w.heap.size ≤ b ∧ some b ≠ v.ownBlock) cs ds) : TS w (wr.alloc (.cells ⟨cs⟩ t)) wr.heap.size t e size cs ds v k done := by
  refine ⟨Blk.new _ _ _, hb.alloc hb.size _, hb.size, (hO.monoLt fun b h hlt => ⟨h, by omega⟩).alloc _, fun h => ?_, hc.imp fun u d hr => (hr.mono fun b h hlt => ⟨h.1, by omega, h.2⟩).alloc _⟩
  have := (hO.lt _ h).2
  omega

theorem TS.step {w W w1 : World} {g t e size k n e1 size1 : Nat} (j : Nat) {cs : List Value} {ds done dsn : List D} {v v1 : Value} (h : TS w W g t e size cs ds v k done) (hg : W.drew.grownBy w1 none)
    (hO : OL w1 w.heap.size (fun _ => False) e1 size1 v1 n dsn) (ha : v1.ownBlock = none ∨ v1.ownBlock = some W.heap.size) :
    TS w (w1.setCell ⟨g, j, none⟩ v1) g t e size (cs.set j v1) (ds.set j (.sl n dsn)) v k done := by
  obtain ⟨h1, h2, h3, h4, h5, h6⟩ := h
  have hg' : W.grownBy w1 none := ⟨hg.os, hg.tape, hg.output, hg.size, hg.block⟩
  have hgl := h1.lt
  have hk := h4.kept hg' (by cases v.ownBlock <;> simp) (fun _ _ => by simp)
  refine ⟨(h1.grown hg' (by simp)).set_ j v1, (h2.grown hg' h2.size (by simp)).setCell h3 _, h3, hk.setCell h5 (fun h => h.2 rfl) _, h5, ?_⟩
  refine RdL.set_ (h6.imp fun u d hr => (hr.grown hg' (fun b _ => by simp)).setCell (fun h => h.2.1 rfl) _) ?_ j
  have := hO.rd' (G := fun b => w.heap.size ≤ b ∧ b ≠ g ∧ some b ≠ v.ownBlock) (fun _ h => h.elim) (fun b he hB hlt => by
    rcases ha with e | e
    · rw [e] at he; cases he
    · rw [e] at he
      injection he with he
      refine ⟨hB, by omega, fun hv => ?_⟩
      have := (h4.lt b hv.symm).2
      omega)
  exact this.setCell (fun h => h.2.1 rfl) _

set_option maxHeartbeats 800000 in
theorem twin_any (A : Option Addr) (c : Nat) (F : Nat → Prop) (l : List Mt) (w : World) (hn : l.length ≤ 1048576) (hs : ∀ m ∈ l, Small m) (hF : ∀ b, F b → b < w.heap.size)
    (ra : Rd w F (.slice A l.length c) (.sl l.length (l.flatMap Mt.d))) :
    Calls Try.prog 13 #[.slice A l.length c] w fun e w' => ∃ v, e = .returned v ∧ Rd w' (fun b => w.heap.size ≤ b) v (.sl l.length (l.flatMap Mt.d)) ∧ Below w.heap.size w w' := by
  go_enter Try.func13, Try.ntmps13
  go_wp2
  go_loopw [3, 4, 5] (fun v i _ wr => ∃ k : Nat, k ≤ l.length ∧ i = .int .i64 k ∧ OL wr w.heap.size (fun b => w.heap.size ≤ b) 33 4 v k ((l.take k).flatMap Mt.d) ∧ Below w.heap.size w wr) (fun _ i _ _ => l.length - (intOf i).toNat)
  case atStart => exact ⟨0, Nat.zero_le _, rfl, .nil _ _ _ _ _, .refl _ _⟩
  case round =>
    obtain ⟨k, hk, rfl, hO, hb⟩ := hrel
    by_cases hlt : k < l.length
    · obtain ⟨m, hm⟩ := getx hlt
      obtain ⟨b, off, rfl, hFb, hv, hsl⟩ := ra.rowv (m := 4) (fun _ => rfl) hm (by omega)
      have hfB := hF b hFb
      have c0 : wr.cell? ⟨b, off + k * 4, none⟩ = some (.int .i64 m.dec) := (hb.cell (p := ⟨b, off + k * 4, none⟩) hfB).trans (hv 0 _ rfl)
      obtain ⟨A1, c1, h1, r1⟩ := hsl 1 _ _ rfl
      obtain ⟨A2, c2, h2, r2⟩ := hsl 2 _ _ rfl
      obtain ⟨A3, c3, h3, r3⟩ := hsl 3 _ _ rfl
      replace h1 := Lib.hid h1
      replace h2 := Lib.hid h2
      replace h3 := Lib.hid h3
      have hbn : (0 : Int) ≤ k := by omega
      have hbn' : (k : Int) < l.length := by omega
      have pn := PlainL.flatMap nameD_pl m.names
      have pv := PlainL.flatMap valD_pl m.vals
      have pl := PlainL.flatMap (intD_pl .i64) m.lens
      have hl1 : (m.names.flatMap nameD).length = m.names.length * 2 := flatMap_length (f := nameD) (m := 2) (fun _ => rfl) _
      have hl2 : (m.lens.flatMap (intD .i64)).length = m.lens.length * 1 := flatMap_length (f := intD .i64) (m := 1) (fun _ => rfl) _
      have hl3 : (m.vals.flatMap valD).length = m.vals.length * 2 := flatMap_length (f := valD) (m := 2) (fun _ => rfl) _
      have hsm := hs m (List.mem_of_getElem? hm)
      unfold Small at hsm
      obtain ⟨s1, s2, s3⟩ := hsm
      clear hv hsl
      go_upto_region 6 with fail
      have T0 := TS.start (t := 33) (cs := [.int .i64 m.dec, .slice none 0 0, .slice none 0 0, .slice none 0 0]) (ds := [.v (.int .i64 m.dec), .sl 0 [], .sl 0 [], .sl 0 []]) hb hO ⟨.v _ rfl, .nil _ _, .nil _ _, .nil _ _, trivial⟩
      clear hO hb c0
      generalize wr.alloc (.cells ⟨[.int .i64 m.dec, .slice none 0 0, .slice none 0 0, .slice none 0 0]⟩ 33) = W at *
      generalize wr.heap.size = g at *
      go_cut [] (fun wx => ∃ v1, TS w wx g 33 33 4 [.int .i64 m.dec, v1, .slice none 0 0, .slice none 0 0] [.v (.int .i64 m.dec), .sl m.names.length (m.names.flatMap nameD), .sl 0 [], .sl 0 []] u3 k ((l.take k).flatMap Mt.d))
      case first =>
        have hx : W.cell? ⟨b, off + k * 4 + 1, none⟩ = some (.slice A1 m.names.length c1) := (T0.2.1.cell (p := ⟨b, off + k * 4 + 1, none⟩) hfB).trans h1.out
        have hz : W.cell? ⟨g, 1, none⟩ = some (.slice none 0 0) := T0.1.cell 1
        have y := r1.under (T0.2.1) hF
        have hB := T0.2.1.size
        replace T0 := Lib.hid T0
        clear hs r1 r2 r3 ra hm
        go_region_law ((refine step_app (by rfl) (.tmp 19) (.tmp 24) _ (by rfl) (m := m.names.length) (news := m.names.flatMap nameD) el29 (OL.nil _ w.heap.size (fun _ => False) 70 2) (by rfl) (by rfl) (Rd.srcq pn (by exact y.drew)) hl1 (by omega) (by omega) (by exact hB) ?_; intro v1 w1 hO1 hg1 ha1; obtain ⟨B1, d1, rfl⟩ := hO1.form; have t1 : w1.cell? ⟨g, 1, none⟩ = some (.slice none 0 0) := (T0.out.1.grown (row := none) ⟨hg1.os, hg1.tape, hg1.output, hg1.size, hg1.block⟩ (by simp)).cell 1; have t2 : w1.frozen? ⟨g, 1, none⟩ = false := (T0.out.1.grown (row := none) ⟨hg1.os, hg1.tape, hg1.output, hg1.size, hg1.block⟩ (by simp)).frozen 1))
        all_goals
          go_wp2_with fail
          go_meet
          exact ⟨_, by simpa using T0.out.step 1 hg1 hO1 ha1⟩
      case rest =>
        obtain ⟨v1, T1⟩ := hcut
        go_upto_region 7 with fail
        go_cut [] (fun wx => ∃ v2, TS w wx g 33 33 4 [.int .i64 m.dec, v1, v2, .slice none 0 0] [.v (.int .i64 m.dec), .sl m.names.length (m.names.flatMap nameD), .sl m.lens.length (m.lens.flatMap (intD .i64)), .sl 0 []] u3 k ((l.take k).flatMap Mt.d))
        case first =>
          have hx : wc.cell? ⟨b, off + k * 4 + 2, none⟩ = some (.slice A2 m.lens.length c2) := (T1.2.1.cell (p := ⟨b, off + k * 4 + 2, none⟩) hfB).trans h2.out
          have hz : wc.cell? ⟨g, 2, none⟩ = some (.slice none 0 0) := T1.1.cell 2
          have y := r2.under (T1.2.1) hF
          have hB := T1.2.1.size
          replace T1 := Lib.hid T1
          clear hs r1 r2 r3 ra hm
          go_region_law ((refine step_app (by rfl) (.tmp 28) (.tmp 33) _ (by rfl) (m := m.lens.length) (news := m.lens.flatMap (intD .i64)) el30 (OL.nil _ w.heap.size (fun _ => False) 3 1) (by rfl) (by rfl) (Rd.srcq pl (by exact y.drew)) hl2 (by omega) (by omega) (by exact hB) ?_; intro v1 w1 hO1 hg1 ha1; obtain ⟨B1, d1, rfl⟩ := hO1.form; have t1 : w1.cell? ⟨g, 2, none⟩ = some (.slice none 0 0) := (T1.out.1.grown (row := none) ⟨hg1.os, hg1.tape, hg1.output, hg1.size, hg1.block⟩ (by simp)).cell 2; have t2 : w1.frozen? ⟨g, 2, none⟩ = false := (T1.out.1.grown (row := none) ⟨hg1.os, hg1.tape, hg1.output, hg1.size, hg1.block⟩ (by simp)).frozen 2))
          all_goals
            go_wp2_with fail
            go_meet
            exact ⟨_, by simpa using T1.out.step 2 hg1 hO1 ha1⟩
        case rest =>
          obtain ⟨v2, T2⟩ := hcut
          go_upto_region 8 with fail
          go_cut [] (fun wx => ∃ v3, TS w wx g 33 33 4 [.int .i64 m.dec, v1, v2, v3] [.v (.int .i64 m.dec), .sl m.names.length (m.names.flatMap nameD), .sl m.lens.length (m.lens.flatMap (intD .i64)), .sl m.vals.length (m.vals.flatMap valD)] u3 k ((l.take k).flatMap Mt.d))
          case first =>
            have hx : wc.cell? ⟨b, off + k * 4 + 3, none⟩ = some (.slice A3 m.vals.length c3) := (T2.2.1.cell (p := ⟨b, off + k * 4 + 3, none⟩) hfB).trans h3.out
            have hz : wc.cell? ⟨g, 3, none⟩ = some (.slice none 0 0) := T2.1.cell 3
            have y := r3.under (T2.2.1) hF
            have hB := T2.2.1.size
            replace T2 := Lib.hid T2
            clear hs r1 r2 r3 ra hm
            go_region_law ((refine step_app (by rfl) (.tmp 37) (.tmp 42) _ (by rfl) (m := m.vals.length) (news := m.vals.flatMap valD) el31 (OL.nil _ w.heap.size (fun _ => False) 44 2) (by rfl) (by rfl) (Rd.srcq pv (by exact y.drew)) hl3 (by omega) (by omega) (by exact hB) ?_; intro v1 w1 hO1 hg1 ha1; obtain ⟨B1, d1, rfl⟩ := hO1.form; have t1 : w1.cell? ⟨g, 3, none⟩ = some (.slice none 0 0) := (T2.out.1.grown (row := none) ⟨hg1.os, hg1.tape, hg1.output, hg1.size, hg1.block⟩ (by simp)).cell 3; have t2 : w1.frozen? ⟨g, 3, none⟩ = false := (T2.out.1.grown (row := none) ⟨hg1.os, hg1.tape, hg1.output, hg1.size, hg1.block⟩ (by simp)).frozen 3))
            all_goals
              go_wp2_with fail
              go_meet
              exact ⟨_, by simpa using T2.out.step 3 hg1 hO1 ha1⟩
          case rest =>
            obtain ⟨v3, T3⟩ := hcut
            have hb := T3.2.1
            have q0 : wc.cell? ⟨g, 0, none⟩ = some (.int .i64 m.dec) := T3.1.cell 0
            have q1 : wc.cell? ⟨g, 1, none⟩ = some v1 := T3.1.cell 1
            have q2 : wc.cell? ⟨g, 2, none⟩ = some v2 := T3.1.cell 2
            have q3 : wc.cell? ⟨g, 3, none⟩ = some v3 := T3.1.cell 3
            have htk : (l.take (k + 1)).flatMap Mt.d = (l.take k).flatMap Mt.d ++ m.d := by rw [List.take_add_one, hm]; simp
            obtain ⟨_, _, hB, hO, _, hL⟩ := T3
            have hL' : RdL wc (fun b => (w.heap.size ≤ b ∧ b ≠ g) ∧ some b ≠ u3.ownBlock) [.int .i64 m.dec, v1, v2, v3] m.d := hL.imp fun u d h => h.mono fun b h _ => ⟨⟨h.1, h.2.1⟩, h.2.2⟩
            replace htk := Lib.hid htk
            replace hL' := Lib.hid hL'
            clear hL hs ra hm r1 r2 r3
            have hmd : m.d.length = 1 * 4 := rfl
            go_wp2_with (at_builtin; refine wpList_app rfl (.tmp 45) (.tmp 47) _ rfl (m := 1) (news := m.d) el34 (hO.alloc _) rfl rfl (Src.lit hL'.out) hmd (by omega) (by omega) (by simp; have := hb.size; omega) ?_; intro v' w' hO' hg ha)
            go_roundw
            case rel => exact ⟨k + 1, by omega, by go_num, by rw [htk.out]; exact hO'.mono fun b h => h.1, (hb.alloc hb.size _).grown hg (by simp; have := hb.size; omega) (fun q hq => (hO.lt q hq).1)⟩
            case measure => simp [intOf]; omega
    · have hkk : k = l.length := by omega
      subst hkk
      rw [List.take_length] at hO
      go_wp2
      go_ret
      exact ⟨_, rfl, hO.rd (fun _ h _ => h) (fun _ h _ => h), hb⟩
end Go.Proofs.Ytfnejelbacpheaa.cascadeDerivesW
