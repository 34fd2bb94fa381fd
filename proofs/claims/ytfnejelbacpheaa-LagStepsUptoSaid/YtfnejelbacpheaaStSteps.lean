/- lag.Steps answers the plain steps. -/
import Derived.Test.YtfnejelbacpheaaStEach
namespace Go.Proofs.Ytfnejelbacpheaa
open Go.RowKit Go.Deep Go.Shelf
attribute [local go_sem] Oper.semAt_some
set_option linter.unusedVariables false

def StPost (n : Int) (l : List Ev) (w : World) (e : Ending) (w' : World) : Prop :=
  ∃ (v : Value) (S : List St) (code : Int), e = .returned (.tuple #[v, .int .i64 code]) ∧ StepsIs n l S code ∧ OL w' w.heap.size (fun _ => False) 65 13 v S.length (S.flatMap stD) ∧ Below w.heap.size w w'
theorem OL.base {w : World} {B B' : Nat} {F : Nat → Prop} {e size n : Nat} {v : Value} {ds : List D} (h : OL w B F e size v n ds) (hB : B' ≤ B) : OL w B' F e size v n ds := by
  obtain ⟨cells, ⟨h1, h2⟩, h3⟩ := h
  exact ⟨cells, ⟨h1, h2.imp id (fun ⟨g, cap, cur, e, hb, r⟩ => ⟨g, cap, cur, e, Nat.le_trans hB hb, r⟩)⟩, h3⟩
theorem OL.cells {w : World} {B e size n : Nat} {F : Nat → Prop} {v : Value} {ds : List D} (h : OL w B F e size v n ds) {k : Nat} (hk : v.ownBlock = some k) : ∃ cur, w.heap[k]? = some (.cells cur e (0, 0)) := by
  obtain ⟨cells, ⟨_, h2⟩, _⟩ := h
  rcases h2 with ⟨rfl, _⟩ | ⟨g, cap, cur, rfl, _, hg, _⟩
  · cases hk
  · obtain rfl : g = k := by simpa [Value.ownBlock] using hk
    exact ⟨_, hg⟩

/-- the arm of a fenced walk: append onto a slice of the call's own -/
theorem wpListIn_app {Fe : Fence} {fu : Nat} {P : Program} {w : World} {ops : Array Oper} {rest : List Oper} {o : Oper} {a : Act} {Q : Exit → Act → World → Prop} (hgd : o.guard = none) (s x : Operand) (t : TypeId)
    (ho : o.op = .call { callee := .builtin .append, args := #[s, x], argTypes := #[t, t] })
    {B e size bytes n m c : Nat} {F : Nat → Prop} {v : Value} {ds news : List D} {A : Option Addr} (T : ElT P t e size bytes) (hown : OL w B F e size v n ds) (hs : a.eval s = v) (hx : a.eval x = .slice A m c)
    (hsrc : Src w A news (fun b => F b ∧ some b ≠ v.ownBlock)) (hl : news.length = m * size) (hn : n + m ≤ 4294967296) (hb : bytes ≤ 32768) (hB : B ≤ w.heap.size)
    (h : ∀ v' w', OL w' B F e size v' (n + m) (ds ++ news) → w.grownBy w' v.ownBlock → (v'.ownBlock = v.ownBlock ∨ v'.ownBlock = some w.heap.size) → wpListIn Fe fu P ops Q rest (a.put o.dst v') w') : wpListIn Fe fu P ops Q (o :: rest) a w := by
  refine wpListIn_plain hgd fun K hK' => ?_
  obtain ⟨v', w', hrun, h2, h3, h4⟩ := run_app (P := P) (ty := o.type) T hown hsrc hl hn hb hB (c := c)
  unfold Oper.wpIn
  refine ⟨?_, ?_⟩
  · simp [Oper.about, ho, resolve, Target.leads, Sem.run_pure]
  · rw [Oper.semAt_plain Fe _ _ (by rw [ho]; intro c hc'; cases hc')]
    simp only [execOp, ho, resolve, invoke, builtin, Sem.run_bind, Sem.run_pure, Result.andThen_ok, List.map_toArray, List.map_cons, List.map_nil, hs, hx, hrun]
    exact hK' _ _ (h v' w' h2 h3 h4)

def stA (s : St) : Array Value := #[.bool s.im, .int .i64 s.mr, .int .i64 s.ev.ts, .int .u64 s.ev.id, .int .i64 s.ev.typ, .int .i64 s.ev.a0, .int .i64 s.ev.a1, .int .i64 s.ev.a2, .int .i64 s.ev.a3, .int .i64 s.ev.a4, .int .i64 s.ev.a5, .int .i64 s.ev.a6, .int .i64 s.ev.a7]
theorem stA_eq (s : St) : (⟨stV s⟩ : Array Value) = stA s := rfl

namespace stW
open lagW
theorem each_k (g : Nat) (A : Option Addr) (m c : Nat) (w : World) : Calls Try.prog 32 #[.pointer (some ⟨g, 0, none⟩), .slice A m c] w fun e w' =>
    e = .returned (.func (.func 33) #[] #[.pointer (some ⟨w.heap.size + 1, 0, none⟩), .pointer (some ⟨w.heap.size, 0, none⟩)]) ∧ w' = (w.alloc (.cells #[.pointer (some ⟨g, 0, none⟩)] 46)).alloc (.cells #[.slice A m c] 57) := by
  go_enter Try.func32, Try.ntmps32
  go_wp2
  go_ret
  exact ⟨rfl, rfl⟩

theorem steps_bad (n : Int) (A : Option Addr) (c : Nat) (l : List Ev) (w : World) (h : n < 0 ∨ (0 ≤ n ∧ 1099511627776 < n)) : Calls Try.prog 25 #[.int .i64 n, .slice A l.length c] w (StPost n l w) := by
  have hn := Lib.hid (new_bad n w h)
  have hp : StPost n l w (.returned (.tuple #[.slice none 0 0, .int .i64 200])) w := ⟨_, [], _, rfl, .inl ⟨by omega, rfl, rfl⟩, .nil _ _ _ _ _, .refl _ _⟩
  replace hp := Lib.hid hp
  clear h
  go_enter Try.func25, Try.ntmps25
  go_wp2_with (go_at_call 17; refine hn.out.mono ?_; rintro e w' ⟨rfl, rfl⟩)
  go_ret2
  exact hp.out

set_option maxRecDepth 100000 in
set_option maxHeartbeats 1000000 in
theorem steps_ok (n : Int) (A : Option Addr) (c : Nat) (F : Nat → Prop) (l : List Ev) (w : World) (hl : l.length ≤ 1048576) (h0 : 0 ≤ n) (h1 : n ≤ 1099511627776) (hF : ∀ b, F b → b < w.heap.size) (r : Rd w F (.slice A l.length c) (.sl l.length (l.flatMap evD))) :
    Calls Try.prog 25 #[.int .i64 n, .slice A l.length c] w (StPost n l w) := by
  refine (callsIn_wide (n := 10)).1 ?_
  have k1 : ∀ q, CallsIn Fence.wide q Try.prog 17 #[.int .i64 n] w _ := fun q => callsIn_wide.2 (new_ok n w h0 h1)
  refine callsIn_of_wp_marks Try.func25 rfl trivial ?_ rfl
  simp only [Try.ntmps25, List.size_toArray, List.length_cons, List.length_nil, Nat.reduceAdd, Nat.reduceSub, Array.replicate_succ, Array.replicate_zero, List.push_toArray, List.append_toArray, List.nil_append, List.cons_append]
  gi_wp2
  refine ⟨trivial, (k1 _).mono ?_⟩
  rintro e W ⟨rfl, rfl⟩
  gi_wp2
  refine ⟨trivial, (callsIn_wide.2 (each_k _ _ _ _ _)).mono ?_⟩
  rintro e W ⟨rfl, rfl⟩
  gi_wp2
  generalize hW0 : (((w.alloc (.cells #[.int .i64 n, .int .i64 0, .bool false] 72)).alloc (.cells #[.slice none 0 0] 60)).alloc (.cells #[.pointer (some ⟨w.heap.size, 0, none⟩)] 46)).alloc (.cells #[.slice A l.length c] 57) = W0
  have hsz : W0.heap.size = w.heap.size + 1 + 1 + 1 + 1 := by rw [← hW0]; simp
  have hB0 : Below w.heap.size w W0 := by rw [← hW0]; exact ((((Below.refl _ _).alloc (Nat.le_refl _) _).alloc (by simp) _).alloc (by simp; omega) _).alloc (by simp; omega) _
  have bg : Blk W0 w.heap.size 72 [.int .i64 n, .int .i64 0, .bool false] := by rw [← hW0]; exact (((Blk.new _ _ _).alloc _).alloc _).alloc _
  have bo : Blk W0 (w.heap.size + 1) 60 [.slice none 0 0] := by rw [← hW0]; exact ((Blk.new' (by simp)).alloc _).alloc _
  have bl : Blk W0 (w.heap.size + 1 + 1) 46 [.pointer (some ⟨w.heap.size, 0, none⟩)] := by rw [← hW0]; exact (Blk.new' (by simp)).alloc _
  have be : Blk W0 (w.heap.size + 1 + 1 + 1) 57 [.slice A l.length c] := by rw [← hW0]; exact Blk.new' (by simp)
  have hE : EA W0 W0 (w.heap.size + 1 + 1 + 1) (w.heap.size + 1 + 1) w.heap.size (w.heap.size + 1) (w.heap.size + 1 + 1 + 1 + 1) A c l n 0 F := ⟨be, bl, bg, r.under hB0 hF⟩
  clear hW0 k1
  refine wpIn_rangeFuncG rfl (by omega) (gf := 33) (lb := #[.pointer (some ⟨w.heap.size + 1 + 1 + 1, 0, none⟩), .pointer (some ⟨w.heap.size + 1 + 1, 0, none⟩)]) rfl trivial (enters_of Try.func33 (by kernel_rfl) rfl)
    (G := fun k => k = w.heap.size) (fun k hk => by omega)
    (each_seq (w.heap.size + 1 + 1 + 1) (w.heap.size + 1 + 1) w.heap.size (w.heap.size + 1) (w.heap.size + 1 + 1 + 1 + 1) 9 A c l n F W0 (by omega) hl h0 h1 ⟨by omega, by omega, by omega⟩ ⟨by omega, by omega, by omega⟩ ⟨by omega, by omega⟩ (fun b hb => by have := hF b hb; omega) (by omega) (by omega) hE)
    KpS.t (fun W l o o' h1 h2 h3 _ => KpS.b W l o o' (by omega) h2 h3) (fun _ => rfl)
    (fun pre W => (∃ v, Blk W (w.heap.size + 1) 60 [v] ∧ OL W (w.heap.size + 1 + 1 + 1 + 1) (fun _ => False) 65 13 v pre.length (pre.flatMap stD)) ∧ Below w.heap.size w W ∧ w.heap.size + 1 + 1 + 1 + 1 ≤ W.heap.size)
    ?hI ?hIG ⟨⟨_, bo, .nil _ _ _ _ _⟩, hB0, by omega⟩
    (fun x a' W => ∃ p, Blk W p 65 (stV x) ∧ w.heap.size + 1 + 1 + 1 + 1 ≤ p ∧ a' = { tmps := #[.int .i64 n, .slice A l.length c, undef, undef, .slice none 0 0, .int .i64 0, .pointer (some ⟨w.heap.size, 0, none⟩), .int .i64 0, .pointer (some ⟨w.heap.size + 1, 0, none⟩), .pointer (some ⟨p, 0, none⟩),
      .tuple #[.pointer (some ⟨w.heap.size, 0, none⟩), .int .i64 0], .int .i64 n, .tuple #[.pointer (some ⟨w.heap.size, 0, none⟩), .int .i64 0], .pointer (some ⟨w.heap.size, 0, none⟩), .int .i64 0, .int .i64 0, .bool false, undef, .pointer (some ⟨w.heap.size, 0, none⟩), .slice A l.length c,
      .func (.func 33) #[] #[.pointer (some ⟨w.heap.size + 1 + 1 + 1, 0, none⟩), .pointer (some ⟨w.heap.size + 1 + 1, 0, none⟩)], .agg ⟨stV x⟩, undef, undef, undef, undef, undef], defers := [] })
    ?hAx ?assign ?body ?done
  case hI =>
    rintro s W W' row ⟨⟨v, hb, hO⟩, hB, hs⟩ hg hr
    have hne : ∀ k, (∃ o : Obj, W.heap[k]? = some o ∧ o.isCells = true) → some k ≠ row := fun k ⟨o, ho, hc⟩ e => by
      obtain ⟨_, o', ho', hc'⟩ := hr k e.symm
      rw [ho] at ho'
      injection ho' with ho'
      subst ho'
      rw [hc] at hc'
      cases hc'
    refine ⟨⟨v, hb.grown hg (hne _ ⟨_, hb, rfl⟩), hO.kept hg ?_ (fun _ h => h.elim)⟩, hB.grown hg hB.size (fun k hk => by have := (hr k hk).1; omega), Nat.le_trans hs hg.size⟩
    by_cases hv : v.ownBlock = none
    · exact .inl hv
    · obtain ⟨k, hk⟩ := Option.ne_none_iff_exists'.1 hv
      rw [hk]
      obtain ⟨cur, hcur⟩ := hO.cells hk
      exact .inr (hne k ⟨_, hcur, rfl⟩)
  case hIG =>
    rintro s W W' ⟨⟨v, hb, hO⟩, hB, hs⟩ hc
    exact ⟨⟨v, hb.chg hc (by omega), hO.chg hc (fun b hb h => by have := (hO.lt b hb).1; omega) (fun _ h => h.elim)⟩, hB.trans (hc.below hB.size (fun k hk h => by omega)), Nat.le_trans hs hc.size⟩
  case hAx =>
    rintro x a' W lq o' o'' h1 h2 h3 ⟨p, hp, hp2, rfl⟩
    refine ⟨p, hp.grown (grownBy_putObj' W lq o'') (fun e => ?_), hp2, rfl⟩
    injection e with e
    subst e
    unfold Blk at hp
    rw [h2] at hp
    injection hp with hp
    subst hp
    cases h3
  case assign =>
    rintro lq pre x W K ⟨⟨v, hb, hO⟩, hB, hs⟩ hK
    have hfin := hK { tmps := #[.int .i64 n, .slice A l.length c, undef, undef, .slice none 0 0, .int .i64 0, .pointer (some ⟨w.heap.size, 0, none⟩), .int .i64 0, .pointer (some ⟨w.heap.size + 1, 0, none⟩), .pointer (some ⟨W.heap.size, 0, none⟩),
      .tuple #[.pointer (some ⟨w.heap.size, 0, none⟩), .int .i64 0], .int .i64 n, .tuple #[.pointer (some ⟨w.heap.size, 0, none⟩), .int .i64 0], .pointer (some ⟨w.heap.size, 0, none⟩), .int .i64 0, .int .i64 0, .bool false, undef, .pointer (some ⟨w.heap.size, 0, none⟩), .slice A l.length c,
      .func (.func 33) #[] #[.pointer (some ⟨w.heap.size + 1 + 1 + 1, 0, none⟩), .pointer (some ⟨w.heap.size + 1 + 1, 0, none⟩)], .agg ⟨stV x⟩, undef, undef, undef, undef, undef], defers := [] } (W.alloc (.cells ⟨stV x⟩ 65)) (KeepsOthers.alloc _ _) ((Chg.of_below ((Below.refl _ _).alloc (Nat.le_refl _) _)).mono fun _ _ h => h.elim)
      ⟨⟨v, hb.alloc _, hO.alloc _⟩, hB.alloc hB.size _, by simp; omega⟩ ⟨W.heap.size, Blk.new _ _ _, hs, rfl⟩
    rw [stA_eq] at hfin ⊢
    simp only [stA] at hfin ⊢
    clear hK
    gi_wp2
    exact hfin
  case body =>
    rintro lq pre x a' W ⟨⟨v, hb, hO⟩, hB, hs⟩ hlen ⟨p, hp, hps, rfl⟩
    obtain ⟨U, cu, rfl⟩ := hO.form
    have y0 : W.cell? ⟨w.heap.size + 1, 0, none⟩ = some (.slice U pre.length cu) := hb.cell 0
    have x0 : W.cell? ⟨p, 0, none⟩ = some (.bool x.im) := hp.cell 0
    have x1 : W.cell? ⟨p, 1, none⟩ = some (.int .i64 x.mr) := hp.cell 1
    have x2 : W.cell? ⟨p, 2, none⟩ = some (.int .i64 x.ev.ts) := hp.cell 2
    have x3 : W.cell? ⟨p, 3, none⟩ = some (.int .u64 x.ev.id) := hp.cell 3
    have x4 : W.cell? ⟨p, 4, none⟩ = some (.int .i64 x.ev.typ) := hp.cell 4
    have x5 : W.cell? ⟨p, 5, none⟩ = some (.int .i64 x.ev.a0) := hp.cell 5
    have x6 : W.cell? ⟨p, 6, none⟩ = some (.int .i64 x.ev.a1) := hp.cell 6
    have x7 : W.cell? ⟨p, 7, none⟩ = some (.int .i64 x.ev.a2) := hp.cell 7
    have x8 : W.cell? ⟨p, 8, none⟩ = some (.int .i64 x.ev.a3) := hp.cell 8
    have x9 : W.cell? ⟨p, 9, none⟩ = some (.int .i64 x.ev.a4) := hp.cell 9
    have x10 : W.cell? ⟨p, 10, none⟩ = some (.int .i64 x.ev.a5) := hp.cell 10
    have x11 : W.cell? ⟨p, 11, none⟩ = some (.int .i64 x.ev.a6) := hp.cell 11
    have x12 : W.cell? ⟨p, 12, none⟩ = some (.int .i64 x.ev.a7) := hp.cell 12
    rw [stA_eq]
    simp only [stA]
    have hrow : ∀ q, (Value.slice U pre.length cu).ownBlock = some q → w.heap.size + 1 + 1 + 1 + 1 ≤ q := fun q hq => (hO.lt q hq).1
    gi_wp2_with (gi_at_builtin; refine wpListIn_app rfl (.tmp 22) (.tmp 24) _ rfl (m := 1) (news := stD x) elSt (hO.alloc (.cells (stA x) 65)) rfl rfl (Src.lit (stD_rd W _ x)) rfl (by have := stepsTo_len n l 0; omega) (by omega) (by simp; omega) ?_; intro v' w1 hO1 hg1 ha1; obtain ⟨U2, cu2, rfl⟩ := hO1.form; have t0 := (hb.alloc (.cells (stA x) 65)).grown hg1 (fun h => (by have := hrow _ h.symm; omega)); have t1 : w1.cell? ⟨w.heap.size + 1, 0, none⟩ = some (.slice U pre.length cu) := t0.cell 0; have t2 : w1.frozen? ⟨w.heap.size + 1, 0, none⟩ = false := t0.frozen 0)
    have hO0 := hO.alloc (.cells (stA x) 65)
    refine ⟨((KeepsOthers.alloc _ _).trans (KeepsOthers.of_grownBy hg1 fun j ob e hob => ?_)).trans (KeepsOthers.setCell _ _ _), ?_, ⟨_, t0.set_ 0 _, ?_⟩, ((hB.alloc hB.size _).grown hg1 (by simp; omega) (fun q hq => by have := hrow q hq; omega)).setCell (by simp) _, ?_⟩
    · obtain ⟨cur, hcur⟩ := hO0.cells e
      have hob := (show (W.alloc (.cells (stA x) 65)).heap[j]? = some ob from hob)
      rw [hcur] at hob
      injection hob with hob
      subst hob
      rfl
    · refine (((Chg.refl _ _).alloc _).grown hg1 fun k hk hlt => .inr ⟨hrow k hk, fun cs fz e => ?_⟩).setCell (.inl rfl) _
      obtain ⟨cur, hcur⟩ := hO.cells hk
      rw [hcur] at e
      injection e with e
      injection e with _ e _
      exact absurd e (by decide)
    · simpa using hO1.setCell (p := ⟨w.heap.size + 1, 0, none⟩) (fun h => absurd (hO1.lt _ h).1 (by show ¬ (_ ≤ w.heap.size + 1); omega)) (fun h => h) (.slice U2 (pre.length + 1) cu2)
    · have := hg1.size
      simp at this ⊢
      omega
  case done =>
    rintro D xs W hD rfl ⟨⟨v, hb, hO⟩, hB, hs⟩ hK
    obtain ⟨U, cu, rfl⟩ := hO.form
    have y0 : W.cell? ⟨w.heap.size + 1, 0, none⟩ = some (.slice U (stepsTo n l l.length).length cu) := hb.cell 0
    obtain ⟨T, hT⟩ : ∃ T, T = stepsTo n l l.length := ⟨_, rfl⟩
    rw [← hT] at hO y0 hb
    replace hT := Lib.hid hT
    gi_wp2
    have hDl := (Array.getElem?_eq_some_iff.1 hK).1
    have hfin : ∀ ob, StPost n l w (.returned (.tuple #[.slice U T.length cu, .int .i64 0])) (W.putObj D ob) := fun ob =>
      ⟨_, T, 0, rfl, .inr ⟨⟨h0, h1⟩, hT.out, rfl⟩, ((hO.kept (grownBy_putObj' W D ob) (by
        by_cases hv : (Value.slice U T.length cu).ownBlock = none
        · exact .inl hv
        · refine .inr fun e => ?_
          obtain ⟨cur, hcur⟩ := hO.cells e
          rw [hK] at hcur
          injection hcur with hcur
          cases hcur) (fun _ h => h.elim)).base (by omega)), hB.grown (grownBy_putObj' W D ob) hB.size (fun k hk => by injection hk with hk; omega)⟩
    refine ⟨by simp, .inl ⟨_, _, rfl, run_takeDeferred hK, ?_⟩⟩
    exact ⟨_, results_tmp2 (t := 4) (u := 5) rfl _ _ _, hfin _⟩
end stW
end Go.Proofs.Ytfnejelbacpheaa
