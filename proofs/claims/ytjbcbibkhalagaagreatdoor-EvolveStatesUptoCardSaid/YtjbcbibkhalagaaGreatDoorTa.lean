/- The law EvolveStates returns true (api.Keywords being what the program lays) wherever its arguments hold together at most 1048576 values and letters; what it is handed stays as it is. -/
import Derived.Test.YtjbcbibkhalagaaGreatDoorCards
import Derived.Test.YtjbcbibkhalagaaGreatDoorTie
import Derived.Test.YtjbcbibkhalagaaGreatDoorT9
import Derived.ProofKit
import Derived.ShutString
import Derived.ChangeOld
import Derived.JoinedCond
import Derived.Below
import Derived.Deep.DeepHandedRow
namespace Go.Proofs.YtjbcbibkhalagaaGreatDoor.evolveStates
set_option maxRecDepth 100000
set_option maxHeartbeats 16000000
open Proofs.Tryz Go.ChangeShapes Go.WideShapes Go.ChangeAt Go.RowKit
open Go.ChangeMaps (open_string shut_string)
set_option linter.unusedVariables false
theorem own:ownKnob prog.godebug=none:=kQ
theorem laidOut:laidOutB prog=true:=kQ
theorem gKw:prog.globalNamed "sluice/api.Keywords" =some 0:=kQ
theorem R6:(prog.globals[0]?).map (·.type)=some 195:=kQ
theorem R7 {W}(h:laidMetH prog Rows.evolveStatesUptoRow.laid W):laidMet prog (("sluice/api.Keywords",.agg (jL.map λs=>.lit (.string s.data.toList)))::[]) W:=h
theorem contract (H enc W base args ds gs before)(hval:∀(j:Nat) t v,Tryz.f3.params[j]? =some t->args[j]? =some v->Value.okWide prog W .any base t v)(hW:DataW.Whole enc prog Tryz.f3.params.toList Rows.evolveStatesSpec.vars false W args.toList ds gs before)(hk:Rows.uptoSmall H (ds++gs)=true)(hL:laidMetH prog Rows.evolveStatesUptoRow.laid W):
  Cl 3 args W λe W'=>∃v,e=.returned v/\Rows.evolveStatesSpec.post enc prog Tryz.f3 false true false false W args v W':=by
 have hW':=hW;obtain⟨p,q,hA0,hV,rfl,O6,Qv⟩:=hW;have hA:DataW.TrodAll enc prog W 0 (λ_=>true) true Tryz.f3.params.toList args.toList ds p:=hA0;rw[params3]at hA hval;obtain⟨v0,vs0,d0,ds0,p0,q0,ag7,rfl,rfl,h0,r0⟩:=trodAll_cons hA;obtain⟨v1,vs1,d1,ds1,p1,q1,rfl,rfl,rfl,h1,r1⟩:=trodAll_cons r0;obtain⟨rfl,rfl,rfl⟩:=trodAll_nil r1;obtain rfl:args=#[v0,v1]:=by cases args;simp_all
 obtain⟨rfl,rfl⟩:=trodVars_none hV;have hN:=bound hk;simp only[zT,Rows.uptoBulkAll]at hN;have k0:=h0;have wQ:∀x∈p0,x.block<W.heap.size:=by obtain⟨m,hm⟩:=k0;exact DataW.trod_lt m _ _ _ hm
 obtain⟨c0,rfl,sz0⟩:=okWide_struct underlying36 (hval 0 36 v0 rfl rfl);rw[show prog.cellsOf 36=15 by kernel_rfl]at sz0;obtain⟨x0,g0,ft0,rd0,bk0⟩:=KA (n:=12) (show lay prog 12 36=some NK by kernel_rfl) h0;have k1:=h1;have lt1:∀x∈p1,x.block<W.heap.size:=by obtain⟨m,hm⟩:=k1;exact DataW.trod_lt m _ _ _ hm
 obtain⟨a1,Yc,ajY,rfl⟩:=okWide_slice underlying37 (hval 1 37 v1 rfl rfl);obtain⟨x1,XC,ft1⟩:=Py (n:=12) rfl (show lay prog 12 37=some [.sl [.int .i64,.str,.str,.str,.sl [.str],.int .i64]] by kernel_rfl) h1;clear hA0 hval;have hK:cW W:=R5 (rest:=[]) gKw R6 (underlying195) underlying9 kQ kQ (R7 hL);refine(qj.walk W hK sz0 ft0 rd0 bk0 XC ft1 hN).mono λe W' ⟨he,bel⟩=>?_
 subst he;exact⟨_,rfl,_,_,_,[],_,[],hW',trodAll_mk1 (shut_bool underlying4 _),(trodAll_cons_mk (Below.trod laidOut kQ (of_decide_eq_true kQ) k0 bel wQ) (trodAll_cons_mk (Below.trod laidOut kQ (of_decide_eq_true kQ) k1 bel lt1) trodAll_mk0)),rfl,bel.frame _,λh=>by cases h⟩
noncomputable def tq (os:Os):World:=
 {World.holding prog os ⟨#[],#[],[]⟩with heap:=(World.holding prog os ⟨#[],#[],[]⟩).heap.modify 0 fun
  | .cells _ t frozen=>.cells (jL.map Value.string).toArray t frozen
  |o=>o}
theorem NL (os):laidMet prog Rows.evolveStatesUptoRow.laid ((tq os).forCall (λ_ _=>0) ⟨#[],#[.agg #[.slice none 0 0,.slice none 0 0,.int .i64 0,.int .i64 0,.slice none 0 0,.int .i64 0,.string ⟨#[]⟩,.slice none 0 0,.int .i64 0,.int .i64 0,.bool false,.slice none 0 0,.slice none 0 0,.slice none 0 0,.slice none 0 0],.slice none 0 0],[]⟩).memory:=
 laidMet_of_run' 8 kQ kQ
theorem reads (os){H}(enc:TypeId×Value->H):∃places,DataW.whole enc prog ((tq os).forCall (λ_ _=>0) ⟨#[],#[.agg #[.slice none 0 0,.slice none 0 0,.int .i64 0,.int .i64 0,.slice none 0 0,.int .i64 0,.string ⟨#[]⟩,.slice none 0 0,.int .i64 0,.int .i64 0,.bool false,.slice none 0 0,.slice none 0 0,.slice none 0 0,.slice none 0 0],.slice none 0 0],[]⟩).memory Tryz.f3.params.toList Rows.evolveStatesSpec.vars false #[Value.agg #[.slice none 0 0,.slice none 0 0,.int .i64 0,.int .i64 0,.slice none 0 0,.int .i64 0,.string ⟨#[]⟩,.slice none 0 0,.int .i64 0,.int .i64 0,.bool false,.slice none 0 0,.slice none 0 0,.slice none 0 0,.slice none 0 0],.slice none 0 0].toList 8=some ([.agg [.agg [.nil],.agg [.nil,.lit (.int .i64 0),.lit (.int .i64 0),.nil,.lit (.int .i64 0),.lit (.string []),.nil],.lit (.int .i64 0),.lit (.int .i64 0),.lit (.bool false),.nil,.nil,.nil,.nil],.nil],[],places):=
 ⟨[],kQ⟩
theorem lifted (os)(started:os.Started)(H)(enc:TypeId×Value->H)(F):
  ReturnsInHanded {} Tryz.checked os 3 .any ((Rows.OpenSpec.upto Rows.evolveStatesSpec).preRow enc prog Tryz.f3 Rows.evolveStatesUptoRow.domain false Rows.evolveStatesUptoRow.laid) (((Rows.OpenSpec.upto Rows.evolveStatesSpec).at F).post enc prog Tryz.f3 false true false false):=by
 obtain⟨places,hx⟩:=reads os enc;refine returnsInHanded_of_row (C:=Tryz.checked) (s:=Rows.OpenSpec.upto Rows.evolveStatesSpec) own started kQ func3
  (witness_row_at (enc:=enc) (C:=Tryz.checked) false (tq os) #[.agg #[.slice none 0 0,.slice none 0 0,.int .i64 0,.int .i64 0,.slice none 0 0,.int .i64 0,.string ⟨#[]⟩,.slice none 0 0,.int .i64 0,.int .i64 0,.bool false,.slice none 0 0,.slice none 0 0,.slice none 0 0,.slice none 0 0],.slice none 0 0] rfl kQ kQ kQ
   (OpenSpec.preRow_of_cond 8 hx kQ (λk hk=>by cases hk;kernel_rfl) kQ (NL os))) ?_
 intro W base args ds gs before hval hW _ ZR _ hL _ _;exact contract H enc W base args ds gs before hval hW (ZR _ rfl) hL
theorem over:Rows.evolveStatesUptoRow.holds Tryz.pinned (Rows.OpenSpec.upto Rows.evolveStatesSpec):=
 OpenClaim.holds_of_cond 3 Tryz.f3 rfl rfl rfl rfl rfl rfl rfl ⟨rfl,rfl,rfl,rfl,rfl⟩ rfl rfl rfl rfl rfl kQ func3 kQ
  (of_decide_eq_true kQ) (by unfold Func.isWrapper;first|(rw[if_pos (by decide+kernel)];kernel_rfl)|(rw[if_neg (by decide+kernel)];exact⟨rfl,rfl⟩))
  (λos started H enc _ F=>by rw[OpenClaim.pre_eq_preRow];exact lifted os started H enc F)
theorem plain (f fn)(hf:Tryz.pinned.checked.prog.funcNamed "sluice/sluicelaw29.EvolveStates" =some f)(hfn:Tryz.pinned.checked.prog.funcs[f]? =some fn):
  false=Tryz.pinned.checked.prog.looks []/\∀(j:Nat) t,fn.params[j]? =some t->Tryz.pinned.checked.prog.wantsStandIn t=false:=by
 obtain rfl:f=3:=eO ((show prog.funcNamed "sluice/sluicelaw29.EvolveStates" =some 3 by kernel_rfl).symm.trans hf) |>.symm
 obtain rfl:fn=Tryz.f3:=(eO (func3.symm.trans hfn)).symm;refine⟨kQ,λj t ht=>?_⟩;rw[params3]at ht;have:t=36\/t=37:=by simpa using Array.mem_of_getElem? ht
 rcases this with rfl |rfl
 .exact(show prog.wantsStandIn 36=false by kernel_rfl)
 .exact(show prog.wantsStandIn 37=false by kernel_rfl)
theorem proved:Rows.EvolveStatesUptoCardSaid:=
 Claim7.holds_tied_plain_at .later [] _ _ _ _ over (λ_ h=>by cases h) kQ (λ_ h=>by cases h) evolveStatesUpto_row_tie rfl ⟨rfl,rfl⟩ kQ rfl plain kQ
#print axioms proved
end Go.Proofs.YtjbcbibkhalagaaGreatDoor.evolveStates
