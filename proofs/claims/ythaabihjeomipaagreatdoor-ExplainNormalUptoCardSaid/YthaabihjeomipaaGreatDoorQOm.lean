/- The law ExplainNormal returns true (the tables. -/
import Derived.Test.YthaabihjeomipaaGreatDoorCards
import Derived.Test.YthaabihjeomipaaGreatDoorTie
import Derived.Test.YthaabihjeomipaaGreatDoorQZg
import Derived.ProofKit
import Derived.ShutString
import Derived.ChangeOld
import Derived.JoinedCond
import Derived.Below
import Derived.Deep.DeepHandedRow
namespace Go.Proofs.YthaabihjeomipaaGreatDoor.explainNormal
set_option maxRecDepth 100000
set_option maxHeartbeats 16000000
open Go.ChangeShapes Go.WideShapes Go.ChangeAt Go.RowKit
open Go.ChangeMaps (open_string shut_string)
set_option linter.unusedVariables false
theorem own:ownKnob Tryz.prog.godebug=none:=kQ
theorem laidOut:laidOutB Tryz.prog=true:=kQ
theorem laid_is {W:World}(h:laidMetH Tryz.prog Rows.explainNormalUptoRow.laid W):laidMet Tryz.prog Rows.explainNormalUptoRow.laid W:=h
theorem lists:LaidE Rows.explainNormalUptoRow.laid:=⟨rfl,rfl,rfl,rfl,rfl,rfl,rfl,rfl,rfl⟩
theorem walk {c0:Array Value}{x0:List D}{g0:Nat→Nat}{N0:Nat}{c1:Array Value}{x1:List D}{g1:Nat→Nat}{N1:Nat}(W:World)(hX:XT W∧RT W∧MT W)(sz0:c0.size=1)(ft0:FitsL [.sl [.str,.sl [.str]]] x0 g0)(rd0:∀(k:Nat)(d:D),x0[k]? =some d→∃u,c0[k]? =some u∧Rd W (fun b=>b<W.heap.size) u d)(bk0:sumTo g0 1≤N0)(sz1:c1.size=7)(ft1:FitsL quTys x1 g1)(rd1:∀(k:Nat)(d:D),x1[k]? =some d→∃u,c1[k]? =some u∧Rd W (fun b=>b<W.heap.size) u d)(bk1:sumTo g1 7≤N1)(hN:N0+N1≤1048576):
  Calls Tryz.prog 6 #[.agg c0,.agg c1] W fun e w'=>e=.returned (.bool true)∧Bw W w':=by
 obtain⟨S,A,c,rfl,hS,r⟩:=szq_sch sz0 ft0 rd0 bk0 oQ;obtain⟨q,s,rfl,hQ,hs,hSB,hmw,hmr,h6⟩:=conv_qu6 sz1 ft1 rd1 bk1 oQ;exact lawW.lawN_k A c _ S q s hS hs oQ hSB hmw hmr W hX.1 hX.2.1 hX.2.2 r hQ
theorem contract (H:Type)(enc:TypeId×Value→H)(W:World)(base:Nat)(args:Array Value)(ds gs:List (DataW H))(before:List MemPlace)
  (hval:∀(j:Nat) t v,Tryz.f6.params[j]? =some t→args[j]? =some v→Value.okWide Tryz.prog W .any base t v)
  (hW:DataW.Whole enc Tryz.prog Tryz.f6.params.toList Rows.explainNormalSpec.vars false W args.toList ds gs before)(hk:Rows.uptoSmall H (ds++gs)=true)(hL:laidMetH Tryz.prog Rows.explainNormalUptoRow.laid W):
  Calls Tryz.prog 6 args W fun e W'=>∃v,e=.returned v∧Rows.explainNormalSpec.post enc Tryz.prog Tryz.f6 false true false false W args v W':=by
 have hW':=hW;obtain⟨p,q,hA0,hV,rfl,hfz,hnd⟩:=hW;have hA:DataW.TrodAll enc Tryz.prog W 0 (fun _=>true) true Tryz.f6.params.toList args.toList ds p:=hA0;rw[Tryz.params6]at hA hval;obtain⟨v0,vs0,d0,ds0,p0,q0,hargs,rfl,rfl,h0,r0⟩:=trodAll_cons hA;obtain⟨v1,vs1,d1,ds1,p1,q1,rfl,rfl,rfl,h1,r1⟩:=trodAll_cons r0;obtain⟨rfl,rfl,rfl⟩:=trodAll_nil r1;obtain rfl:args=#[v0,v1]:=by cases args;simp_all
 obtain⟨rfl,rfl⟩:=trodVars_none hV;have hN:=bound hk;simp only[zT,Rows.uptoBulkAll]at hN;have k0:=h0;have lt0:∀x∈p0,x.block<W.heap.size:=by obtain⟨m,hm⟩:=k0;exact DataW.trod_lt m _ _ _ hm
 obtain⟨c0,rfl,sz0⟩:=okWide_struct Tryz.underlying24 (hval 0 24 v0 rfl rfl);rw[show Tryz.prog.cellsOf 24=1 by kernel_rfl]at sz0;obtain⟨x0,g0,ft0,rd0,bk0⟩:=arg_many (n:=12) (show lay Tryz.prog 12 24=some [.sl [.str,.sl [.str]]] by kernel_rfl) h0;have k1:=h1;have lt1:∀x∈p1,x.block<W.heap.size:=by obtain⟨m,hm⟩:=k1;exact DataW.trod_lt m _ _ _ hm
 obtain⟨c1,rfl,sz1⟩:=okWide_struct Tryz.underlying31 (hval 1 31 v1 rfl rfl);rw[show Tryz.prog.cellsOf 31=7 by kernel_rfl]at sz1;obtain⟨x1,g1,ft1,rd1,bk1⟩:=arg_many (n:=12) (show lay Tryz.prog 12 31=some quTys by kernel_rfl) h1;clear hA0 hval;refine(walk W (laid_all (laid_is hL) lists) sz0 ft0 rd0 bk0 sz1 ft1 rd1 bk1 hN).mono fun e W' ⟨he,bel⟩=>?_
 subst he;exact⟨_,rfl,_,_,_,[],_,[],hW',trodAll_mk1 (shut_bool Tryz.underlying4 _),(trodAll_cons_mk (Below.trod laidOut kQ (of_decide_eq_true kQ) k0 bel lt0) (trodAll_cons_mk (Below.trod laidOut kQ (of_decide_eq_true kQ) k1 bel lt1) trodAll_mk0)),rfl,bel.frame _,fun h=>by cases h⟩
def litV:DataW Unit→Value
 | .lit (.int k n)=>.int k n
 | .lit (.string l)=>.string ⟨l.toArray⟩
 |_=>undef
def putT (h:Array Obj)(p:Nat×DataW Unit):Array Obj:=h.modify p.1 fun
 | .cells c t frozen=>.cells (match p.2 with | .agg l=>(l.map litV).toArray |_=>c) t frozen
 |o=>o
noncomputable def laidWorld (os:Os):World:=
 {World.holding Tryz.prog os ⟨#[],#[],[]⟩with heap:=([(9,Rows.laid_math_bits_deBruijn32tab),(10,Rows.laid_math_bits_deBruijn64tab),(3,Rows.laid_internal_strconv_uint64pow10),(2,Rows.laid_sluice_api_Keywords),(11,Rows.laid_sluice_lex_spellings),(7,Rows.laid_sluice_sluiceref5_signs),(6,Rows.laid_sluice_sluiceref5_calls),(8,Rows.laid_sluice_show_levels),(4,Rows.laid_sluice_show_signs),(0,Rows.laid_sluice_explain_modes),(1,Rows.laid_sluice_explain_afters)]:List (Nat×DataW Unit)).foldl putT (World.holding Tryz.prog os ⟨#[],#[],[]⟩).heap}
theorem laid_met (os:Os):laidMet Tryz.prog Rows.explainNormalUptoRow.laid ((laidWorld os).forCall (fun _ _=>0) ⟨#[],#[.agg #[.slice none 0 0],.agg #[.slice none 0 0,.int .i64 0,.int .i64 0,.slice none 0 0,.int .i64 0,.string ⟨#[]⟩,.slice none 0 0]],[]⟩).memory:=
 laidMet_of_run' 8 kQ kQ
theorem reads (os:Os){H:Type}(enc:TypeId×Value→H):∃places,DataW.whole enc Tryz.prog ((laidWorld os).forCall (fun _ _=>0) ⟨#[],#[.agg #[.slice none 0 0],.agg #[.slice none 0 0,.int .i64 0,.int .i64 0,.slice none 0 0,.int .i64 0,.string ⟨#[]⟩,.slice none 0 0]],[]⟩).memory Tryz.f6.params.toList Rows.explainNormalSpec.vars false #[Value.agg #[.slice none 0 0],.agg #[.slice none 0 0,.int .i64 0,.int .i64 0,.slice none 0 0,.int .i64 0,.string ⟨#[]⟩,.slice none 0 0]].toList 8=some ([.agg [.nil],.agg [.nil,.lit (.int .i64 0),.lit (.int .i64 0),.nil,.lit (.int .i64 0),.lit (.string []),.nil]],[],places):=
 ⟨[],kQ⟩
theorem lifted (os:Os)(started:os.Started)(H:Type)(enc:TypeId×Value→H)(F:Stop.Interp):
  ReturnsInHanded {} Tryz.checked os 6 .any ((Rows.OpenSpec.upto Rows.explainNormalSpec).preRow enc Tryz.prog Tryz.f6 Rows.explainNormalUptoRow.domain false Rows.explainNormalUptoRow.laid) (((Rows.OpenSpec.upto Rows.explainNormalSpec).at F).post enc Tryz.prog Tryz.f6 false true false false):=by
 obtain⟨places,hx⟩:=reads os enc;refine returnsInHanded_of_row (C:=Tryz.checked) (s:=Rows.OpenSpec.upto Rows.explainNormalSpec) own started kQ Tryz.func6
  (witness_row_at (enc:=enc) (C:=Tryz.checked) false (laidWorld os) #[.agg #[.slice none 0 0],.agg #[.slice none 0 0,.int .i64 0,.int .i64 0,.slice none 0 0,.int .i64 0,.string ⟨#[]⟩,.slice none 0 0]] rfl kQ kQ kQ
   (OpenSpec.preRow_of_cond 8 hx kQ (fun k hk=>by cases hk;kernel_rfl) kQ (laid_met os))) ?_
 intro W base args ds gs before hval hW _ hcond _ hL _ _;exact contract H enc W base args ds gs before hval hW (hcond _ rfl) hL
theorem over:Rows.explainNormalUptoRow.holds Tryz.pinned (Rows.OpenSpec.upto Rows.explainNormalSpec):=
 OpenClaim.holds_of_cond 6 Tryz.f6 rfl rfl rfl rfl rfl rfl rfl ⟨rfl,rfl,rfl,rfl,rfl⟩ rfl rfl rfl rfl rfl kQ Tryz.func6 kQ
  (of_decide_eq_true kQ) (by unfold Func.isWrapper;first|(rw[if_pos (by decide+kernel)];kernel_rfl)|(rw[if_neg (by decide+kernel)];exact⟨rfl,rfl⟩))
  (fun os started H enc _ F=>by rw[OpenClaim.pre_eq_preRow];exact lifted os started H enc F)
theorem plain (f:FuncId)(fn:Func)(hf:Tryz.pinned.checked.prog.funcNamed "sluice/sluicelaw31.ExplainNormal" =some f)(hfn:Tryz.pinned.checked.prog.funcs[f]? =some fn):
  false=Tryz.pinned.checked.prog.looks []∧∀(j:Nat) t,fn.params[j]? =some t→Tryz.pinned.checked.prog.wantsStandIn t=false:=by
 obtain rfl:f=6:=zq9 ((show Tryz.prog.funcNamed "sluice/sluicelaw31.ExplainNormal" =some 6 by kernel_rfl).symm.trans hf) |>.symm
 obtain rfl:fn=Tryz.f6:=(zq9 (Tryz.func6.symm.trans hfn)).symm;refine⟨kQ,fun j t ht=>?_⟩;rw[Tryz.params6]at ht;have:t=24∨t=31:=by simpa using Array.mem_of_getElem? ht
 rcases this with rfl |rfl
 ·exact(show Tryz.prog.wantsStandIn 24=false by kernel_rfl)
 ·exact(show Tryz.prog.wantsStandIn 31=false by kernel_rfl)
theorem proved:Rows.ExplainNormalUptoCardSaid:=
 Claim7.holds_tied_plain_at .later [] _ _ _ _ over (fun _ h=>by cases h) kQ (fun _ h=>by cases h) explainNormalUpto_row_tie rfl ⟨rfl,rfl⟩ kQ rfl plain kQ
#print axioms proved
end Go.Proofs.YthaabihjeomipaaGreatDoor.explainNormal
