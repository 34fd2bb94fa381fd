/- The program's Query. -/
import Derived.Test.YtfiodnlgiglhfaaGreatDoorP9
import Derived.Test.YtfiodnlgiglhfaaGreatDoorX4
import Derived.Laws.StructEq
namespace Go.Proofs.YtfiodnlgiglhfaaGreatDoor
set_option maxRecDepth 100000
set_option maxHeartbeats 16000000
open Go.RowKit Go.Deep
set_option linter.unusedVariables false
set_option linter.unusedSimpArgs false
section
variable {P:Program}(w:World)
theorem eqF_cons {d:Nat}{xs ys:Array Value}{f:Field}{r:List Field}{u v:Value}{c b:Bool}(hn:f.name≠ "_")(h1:(part f.type xs f.offset).run P w=.ok u w)(h2:(part f.type ys f.offset).run P w=.ok v w)
  (h3:(Op.equalIn d f.type u v).run P w=.ok b w)(hr:(Op.eqFields d xs ys r).run P w=.ok c w):(Op.eqFields d xs ys (f::r)).run P w=.ok (b&&c) w:=by
 simp only[Op.eqFields,if_pos hn,Sem.run_bind,h1,h2,h3,Result.andThen_ok,Sem.run_ite,hr];cases b<;>simp
end
theorem eqFl (w:World)(x0 x1 x2 x3 y0 y1 y2 y3:Int):
  (Op.equalIn 10000 60 (.agg #[.int .i64 x0,.int .i64 x1,.int .i64 x2,.int .i64 x3]) (.agg #[.int .i64 y0,.int .i64 y1,.int .i64 y2,.int .i64 y3])).run Tryz.prog w=.ok (x0==y0&&(x1==y1&&(x2==y2&&(x3==y3&&true)))) w:=by
 rw[run_equalIn_struct w 9999 60 _ _ (by kernel_rfl) (by kernel_rfl)];rw[show(Tryz.prog.fieldsOf 60).toList=[{name:= "Code",type:=37,offset:=0,embedded:=false,tag:= "",pkgPath:= "",byteOffset:=0},{name:= "Part",type:=58,offset:=1,embedded:=false,tag:= "",pkgPath:= "",byteOffset:=8},
  {name:= "Index",type:=3,offset:=2,embedded:=false,tag:= "",pkgPath:= "",byteOffset:=16},{name:= "Sub",type:=3,offset:=3,embedded:=false,tag:= "",pkgPath:= "",byteOffset:=24}] by kernel_rfl]
 exact eqF_cons w (by decide) (by kernel_rfl) (by kernel_rfl) (run_equalIn_int w _ 37 .i64 .i64 _ _ Tryz.underlying37)
  (eqF_cons w (by decide) (by kernel_rfl) (by kernel_rfl) (run_equalIn_int w _ 58 .i64 .i64 _ _ Tryz.underlying58)
   (eqF_cons w (by decide) (by kernel_rfl) (by kernel_rfl) (run_equalIn_int w _ 3 .i64 .i64 _ _ Tryz.underlying3)
    (eqF_cons w (by decide) (by kernel_rfl) (by kernel_rfl) (run_equalIn_int w _ 3 .i64 .i64 _ _ Tryz.underlying3) rfl)))
theorem neq_flaw (w:World)(x0 x1 x2 x3:Int):(binOp .neq 60 (.agg #[.int .i64 x0,.int .i64 x1,.int .i64 x2,.int .i64 x3]) (.agg #[.int .i64 0,.int .i64 0,.int .i64 0,.int .i64 0])).run Tryz.prog w=.ok (.bool (!(x0==0&&(x1==0&&(x2==0&&(x3==0&&true)))))) w:=by
 simp only[binOp];simp[Op.equal,Op.maxDepth,eqFl w x0 x1 x2 x3 0 0 0 0]
def QPost (S:List Td)(L:List Cg)(q:Qy)(w:World)(e:Ending)(w':World):Prop:=∃vs code at_ R,e=.returned (.tuple #[.agg ⟨vs⟩,.int .i64 code,.int .i64 at_])∧QAns S L q R code at_∧(R=none→vs=zqV)∧
 (∀q',R=some q'→∃v1 v2 v3 l rl,vs=quV q' v1 v2 v3 q'.by_∧OQ w' w.heap.size v1 v2 v3 l q'.wh rl∧l.map (·.1)=q'.items∧rl.map (·.1)=q'.ret)∧Bw w w'
theorem QPost.no {S:List Td}{L:List Cg}{q:Qy}{w w':World}{code at_:Int}(h:QAns S L q none code at_)(hb:Bw w w'):QPost S L q w (.returned (.tuple #[.agg ⟨zqV⟩,.int .i64 code,.int .i64 at_])) w':=⟨_,_,_,_,rfl,h,fun _=>rfl,fun q h=>(by cases h),hb⟩
structure Q3 (l:List Td)(A:Option Addr)(c:Nat)(q:Qy)(s:Sl3)(w wr:World):Prop where
 sq:SQ l A c q s w wr
 b2:Blk wr (w.heap.size+1+1) 32 zqV
section
variable {l:List Td}{A:Option Addr}{c:Nat}{q:Qy}{s:Sl3}{w wr W w1:World}
theorem Q3.stay (h:Q3 l A c q s w wr)(hb:Bw wr W):Q3 l A c q s w W:=⟨h.sq.stay hb,h.b2.stay hb⟩
theorem Q3.fin (h:Q3 l A c q s w wr)(hg:wr.grownBy w1 (some (w.heap.size+1+1))):Bw w w1:=h.sq.hb.grown hg h.sq.hb.size (fun q hq=>by injection hq with hq;omega)
end
namespace evW
open nmW ckW
theorem query_k (A B:Option Addr)(ca cb:Nat)(F G:Nat→Prop)(S:List Td)(L:List Cg)(q:Qy)(s:Sl3)(hS:SzT S)(hL:L.length≤1048576)(hC:∀c∈L,SzC c)(hs:SzQ q)(hSB:SzB q)(w:World)(hK:KwIs w)(hG:∀b,G b→b<w.heap.size)
  (r:Rd w F (.slice A S.length ca) (.sl S.length (S.flatMap tdD)))(rc:Rd w G (.slice B L.length cb) (.sl L.length (L.flatMap cgD)))(R:QR w F q s):
  Calls Tryz.prog 8 #[.agg ⟨[.slice A S.length ca]⟩,.slice B L.length cb,.agg ⟨qV q s⟩] w (QPost S L q w):=by
 obtain⟨W0,hW0⟩:∃W0,W0=(((w.alloc (.cells ⟨[.slice A S.length ca]⟩ 24)).alloc (.cells ⟨qV q s⟩ 32)).alloc (.cells ⟨zqV⟩ 32)):=⟨_,rfl⟩
 have h0:Q3 S A ca q s w W0:=by
  rw[hW0];exact⟨(SQ.new S A ca q s w).stay bA,Blk.new' (by simp)⟩
 obtain⟨y0,y1,y2,y3,y4,y5,y6⟩:=qbc h0.sq.b1;have x0:=h0.sq.b0.cell 0;have hb0:=h0.sq.hb;have k1:=made_k A B ca cb F G S L hS hL hC W0 (hK.stay hb0) (fun b h=>zF (R.lt b h) hb0.size) (fun b h=>zF (hG b h) hb0.size) (r.under hb0 R.lt) (rc.under hb0 hG);have k2:=fun W (hW:Bw w W)=>check_k A ca F S q s hS hs W (hK.stay hW) (R.under hW) (r.under hW R.lt)
 have kR:=fun W (hW:Bw w W)=>R.under hW
 have kr:=fun W (hW:Bw w W)=>r.under hW R.lt
 obtain⟨A1,c1,A2,c2,A3,c3⟩:=s;simp only[qV,zqV,zY]at hW0 y0 y1 y2 y3 y4 y5 y6 x0 k2 ⊢;have hWW:=Hd hW0;replace h0:=Hd h0;replace k1:=Hd k1;replace k2:=Hd k2;replace kR:=Hd kR;replace kr:=Hd kr;replace hSB:=Hd hSB;replace hs:=Hd hs;replace hS:=Hd hS;clear hC hK hG r rc R hb0 hW0 hL;go_enter Tryz.func8,Tryz.ntmps8;go_upto_region 1 with fail
 rw[←hWW.out];go_upto_region 2 with(go_at_call 17;refine k1.out.mono ?_;rintro e W1 ⟨v,code,at_,T,rfl,hM,hT,hW1⟩;simp only)
 clear x0 y0 y1 y2 y3 y4 y5 y6;have hQ1:=Hd (h0.out.stay hW1);cases T with
 |none=>
  have hc0:=md_bad hM;have f1:=beqF hc0;have f2:=bneT hc0;have hfin:Hid (QAns S L q none code at_):=.inl ⟨hM,rfl⟩;replace hc0:=Hd hc0;replace hM:=Hd hM;replace hW1:=Hd hW1;clear hT;go_wp2_with (refine at_op (.store 32 (.tmp 6) (.tmp 27)) rfl ?_;refine wsb rfl 32 (.tmp 6) (.tmp 27) rfl (cs':=zqV) hQ1.out.b2 aggQu rfl rfl rfl rfl ?_;intro w8 hz8 hg8);exact bpc rfl hz8 aggQu rfl rfl rfl rfl (QPost.no hfin.out (hQ1.out.fin hg8))
 |some t=>
  obtain⟨hSm,g,rfl,hDS⟩:=hT t rfl;obtain⟨hsc,hL32,hok,hTe,rfl,rfl⟩:=md_ok hM;clear hT;have hb1:=hQ1.out.sq.hb;obtain⟨y0,y1,y2,y3,y4,y5,y6⟩:=qbc hQ1.out.sq.b1;have x0:=hQ1.out.sq.b0.cell 0;simp only[zY]at x0 y0 y3 y6;have k2':=k2.out W1 hb1;obtain⟨cc,hcc⟩:∃cc,cc=checkC (scC S) S q:=⟨_,rfl⟩
  rw[←hcc]at k2';have q1:cc≠0→QAns S L q none cc 0:=fun h=>.inr ⟨hTe▸hM,by rw[ans_check (by rw[←hcc];exact h),←hcc]⟩
  have q2:∀y,cc=0→lostO S q (lsTo S L L.length)=some y→QAns S L q none 291 y:=fun y h h2=>.inr ⟨hTe▸hM,by rw[ans_lostP (by rw[←hcc];exact h) h2]⟩
  have q3:cc=0→lostO S q (lsTo S L L.length)=none→turnedO S t q=none→QAns S L q none 291 L.length:=fun h h2 h3=>.inr ⟨hTe▸hM,by rw[ans_noneP (by rw[←hcc];exact h) h2 (by rw[←hTe];exact h3)]⟩
  have q4:∀q',cc=0→lostO S q (lsTo S L L.length)=none→turnedO S t q=some q'→QAns S L q (some q') 0 0:=fun q' h h2 h3=>.inr ⟨hTe▸hM,by rw[ans_someP (by rw[←hcc];exact h) h2 (by rw[←hTe];exact h3)]⟩
  have hqok:cc=0→QOk S q:=fun h=>(qok_of (by rw[←hcc];exact h)).2.2.2.2
  have hbeh:=behind nR hok;have hls:=hbeh.ls;have hge:=ls_ge (S:=S) (L:=L) nR hok;have hnl:=lsTo_len S L L.length;have hb1s:=hb1.size;have hqs1:=hQ1.out.b2.lt;have hgl:g<W1.heap.size:=by obtain⟨_,_,_,_,hD,_⟩:=hDS;exact hD.bx.lt
  replace k2':=Hd k2';replace q1:=Hd q1;replace q2:=Hd q2;replace q3:=Hd q3;replace q4:=Hd q4;replace hqok:=Hd hqok;replace hls:=Hd hls;replace hge:=Hd hge;replace hDS:=Hd hDS;replace hTe:=Hd hTe;replace hM:=Hd hM;replace hcc:=Hd hcc;replace hsc:=Hd hsc;replace hok:=Hd hok;replace hW1:=Hd hW1;clear hbeh;go_upto_region 5 with(go_at_call 18;refine k2'.out.mono ?_;rintro e W2 ⟨fp,fi,fs,rfl,hz,hW2⟩)
  clear x0 y0 y1 y2 y3 y4 y5 y6;have hB3:Bw W1 (W2.alloc (.cells ⟨[.int .i64 cc,.int .i64 fp,.int .i64 fi,.int .i64 fs]⟩ 60)):=hW2.alloc hW2.size _;have hbf:=Blk.new W2 60 [.int .i64 cc,.int .i64 fp,.int .i64 fi,.int .i64 fs];have hs23:W2.heap.size<(W2.alloc (.cells ⟨[.int .i64 cc,.int .i64 fp,.int .i64 fi,.int .i64 fs]⟩ 60)).heap.size:=hbf.lt;have hs12:=hW2.size;obtain⟨W3,hW3⟩:∃W3,W3=(W2.alloc (.cells ⟨[.int .i64 cc,.int .i64 fp,.int .i64 fi,.int .i64 fs]⟩ 60)):=⟨_,rfl⟩
  rw[←hW3]at hB3 hbf hs23 ⊢;have hQ3:=Hd (hQ1.out.stay hB3);have z0:W3.cell? ⟨W2.heap.size,0,none⟩=some (.int .i64 cc):=hbf.cell 0;have z1:W3.cell? ⟨W2.heap.size,1,none⟩=some (.int .i64 fp):=hbf.cell 1;have z2:W3.cell? ⟨W2.heap.size,2,none⟩=some (.int .i64 fi):=hbf.cell 2;have z3:W3.cell? ⟨W2.heap.size,3,none⟩=some (.int .i64 fs):=hbf.cell 3;have hs3:=hB3.size;replace hW3:=Hd hW3;replace hB3:=Hd hB3;replace hbf:=Hd hbf;clear hW2 k2' hQ1;by_cases hc0:cc=0
  case neg=>
   have hnx:∀W,(binOp .neq 60 (.agg #[.int .i64 cc,.int .i64 fp,.int .i64 fi,.int .i64 fs]) (.agg #[.int .i64 0,.int .i64 0,.int .i64 0,.int .i64 0])).run Tryz.prog W=.ok (.bool true) W:=fun W=>by
    rw[neq_flaw,beqF hc0];rfl
   have hfin:=Hd (q1.out hc0);replace hc0:=Hd hc0;replace hz:=Hd hz;go_upto_region 6 with(refine at_op (.binOp .neq 60 (.tmp 33) (.tmp 34) 60) rfl ?_;refine Go.Great.wpList_readTo rfl _ rfl (.bool true) (hnx _) ?_)
   have hSS:W3.drew.cell? ⟨W2.heap.size,0,none⟩=some (.int .i64 cc)∧True:=⟨z0,trivial⟩;refine G_region (p:=100) (S0:=fun W=>W.cell? ⟨W2.heap.size,0,none⟩=some (.int .i64 cc)) (S1:=fun _=>True) (by kernel_rfl) ?_;refine' TkA 0 rfl hSS ?_;refine' TkA 1 rfl hSS ?_;refine' TkA 2 rfl hSS ?_;try simp only[Act.put,TkS]
   refine Gs 3 rfl fun K hK=>?_
   refine step_store_blk (by rfl) 32 (.tmp 6) (.tmp 36) (by rfl) (cs':=zqV) (hQ3.out.b2.stay (bR).drew) aggQu rfl (by rfl) (by rfl) rfl ?_;intro w8 hz8 hg8;have hc8:w8.cell? ⟨W2.heap.size,0,none⟩=some (.int .i64 cc):=((hbf.out.stay (bR).drew).grown hg8 (fun e=>by injection e with e;omega)).cell 0;refine hK.out _ _ ⟨hc8,fun _=>trivial⟩ ?_;have hfb:=Hd ((hQ3.out.stay (bR).drew).fin hg8);have hST:w8.cell? ⟨W2.heap.size,0,none⟩=some (.int .i64 cc)∧True:=⟨hc8,trivial⟩;replace hz8:=Hd hz8;clear hK K hSS hg8;try simp only[Act.put,TkS]
   refine Gs 4 rfl fun K hK=>?_
   go_simp;refine hK.out _ _ ⟨hST.1,fun _=>trivial⟩ ?_;clear hK K;refine Gs 5 rfl fun K hK=>?_
   go_simp;refine hK.out _ _ ⟨hST.1,fun _=>trivial⟩ ?_;clear hK K hST;refine Gd _ ?_;go_wp2;exact bpc rfl hz8.out aggQu rfl rfl rfl rfl (QPost.no hfin.out hfb.out)
  obtain⟨e1,e2,e3⟩:=hz hc0;subst e1 e2 e3;have hnx:∀W,(binOp .neq 60 (.agg #[.int .i64 cc,.int .i64 0,.int .i64 0,.int .i64 0]) (.agg #[.int .i64 0,.int .i64 0,.int .i64 0,.int .i64 0])).run Tryz.prog W=.ok (.bool false) W:=fun W=>by
   rw[neq_flaw,beqT hc0];rfl
  have hqk:=hqok.out hc0;obtain⟨y0,y1,y2,y3,y4,y5,y6⟩:=qbc hQ3.out.sq.b1;have x0:=hQ3.out.sq.b0.cell 0;simp only[zY]at x0 y0 y3 y6;have hTX:TX (W3.alloc (.cells ⟨tnV A S.length ca g q ⟨A1,c1,A2,c2,A3,c3⟩⟩ 64)) W0.heap.size W3.heap.size g F A ca S t (lsTo S L L.length) q ⟨A1,c1,A2,c2,A3,c3⟩:=by
   have h1:Bw W3 (W3.alloc (.cells ⟨tnV A S.length ca g q ⟨A1,c1,A2,c2,A3,c3⟩⟩ 64)):=bA;have h2:=hQ3.out.sq.hb.trans (h1.mono hQ3.out.sq.hb.size);exact⟨Blk.new _ _ _,(hDS.out.stay hB3.out).stay h1,kr.out _ h2,kR.out _ h2⟩
  have hQ4:=hQ3.out.stay (bX (.cells ⟨tnV A S.length ca g q ⟨A1,c1,A2,c2,A3,c3⟩⟩ 64));have hlk:=lost_k hTX hs.out hS.out (by omega) hls.out hge.out;have htk:=fun W (hW:Below (W3.alloc (.cells ⟨tnV A S.length ca g q ⟨A1,c1,A2,c2,A3,c3⟩⟩ 64)).heap.size (W3.alloc (.cells ⟨tnV A S.length ca g q ⟨A1,c1,A2,c2,A3,c3⟩⟩ 64)) W)=>turned_k (hTX.stay hW) hs.out hSB.out hS.out (by have:=hSm.len;omega) (fun k hk=>by have:=hSm.fl k hk;omega) (fun t ht x hx=>(hqk.nd t ht x hx).imp id fun⟨it,h1,h2,_⟩=>⟨it,h1,h2⟩)
  simp only[tnV]at hlk htk hQ4;replace hlk:=Hd hlk;replace htk:=Hd htk;replace hQ4:=Hd hQ4;replace hqk:=Hd hqk;have hc1:=Hd hc0;clear hTX hz hSm hqok hc0;cases hlo:lostO S q (lsTo S L L.length)with
  |some y=>
   rw[hlo]at hlk;have hfin:=Hd (q2.out y hc1.out hlo);replace hlo:=Hd hlo;go_wp2_with (first
    |(refine at_op (.binOp .neq 60 (.tmp 33) (.tmp 34) 60) rfl ?_;refine Go.Great.wpList_readTo rfl _ rfl (.bool false) (hnx _) ?_)
    |(go_at_call 19;refine hlk.out.mono ?_;rintro e W5 ⟨rfl,hB5⟩;simp only[Option.getD_some,Option.isSome_some];have hQ5:=Hd (hQ4.out.stay hB5);clear hB5)
    |(refine at_op (.store 32 (.tmp 6) (.tmp 50)) rfl ?_;refine wsb rfl 32 (.tmp 6) (.tmp 50) rfl (cs':=zqV) hQ5.out.b2 aggQu rfl rfl rfl rfl ?_;intro w8 hz8 hg8))
   exact bpc rfl hz8 aggQu rfl rfl rfl rfl (QPost.no hfin.out (hQ5.out.fin hg8))
  |none=>
   rw[hlo]at hlk;cases hto:turnedO S t q with
   |none=>
    rw[hto]at htk;have hfin:=Hd (q3.out hc1.out hlo hto);replace hlo:=Hd hlo;replace hto:=Hd hto;go_wp2_with (first
     |(refine at_op (.binOp .neq 60 (.tmp 33) (.tmp 34) 60) rfl ?_;refine Go.Great.wpList_readTo rfl _ rfl (.bool false) (hnx _) ?_)
     |(go_at_call 19;refine hlk.out.mono ?_;rintro e W5 ⟨rfl,hB5⟩;simp only[Option.getD_none,Option.isSome_none];have hQ5:=Hd (hQ4.out.stay hB5);have htk5:=Hd (htk.out W5 hB5);clear hB5)
     |(go_at_call 20;refine htk5.out.mono ?_;rintro e W6 ⟨vs,rfl,hv,_,hB6⟩;obtain rfl:=hv rfl;simp only[Option.isSome_none,zqV];have hQ6:=Hd ((hQ5.out.stay hB6).stay (bX (.cells ⟨zqV⟩ 32)));clear hB6 hv;simp only[zqV]at hQ6)
     |(refine at_op (.store 32 (.tmp 6) (.tmp 59)) rfl ?_;refine wsb rfl 32 (.tmp 6) (.tmp 59) rfl (cs':=zqV) hQ6.out.b2 aggQu rfl rfl rfl rfl ?_;intro w8 hz8 hg8))
    exact bpc rfl hz8 aggQu rfl rfl rfl rfl (QPost.no hfin.out (hQ6.out.fin hg8))
   |some q'=>
    rw[hto]at htk;have hfin:=Hd (q4.out q' hc1.out hlo hto);replace hlo:=Hd hlo;replace hto:=Hd hto;go_upto_region 11 with(first
     |(refine at_op (.binOp .neq 60 (.tmp 33) (.tmp 34) 60) rfl ?_;refine Go.Great.wpList_readTo rfl _ rfl (.bool false) (hnx _) ?_)
     |(go_at_call 19;refine hlk.out.mono ?_;rintro e W5 ⟨rfl,hB5⟩;simp only[Option.getD_none,Option.isSome_none];have hQ5:=Hd (hQ4.out.stay hB5);have htk5:=Hd (htk.out W5 hB5);clear hB5))
    go_upto_region 12 with(go_at_call 20;refine htk5.out.mono ?_;rintro e W6 ⟨vs,rfl,_,hv,hB6⟩;obtain⟨v1,v2,v3,l,rl,rfl,hO6,hl6,hr6⟩:=hv q' rfl;obtain⟨Ai,ci,rfl⟩:=hO6.i.kr.form;obtain⟨Aw,cw,rfl⟩:=hO6.wr.form;obtain⟨Ar,cr,rfl⟩:=hO6.r.kr.form;simp only[Option.isSome_some,quV];have hQ6:=Hd ((hQ5.out.stay hB6).stay (bX (.cells ⟨quV q' (.slice Ai l.length ci) (.slice Aw q'.wh.length cw) (.slice Ar rl.length cr) q'.by_⟩ 32)));have hO7:=Hd (hO6.stay (bX (.cells ⟨quV q' (.slice Ai l.length ci) (.slice Aw q'.wh.length cw) (.slice Ar rl.length cr) q'.by_⟩ 32)));clear hB6 hv hO6;simp only[quV]at hQ6 hO7;replace hl6:=Hd hl6;replace hr6:=Hd hr6)
    have hq5:=hQ5.out.b2.lt;go_wp2_with (refine at_op (.store 32 (.tmp 6) (.tmp 62)) rfl ?_;refine wsb rfl 32 (.tmp 6) (.tmp 62) rfl (cs':=quV q' (.slice Ai l.length ci) (.slice Aw q'.wh.length cw) (.slice Ar rl.length cr) q'.by_) hQ6.out.b2 aggQu rfl rfl rfl rfl ?_;intro w8 hz8 hg8);exact bpc rfl hz8 aggQu rfl rfl rfl rfl ⟨_,_,_,some q',rfl,hfin.out,fun h=>(by cases h),fun q2 h=>(by injection h with h;subst h;exact⟨_,_,_,l,rl,rfl,(hO7.out.under hg8 (show w.heap.size+1+1<W5.heap.size from hq5)).base (by omega),hl6.out,hr6.out⟩),hQ6.out.fin hg8⟩
end evW
theorem calld_ne {S:List Td}{n a:ByteArray}{k:Kd}{r:List Kd}(h:k.fr≠placeI (nmsT S) n):calld S n a (k::r)=calld S n a r:=by rw[calld,if_pos h]
theorem calld_ty {S:List Td}{n a:ByteArray}{k:Kd}{r:List Kd}(h:k.fr=placeI (nmsT S) n)(ha:a=emp):calld S n a (k::r)=some k.nm:=by rw[calld,if_neg (fun h2=>h2 h),if_pos ha]
theorem calld_at {S:List Td}{n a:ByteArray}{k:Kd}{r:List Kd}{f:Fd}(h:k.fr=placeI (nmsT S) n)(ha:a≠emp)(hf:k.fs.find? (fun f=>decide (f.fr=attrI S (placeI (nmsT S) n) a))=some f):calld S n a (k::r)=some f.nm:=by rw[calld,if_neg (fun h2=>h2 h),if_neg ha,hf]
theorem calld_un {S:List Td}{n a:ByteArray}{k:Kd}{r:List Kd}(h:k.fr=placeI (nmsT S) n)(ha:a≠emp)(hf:k.fs.find? (fun f=>decide (f.fr=attrI S (placeI (nmsT S) n) a))=none):calld S n a (k::r)=calld S n a r:=by rw[calld,if_neg (fun h2=>h2 h),if_neg ha,hf]
theorem find_at {α:Type}{l:List α}{p:α→Bool}{j:Nat}{x:α}(h:l[j]? =some x)(hp:p x=true)(ha:∀(i:Nat) a,l[i]? =some a→i<j→p a=false):l.find? p=some x:=by
 obtain⟨y,hy,_,hf⟩:=fi_get (fi_at h hp ha);rw[h]at hy;injection hy with hy;rw[hf,hy]
namespace refW
open nmW ckW
theorem called_k (A A2:Option Addr)(c c2:Nat)(F G:Nat→Prop)(S:List Td)(T:List Kd)(n a:ByteArray)(hS:SzT S)(hT:T.length≤1048576)(hTf:∀k∈T,k.fs.length≤1048576)(w:World)(hF:∀b,F b→b<w.heap.size)(hG:∀b,G b→b<w.heap.size)
  (r:Rd w F (.slice A S.length c) (.sl S.length (S.flatMap tdD)))(rt:Rd w G (.slice A2 T.length c2) (.sl T.length (T.flatMap kdD))):
  Calls Tryz.prog 57 #[.agg ⟨[.slice A S.length c]⟩,.slice A2 T.length c2,.string n,.string a] w (APost (calld S n a T) w):=by
 have hb0:=Blk.new w 24 [.slice A S.length c];have hB0:Bw w (w.alloc (.cells ⟨[.slice A S.length c]⟩ 24)):=bA;have k1:=fun W (hW:Bw w W)=>rTypeOf_k A c F S n hS.1 W (fun b h=>zF (hF b h) hW.size) (r.under hW hF)
 have k2:=fun t W (hW:Bw w W)=>rAttrOf_k A c F S t a hS W (fun b h=>zF (hF b h) hW.size) (r.under hW hF)
 have kt:=fun(i:Nat) k (hk:T[i]? =some k)=>rt.rowv (f:=kdD) (m:=3) (fun _=>rfl) hk (by omega)
 have hG2:=Hd hG;obtain⟨ty,hty⟩:∃ty,ty=placeI (nmsT S) n:=⟨_,rfl⟩
 obtain⟨R0,hR0⟩:∃R,R=calld S n a T:=⟨_,rfl⟩
 rw[←hR0];replace hb0:=Hd hb0;replace hB0:=Hd hB0;replace k1:=Hd k1;replace k2:=Hd k2;replace kt:=Hd kt;replace hty:=Hd hty;replace hR0:=Hd hR0;replace hTf:=Hd hTf;clear r rt hS hF hG;have ex0:(w.alloc (.cells ⟨[.slice A S.length c]⟩ 24)).cell? ⟨w.heap.size,0,none⟩=some (.slice A S.length c):=hb0.out.cell 0;go_enter Tryz.func57,Tryz.ntmps57;go_wp2_with (go_at_call 103;refine(k1.out _ hB0.out).mono ?_;rw[←hty.out];rintro e W1 ⟨rfl,hW1⟩;have hB1:=Hd (hB0.out.trans (hW1.mono hB0.out.size));have hb1:=Hd (hb0.out.stay hW1);clear hW1);clear ex0;go_loopw [11] (fun i wr=>∃j:Nat,j≤T.length∧i=.int .i64 j∧Bw w wr∧Blk wr w.heap.size 24 [.slice A S.length c]∧Hid (calld S n a T=calld S n a (T.drop j))) (fun i _=>T.length- (intOf i).toNat)
 case atStart=>exact⟨0,zE _,rfl,hB1.out,hb1.out,rfl⟩
 case round=>
  clear hB1 hb1;obtain⟨j,hj,rfl,hB,hb,hp⟩:=hrel;have ex0:wr.cell? ⟨w.heap.size,0,none⟩=some (.slice A S.length c):=hb.cell 0;by_cases hlt:j<T.length
  ·obtain⟨k,hk⟩:=getx hlt;obtain⟨gT,oT,rfl,hGb,hv,hsl⟩:=kt.out j k hk;obtain⟨A3,c3,v2,r3⟩:=hsl 2 _ _ rfl;have hgT:=hG2.out gT hGb;have krow:=fun W (hW:Bw w W)=>xW ((hW.cell (p:=⟨gT,oT+j*3,none⟩) hgT).trans (hv 0 _ rfl)) (xW ((hW.cell (p:=⟨gT,oT+j*3+1,none⟩) hgT).trans (hv 1 _ rfl)) (xW ((hW.cell (p:=⟨gT,oT+j*3+2,none⟩) hgT).trans v2) (r3.under hW hG2.out)))
   obtain⟨a0,a1,a2,_⟩:=krow wr hB;replace krow:=Hd krow;clear v2;have g0:(0:Int)≤(j:Int):=by omega
   have g1:(j:Int)<T.length:=by omega
   have hdr:=drop_at hk;rw[hdr]at hp;have hfl:=hTf.out k (zA hk);by_cases hne:k.fr=ty
   ·have f1:(k.fr != ty)=false:=(by rw[bne_eq_false_iff_eq];exact hne);by_cases ha:a=emp
    ·have f2:(a.toList==([]:List UInt8))=true:=(by rw[emp_eq];exact zW ha);have f3:a.toList.isEmpty=true:=by rw[ha,show emp.toList=[] by rw[ByteArray.toList_eq];rfl];rfl
     have hfin:=Hd (show R0=some k.nm by rw[hR0.out,hp.out,calld_ty (by rw[hne,hty.out]) ha]);replace hne:=Hd hne;replace ha:=Hd ha;replace hk:=Hd hk;replace hdr:=Hd hdr;replace r3:=Hd r3;clear hv hsl;go_wp2;go_ret2;exact APost.yes hfin.out hB
    ·have f2:(a.toList==([]:List UInt8))=false:=(by rw[emp_eq];exact zV ha);have f3:a.toList.isEmpty=false:=by
      cases ho:a.toList with
      |nil=>rw[ho]at f2;simp at f2
      |cons=>rfl
     have hyes:∀(m:Nat) f,k.fs[m]? =some f→f.fr=attrI S ty a→(∀(i:Nat) y,k.fs[i]? =some y→i<m→y.fr≠attrI S ty a)→R0=some f.nm:=fun m f h1 h2 h3=>by
      rw[hR0.out,hp.out];refine calld_at (by rw[hne,hty.out]) ha (find_at h1 ?_ fun i y hy hi=>?_)
      ·rw[←hty.out];exact zW h2
      ·rw[←hty.out];exact zV (h3 i y hy hi)
     have hno:(∀(i:Nat) y,k.fs[i]? =some y→i<k.fs.length→y.fr≠attrI S ty a)→Hid (calld S n a T=calld S n a (T.drop (j+1))):=fun h=>by
      show _=_
      rw[hp.out];refine calld_un (by rw[hne,hty.out]) ha (fi_no (fi_none fun i y hy hi=>?_));rw[←hty.out];exact zV (h i y hy hi)
     have k2':=k2.out ty wr hB;obtain⟨fr,hfr⟩:∃fr,fr=attrI S ty a:=⟨_,rfl⟩
     rw[←hfr]at k2' hyes hno;replace k2':=Hd k2';replace hyes:=Hd hyes;replace hno:=Hd hno;replace hne:=Hd hne;replace ha:=Hd ha;replace hk:=Hd hk;replace hdr:=Hd hdr;replace r3:=Hd r3;replace hfr:=Hd hfr;replace hb:=Hd hb;clear hv hsl;obtain⟨wo,hwo⟩:∃wo:World,wo=wr:=⟨_,rfl⟩
     subst hwo;go_wp2_with (go_at_call 111;refine k2'.out.mono ?_;rintro e W2 ⟨rfl,hW2⟩;have hB2:=Hd (hB.trans (hW2.mono hB.size));have hb2:=Hd (hb.out.stay hW2);clear a0 a1 a2 ex0 hW2);go_loopw [13] (fun i wr=>∃m:Nat,m≤k.fs.length∧i=.int .i64 m∧wr=W2∧Hid (∀(i:Nat) y,k.fs[i]? =some y→i<m→y.fr≠fr)) (fun i _=>k.fs.length- (intOf i).toNat)
     case atStart=>exact⟨0,zE _,rfl,rfl,fun i y hy hi=>by omega⟩
     case round=>
      obtain⟨m,hm,rfl,rfl,hp2⟩:=hrel;obtain⟨a0,a1,a2,r4⟩:=krow.out wr hB2.out;by_cases hltm:m<k.fs.length
      ·obtain⟨f,hf⟩:=getx hltm;obtain⟨gF,oF,rfl,_,hvf,_⟩:=r4.rowv (f:=fdD) (m:=3) (fun _=>rfl) hf (by omega);have b0:wr.cell? ⟨gF,oF+m*3,none⟩=some (.string f.nm):=hvf 0 _ rfl;have b1:wr.cell? ⟨gF,oF+m*3+1,none⟩=some (.int .i64 f.fr):=hvf 1 _ rfl;have p0:(0:Int)≤(m:Int):=by omega
       have p1:(m:Int)<k.fs.length:=(by omega);by_cases hfe:f.fr=fr
       ·have f5:(f.fr==fr)=true:=beqT hfe;have hfin:=Hd (hyes.out m f hf hfe hp2.out);replace hfe:=Hd hfe;replace hf:=Hd hf;replace r4:=Hd r4;clear hvf;go_wp2;go_ret2;exact APost.yes hfin.out hB2.out
       ·have f5:(f.fr==fr)=false:=beqF hfe;have hp3:Hid (∀(i:Nat) y,k.fs[i]? =some y→i<m+1→y.fr≠fr):=fun i y hy hi=>by
         by_cases e:i=m
         ·subst e;rw[hf]at hy;injection hy with hy;subst hy;exact hfe
         ·exact hp2.out i y hy (by omega)
        replace hfe:=Hd hfe;replace hf:=Hd hf;replace r4:=Hd r4;clear hvf;go_wp2;go_roundw
        case rel=>exact⟨m+1,by omega,by go_num,by first|exact rfl |exact trivial,hp3⟩
        case measure=>simp[intOf];omega
      ·obtain rfl:m=k.fs.length:=by omega
       have hgo:=hno.out hp2.out;replace r4:=Hd r4;go_wp2;go_roundw
       case rel=>exact⟨j+1,by omega,by go_num,hB2.out,hb2.out,hgo⟩
       case measure=>simp[intOf];omega
   ·have f1:(k.fr != ty)=true:=bneT hne;have hgo:Hid (calld S n a T=calld S n a (T.drop (j+1))):=by show _=_;rw[hp.out,calld_ne (by rw[←hty.out];exact hne)]
    replace hne:=Hd hne;replace hk:=Hd hk;replace hdr:=Hd hdr;replace r3:=Hd r3;clear hv hsl;go_wp2;go_roundw
    case rel=>exact⟨j+1,by omega,by go_num,hB,hb,hgo⟩
    case measure=>simp[intOf];omega
  ·obtain rfl:j=T.length:=by omega
   have hfin:=Hd (show R0=none by rw[hR0.out,hp.out,List.drop_length];rfl);go_wp2;go_ret2;exact APost.no hfin.out hB
end refW
def nedD (d:Ned):List D:=[.sl d.tys.length (d.tys.flatMap strD),.v (.string d.at_)]
theorem elNe:ElT Tryz.prog 72 122 2 40:=.of Tryz.underlying72 (by kernel_rfl) (by omega)
theorem ned_rd {w:World}{G:Nat→Prop}{d:Ned}{A:Option Addr}{c:Nat}(h:Rd w G (.slice A d.tys.length c) (.sl d.tys.length (d.tys.flatMap strD))):RdL w G [.slice A d.tys.length c,.string d.at_] (nedD d):=⟨h,.v _ rfl,trivial⟩
def NePost (N:List Ned)(F:Nat→Prop)(w:World)(e:Ending)(w':World):Prop:=∃v,e=.returned v∧OL w' w.heap.size F 122 2 v N.length (N.flatMap nedD)∧Bw w w'
theorem NePost.mk {N N':List Ned}{F:Nat→Prop}{w w':World}{v:Value}(hN:N'=N)(h:OL w' w.heap.size F 122 2 v N'.length (N'.flatMap nedD))(hb:Bw w w'):NePost N F w (.returned v) w':=hN▸⟨v,rfl,h,hb⟩
structure NO (q:Qy)(s:Sl3)(F:Nat→Prop)(w wr:World)(v:Value)(N:List Ned):Prop where
 hb:Bw w wr
 b0:Blk wr w.heap.size 32 (qV q s)
 ol:OL wr w.heap.size F 122 2 v N.length (N.flatMap nedD)
section
variable {q:Qy}{s:Sl3}{F:Nat→Prop}{w wr W w1:World}{v v':Value}{N:List Ned}
theorem NO.stay (h:NO q s F w wr v N)(hb:Bw wr W):NO q s F w W v N:=⟨h.hb.trans (hb.mono h.hb.size),h.b0.stay hb,h.ol.stay hb⟩
theorem NO.app {o:Obj}{d:Ned}(h:NO q s F w wr v N)(hg:(wr.alloc o).grownBy w1 v.ownBlock)(hO:OL w1 w.heap.size F 122 2 v' (N.length+1) (N.flatMap nedD++nedD d)):NO q s F w w1 v' (N++[d]):=by
 have hs:=h.hb.size;refine⟨(h.hb.alloc hs o).grown hg (by simp;omega) (fun q hq=>(h.ol.lt q hq).1),(h.b0.alloc o).grown hg (fun e=>h.ol.neBlk h.b0 (by decide) e.symm),?_⟩;rw[zH,xD];simpa using hO
end
theorem ofTN_len (q:Qy)(x:Nd):(ofTN q x).length≤q.items.length:=by
 unfold ofTN;split
 ·simp
 ·rw[xC];exact List.length_filter_le _ _
theorem ofTreeN_take {q:Qy}{t:List Nd}{j:Nat}{x:Nd}(h:t[j]? =some x):ofTreeN q (t.take (j+1))=ofTreeN q (t.take j)++ofTN q x:=by
 unfold ofTreeN;rw[zJ,h,xD];simp
theorem ofTreeN_len (q:Qy)(t:List Nd)(h:q.items.length≤10):(ofTreeN q t).length≤t.length*10:=by
 induction t with
 |nil=>simp[ofTreeN]
 |cons x r ih=>
  show(ofTN q x++ofTreeN q r).length≤_
  rw[zH,List.length_cons];have:=ofTN_len q x;omega
def itN (x:Nd)(it:It):List Ned:=if it.v=x.v then [⟨it.tys,x.at_⟩]else []
theorem ofTN_items {q:Qy}{x:Nd}(h:¬(x.at_=emp∨x.at_=tsB)):ofTN q x=q.items.flatMap (itN x):=by
 unfold ofTN;rw[if_neg h];generalize q.items=l;induction l with
 |nil=>rfl
 |cons a l ih=>
  rw[zK];unfold itN at ih ⊢;by_cases hv:a.v=x.v
  ·rw[List.filter_cons_of_pos (by simpa using hv),List.map_cons,ih,if_pos hv];rfl
  ·rw[List.filter_cons_of_neg (by simpa using hv),ih,if_neg hv];rfl
theorem itN_take {q:Qy}{x:Nd}{k:Nat}{it:It}(h:q.items[k]? =some it):(q.items.take (k+1)).flatMap (itN x)=(q.items.take k).flatMap (itN x)++itN x it:=by
 rw[zJ,h,xD];simp
theorem itN_len (x:Nd)(l:List It):(l.flatMap (itN x)).length≤l.length:=by
 induction l with
 |nil=>simp
 |cons a l ih=>
  rw[zK,zH,List.length_cons];have:(itN x a).length≤1:=by unfold itN;split<;>simp
  omega
namespace refW
open nmW ckW
theorem ofTree_k (q:Qy)(s:Sl3)(At:Option Addr)(ct:Nat)(F:Nat→Prop)(t:List Nd)(hil:q.items.length≤10)(hl:t.length≤1048576)(w:World)(R:QR w F q s)(rt:Rd w F (.slice At t.length ct) (.sl t.length (t.flatMap ndD))):
  Calls Tryz.prog 56 #[.agg ⟨qV q s⟩,.slice At t.length ct] w (NePost (ofTreeN q t) F w):=by
 have h0:NO q s F w (w.alloc (.cells ⟨qV q s⟩ 32)) (.slice none 0 0) []:=⟨bA,Blk.new _ _ _,.nil _ _ _ _ _⟩;have hF:=R.lt;have kit:=fun(i:Nat) it (hi:q.items[i]? =some it)=>it_at R.r1 hi
 have knd:=fun(i:Nat) x (hi:t[i]? =some x)=>nd_at rt hi
 obtain⟨R0,hR0⟩:∃R,R=ofTreeN q t:=⟨_,rfl⟩
 rw[←hR0];obtain⟨A1,c1,A2,c2,A3,c3⟩:=s;simp only[qV]at h0 ⊢;try simp only at kit
 replace h0:=Hd h0;replace hF:=Hd hF;replace kit:=Hd kit;replace knd:=Hd knd;replace hR0:=Hd hR0;clear R rt;go_enter Tryz.func56,Tryz.ntmps56;go_wp2;go_loopw [5,6] (fun v i wr=>∃(j:Nat)(N:List Ned),j≤t.length∧i=.int .i64 j∧Hid (N=ofTreeN q (t.take j))∧NO q ⟨A1,c1,A2,c2,A3,c3⟩ F w wr v N) (fun _ i _=>t.length- (intOf i).toNat)
 case atStart=>exact⟨0,[],zE _,rfl,rfl,h0.out⟩
 case round=>
  clear h0;obtain⟨j,N,hj,rfl,hN,hI⟩:=hrel;obtain⟨Ao,co,rfl⟩:=hI.ol.form;have hbs:=hI.hb.size;by_cases hlt:j<t.length
  ·obtain⟨x,hx⟩:=getx hlt;obtain⟨gN,oN,rfl,hFN,n0,n1,n2,n3,n4,n5⟩:=knd.out j x hx;have hgN:=hF.out gN hFN;have kc:=fun W (hW:Bw w W)=>xW ((hW.cell (p:=⟨gN,oN+j*6+2,none⟩) hgN).trans n2) ((hW.cell (p:=⟨gN,oN+j*6+3,none⟩) hgN).trans n3)
   obtain⟨a2,a3⟩:=kc wr hI.hb;have g0:(0:Int)≤(j:Int):=by omega
   have g1:(j:Int)<t.length:=by omega
   have hNl:N.length≤10485760:=by
    rw[hN.out];have:=ofTreeN_len q (t.take j) hil;rw[zO]at this;omega
   have hnx:=ofTreeN_take (q:=q) hx;have hskip:(x.at_=emp∨x.at_=tsB)→Hid (N=ofTreeN q (t.take (j+1))):=fun h=>by
    show _=_
    rw[hnx,←hN.out];unfold ofTN;rw[if_pos h,zT]
   replace kc:=Hd kc;clear n0 n1 n2 n3 n4 n5;by_cases he:x.at_=emp
   ·have f1:(x.at_.toList==([]:List UInt8))=true:=(by rw[emp_eq];exact zW he);have f3:x.at_.toList.isEmpty=true:=by rw[he,show emp.toList=[] by rw[ByteArray.toList_eq];rfl];rfl
    have hN2:=hskip (.inl he);replace he:=Hd he;replace hx:=Hd hx;replace hnx:=Hd hnx;replace hI:=Hd hI;clear hskip;go_wp2;go_roundw
    case rel=>exact⟨j+1,N,by omega,by go_num,hN2,hI.out⟩
    case measure=>simp[intOf];omega
   have f1:(x.at_.toList==([]:List UInt8))=false:=by rw[emp_eq];exact zV he
   have f3:x.at_.toList.isEmpty=false:=by
    cases ho:x.at_.toList with
    |nil=>rw[ho]at f1;simp at f1
    |cons=>rfl
   by_cases hts:x.at_=tsB
   ·have f4:=ts_true hts;have hN2:=hskip (.inr hts);replace he:=Hd he;replace hts:=Hd hts;replace hx:=Hd hx;replace hnx:=Hd hnx;replace hI:=Hd hI;clear hskip;go_wp2;go_roundw
    case rel=>exact⟨j+1,N,by omega,by go_num,hN2,hI.out⟩
    case measure=>simp[intOf];omega
   have f4:=ts_false hts;rw[ofTN_items (fun h=>h.elim he hts)]at hnx;replace he:=Hd he;replace hts:=Hd hts;replace hx:=Hd hx;replace hnx:=Hd hnx;have hIH:=Hd hI;clear hskip hI;obtain⟨wo,hwo⟩:∃wo:World,wo=wr:=⟨_,rfl⟩
   subst hwo;go_wp2;clear a2 a3;go_loopw [5,7] (fun v i wr=>∃(k:Nat)(N2:List Ned),k≤q.items.length∧i=.int .i64 k∧Hid (N2=N++(q.items.take k).flatMap (itN x))∧NO q ⟨A1,c1,A2,c2,A3,c3⟩ F w wr v N2) (fun _ i _=>q.items.length- (intOf i).toNat)
   case atStart=>exact⟨0,N,zE _,rfl,(by show N=_;simp),hIH.out⟩
   case round=>
    clear hIH;obtain⟨k,N2,hk,rfl,hN2,hI⟩:=hrel;obtain⟨Ap,cp,rfl⟩:=hI.ol.form;have hbs2:=hI.hb.size;have hN2l:N2.length≤10485770:=by
     rw[hN2.out,zH];have:=itN_len x (q.items.take k);rw[zO]at this;omega
    obtain⟨a2,a3⟩:=kc.out wr hI.hb;have y0:wr.cell? ⟨w.heap.size,0,none⟩=some (.slice A1 q.items.length c1):=hI.b0.cell 0;by_cases hltk:k<q.items.length
    ·obtain⟨it,hi⟩:=getx hltk;obtain⟨gI,oI,A5,c5,eI,hFI,rx,i0,i1,i2,i3,i4⟩:=kit.out k it hi;try simp only at eI
     subst eI;have hgI:=hF.out gI hFI;have ki:=fun W (hW:Bw w W)=>xW ((hW.cell (p:=⟨gI,oI+k*5+1,none⟩) hgI).trans i1) (xW ((hW.cell (p:=⟨gI,oI+k*5+2,none⟩) hgI).trans i2) (rx.under hW hF.out))
     obtain⟨b1,b2,_⟩:=ki wr hI.hb;have p0:(0:Int)≤(k:Int):=by omega
     have p1:(k:Int)<q.items.length:=(by omega);have hnk:=itN_take (x:=x) hi;replace ki:=Hd ki;replace hi:=Hd hi;replace rx:=Hd rx;clear i0 i1 i2 i3 i4;obtain⟨vb,hvb⟩:∃b,b=(it.v.toList==x.v.toList):=⟨_,rfl⟩
     have hvb2:=Hd (show vb=decide (it.v=x.v) by rw[hvb,bqb]);have hvb3:=hvb.symm;have hI0:=Hd hI;clear hI hvb;go_upto_region 9 with fail
     go_cut [46] (fun v wx=>v=.bool vb∧NO q ⟨some ⟨gI,oI,none⟩,c1,A2,c2,A3,c3⟩ F w wx (.slice Ap N2.length cp) N2)
     case first=>
      go_quiet (fail);go_wp2
      all_goals(go_meet;exact⟨rfl,hI0.out.stay (below_drewN bR _)⟩)
     case rest=>
     obtain⟨rfl,hI⟩:=hcut;clear hI0 a2 a3 b1 b2 y0 hvb3;generalize hww:wc=wr2 at*;clear hww;have hbs2:=hI.hb.size;obtain⟨a2,a3⟩:=kc.out wr2 hI.hb;have y0:wr2.cell? ⟨w.heap.size,0,none⟩=some (.slice (some ⟨gI,oI,none⟩) q.items.length c1):=hI.b0.cell 0;obtain⟨b1,b2,_⟩:=ki.out wr2 hI.hb;by_cases hv:it.v=x.v
     ·have hvt:vb=true:=(by rw[hvb2.out];exact zW hv);subst hvt;have hN3:Hid (N2++[⟨it.tys,x.at_⟩]=N++(q.items.take (k+1)).flatMap (itN x)):=by
       show _=_
       rw[hnk,hN2.out];unfold itN;rw[if_pos hv,zR]
      replace hv:=Hd hv;replace hnk:=Hd hnk;have kS:=fun W (hW:Bw wr2 W)=>xW (show W.cell? ⟨w.heap.size,0,none⟩=some (.slice (some ⟨gI,oI,none⟩) q.items.length c1)from(hI.b0.stay hW).cell 0) (xW ((ki.out W (hI.hb.trans (hW.mono hI.hb.size))).1) ((kc.out W (hI.hb.trans (hW.mono hI.hb.size))).2))
      have hSS:=xW (kS wr2.drew (bR).drew) trivial;have rxa:=(ki.out wr2 hI.hb).2.2;have hGr:∀b,F b→b<wr2.heap.size→F b∧some b≠(Value.slice Ap N2.length cp).ownBlock:=fun b hb _=>⟨hb,fun e=>by have h1:=(hI.ol.lt b e.symm).1;have h2:=hF.out b hb;omega⟩
      have rxb:=Hd (rxa.mono hGr);replace hI:=Hd hI;replace kS:=Hd kS;go_upto_region 10 with fail
      clear a2 a3 b1 b2 y0 rxa hGr;refine G_region (p:=100) (S0:=fun W=>W.cell? ⟨w.heap.size,0,none⟩=some (.slice (some ⟨gI,oI,none⟩) q.items.length c1)∧W.cell? ⟨gI,oI+k*5+1,none⟩=some (.slice A5 it.tys.length c5)∧W.cell? ⟨gN,oN+j*6+3,none⟩=some (.string x.at_)) (S1:=fun _=>True) (by kernel_rfl) ?_;refine' TkA 0 rfl hSS ?_;refine' TkA 1 rfl hSS ?_;refine' TkA 2 rfl hSS ?_;refine' TkA 3 rfl hSS ?_;refine' TkA 4 rfl hSS ?_;refine' TkA 5 rfl hSS ?_;refine' TkA 6 rfl hSS ?_;refine' TkA 7 rfl hSS ?_;refine' TkA 8 rfl hSS ?_;refine' TkA 9 rfl hSS ?_;refine' TkA 10 rfl hSS ?_;refine' TkA 11 rfl hSS ?_;refine' TkA 12 rfl hSS ?_;try simp only[Act.put,TkS]
      refine Gs 13 rfl fun K hK=>?_
      go_simp;refine hK.out _ _ ⟨kS.out _ (by first|exact(bR).drew.alloc (by simp) _ |exact(bA).drew),fun _=>trivial⟩ ?_;clear hK K hSS;try simp only[Act.put,TkS]
      refine Gs 14 rfl fun K hK=>?_
      refine step_app (by rfl) (.tmp 47) (.tmp 60) _ (by rfl) (m:=1) (news:=nedD ⟨it.tys,x.at_⟩) elNe (by exact(hI.out.ol.alloc _).drew) (by rfl) (by rfl) (by exact(Src.lit (ned_rd (d:=⟨it.tys,x.at_⟩) rxb.out)).drew) rfl (by omega) (by omega) (by have:=hI.out.hb.size;simp;omega) ?_;intro v5 w5 hO5 hg5 ha5;obtain⟨B5,d5,rfl⟩:=hO5.form;have hI5:=Hd (hI.out.app (d:=⟨it.tys,x.at_⟩) (undrew hg5) hO5);have hS5:=xW (xW (show w5.cell? ⟨w.heap.size,0,none⟩=some (.slice (some ⟨gI,oI,none⟩) q.items.length c1)from hI5.out.b0.cell 0) (xW (ki.out w5 hI5.out.hb).1 (kc.out w5 hI5.out.hb).2)) trivial;refine hK.out _ _ ⟨hS5.1,fun _=>trivial⟩ ?_;clear hK K hO5 hg5 ha5;try simp only[Act.put,TkS]
      refine Gs 15 rfl fun K hK=>?_
      go_simp;refine hK.out _ _ ⟨hS5.1,fun _=>trivial⟩ ?_;clear hK K hS5;refine Gd _ ?_;go_wp2;go_roundw
      case rel=>exact⟨k+1,_,by omega,by go_num,hN3,hI5.out⟩
      case measure=>simp[intOf];omega
     ·have hvt:vb=false:=(by rw[hvb2.out];exact zV hv);subst hvt;have hN3:Hid (N2=N++(q.items.take (k+1)).flatMap (itN x)):=by
       show _=_
       rw[hnk,←zR,←hN2.out];unfold itN;rw[if_neg hv,zT]
      replace hv:=Hd hv;replace hnk:=Hd hnk;replace hI:=Hd hI;go_wp2;go_roundw
      case rel=>exact⟨k+1,N2,by omega,by go_num,hN3,hI.out⟩
      case measure=>simp[intOf];omega
    ·obtain rfl:k=q.items.length:=by omega
     have hN3:Hid (N2=ofTreeN q (t.take (j+1))):=by show _=_;rw[hnx.out,hN2.out,zL,hN.out]
     replace hI:=Hd hI;go_wp2;go_roundw
     case rel=>exact⟨j+1,N2,by omega,by go_num,hN3,hI.out⟩
     case measure=>simp[intOf];omega
  ·obtain rfl:j=t.length:=by omega
   have hfin:Hid (N=R0):=by show _=_;rw[hR0.out,hN.out,zL]
   replace hI:=Hd hI;go_wp2;go_ret;exact NePost.mk hfin.out hI.out.ol hI.out.hb
end refW
end Go.Proofs.YtfiodnlgiglhfaaGreatDoor
