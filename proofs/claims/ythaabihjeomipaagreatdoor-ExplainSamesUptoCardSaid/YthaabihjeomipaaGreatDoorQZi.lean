/- The law ExplainSames. -/
import Derived.Test.YthaabihjeomipaaGreatDoorQZd
namespace Go.Proofs.YthaabihjeomipaaGreatDoor
set_option maxRecDepth 100000
set_option maxHeartbeats 16000000
open Go.RowKit Go.Deep
set_option linter.unusedVariables false
set_option linter.unusedSimpArgs false
structure SX (S:List Td)(q p:Qy)(w:World)(A:Option Addr)(ca:Nat)(s u:Sl3)(W:World):Prop where
 hb:Bw w W
 b0:Blk W w.heap.size 24 [.slice A S.length ca]
 b1:Blk W (w.heap.size+1) 31 (qV q s)
 b2:Blk W (w.heap.size+1+1) 31 (qV p u)
theorem SX.stay {S:List Td}{q p:Qy}{w W W':World}{A:Option Addr}{ca:Nat}{s u:Sl3}(h:SX S q p w A ca s u W)(hb:Bw W W'):SX S q p w A ca s u W':=⟨h.hb.trans (hb.mono h.hb.size),h.b0.stay hb,h.b1.stay hb,h.b2.stay hb⟩
theorem SmB.symm {l:List Td}{q r:Qy}(h:SmB l q r):SmB l r q:=⟨h.2.1,h.1,h.2.2.symm⟩
namespace lawW
open nmW ckW
theorem lawM_k (A:Option Addr)(ca:Nat)(F G:Nat→Prop)(S:List Td)(q p:Qy)(s u:Sl3)(hS:SzT S)(hs:SzQ q)(hSB:SzB q)(hmw:SzM q.wh)(hmr:∀t∈q.ret,SzM t)(hp:SzQ p)(hPB:SzB p)(hpw:SzM p.wh)(hpr:∀t∈p.ret,SzM t)(w:World)(hT:XT w)(hR:RT w)(hM:MT w)
  (r:Rd w F (.slice A S.length ca) (.sl S.length (S.flatMap tdD)))(R:QR w F q s)(P:QR w G p u):
  Calls Tryz.prog 4 #[.agg #[.slice A S.length ca],.agg ⟨qV q s⟩,.agg ⟨qV p u⟩] w fun e w'=>e=.returned (.bool true)∧Bw w w':=by
 obtain⟨W0,hW0⟩:∃W0,W0=(((w.alloc (.cells ⟨[.slice A S.length ca]⟩ 24)).alloc (.cells ⟨qV q s⟩ 31)).alloc (.cells ⟨qV p u⟩ 31)):=⟨_,rfl⟩
 have h0:SX S q p w A ca s u W0:=by
  rw[hW0];exact⟨((bA).alloc sJ _).alloc (by simp;omega) _,((Blk.new _ _ _).alloc _).alloc _,(Blk.new' sJ).alloc _,Blk.new' sJ⟩
 have hF:=R.lt;have k1:=queryBeyond_k F q s hs W0 (R.under h0.hb);have k1p:=fun W (hW:Bw w W)=>queryBeyond_k G p u hp W (P.under hW)
 have k2:=fun W (hW:Bw w W)=>evW.twinSchema_k A ca F S hS W (fun b h=>zF (hF b h) hW.size) (r.under hW hF)
 have k4:=fun W (hW:Bw w W)=>twinQuery_k F q s hs W (R.under hW)
 have k4p:=fun W (hW:Bw w W)=>twinQuery_k G p u hp W (P.under hW)
 have kx:=fun W (hW:Bw w W)(A':Option Addr)(c':Nat)(s':Sl3)(r':Rd W (fun b=>b<W.heap.size) (.slice A' S.length c') (.sl S.length (S.flatMap tdD)))(R':QR W (fun b=>b<W.heap.size) q s')=>shR.rexplain_k A' c' _ S q s' hS hs hSB hmw hmr W (hT.stay hW) (hR.stay hW) R' r'
 have kxp:=fun W (hW:Bw w W)(A':Option Addr)(c':Nat)(s':Sl3)(r':Rd W (fun b=>b<W.heap.size) (.slice A' S.length c') (.sl S.length (S.flatMap tdD)))(R':QR W (fun b=>b<W.heap.size) p s')=>shR.rexplain_k A' c' _ S p s' hS hp hPB hpw hpr W (hT.stay hW) (hR.stay hW) R' r'
 obtain⟨b0,hb0⟩:∃b:Bool,b=true↔SmB S q p:=⟨@decide (SmB S q p) (Classical.propDecidable _),@decide_eq_true_iff _ (Classical.propDecidable _)⟩
 obtain⟨b1,hb1⟩:∃b:Bool,b=(linC S q==0):=⟨_,rfl⟩
 have k5:=fun W (hW:Bw w W)=>shW.same_k A ca _ S q p s u hS hs hmw hmr hp hpw hpr W (hT.stay hW) (hM.stay hW) ((R.under hW).mono (G:=fun b=>b<W.heap.size) (fun b _ h=>h) (fun b h=>h)) ((P.under hW).mono (fun b _ h=>h) (fun b h=>h)) ((r.under hW hF).mono fun b _ h=>h) b0 hb0
 have k6:=fun W (hW:Bw w W)=>shW.same_k A ca _ S p q u s hS hp hpw hpr hs hmw hmr W (hT.stay hW) (hM.stay hW) ((P.under hW).mono (G:=fun b=>b<W.heap.size) (fun b _ h=>h) (fun b h=>h)) ((R.under hW).mono (fun b _ h=>h) (fun b h=>h)) ((r.under hW hF).mono fun b _ h=>h) b0 (hb0.trans ⟨SmB.symm,SmB.symm⟩)
 have k7:=fun W (hW:Bw w W)=>shW.same_k A ca F S q q s s hS hs hmw hmr hs hmw hmr W (hT.stay hW) (hM.stay hW) (R.under hW) (R.under hW) (r.under hW hF) b1 (by rw[hb1,beq_iff_eq];exact⟨fun h=>⟨h,h,rfl⟩,fun h=>h.1⟩)
 have cc:=fun W (h:SX S q p w A ca s u W)=>xW (h.b0.cell 0) (xW (qbc h.b1) (qbc h.b2))
 obtain⟨a1,ac1,a2,ac2,a3,ac3⟩:=s;obtain⟨e1,ec1,e2,ec2,e3,ec3⟩:=u;simp only[qV,zY]at hW0 k1 k1p k4 k4p kx kxp k5 k6 k7 cc ⊢;have hWW:=Hd hW0;have h0':=Hd h0;obtain⟨x0,⟨y0,y1,y2,y3,y4,y5,y6⟩,z0,z1,z2,z3,z4,z5,z6⟩:=cc W0 h0;replace k1:=Hd k1;replace k1p:=Hd k1p;replace k2:=Hd k2;replace k4:=Hd k4;replace k4p:=Hd k4p;replace kx:=Hd kx;replace kxp:=Hd kxp;replace k5:=Hd k5;replace k6:=Hd k6;replace k7:=Hd k7;replace cc:=Hd cc;replace hb0:=Hd hb0;replace hb1:=Hd hb1;clear h0 hSB r R P hF hW0 hS hs hmw hmr hp hPB hpw hpr hT hR hM;go_enter Tryz.func4,Tryz.ntmps4;go_upto_region 1 with fail
 rw[←hWW.out];clear hWW;go_cut [17] (fun v W=>∃b:Bool,v=.bool b∧SX S q p w A ca ⟨a1,ac1,a2,ac2,a3,ac3⟩ ⟨e1,ec1,e2,ec2,e3,ec3⟩ W)
 case first=>
  have tok0:True:=trivial;go_wp2_with (first
   |(have _t:=tok0;go_at_call 7;refine k1.out.mono ?_;clear _t tok0;rintro e W1 ⟨b,rfl,hB1⟩;have hX1:=h0'.out.stay hB1;have k1q:=Hd (k1p.out W1 hX1.hb);clear x0 y0 y1 y2 y3 y4 y5 y6 z0 z1 z2 z3 z4 z5 z6;obtain⟨_,_,z0,z1,z2,z3,z4,z5,z6⟩:=cc.out W1 hX1;replace hX1:=Hd hX1)
   |(go_at_call 7;refine k1q.out.mono ?_;rintro e W2 ⟨b',rfl,hB2⟩;have hX2:=Hd (hX1.out.stay hB2)))
  all_goals(go_meet;first|exact⟨_,rfl,hX2.out⟩|exact⟨_,rfl,hX1.out⟩)
 case rest=>
 obtain⟨b,rfl,hX1⟩:=hcut;clear x0 y0 y1 y2 y3 y4 y5 y6 z0 z1 z2 z3 z4 z5 z6 h0' k1 k1p;obtain⟨w1,hw1⟩:∃w1:World,w1=wc:=⟨_,rfl⟩
 subst hw1;cases b with
 |true=>
  go_wp2;go_ret;exact⟨rfl,hX1.hb⟩
 |false=>
 obtain⟨x0,⟨y0,y1,y2,y3,y4,y5,y6⟩,z0,z1,z2,z3,z4,z5,z6⟩:=cc.out w1 hX1;have kS:=Hd (fun W (hW:Bw w1 W)=>(show W.cell? ⟨w.heap.size,0,none⟩=some (.slice A S.length ca)∧W.cell? ⟨w.heap.size+1,0,none⟩=some (.slice a1 q.items.length ac1)∧W.cell? ⟨w.heap.size+1,1,none⟩=some (.int .i64 q.mode)∧W.cell? ⟨w.heap.size+1,2,none⟩=some (.int .i64 q.after)∧W.cell? ⟨w.heap.size+1,3,none⟩=some (.slice a2 q.wh.length ac2)∧W.cell? ⟨w.heap.size+1,4,none⟩=some (.int .i64 q.within)∧W.cell? ⟨w.heap.size+1,5,none⟩=some (.string q.by_)∧W.cell? ⟨w.heap.size+1,6,none⟩=some (.slice a3 q.ret.length ac3)from⟨(cc.out W (hX1.stay hW)).1,(cc.out W (hX1.stay hW)).2.1⟩));have hXb:=Hd hX1.hb;replace hX1:=Hd hX1;go_upto_region 3 with fail
 go_cut [7,8] (fun v c W=>v=.string (txC S q)∧c=.int .i64 (linC S q)∧Bw w1 W)
 case first=>
  have hSS:=xW (kS.out w1.drew (bR).drew) trivial;refine G_region (p:=100) (S0:=fun W=>W.cell? ⟨w.heap.size,0,none⟩=some (.slice A S.length ca)∧W.cell? ⟨w.heap.size+1,0,none⟩=some (.slice a1 q.items.length ac1)∧W.cell? ⟨w.heap.size+1,1,none⟩=some (.int .i64 q.mode)∧W.cell? ⟨w.heap.size+1,2,none⟩=some (.int .i64 q.after)∧W.cell? ⟨w.heap.size+1,3,none⟩=some (.slice a2 q.wh.length ac2)∧W.cell? ⟨w.heap.size+1,4,none⟩=some (.int .i64 q.within)∧W.cell? ⟨w.heap.size+1,5,none⟩=some (.string q.by_)∧W.cell? ⟨w.heap.size+1,6,none⟩=some (.slice a3 q.ret.length ac3)) (S1:=fun _=>True) kQ ?_;refine' TkB 0 rfl hSS ?_;try go_simp
  refine' TkB 2 rfl hSS ?_;try go_simp
  refine Gs 1 rfl fun K hK=>?_
  go_simp;go_at_call 8;refine(k2.out w1.drew (hXb.out.trans (((zB w1.heap.size w1).drew).mono hXb.out.size))).mono ?_;rintro e W11 ⟨v1,rfl,hO1,hB11⟩;obtain⟨A1,c1,rfl⟩:=hO1.form;have hU11:Bw w1 W11:=((zB w1.heap.size w1).drew).trans (hB11.mono ((zB w1.heap.size w1).drew).size);have p1:Rd W11 (fun b=>b<W11.heap.size) (.slice A1 S.length c1) (.sl S.length (S.flatMap tdD)):=hO1.rd (fun b _ h=>h) (fun b _ h=>h);refine hK.out _ _ ⟨kS.out _ hU11,fun _=>trivial⟩ ?_;clear hK K hSS;refine Gs 3 rfl fun K hK=>?_
  go_simp;go_at_call 9;refine(k4.out W11 (hXb.out.trans ((hU11).mono hXb.out.size))).mono ?_;rintro e W12 ⟨t1,t2,t3,lt,rt,rfl,hOt,hlt,hrt,hB12⟩;obtain⟨s2,es2,R2⟩:=hOt.part hlt hrt bR (P:=fun b=>b<W12.heap.size) (fun b _ h=>h) (fun b h=>h);obtain⟨b1,bc1,b2,bc2,b3,bc3⟩:=s2;simp only[es2,qV];have hU12:Bw w1 W12:=(hU11).trans (hB12.mono (hU11).size);have p2:=(p1.under hB12 (fun b h=>h)).mono (G:=fun b=>b<W12.heap.size) (fun b h _=>zF h hB12.size);have kx3:=Hd (kx.out W12 (hXb.out.trans (hU12.mono hXb.out.size)) A1 c1 _ p2 R2);replace hU12:=Hd hU12;clear hOt hlt hrt es2 R2 p1 p2 hO1 hB11 hB12 lt rt hU11;refine hK.out _ _ ⟨kS.out _ hU12.out,fun _=>trivial⟩ ?_;clear hK K;refine Gs 4 rfl fun K hK=>?_
  go_simp;go_at_call 10;refine kx3.out.mono ?_;rintro e W13 ⟨rfl,hB13⟩;have hU13:=Hd (hU12.out.trans (hB13.mono hU12.out.size));clear hB13 hU12 kx3;have hSS:=xW (kS.out _ hU13.out) trivial;refine hK.out _ _ ⟨hSS.1,fun _=>trivial⟩ ?_;clear hK K;try go_simp
  refine' TkB 5 rfl hSS ?_;try go_simp
  refine' TkB 6 rfl hSS ?_;try go_simp
  refine' TkB 7 rfl hSS ?_;try go_simp
  refine' TkB 8 rfl hSS ?_;try go_simp
  refine' TkB 9 rfl hSS ?_;try go_simp
  refine Gd _ ?_;go_wp2;go_meet;exact⟨rfl,rfl,hU13.out⟩
 case rest=>
 obtain⟨rfl,rfl,hU1⟩:=hcut;have hX2:=hX1.out.stay hU1;clear kS x0 y0 y1 y2 y3 y4 y5 y6 z0 z1 z2 z3 z4 z5 z6 hXb hX1 hU1;obtain⟨w2,hw2⟩:∃w2:World,w2=wc:=⟨_,rfl⟩
 subst hw2;obtain⟨x0,⟨y0,y1,y2,y3,y4,y5,y6⟩,z0,z1,z2,z3,z4,z5,z6⟩:=cc.out w2 hX2;have kS:=Hd (fun W (hW:Bw w2 W)=>(show W.cell? ⟨w.heap.size,0,none⟩=some (.slice A S.length ca)∧W.cell? ⟨w.heap.size+1+1,0,none⟩=some (.slice e1 p.items.length ec1)∧W.cell? ⟨w.heap.size+1+1,1,none⟩=some (.int .i64 p.mode)∧W.cell? ⟨w.heap.size+1+1,2,none⟩=some (.int .i64 p.after)∧W.cell? ⟨w.heap.size+1+1,3,none⟩=some (.slice e2 p.wh.length ec2)∧W.cell? ⟨w.heap.size+1+1,4,none⟩=some (.int .i64 p.within)∧W.cell? ⟨w.heap.size+1+1,5,none⟩=some (.string p.by_)∧W.cell? ⟨w.heap.size+1+1,6,none⟩=some (.slice e3 p.ret.length ec3)from⟨(cc.out W (hX2.stay hW)).1,(cc.out W (hX2.stay hW)).2.2⟩));have hXb:=Hd hX2.hb;replace hX2:=Hd hX2;go_upto_region 4 with fail
 go_cut [9,10] (fun v c W=>v=.string (txC S p)∧c=.int .i64 (linC S p)∧Bw w2 W)
 case first=>
  have hSS:=xW (kS.out w2.drew (bR).drew) trivial;refine G_region (p:=100) (S0:=fun W=>W.cell? ⟨w.heap.size,0,none⟩=some (.slice A S.length ca)∧W.cell? ⟨w.heap.size+1+1,0,none⟩=some (.slice e1 p.items.length ec1)∧W.cell? ⟨w.heap.size+1+1,1,none⟩=some (.int .i64 p.mode)∧W.cell? ⟨w.heap.size+1+1,2,none⟩=some (.int .i64 p.after)∧W.cell? ⟨w.heap.size+1+1,3,none⟩=some (.slice e2 p.wh.length ec2)∧W.cell? ⟨w.heap.size+1+1,4,none⟩=some (.int .i64 p.within)∧W.cell? ⟨w.heap.size+1+1,5,none⟩=some (.string p.by_)∧W.cell? ⟨w.heap.size+1+1,6,none⟩=some (.slice e3 p.ret.length ec3)) (S1:=fun _=>True) kQ ?_;refine' TkB 0 rfl hSS ?_;try go_simp
  refine' TkB 2 rfl hSS ?_;try go_simp
  refine Gs 1 rfl fun K hK=>?_
  go_simp;go_at_call 8;refine(k2.out w2.drew (hXb.out.trans (((zB w2.heap.size w2).drew).mono hXb.out.size))).mono ?_;rintro e W11 ⟨v1,rfl,hO1,hB11⟩;obtain⟨A1,c1,rfl⟩:=hO1.form;have hU11:Bw w2 W11:=((zB w2.heap.size w2).drew).trans (hB11.mono ((zB w2.heap.size w2).drew).size);have p1:Rd W11 (fun b=>b<W11.heap.size) (.slice A1 S.length c1) (.sl S.length (S.flatMap tdD)):=hO1.rd (fun b _ h=>h) (fun b _ h=>h);refine hK.out _ _ ⟨kS.out _ hU11,fun _=>trivial⟩ ?_;clear hK K hSS;refine Gs 3 rfl fun K hK=>?_
  go_simp;go_at_call 9;refine(k4p.out W11 (hXb.out.trans ((hU11).mono hXb.out.size))).mono ?_;rintro e W12 ⟨t1,t2,t3,lt,rt,rfl,hOt,hlt,hrt,hB12⟩;obtain⟨s2,es2,R2⟩:=hOt.part hlt hrt bR (P:=fun b=>b<W12.heap.size) (fun b _ h=>h) (fun b h=>h);obtain⟨b1,bc1,b2,bc2,b3,bc3⟩:=s2;simp only[es2,qV];have hU12:Bw w2 W12:=(hU11).trans (hB12.mono (hU11).size);have p2:=(p1.under hB12 (fun b h=>h)).mono (G:=fun b=>b<W12.heap.size) (fun b h _=>zF h hB12.size);have kx3:=Hd (kxp.out W12 (hXb.out.trans (hU12.mono hXb.out.size)) A1 c1 _ p2 R2);replace hU12:=Hd hU12;clear hOt hlt hrt es2 R2 p1 p2 hO1 hB11 hB12 lt rt hU11;refine hK.out _ _ ⟨kS.out _ hU12.out,fun _=>trivial⟩ ?_;clear hK K;refine Gs 4 rfl fun K hK=>?_
  go_simp;go_at_call 10;refine kx3.out.mono ?_;rintro e W13 ⟨rfl,hB13⟩;have hU13:=Hd (hU12.out.trans (hB13.mono hU12.out.size));clear hB13 hU12 kx3;have hSS:=xW (kS.out _ hU13.out) trivial;refine hK.out _ _ ⟨hSS.1,fun _=>trivial⟩ ?_;clear hK K;try go_simp
  refine' TkB 5 rfl hSS ?_;try go_simp
  refine' TkB 6 rfl hSS ?_;try go_simp
  refine' TkB 7 rfl hSS ?_;try go_simp
  refine' TkB 8 rfl hSS ?_;try go_simp
  refine' TkB 9 rfl hSS ?_;try go_simp
  refine Gd _ ?_;go_wp2;go_meet;exact⟨rfl,rfl,hU13.out⟩
 case rest=>
 obtain⟨rfl,rfl,hU1⟩:=hcut;have hX3:=hX2.out.stay hU1;clear kS x0 y0 y1 y2 y3 y4 y5 y6 z0 z1 z2 z3 z4 z5 z6 hXb hX2 hU1 k2 k4 k4p kx kxp;obtain⟨w3,hw3⟩:∃w3:World,w3=wc:=⟨_,rfl⟩
 subst hw3;replace hX3:=Hd hX3;have hsm:=hb0.out;unfold SmB at hsm;replace hsm:=Hd hsm;go_upto_region 5 with fail
 go_cut [11] (fun v W=>v=.bool b0∧W=w3)
 case first=>
  clear k5 k6 k7 hb0;generalize txC S q=ta at*;generalize txC S p=tb at*;generalize linC S q=ec at*;generalize linC S p=ed at*;by_cases h1:ec=0
  ·have f1:=beqT h1;by_cases h2:ed=0
   ·have f2:=beqT h2;by_cases h3:ta=tb
    ·have f3:(ta.toList==tb.toList)=true:=(by rw[bqb,zW h3]);have hfin:=Hd (show b0=true from hsm.out.2 ⟨h1,h2,h3⟩);replace h1:=Hd h1;replace h2:=Hd h2;replace h3:=Hd h3;go_wp2;go_meet;exact⟨by rw[hfin.out],rfl⟩
    ·have f3:(ta.toList==tb.toList)=false:=(by rw[bqb,zV h3]);have hfin:b0=false:=by cases hbb:b0 with |false=>rfl |true=>exact absurd (hsm.out.1 hbb).2.2 h3
     replace h1:=Hd h1;replace h2:=Hd h2;replace h3:=Hd h3;replace hfin:=Hd hfin;go_wp2;go_meet;exact⟨by rw[hfin.out],rfl⟩
   ·have f2:=beqF h2;have hfin:b0=false:=by cases hbb:b0 with |false=>rfl |true=>exact absurd (hsm.out.1 hbb).2.1 h2
    replace h1:=Hd h1;replace h2:=Hd h2;replace hfin:=Hd hfin;go_wp2;go_meet;exact⟨by rw[hfin.out],rfl⟩
  ·have f1:=beqF h1;have hfin:b0=false:=by cases hbb:b0 with |false=>rfl |true=>exact absurd (hsm.out.1 hbb).1 h1
   replace h1:=Hd h1;replace hfin:=Hd hfin;go_wp2;go_meet;exact⟨by rw[hfin.out],rfl⟩
 case rest=>
 obtain⟨rfl,hwc⟩:=hcut;obtain rfl:=hwc.symm;clear hwc hsm;have e4:(linC S q==0)=b1:=hb1.out.symm;obtain⟨x0,⟨y0,y1,y2,y3,y4,y5,y6⟩,z0,z1,z2,z3,z4,z5,z6⟩:=cc.out w3 hX3.out;have k8:=Hd (k5.out w3 hX3.out.hb);clear hb0 hb1;generalize linC S q=ec at*;clear k5;have tok1:True:=trivial;go_upto_region 8 with(first
  |(have _t:=tok1;go_at_call 14;refine k8.out.mono ?_;clear _t tok1;rintro e W4 ⟨rfl,hB4⟩;have hX4:=hX3.out.stay hB4;have k9:=Hd (k6.out W4 hX4.hb);clear x0 y0 y1 y2 y3 y4 y5 y6 z0 z1 z2 z3 z4 z5 z6;obtain⟨x0,⟨y0,y1,y2,y3,y4,y5,y6⟩,z0,z1,z2,z3,z4,z5,z6⟩:=cc.out W4 hX4;replace hX4:=Hd hX4)
  |(go_at_call 14;refine k9.out.mono ?_;rintro e W5 ⟨rfl,hB5⟩;have hX5:=hX4.out.stay hB5;have k10:=Hd (k7.out W5 hX5.hb);clear x0 y0 y1 y2 y3 y4 y5 y6 z0 z1 z2 z3 z4 z5 z6;obtain⟨x0,⟨y0,y1,y2,y3,y4,y5,y6⟩,z0,z1,z2,z3,z4,z5,z6⟩:=cc.out W5 hX5;replace hX5:=Hd hX5))
 go_wp2_with (go_at_call 14;refine k10.out.mono ?_;rintro e W6 ⟨rfl,hB6⟩);go_ret;exact⟨rfl,hX5.out.hb.trans (hB6.mono hX5.out.hb.size)⟩
end lawW
end Go.Proofs.YthaabihjeomipaaGreatDoor
