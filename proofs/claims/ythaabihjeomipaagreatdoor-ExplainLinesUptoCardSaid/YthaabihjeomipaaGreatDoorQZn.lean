/- The law ExplainLines. -/
import Derived.Test.YthaabihjeomipaaGreatDoorQZm
namespace Go.Proofs.YthaabihjeomipaaGreatDoor
set_option maxRecDepth 100000
set_option maxHeartbeats 16000000
open Go.RowKit Go.Deep
set_option linter.unusedVariables false
set_option linter.unusedSimpArgs false
noncomputable def LLs (l:List Td)(q:Qy):List ByteArray:=if linC l q=0 then linL q else []
theorem LnP.row {l:List Td}{q:Qy}{w w':World}{e:Ending}(h:LnP l q w e w'):∃v,e=.returned (.tuple #[v,.int .i64 (linC l q)])∧OL w' w.heap.size NoF 9 1 v (LLs l q).length ((LLs l q).flatMap strD)∧Bw w w':=by
 obtain⟨v,rfl,h1,h2,hb⟩:=h;refine⟨v,rfl,?_,hb⟩;unfold LLs;by_cases c:linC l q=0
 ·rw[if_pos c];exact h1 c
 ·rw[if_neg c,h2 c];exact OL.nil _ _ _ _ _
theorem lls_len {l:List Td}{q:Qy}(hs:SzQ q):(LLs l q).length≤33554432:=by
 unfold LLs;by_cases c:linC l q=0
 ·rw[if_pos c,←L3_all];have hok:=ln_ok (lin_chk0 c);exact L3_len _ hok.il hok.rl (by unfold rowsQ;rw[xC];exact zU (roots_len hok) hs.wh.1)
 ·rw[if_neg c];exact zE _
def zQ0:Qy:=⟨[],0,0,[],0,⟨#[]⟩,[]⟩
def zS0:Sl3:=⟨none,0,none,0,none,0⟩
theorem zQ0_sz:SzQ zQ0:=⟨zE _,(fun _ h=>by cases h),⟨zE _,(fun _ h=>by cases h)⟩,zE _,zE _,(fun _ h=>by cases h)⟩
theorem zQ0_rd (W:World):QR W (fun _=>False) zQ0 zS0:=⟨Rd.nil _ _,Rd.nil _ _,Rd.nil _ _,fun _ h=>h.elim⟩
theorem LT.under {S:List Td}{q:Qy}{w W W':World}{A:Option Addr}{ca:Nat}{s:Sl3}{g5 g6:Nat}{A1:Option Addr}{c1:Nat}{s2:Sl3}(h:LT S q w A ca s g5 g6 A1 c1 s2 W)(hb:Bw W W'):LT S q w A ca s g5 g6 A1 c1 s2 W':=h.stay hb
namespace evW
open nmW
theorem sameTexts_w (A B:Option Addr)(c d:Nat)(F G:Nat→Prop)(l:List ByteArray)(hl:l.length≤67108864)(w:World)(r:Rd w F (.slice A l.length c) (.sl l.length (l.flatMap strD)))(s:Rd w G (.slice B l.length d) (.sl l.length (l.flatMap strD))):
  Calls Tryz.prog 17 #[.slice A l.length c,.slice B l.length d] w fun e w'=>e=.returned (.bool true)∧∃q,w'=w.drewN q:=by
 go_enter Tryz.func17,Tryz.ntmps17;go_wp2;go_loopw [5] (fun x wr=>∃k q:Nat,k≤l.length∧x=.int .i64 k∧wr=w.drewN q) (fun x _=>l.length- (intOf x).toNat)
 case atStart=>exact⟨0,0,zE _,rfl,by first|rfl |simp[World.drewN]⟩
 case round=>
  obtain⟨k,q,hk,rfl,rfl⟩:=hrel;by_cases hlt:k<l.length
  ·obtain⟨x,hx⟩:=getx hlt;obtain⟨b,off,rfl,hFb,a0⟩:=r.at_ hx;obtain⟨b',off',rfl,hGb,b0⟩:=s.at_ hx;have g0:(0:Int)≤(k:Int):=oQ;have g1:(k:Int)<l.length:=oQ;clear hx;go_wp2;go_quiet (fail);go_wp2;go_roundw
   case rel=>exact⟨k+1,_,oQ,gQ,by first|rfl |simp⟩
   case measure=>exact mQ
  ·obtain rfl:k=l.length:=oQ;go_wp2;go_ret;exact⟨rfl,_,rfl⟩
end evW
namespace lawW
open nmW ckW
theorem lawL_k (A:Option Addr)(ca:Nat)(F:Nat→Prop)(S:List Td)(q:Qy)(s:Sl3)(hS:SzT S)(hs:SzQ q)(hSB:SzB q)(hmw:SzM q.wh)(hmr:∀t∈q.ret,SzM t)(w:World)(hT:XT w)(hR:RT w)(hM:MT w)
  (r:Rd w F (.slice A S.length ca) (.sl S.length (S.flatMap tdD)))(R:QR w F q s):
  Calls Tryz.prog 5 #[.agg #[.slice A S.length ca],.agg ⟨qV q s⟩] w fun e w'=>e=.returned (.bool true)∧Bw w w':=by
 obtain⟨W0,hW0⟩:∃W0,W0=((w.alloc (.cells ⟨[.slice A S.length ca]⟩ 24)).alloc (.cells ⟨qV q s⟩ 31)):=⟨_,rfl⟩
 have h0:SQ S A ca q s w W0:=by rw[hW0];exact SQ.new S A ca q s w
 have hF:=R.lt;have k1:=queryBeyond_k F q s hs W0 (R.under h0.hb);have k2:=fun W (hW:Bw w W)=>evW.twinSchema_k A ca F S hS W (fun b h=>zF (hF b h) hW.size) (r.under hW hF)
 have k4:=fun W (hW:Bw w W)=>twinQuery_k F q s hs W (R.under hW)
 have k5:=fun W (hW:Bw w W)=>shW.lines_k A ca F S q s hS hs hmw hmr W (hT.stay hW) (hM.stay hW) (R.under hW) (r.under hW hF)
 have k6:=fun(g5 g6:Nat)(A':Option Addr)(c':Nat)(s':Sl3)(W:World)(h:LT S q w A ca s g5 g6 A' c' s' W)=>shR.rlines_k A' c' (fun b=>b<W.heap.size) S q s' hS hs hSB hmw hmr W (hT.stay h.sq.hb) (hR.stay h.sq.hb) h.r6 h.r5
 have k7:=fun(g5 g6:Nat)(A':Option Addr)(c':Nat)(s':Sl3)(W:World)(h:LT S q w A ca s g5 g6 A' c' s' W)=>evW.sameSchema_k A A' ca c' F (fun b=>b<W.heap.size) S hS.1 (fun t ht=>(hS.2 t ht).2.1) W (R.under h.sq.hb).lt (fun b h=>h) (r.under h.sq.hb hF) h.r5
 have k8:=fun(g5 g6:Nat)(A':Option Addr)(c':Nat)(s':Sl3)(W:World)(h:LT S q w A ca s g5 g6 A' c' s' W)=>sameQuery_k F (fun b=>b<W.heap.size) q s s' hs W (R.under h.sq.hb) h.r6
 have kz:=fun W (hW:Bw w W)=>shW.lines_k none 0 (fun _=>False) [] zQ0 zS0 ⟨zE _,(fun _ h=>by cases h)⟩ zQ0_sz (fun _ h=>by cases h) (fun _ h=>by cases h) W (hT.stay hW) (hM.stay hW) (zQ0_rd W) (Rd.nil _ _)
 have hPw:=fun W (hW:Bw w W)=>(hT.stay hW).pw
 have hLLn:=lls_len (l:=S) hs;have hLLz:=lls_len (l:=[]) zQ0_sz;have hz1:∀(W1:World),Bw W0 W1→SQ S A ca q s w W1:=fun W1 h=>h0.stay h
 obtain⟨y0,y1,y2,y3,y4,y5,y6⟩:=qbc h0.b1;have x0:=h0.b0.cell 0;obtain⟨a1,ac1,a2,ac2,a3,ac3⟩:=s;simp only[qV,zQ0,zS0,zY]at hW0 x0 y0 y1 y2 y3 y4 y5 y6 k1 k4 k5 k6 k8 kz ⊢;have hWW:=Hd hW0;replace h0:=Hd h0;replace k1:=Hd k1;replace k2:=Hd k2;replace k4:=Hd k4;replace k5:=Hd k5;replace k6:=Hd k6;replace k7:=Hd k7;replace k8:=Hd k8;replace kz:=Hd kz;replace hPw:=Hd hPw;replace hz1:=Hd hz1;clear hSB r R hF hW0 hS hs hmw hmr hT hR hM;go_enter Tryz.func5,Tryz.ntmps5;go_upto_region 1 with fail
 rw[←hWW.out];go_upto_region 3 with(go_at_call 7;refine k1.out.mono ?_;rintro e W1 ⟨b,rfl,hB1⟩)
 ·go_ret;exact⟨rfl,(hz1.out W1 hB1).hb⟩
 clear x0 y0 y1 y2 y3 y4 y5 y6;have hS1:=Hd (hz1.out W1 hB1);clear hB1 k1 h0 hz1 hWW;obtain⟨y0,y1,y2,y3,y4,y5,y6⟩:=qbc hS1.out.b1;have x0:=hS1.out.b0.cell 0;simp only[zY]at x0 y0 y1 y2 y3 y4 y5 y6;go_upto_region 4 with(go_at_call 8;refine(k2.out _ hS1.out.hb).mono ?_;rintro e W2 ⟨v1,rfl,hO1,hB2⟩;obtain⟨A1,c1,rfl⟩:=hO1.form)
 clear x0 y0 y1 y2 y3 y4 y5 y6;obtain⟨W2a,hW2a⟩:∃W',W'=W2.alloc (.cells ⟨[.slice A1 S.length c1]⟩ 24):=⟨_,rfl⟩
 rw[←hW2a];have hS2:=Hd (hS1.out.stay (show Bw W1 W2a by rw[hW2a];exact hB2.alloc hB2.size _));have m7:Blk W2a W2.heap.size 24 [.slice A1 S.length c1]:=by rw[hW2a];exact Blk.new _ _ _
 have p2:Rd W2a (fun b=>b<W2a.heap.size) (.slice A1 S.length c1) (.sl S.length (S.flatMap tdD)):=by
  rw[hW2a];exact((hO1.rd (G:=fun b=>b<W2.heap.size) (fun b _ h=>h) (fun b _ h=>h)).alloc _).mono fun b h _=>by simp;omega
 obtain⟨g5,hg5⟩:∃g,g=W2.heap.size:=⟨_,rfl⟩
 rw[←hg5]at m7 ⊢;replace m7:=Hd m7;replace p2:=Hd p2;clear hW2a hO1 hB2 hS1 k2 hg5;obtain⟨y0,y1,y2,y3,y4,y5,y6⟩:=qbc hS2.out.b1;have x0:=hS2.out.b0.cell 0;simp only[zY]at x0 y0 y1 y2 y3 y4 y5 y6;go_upto_region 5 with(go_at_call 9;refine(k4.out _ hS2.out.hb).mono ?_;rintro e W4 ⟨t1,t2,t3,lt,rt,rfl,hOt,hlt,hrt,hB4⟩;obtain⟨s2,es2,R2⟩:=hOt.part hlt hrt bR (P:=fun b=>b<W4.heap.size) (fun b _ h=>h) (fun b h=>h);obtain⟨b1,bc1,b2,bc2,b3,bc3⟩:=s2;simp only[es2,qV])
 clear x0 y0 y1 y2 y3 y4 y5 y6;obtain⟨W4a,hW4a⟩:∃W',W'=W4.alloc (.cells ⟨[.slice b1 q.items.length bc1,.int .i64 q.mode,.int .i64 q.after,.slice b2 q.wh.length bc2,.int .i64 q.within,.string q.by_,.slice b3 q.ret.length bc3]⟩ 31):=⟨_,rfl⟩
 rw[←hW4a];have hB4a:Bw W2a W4a:=by rw[hW4a];exact hB4.alloc hB4.size _
 have hB4b:Bw W4 W4a:=by rw[hW4a];exact bA
 have hL4:LT S q w A ca ⟨a1,ac1,a2,ac2,a3,ac3⟩ g5 W4.heap.size A1 c1 ⟨b1,bc1,b2,bc2,b3,bc3⟩ W4a:=
  ⟨hS2.out.stay hB4a,m7.out.stay hB4a,by rw[hW4a];exact Blk.new _ _ _,(p2.out.under hB4a (fun b h=>h)).mono (fun b h _=>zF h hB4a.size),(R2.under hB4b).mono (fun b h _=>zF h hB4b.size) (fun b h=>h)⟩
 obtain⟨g6,hg6⟩:∃g,g=W4.heap.size:=⟨_,rfl⟩
 rw[←hg6]at hL4 ⊢;have k9:=Hd (k6.out g5 g6 A1 c1 _ W4a hL4);obtain⟨y0,y1,y2,y3,y4,y5,y6⟩:=qbc hL4.b6;have x0:=hL4.b5.cell 0;simp only[zY]at x0 y0 y1 y2 y3 y4 y5 y6;replace hL4:=Hd hL4;clear hW4a hOt hlt hrt hB4 hB4a hB4b es2 R2 hS2 m7 p2 k4 lt rt hg6 k6;go_upto_region 6 with(go_at_call 15;refine k9.out.mono ?_;rintro e W5 hP5;obtain⟨vw,rfl,hOw,hB5⟩:=hP5.row;obtain⟨Aw,cw,rfl⟩:=hOw.form;clear hP5)
 clear x0 y0 y1 y2 y3 y4 y5 y6;have hL5:=hL4.out.stay hB5;have k10:=Hd (k5.out W5 hL5.sq.hb);obtain⟨y0,y1,y2,y3,y4,y5,y6⟩:=qbc hL5.sq.b1;have x0:=hL5.sq.b0.cell 0;simp only[zY]at x0 y0 y1 y2 y3 y4 y5 y6;have hrw:=Hd (show Rd W5 (fun b=>b<W5.heap.size) (.slice Aw (LLs S q).length cw) (.sl (LLs S q).length ((LLs S q).flatMap strD)) from hOw.rd (fun b h _=>h.elim) (fun b _ h=>h));replace hL5:=Hd hL5;clear hB5 hL4 k9 hOw;go_upto_region 7 with(go_at_call 16;refine k10.out.mono ?_;rintro e W6 hP6;obtain⟨vg,rfl,hOg,hB6⟩:=hP6.row;obtain⟨Ag,cg,rfl⟩:=hOg.form;clear hP6)
 clear x0 y0 y1 y2 y3 y4 y5 y6;have hL6:=hL5.out.stay hB6;have hrw6:Rd W6 (fun b=>b<W5.heap.size) (.slice Aw (LLs S q).length cw) (.sl (LLs S q).length ((LLs S q).flatMap strD)):=hrw.out.under hB6 (fun b h=>h);have hrg6:Rd W6 (fun b=>b<W6.heap.size) (.slice Ag (LLs S q).length cg) (.sl (LLs S q).length ((LLs S q).flatMap strD)):=hOg.rd (fun b h _=>h.elim) (fun b _ h=>h);have kt1:=Hd (evW.sameTexts_w Ag Aw cg cw _ _ (LLs S q) oQ W6 hrg6 hrw6);have k11:=Hd (fun W (hB:Bw W6 W)=>k7.out g5 g6 A1 c1 _ W (hL6.stay hB));have k12:=fun W (hB:Bw W6 W)=>k8.out g5 g6 A1 c1 _ W (hL6.stay hB)
 simp only at k12;replace k12:=Hd k12;have cc:=fun W (hB:Bw W5 W)=>xW (xW ((hL5.out.stay hB).sq.b0.cell 0) (qbc (hL5.out.stay hB).sq.b1)) (xW ((hL5.out.stay hB).b5.cell 0) (qbc (hL5.out.stay hB).b6))
 simp only[zY]at cc;replace cc:=Hd cc;have e1:(linC S q==linC S q)=true:=beqT rfl;have e2:(linC S q != linC S q)=false:=bneF rfl;obtain⟨⟨x0,_⟩,z0,_⟩:=cc.out W6 hB6;replace hL6:=Hd hL6;replace hOg:=Hd hOg;replace hB6:=Hd hB6;clear hrw6 hrg6 k10 k7 k8;obtain⟨LL,hLL⟩:∃L,L=LLs S q:=⟨_,rfl⟩
 rw[←hLL]at hOg hrw kt1 hLLn ⊢;replace hLL:=Hd hLL;go_upto_region 9 with(first
  |(go_at_call 17;refine kt1.out.mono ?_;rintro e W7 ⟨rfl,nq,rfl⟩;have hD1:Bw W6 (W6.drewN nq):=below_drewN bR _;have k13:=Hd (k11.out _ hD1);replace hD1:=Hd hD1)
  |(go_at_call 12;refine k13.out.mono ?_;rintro e W7 ⟨rfl,hB7⟩;have hU7:=hD1.out.trans (hB7.mono hD1.out.size);have k14:=Hd (k12.out W7 hU7);obtain⟨⟨_,y0,y1,y2,y3,y4,y5,y6⟩,_,z0,z1,z2,z3,z4,z5,z6⟩:=cc.out W7 (hB6.out.trans (hU7.mono hB6.out.size));(try simp only at y0 y3 y6 z0 z3 z6);replace hU7:=Hd hU7;clear hB7)
  |(go_at_call 13;refine k14.out.mono ?_;rintro e W8 ⟨rfl,hB8⟩;have hU8:=hU7.out.trans (hB8.mono hU7.out.size);clear hB8))
 clear x0 y0 y1 y2 y3 y4 y5 y6 z0 z1 z2 z3 z4 z5 z6 k11 k12 k13 k14 kt1 hD1 hU7;have hn68:=hU8.size;have hGl:=Hd (fun q (hq:(Value.slice Ag LL.length cg).ownBlock=some q)=>(hOg.out.lt q hq).2);have hV8:=hB6.out.trans (hU8.mono hB6.out.size);have hOg8:=Hd (hOg.out.stay hU8);obtain⟨⟨x0,y0,y1,y2,y3,y4,y5,y6⟩,_⟩:=cc.out W8 hV8;have k15:=Hd (k5.out W8 (hL5.out.stay hV8).sq.hb);replace hV8:=Hd hV8;clear hOg hU8;go_upto_region 10 with(go_at_call 16;refine k15.out.mono ?_;rintro e W9 hP9;obtain⟨v2,rfl,hO2,hB9⟩:=hP9.row;obtain⟨A2',c2',rfl⟩:=hO2.form;clear hP9)
 clear x0 y0 y1 y2 y3 y4 y5 y6;have hV9:=Hd (hV8.out.trans (hB9.mono hV8.out.size));have hOg9:=Hd (hOg8.out.stay hB9);have n8:=hV8.out.size;have n9:=hB9.size;have k16:=Hd (kz.out W9 ((hL5.out.stay hV9.out).sq.hb));rw[←hLL.out]at hO2 ⊢;have h2l:=Hd (fun q (hq:(Value.slice A2' LL.length c2').ownBlock=some q)=>(hO2.lt q hq).2);replace hO2:=Hd hO2;clear k15 hOg8;go_upto_region 11 with(go_at_call 16;refine k16.out.mono ?_;rintro e W10 hP10;obtain⟨vo,rfl,hOo,hB10⟩:=hP10.row;obtain⟨Ao,co,rfl⟩:=hOo.form;clear hP10)
 have hV10:=hV9.out.trans (hB10.mono hV9.out.size);have hOg10:=hOg9.out.stay hB10;have hO210:=hO2.out.stay hB10;have n10:=hB10.size;have hrw10:Rd W10 (fun b=>b<W5.heap.size) (.slice Aw LL.length cw) (.sl LL.length (LL.flatMap strD)):=hrw.out.under hV10 (fun b h=>h);have hrg10:Rd W10 (fun b=>b<W10.heap.size) (.slice Ag LL.length cg) (.sl LL.length (LL.flatMap strD)):=hOg10.rd (fun b h _=>h.elim) (fun b _ h=>h);have hr210:Rd W10 (fun b=>b<W10.heap.size) (.slice A2' LL.length c2') (.sl LL.length (LL.flatMap strD)):=hO210.rd (fun b h _=>h.elim) (fun b _ h=>h);have kt2:=Hd (evW.sameTexts_w A2' Aw c2' cw _ _ LL oQ W10 hr210 hrw10);have kt3:=Hd (fun n=>evW.sameTexts_w Ag Aw cg cw _ _ LL oQ (W10.drewN n) (hrg10.under (below_drewN bR n) (fun b h=>h)) (hrw10.under (below_drewN bR n) (fun b h=>by omega)));unfold zQ0 at hLLz;obtain⟨LO,hLO⟩:∃L,L=LLs [] ⟨[],0,0,[],0,⟨#[]⟩,[]⟩:=⟨_,rfl⟩
 rw[←hLO]at hOo hLLz ⊢;replace hLO:=Hd hLO;replace hOg10:=Hd hOg10;replace hO210:=Hd hO210;replace hOo:=Hd hOo;replace hV10:=Hd hV10;clear hrw10 hrg10 hr210 hOg9 hO2 hB10 hB9 k16 hV9;have tok1:True:=trivial;go_upto_region 13 with(first
  |(have _t:=tok1;go_at_call 17;refine kt2.out.mono ?_;clear _t tok1;rintro e W7 ⟨rfl,n1,rfl⟩;have kt4:=Hd (kt3.out n1))
  |(go_at_call 17;refine kt4.out.mono ?_;rintro e W7 ⟨rfl,n2,rfl⟩))
 clear kt2 kt3 kt4;obtain⟨W11,hW11⟩:∃W11,W11=W10.drewN (n1+n2):=⟨_,rfl⟩
 have hD11:Bw W10 W11:=by rw[hW11];exact below_drewN bR _
 have n11:=hD11.size;obtain⟨W12,hW12⟩:∃W12,W12=W11.alloc (.cells ⟨[.slice Ag LL.length cg,.slice A2' LL.length c2',.slice Ao LO.length co]⟩ 42):=⟨_,rfl⟩
 have hD12:Bw W11 W12:=by rw[hW12];exact bA
 have hD:=hD11.trans (hD12.mono hD11.size);have hb12:Blk W12 W11.heap.size 42 [.slice Ag LL.length cg,.slice A2' LL.length c2',.slice Ao LO.length co]:=by rw[hW12];exact Blk.new _ _ _
 have oG:=(hOg10.out.stay hD);have o2:=(hO210.out.stay hD);have oO:=(hOo.out.stay hD);have hV12:=hV10.out.trans (hD.mono hV10.out.size);have hn6:=hB6.out.size;have hWL:W6.heap.size≤W8.heap.size:=hn68;have km:=marked_k W5.heap.size W11.heap.size (fun j=>if j=0 then .slice Ag LL.length cg else if j=1 then .slice A2' LL.length c2' else .slice Ao LO.length co) (fun j=>if j=0 then LL.length else if j=1 then LL.length else LO.length) W12 (by have:=hV10.out.size;omega) hb12.lt hb12
  (fun j hj=>by
   match j,hj with
   |0,_=>exact⟨_,_,rfl⟩
   |1,_=>exact⟨_,_,rfl⟩
   |2,_=>exact⟨_,_,rfl⟩)
  (fun j hj=>by
   match j,hj with
   |0,_=>exact⟨LL,oG.base nR⟩
   |1,_=>exact⟨LL,o2.base oQ⟩
   |2,_=>exact⟨LO,oO.base oQ⟩)
  (fun j k hj hk hne=>by
   have g1:∀q,(Value.slice Ag LL.length cg).ownBlock=some q→W5.heap.size≤q∧q<W6.heap.size:=fun q hq=>⟨(oG.lt q hq).1,hGl.out q hq⟩
   have g2:∀q,(Value.slice A2' LL.length c2').ownBlock=some q→W8.heap.size≤q∧q<W9.heap.size:=fun q hq=>⟨(o2.lt q hq).1,h2l.out q hq⟩
   have g3:∀q,(Value.slice Ao LO.length co).ownBlock=some q→W9.heap.size≤q:=fun q hq=>(oO.lt q hq).1
   have key:∀(u v:Value)(a b c d:Nat),(∀q,u.ownBlock=some q→a≤q∧q<b)→(∀q,v.ownBlock=some q→c≤q∧q<d)→(b≤c∨d≤a)→u.ownBlock=none∨u.ownBlock≠v.ownBlock:=fun u v a b c d h1 h2 h3=>by
    cases e:u.ownBlock with
    |none=>exact .inl rfl
    |some x=>refine .inr fun e2=>?_;have:=h1 x e;have:=h2 x e2.symm;omega
   have g3':∀q,(Value.slice Ao LO.length co).ownBlock=some q→W9.heap.size≤q∧q<W12.heap.size:=fun q hq=>⟨g3 q hq,(oO.lt q hq).2⟩
   match j,hj,k,hk,hne with
   |0,_,1,_,_=>exact key _ _ _ _ _ _ g1 g2 (.inl hWL)
   |0,_,2,_,_=>exact key _ _ _ _ _ _ g1 g3' (.inl oQ)
   |1,_,0,_,_=>exact key _ _ _ _ _ _ g2 g1 (.inr hWL)
   |1,_,2,_,_=>exact key _ _ _ _ _ _ g2 g3' (.inl nR)
   |2,_,0,_,_=>exact key _ _ _ _ _ _ g3' g1 (.inr oQ)
   |2,_,1,_,_=>exact key _ _ _ _ _ _ g3' g2 (.inr nR)
   |0,_,0,_,h=>exact absurd rfl h
   |1,_,1,_,h=>exact absurd rfl h
   |2,_,2,_,h=>exact absurd rfl h)
  (fun j hj=>by
   match j,hj with
   |0,_=>exact hLLn
   |1,_=>exact hLLn
   |2,_=>exact hLLz)
  (fun W hW=>hPw.out W ((hL5.out.stay hV12).sq.hb.trans (hW.mono (hL5.out.sq.hb.size))))
 have hWW1:=Hd hW11;have hWW2:=Hd hW12;replace km:=Hd km;have hV12':=Hd hV12;clear hW11 hW12 hD11 hD12 hD hb12 oG o2 oO hV12;rw[←hWW1.out];go_upto_region 15 with(go_at_call 18;have km2:=km.out;rw[hWW2.out]at km2;refine km2.mono ?_;clear km2;rintro e W13 ⟨rfl,hB13⟩)
 have hB13':Below W5.heap.size W12 W13:=by rw[hWW2.out];exact hB13
 have hV13:=hV12'.out.trans hB13';obtain⟨⟨x0,y0,y1,y2,y3,y4,y5,y6⟩,_⟩:=cc.out W13 hV13;have k17:=Hd (k5.out W13 (hL5.out.stay hV13).sq.hb);replace hV13:=Hd hV13;clear km hB13 hB13';go_upto_region 16 with(go_at_call 16;refine k17.out.mono ?_;rintro e W14 hP14;obtain⟨va,rfl,hOa,hB14⟩:=hP14.row;obtain⟨Aa,ca',rfl⟩:=hOa.form;clear hP14)
 clear x0 y0 y1 y2 y3 y4 y5 y6;rw[←hLL.out]at hOa ⊢;have n13:=hV13.out.size;have hV14:=hV13.out.trans (hB14.mono n13);have hra:Rd W14 (fun b=>b<W14.heap.size) (.slice Aa LL.length ca') (.sl LL.length (LL.flatMap strD)):=hOa.rd (fun b h _=>h.elim) (fun b _ h=>h);have kt5:=Hd (evW.sameTexts_w Aa Aw ca' cw _ _ LL oQ W14 hra (hrw.out.under hV14 (fun b h=>h)));have hfin:=Hd (hL5.out.sq.hb.trans (hV14.mono hL5.out.sq.hb.size));clear hOa hra hB14 hV14;go_wp2_with (go_at_call 17;refine kt5.out.mono ?_;rintro e W15 ⟨rfl,n3,rfl⟩);go_ret;exact⟨rfl,below_drewN hfin.out _⟩
end lawW
end Go.Proofs.YthaabihjeomipaaGreatDoor
