/- The law EvolveQueries. -/
import Derived.Test.YtfiodnlgiglhfaaGreatDoorY8
namespace Go.Proofs.YtfiodnlgiglhfaaGreatDoor
set_option maxRecDepth 100000
set_option maxHeartbeats 16000000
open Go.RowKit Go.Deep
set_option linter.unusedVariables false
set_option linter.unusedSimpArgs false
namespace lawW
open nmW ckW evW
theorem lawQ_k (A B:Option Addr)(ca cb:Nat)(F G:Nat→Prop)(S:List Td)(L:List Cg)(q:Qy)(s:Sl3)(hS:SzT S)(hL:L.length≤1048576)(hC:∀c∈L,SzC c)(hs:SzQ q)(hSB:SzB q)(w:World)(hK:KwIs w)(hG:∀b,G b→b<w.heap.size)
  (r:Rd w F (.slice A S.length ca) (.sl S.length (S.flatMap tdD)))(rc:Rd w G (.slice B L.length cb) (.sl L.length (L.flatMap cgD)))(R:QR w F q s):
  Calls Tryz.prog 3 #[.agg #[.slice A S.length ca],.slice B L.length cb,.agg ⟨qV q s⟩] w fun e w'=>e=.returned (.bool true)∧Bw w w':=by
 obtain⟨W0,hW0⟩:∃W0,W0=((w.alloc (.cells ⟨[.slice A S.length ca]⟩ 24)).alloc (.cells ⟨qV q s⟩ 32)):=⟨_,rfl⟩
 have h0:SQ S A ca q s w W0:=by rw[hW0];exact SQ.new S A ca q s w
 have hF:=R.lt;have k1:=queryBeyond_k F q s hs W0 (R.under h0.hb);have k2:=fun W (hW:Bw w W)=>twinSchema_k A ca F S hS W (fun b h=>zF (hF b h) hW.size) (r.under hW hF)
 have k3:=fun W (hW:Bw w W)=>twinChanges_k B cb G L hL hC W (fun b h=>zF (hG b h) hW.size) (rc.under hW hG)
 have k4:=fun W (hW:Bw w W)=>twinQuery_k F q s hs W (R.under hW)
 have k5:=fun W (hW:Bw w W)=>query_k A B ca cb F G S L q s hS hL hC hs hSB W (hK.stay hW) (fun b h=>zF (hG b h) hW.size) (r.under hW hF) (rc.under hW hG) (R.under hW)
 have k6:=fun(W:World)(hW:Bw w W)(A':Option Addr)(c':Nat)(B':Option Addr)(d':Nat)(s':Sl3)(F' G':Nat→Prop)(h1:∀b,G' b→b<W.heap.size)=>refW.rQuery_k A' B' c' d' F' G' S L q s' hS hL hC hs hSB W (hK.stay hW) h1
 have hr0:=Hd (show Rd w (fun b=>b<w.heap.size) (.slice A S.length ca) (.sl S.length (S.flatMap tdD))from r.mono fun b _ h=>h);have hr1:=Hd (show Rd w (fun b=>b<w.heap.size) (.slice B L.length cb) (.sl L.length (L.flatMap cgD))from rc.mono fun b _ h=>h);have hr2:=Hd (show QR w (fun b=>b<w.heap.size) q s from R.mono (fun b _ h=>h) (fun b h=>h));have hz1:∀(W1:World),Bw W0 W1→SQ S A ca q s w W1:=fun W1 h=>h0.stay h
 obtain⟨y0,y1,y2,y3,y4,y5,y6⟩:=qbc h0.b1;have x0:=h0.b0.cell 0;obtain⟨a1,ac1,a2,ac2,a3,ac3⟩:=s;simp only[qV,zY]at hW0 x0 y0 y1 y2 y3 y4 y5 y6 k1 k4 k5 k6 ⊢;have hWW:=Hd hW0;replace h0:=Hd h0;replace k1:=Hd k1;replace k2:=Hd k2;replace k3:=Hd k3;replace k4:=Hd k4;replace k5:=Hd k5;replace k6:=Hd k6;replace hz1:=Hd hz1;replace hs:=Hd hs;replace hS:=Hd hS;replace hC:=Hd hC;replace hL:=Hd hL;clear hSB hK hG r rc R hF hW0;go_enter Tryz.func3,Tryz.ntmps3;go_upto_region 1 with fail
 rw[←hWW.out];go_upto_region 3 with(go_at_call 4;refine k1.out.mono ?_;rintro e W1 ⟨b,rfl,hB1⟩)
 ·go_ret;exact⟨rfl,(hz1.out W1 hB1).hb⟩
 clear x0 y0 y1 y2 y3 y4 y5 y6;have hS1:=Hd (hz1.out W1 hB1);clear hB1 k1 h0;obtain⟨y0,y1,y2,y3,y4,y5,y6⟩:=qbc hS1.out.b1;have x0:=hS1.out.b0.cell 0;simp only[zY]at x0 y0 y1 y2 y3 y4 y5 y6;go_upto_region 4 with(go_at_call 5;refine(k2.out _ hS1.out.hb).mono ?_;rintro e W2 ⟨v1,rfl,hO1,hB2⟩;obtain⟨A1,c1,rfl⟩:=hO1.form)
 clear x0 y0 y1 y2 y3 y4 y5 y6;obtain⟨W2a,hW2a⟩:∃W',W'=W2.alloc (.cells ⟨[.slice A1 S.length c1]⟩ 24):=⟨_,rfl⟩
 rw[←hW2a];have hS2:=Hd (hS1.out.stay (show Bw W1 W2a by rw[hW2a];exact hB2.alloc hB2.size _));have m7:Blk W2a W2.heap.size 24 [.slice A1 S.length c1]:=by rw[hW2a];exact Blk.new _ _ _
 have n2:W2.heap.size<W2a.heap.size:=m7.lt;have p2:Rd W2a (fun b=>b<W2a.heap.size) (.slice A1 S.length c1) (.sl S.length (S.flatMap tdD)):=by
  rw[hW2a];exact((hO1.rd (G:=fun b=>b<W2.heap.size) (fun b _ h=>h) (fun b _ h=>h)).alloc _).mono fun b h _=>by simp;omega
 replace m7:=Hd m7;replace p2:=Hd p2;clear hW2a hO1 hB2 hS1 k2;obtain⟨y0,y1,y2,y3,y4,y5,y6⟩:=qbc hS2.out.b1;have x0:=hS2.out.b0.cell 0;simp only[zY]at x0 y0 y1 y2 y3 y4 y5 y6;go_upto_region 5 with(go_at_call 6;refine(k3.out _ hS2.out.hb).mono ?_;rintro e W3 ⟨v2,rfl,hO2,hB3⟩;obtain⟨A2,c2,rfl⟩:=hO2.form)
 clear x0 y0 y1 y2 y3 y4 y5 y6;have hS3:=Hd (hS2.out.stay hB3);have p3:=Hd (show Rd W3 (fun b=>b<W3.heap.size) (.slice A2 L.length c2) (.sl L.length (L.flatMap cgD)) from hO2.rd (fun b _ h=>h) (fun b _ h=>h));have n3:=hB3.size;have m7a:=Hd (m7.out.stay hB3);have p2a:=Hd (p2.out.stay hB3);clear hO2 hB3 hS2 m7 p2 k3;obtain⟨y0,y1,y2,y3,y4,y5,y6⟩:=qbc hS3.out.b1;have x0:=hS3.out.b0.cell 0;simp only[zY]at x0 y0 y1 y2 y3 y4 y5 y6;go_upto_region 6 with(go_at_call 7;refine(k4.out _ hS3.out.hb).mono ?_;rintro e W4 ⟨t1,t2,t3,lt,rt,rfl,hOt,hlt,hrt,hB4⟩;obtain⟨s2,es2,R2⟩:=hOt.part hlt hrt bR (P:=fun b=>b<W4.heap.size) (fun b _ h=>h) (fun b h=>h);obtain⟨b1,bc1,b2,bc2,b3,bc3⟩:=s2;simp only[es2,qV])
 clear x0 y0 y1 y2 y3 y4 y5 y6;obtain⟨W4a,hW4a⟩:∃W',W'=W4.alloc (.cells ⟨[.slice b1 q.items.length bc1,.int .i64 q.mode,.int .i64 q.after,.slice b2 q.wh.length bc2,.int .i64 q.within,.string q.by_,.slice b3 q.ret.length bc3]⟩ 32):=⟨_,rfl⟩
 rw[←hW4a];have hB4a:Bw W3 W4a:=by rw[hW4a];exact hB4.alloc hB4.size _
 have hB4b:Bw W4 W4a:=by rw[hW4a];exact bA
 have hS4:=Hd (hS3.out.stay hB4a);have m9:Blk W4a W4.heap.size 32 (qV q ⟨b1,bc1,b2,bc2,b3,bc3⟩):=by rw[hW4a];exact Blk.new _ _ _
 have n4:W4.heap.size<W4a.heap.size:=m9.lt;have n4':=hB4.size;have R2a:=Hd (R2.under hB4b);have m7b:=Hd (m7a.out.stay hB4a);have p2b:=Hd (p2a.out.stay hB4a);have p3b:=Hd (p3.out.stay hB4a);replace m9:=Hd m9;clear hW4a hOt hlt hrt hB4 hB4a hB4b es2 R2 hS3 m7a p2a p3 k4 lt rt;obtain⟨y0,y1,y2,y3,y4,y5,y6⟩:=qbc hS4.out.b1;have x0:=hS4.out.b0.cell 0;simp only[zY]at x0 y0 y1 y2 y3 y4 y5 y6;go_upto_region 7 with(go_at_call 8;refine(k5.out _ hS4.out.hb).mono ?_;rintro e W5 hP5;obtain⟨code,at_,R,v1,v2,v3,l,rl,rfl,hA,hOg,hlg,hrg,hB5⟩:=hP5.own;obtain⟨Q,hQ⟩:∃Q,Q=Option.getD R zQ:=⟨_,rfl⟩;rw[←hQ]at hOg hlg hrg ⊢;clear hP5;replace hQ:=Hd hQ;replace hlg:=Hd hlg;replace hrg:=Hd hrg;replace hA:=Hd hA;obtain⟨g1,gc1,e1⟩:=hOg.i.kr.form;obtain⟨g2,gc2,e2⟩:=hOg.wr.form;obtain⟨g3,gc3,e3⟩:=hOg.r.kr.form;subst e1 e2 e3;simp only[quV])
 clear x0 y0 y1 y2 y3 y4 y5 y6;obtain⟨W5a,hW5a⟩:∃W',W'=W5.alloc (.cells ⟨[.slice g1 l.length gc1,.int .i64 Q.mode,.int .i64 Q.after,.slice g2 Q.wh.length gc2,.int .i64 Q.within,.string Q.by_,.slice g3 rl.length gc3]⟩ 32):=⟨_,rfl⟩
 rw[←hW5a];have hB5a:Bw W4a W5a:=by rw[hW5a];exact hB5.alloc hB5.size _
 have hB5b:Bw W5 W5a:=by rw[hW5a];exact bA
 have hS5:=Hd (hS4.out.stay hB5a);have m10:Blk W5a W5.heap.size 32 (quV Q (.slice g1 l.length gc1) (.slice g2 Q.wh.length gc2) (.slice g3 rl.length gc3) Q.by_):=by rw[hW5a];exact Blk.new _ _ _
 have n5:W5.heap.size<W5a.heap.size:=m10.lt;have n5':=hB5.size;have own:=Hd hOg.own;have hOga:=Hd (hOg.stay hB5b);have m7c:=Hd (m7b.out.stay hB5a);have m9c:=Hd (m9.out.stay hB5a);have p2c:=Hd (p2b.out.stay hB5a);have p3c:=Hd (p3b.out.stay hB5a);have R2c:=Hd (R2a.out.under hB5a);have hsz:=hA.out.sz hs.out;rw[←hQ.out]at hsz;have hBgs:=hS4.out.b1.lt;replace m10:=Hd m10;replace hsz:=Hd hsz;clear hW5a hOg hB5 hB5a hB5b hS4 m7b m9 p2b p3b R2a;obtain⟨y0,y1,y2,y3,y4,y5,y6⟩:=qbc hS5.out.b1;have x0:=hS5.out.b0.cell 0;simp only[zY]at x0 y0 y1 y2 y3 y4 y5 y6;go_upto_region 8 with(go_at_call 8;refine(k5.out _ hS5.out.hb).mono ?_;rintro e W6 hP6;obtain⟨code',at',R',o1,o2,o3,lo,ro,rfl,hA',hOo,hlo,hro,hB6⟩:=hP6.own;obtain⟨e1,e2,e3⟩:=hA.out.uniq hA';subst e1 e2 e3;rw[←hQ.out]at hOo hlo hro ⊢;obtain⟨so,eso,Ro⟩:=hOo.part hlo hro bR (P:=fun b=>W5a.heap.size≤b∧b<W6.heap.size) (fun b h1 h2=>⟨h1,h2⟩) (fun b h=>h.2);obtain⟨d1,dc1,d2,dc2,d3,dc3⟩:=so;clear hP6;simp only[eso,qV])
 clear x0 y0 y1 y2 y3 y4 y5 y6;obtain⟨W6a,hW6a⟩:∃W',W'=W6.alloc (.cells ⟨[.slice d1 Q.items.length dc1,.int .i64 Q.mode,.int .i64 Q.after,.slice d2 Q.wh.length dc2,.int .i64 Q.within,.string Q.by_,.slice d3 Q.ret.length dc3]⟩ 32):=⟨_,rfl⟩
 rw[←hW6a];have hB6a:Bw W5a W6a:=by rw[hW6a];exact hB6.alloc hB6.size _
 have hB6b:Bw W6 W6a:=by rw[hW6a];exact bA
 have hS6:=Hd (hS5.out.stay hB6a);have m13:Blk W6a W6.heap.size 32 (qV Q ⟨d1,dc1,d2,dc2,d3,dc3⟩):=by rw[hW6a];exact Blk.new _ _ _
 have n6:W6.heap.size<W6a.heap.size:=m13.lt;have n6':=hB6.size;have Roa:=Hd (Ro.under hB6b);have hOgb:=Hd (hOga.out.stay hB6a);have m7d:=Hd (m7c.out.stay hB6a);have m9d:=m9c.out.stay hB6a;have m10d:=Hd (m10.out.stay hB6a);have p2d:=p2c.out.stay hB6a;have p3d:=p3c.out.stay hB6a;have R2d:=R2c.out.under hB6a;have k7:=Hd (k6.out W6a hS6.out.hb A1 c1 A2 c2 ⟨b1,bc1,b2,bc2,b3,bc3⟩ (fun b=>b<W6a.heap.size) (fun b=>b<W6a.heap.size) (fun b h=>h) (p2d.mono fun b h _=>by omega) (p3d.mono fun b h _=>by omega) (R2d.mono (fun b h _=>by omega) (fun b h=>h)));have x7:=m7d.out.cell 0;obtain⟨z0,z1,z2,z3,z4,z5,z6⟩:=qbc m9d;simp only[zY]at x7 z0 z1 z2 z3 z4 z5 z6;replace m9d:=Hd m9d;replace p2d:=Hd p2d;replace p3d:=Hd p3d;replace R2d:=Hd R2d;replace m13:=Hd m13;clear hW6a hOo hB6 hB6a hB6b hS5 m7c m9c m10 p2c p3c R2c hOga hlo hro lo ro eso Ro hA' k5;go_upto_region 9 with(go_at_call 9;refine k7.out.mono ?_;rintro e W7 hP7;obtain⟨code',at',R',w1,w2,w3,lw,rw',rfl,hA',hOw,hlw,hrw,hB7⟩:=hP7.own;obtain⟨e1,e2,e3⟩:=hA.out.uniq hA';subst e1 e2 e3;rw[←hQ.out]at hOw hlw hrw ⊢;obtain⟨sw,esw,Rw⟩:=hOw.part hlw hrw bR (P:=fun b=>W6a.heap.size≤b∧b<W7.heap.size) (fun b h1 h2=>⟨h1,h2⟩) (fun b h=>h.2);obtain⟨f1,fc1,f2,fc2,f3,fc3⟩:=sw;clear hP7;simp only[esw,qV])
 clear x7 z0 z1 z2 z3 z4 z5 z6;obtain⟨W7a,hW7a⟩:∃W',W'=W7.alloc (.cells ⟨[.slice f1 Q.items.length fc1,.int .i64 Q.mode,.int .i64 Q.after,.slice f2 Q.wh.length fc2,.int .i64 Q.within,.string Q.by_,.slice f3 Q.ret.length fc3]⟩ 32):=⟨_,rfl⟩
 rw[←hW7a];have hB7a:Bw W6a W7a:=by rw[hW7a];exact hB7.alloc hB7.size _
 have hB7b:Bw W7 W7a:=by rw[hW7a];exact bA
 have m16:Blk W7a W7.heap.size 32 (qV Q ⟨f1,fc1,f2,fc2,f3,fc3⟩):=by rw[hW7a];exact Blk.new _ _ _
 have n7:W7.heap.size<W7a.heap.size:=m16.lt;have n7':=hB7.size;have hS7:=hS6.out.stay hB7a;have hOgc:=hOgb.out.stay hB7a;have m10e:=m10d.out.stay hB7a;have hLW:LW S L q Q w W2.heap.size W4.heap.size W6.heap.size W7.heap.size W4a.heap.size W5.heap.size A ca B cb ⟨a1,ac1,a2,ac2,a3,ac3⟩ A1 c1 A2 c2 ⟨b1,bc1,b2,bc2,b3,bc3⟩ ⟨d1,dc1,d2,dc2,d3,dc3⟩ ⟨f1,fc1,f2,fc2,f3,fc3⟩ W7a:=by
  have hwz:=hS7.hb.size;refine⟨hS7.hb,hBgs,hS7.b0,hS7.b1,m7d.out.stay hB7a,m9d.out.stay hB7a,m13.out.stay hB7a,m16,by omega,by omega,by omega,by omega,?_,?_,?_,?_,?_,?_,?_,?_⟩
  ·exact(hr0.out.under hS7.hb fun b h=>h).mono fun b h h2=>⟨h2,.inl (by omega)⟩
  ·exact(p2d.out.stay hB7a).mono fun b h h2=>⟨h2,.inl (by omega)⟩
  ·exact(hr1.out.under hS7.hb fun b h=>h).mono fun b h h2=>⟨h2,.inl (by omega)⟩
  ·exact(p3d.out.stay hB7a).mono fun b h h2=>⟨h2,.inl (by omega)⟩
  ·exact(hr2.out.under hS7.hb).mono (fun b h h2=>⟨h2,.inl (by omega)⟩) (fun b h=>h.1)
  ·exact(R2d.out.under hB7a).mono (fun b h h2=>⟨h2,.inl (by omega)⟩) (fun b h=>h.1)
  ·exact(Roa.out.under hB7a).mono (fun b h h2=>⟨h2,.inr (by omega)⟩) (fun b h=>h.1)
  ·exact(Rw.under hB7b).mono (fun b h h2=>⟨h2,.inr (by omega)⟩) (fun b h=>h.1)
 obtain⟨sg,esg,Rg⟩:=hOgc.part hlg.out hrg.out bR (P:=fun b=>b<W7a.heap.size) (fun b _ h=>h) (fun b h=>h);have kgw:=sameQuery_k _ _ Q sg ⟨f1,fc1,f2,fc2,f3,fc3⟩ hsz.out.1 W7a Rg hLW.rw_;rw[←esg]at kgw;simp only[quV,qV]at kgw;have tok1:True:=trivial;obtain⟨y0,y1,y2,y3,y4,y5,y6⟩:=qu_cells m10e;obtain⟨z0,z1,z2,z3,z4,z5,z6⟩:=qbc m16;simp only at z0 z3 z6;replace kgw:=Hd kgw;replace hLW:=Hd hLW;replace hOgc:=Hd hOgc;replace m10e:=Hd m10e;replace own:=Hd own.out;clear hW7a hB7 hB7a hB7b hS6 hS7 m7d m9d m10d m13 m16 p2d p3d R2d Roa hOgb hOw hlw hrw lw rw' esw Rw hA' esg Rg k6 k7 hr0 hr1 hr2 hA hQ hz1;go_upto_region 11 with(first
  |(have _t:=tok1;go_at_call 10;refine kgw.out.mono ?_;clear _t tok1;rintro e W8 ⟨rfl,hB8⟩;have hL8:=hLW.out.stay hB8;have u0:=hL8.x3.cell 0;have u1:=hL8.x7.cell 0;simp only[zY]at u0 u1;have k8:=Hd (hL8.kss hS.out);replace hL8:=Hd hL8)
  |(go_at_call 11;refine k8.out.mono ?_;rintro e W9 ⟨rfl,hB9⟩;have hL9:=hL8.out.stay hB9;have k9:=Hd (hL9.ksl hL.out hC.out);replace hL9:=Hd hL9)
  |(go_at_call 12;refine k9.out.mono ?_;rintro e W10 ⟨rfl,hB10⟩;have hL10:=hL9.out.stay hB10;have k10:=hL10.ksq hs.out;obtain⟨u0,u1,u2,u3,u4,u5,u6⟩:=qbc hL10.x5;obtain⟨t0,t1,t2,t3,t4,t5,t6⟩:=qbc hL10.x9;simp only[qV]at k10 u0 u3 u6 t0 t3 t6;replace k10:=Hd k10;replace hL10:=Hd hL10)
  |(go_at_call 10;refine k10.out.mono ?_;rintro e W11 ⟨rfl,hB11⟩;have hL11:=Hd (hL10.out.stay hB11)))
 clear y0 y1 y2 y3 y4 y5 y6 z0 z1 z2 z3 z4 z5 z6 t0 t1 t2 t3 t4 t5 t6;clear u0 u1 u2 u3 u4 u5 u6;have hBB:=hB8.trans ((hB9.trans ((hB10.trans (hB11.mono hB10.size)).mono hB9.size)).mono hB8.size);have m10f:=m10e.out.stay hBB;have hOg2:=hOgc.out.stay hBB;have hz8:=hBB.size;have ll:l.length≤20:=by have h1:=hsz.out.2.1;rw[←hlg.out,xC]at h1;exact h1
 have lr:rl.length≤20:=by have h1:=hsz.out.2.2;rw[←hrg.out,xC]at h1;exact h1
 have kk:=keeps_k Q W11 W4a.heap.size W5.heap.size _ _ _ l rl hOg2 hlg.out hrg.out hsz.out.1 ll lr (by omega) (by omega) own.out;obtain⟨y0,y1,y2,y3,y4,y5,y6⟩:=qu_cells m10f;simp only[quV]at kk;have tok2:True:=trivial;replace kk:=Hd kk;clear hB8 hB9 hB10 hB11 hBB m10f hOg2 m10e hOgc hL8 hL9 hL10 hLW k8 k9 k10 kgw own hlg hrg;go_wp2_with (first
  |(go_at_call 13;refine kk.out.mono ?_;rintro e W12 ⟨rfl,hK12⟩;have hL12:=hL11.out.kp hK12;have k12:=hL12.kso hsz.out.1;obtain⟨u0,u1,u2,u3,u4,u5,u6⟩:=qbc hL12.x13;obtain⟨t0,t1,t2,t3,t4,t5,t6⟩:=qbc hL12.x16;simp only[qV]at k12 u0 u3 u6 t0 t3 t6;replace k12:=Hd k12;replace hL12:=Hd hL12;clear hK12)
  |(have _t:=tok2;go_at_call 10;refine k12.out.mono ?_;clear _t tok2;rintro e W13 ⟨rfl,hB13⟩;have hL13:=hL12.out.stay hB13;have k13:=hL13.ksq hs.out;obtain⟨u0',u1',u2',u3',u4',u5',u6'⟩:=qbc hL13.x5;obtain⟨t0',t1',t2',t3',t4',t5',t6'⟩:=qbc hL13.x9;simp only[qV]at k13 u0' u3' u6' t0' t3' t6';replace k13:=Hd k13;replace hL13:=Hd hL13)
  |(go_at_call 10;refine k13.out.mono ?_;rintro e W14 ⟨rfl,hB14⟩;have hL14:=Hd (hL13.out.stay hB14)))
 go_ret;exact⟨rfl,hL14.out.hb⟩
end lawW
end Go.Proofs.YtfiodnlgiglhfaaGreatDoor
