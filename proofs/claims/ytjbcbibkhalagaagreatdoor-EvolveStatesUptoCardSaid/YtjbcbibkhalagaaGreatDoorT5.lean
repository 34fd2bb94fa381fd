/- The law's copy of a state, its comparison of. -/
import Derived.Test.YtjbcbibkhalagaaGreatDoorT4
import Derived.Deep.DeepAppendRoom
namespace Go.Proofs.YtjbcbibkhalagaaGreatDoor
set_option maxRecDepth 100000
set_option maxHeartbeats 16000000
open Proofs.Tryz Go.RowKit Go.Deep
set_option linter.unusedVariables false
set_option linter.unusedSimpArgs false
structure Gg (x:tg):Prop where
 s:iI x.S
 q:jE x.q
 h:x.held.length<=1048576
 k:x.kept.length<=1048576
 u:x.used.length<=1048576
 w:x.wait.length<=1048576
 m:∀t∈x.wait,t.iE.length<=1048576/\t.lens.length<=1048576/\t.vals.length<=1048576
theorem SR.grown {w w' F x z row}(h:SR w F x z)(hg:w.grownBy w' row)(hF:∀b,F b->some b≠row):SR w' F x z:=
 ⟨h.rs.grown hg hF,⟨h.rq.r1.grown hg hF,h.rq.r2.grown hg hF,h.rq.r3.grown hg hF,λb hb=>zF (h.lt b hb) hg.size⟩,h.rh.grown hg hF,h.rk.grown hg hF,h.DU.grown hg hF,h.ru.grown hg hF⟩
namespace rS
open cH dR di
theorem D0 (F x z)(hz:Gg x)(w)(R:SR w F x z):
  Cl 5 #[.agg ⟨jP x z⟩] w λe w'=>∃z',e=.returned (.agg ⟨jP x z'⟩)/\SR w' (λb=>w.heap.size<=b/\b<w'.heap.size) x z'/\Bw w w':=by
 obtain⟨W0,cg⟩:=aB ((w.alloc (.cells ⟨jP x z⟩ 36)).alloc (.cells ⟨sm⟩ 36))
 have bL:Bw w W0:=by rw[cg];exact(bA).alloc sJ _
 have b1:ao W0 w.heap.size 36 (jP x z):=by rw[cg];exact(ao.new _ _ _).alloc _
 have b2:ao W0 (w.heap.size+1) 36 sm:=by rw[cg];exact ao.new' sJ
 have hF:=R.lt;have lt:=λW (hW:Bw w W) b (h:F b)=>zF (hF b h) hW.size
 have k1:=λW (hW:Bw w W)=>Bn z.a0 z.c0 F x.S hz.s W (lt W hW) (R.rs.under hW hF)
 have k2:=λW (hW:Bw w W)=>D4 F x.q z.s hz.q W (R.rq.under hW)
 have k3:=λW (hW:Bw w W)=>rT z.a5 z.c5 F x.held hz.h W (lt W hW) (R.rh.under hW hF)
 have k4:=λW (hW:Bw w W)=>rT z.a6 z.c6 F x.kept hz.k W (lt W hW) (R.rk.under hW hF)
 have k5:=λW (hW:Bw w W)=>xj z.a7 z.c7 F x.wait hz.w hz.m W (lt W hW) (R.DU.under hW hF)
 have k6:=λW (hW:Bw w W)=>tN z.a8 z.c8 F x.used hz.u W (lt W hW) (R.ru.under hW hF)
 obtain⟨a0,c0,⟨A1,d1,A2,d2,A3,d3⟩,a5,c5,a6,c6,a7,c7,a8,c8⟩:=z;have kS:∀W,ao W w.heap.size 36 (jP x ⟨a0,c0,⟨A1,d1,A2,d2,A3,d3⟩,a5,c5,a6,c6,a7,c7,a8,c8⟩)->W.rangeAt w.heap.size 0 [.slice a0 x.S.length c0]/\W.rangeAt w.heap.size 1 [.slice A1 x.q.items.length d1,.int .i64 x.q.mode,.int .i64 x.q.after,.slice A2 x.q.wh.length d2,.int .i64 x.q.within,.string x.q.au,.slice A3 x.q.ret.length d3]/\W.cell? ⟨w.heap.size,8,none⟩=some (.int .i64 x.cap)/\W.cell? ⟨w.heap.size,9,none⟩=some (.int .i64 x.mark)/\W.cell? ⟨w.heap.size,10,none⟩=some (.bool x.closed)/\W.cell? ⟨w.heap.size,11,none⟩=some (.slice a5 x.held.length c5)/\W.cell? ⟨w.heap.size,12,none⟩=some (.slice a6 x.kept.length c6)/\W.cell? ⟨w.heap.size,13,none⟩=some (.slice a7 x.wait.length c7)/\W.cell? ⟨w.heap.size,14,none⟩=some (.slice a8 x.used.length c8):=λW b=>by
  exact⟨λj v hv=>(b.cell (0+j)).trans (by match j,hv with |0,hv=>exact hv |j+1,hv=>simp at hv),λj v hv=>(b.cell (1+j)).trans (by match j,hv with |0,hv |1,hv |2,hv |3,hv |4,hv |5,hv |6,hv=>exact hv |j+7,hv=>simp at hv),b.cell 8,b.cell 9,b.cell 10,b.cell 11,b.cell 12,b.cell 13,b.cell 14⟩
 simp only[jP,sm,lT,qV,List.cons_append,List.nil_append]at cg k1 k2 k3 k4 k5 k6 |-;have qd:=Hd cg;have ZJ:Bw W0 W0.drew:=(bR).drew;have XE:w.heap.size+1<W0.heap.size:=b2.lt;have Bo:=b2.stay ZJ;have qR:=b1.stay ZJ;have ak:=xW (kS _ qR) trivial;replace⟨kS,k1,k2,k3,k4,k5,k6,bL⟩:=H8 kS k1 k2 k3 k4 k5 k6 bL;clear cg R hF lt hz b1 b2;go_enter func5,ntmps5;go_upto_region 1 with fail
 rw[<-qd.o];refine aC (p:=100) (S0:=λW=>W.rangeAt w.heap.size 0 [.slice a0 x.S.length c0]/\W.rangeAt w.heap.size 1 [.slice A1 x.q.items.length d1,.int .i64 x.q.mode,.int .i64 x.q.after,.slice A2 x.q.wh.length d2,.int .i64 x.q.within,.string x.q.au,.slice A3 x.q.ret.length d3]/\W.cell? ⟨w.heap.size,8,none⟩=some (.int .i64 x.cap)/\W.cell? ⟨w.heap.size,9,none⟩=some (.int .i64 x.mark)/\W.cell? ⟨w.heap.size,10,none⟩=some (.bool x.closed)/\W.cell? ⟨w.heap.size,11,none⟩=some (.slice a5 x.held.length c5)/\W.cell? ⟨w.heap.size,12,none⟩=some (.slice a6 x.kept.length c6)/\W.cell? ⟨w.heap.size,13,none⟩=some (.slice a7 x.wait.length c7)/\W.cell? ⟨w.heap.size,14,none⟩=some (.slice a8 x.used.length c8)) (S1:=λ_=>True) kQ ?_;obtain⟨V0,hV0⟩:=aB W0.drew
 rw[<-hV0]at ak ZJ Bo qR |-;clear hV0 qd;have Qd:=Hd ZJ;replace⟨Bo,qR⟩:=H2 Bo qR;have up:=Hd (λW (hW:Bw W0 W)=>bL.o.trans (hW.mono bL.o.size));clear ZJ;refine' aq 0 rfl ak ?_;try simp only[Act.put,aK]
 go_simp;refine' bm (i:=1) (v:=_) rfl dQ kQ kQ kQ (λ_ _ _ h=>h) ak (yieldsIf_load_mid (by first|(with_reducible rfl)|go_simp) 24 (.tmp 3) rfl (w.heap.size) (0) (by first|rfl |go_simp) ([.slice a0 x.S.length c0]) _ (λW h=>h.1) underlying24 rfl kQ) ?Vq;refine' aq 3 rfl ak ?_;try simp only[Act.put,aK]
 go_simp;refine' bm (i:=4) (v:=_) rfl dQ kQ kQ kQ (λ_ _ _ h=>h) ak (yieldsIf_load_mid (by first|(with_reducible rfl)|go_simp) 31 (.tmp 6) rfl (w.heap.size) (1) (by first|rfl |go_simp) ([.slice A1 x.q.items.length d1,.int .i64 x.q.mode,.int .i64 x.q.after,.slice A2 x.q.wh.length d2,.int .i64 x.q.within,.string x.q.au,.slice A3 x.q.ret.length d3]) _ (λW h=>h.2.1) underlying31 rfl kQ) ?aeB;refine' aq 6 rfl ak ?_;refine' aq 7 rfl ak ?_;refine' aq 8 rfl ak ?_;refine' aq 9 rfl ak ?_;refine' aq 10 rfl ak ?_;refine' aq 11 rfl ak ?_;refine' aq 12 rfl ak ?_;refine' aq 13 rfl ak ?_;refine' aq 15 rfl ak ?_;refine' aq 16 rfl ak ?_;refine' aq 18 rfl ak ?_;refine' aq 19 rfl ak ?_;refine' aq 21 rfl ak ?_;refine' aq 22 rfl ak ?_;try simp only[Act.put,aK]
 refine Gs 2 rfl λK hK=>?_
 go_simp;go_at_call 12;refine(k1.o V0 (up.o V0 Qd.o)).mono ?_;rintro e V1 ⟨v0,rfl,Bm,hB⟩;obtain⟨P0,p0,e⟩:=Bm.form;subst e;replace Bm:=Hd Bm;have iU:=Hd Qd.o.size;replace Bo:=Hd (Bo.o.stay hB);replace qR:=Hd (qR.o.stay hB);have tF:=Hd (Qd.o.trans (hB.mono Qd.o.size));refine hK.o _ _ ⟨kS.o V1 qR.o,λ_=>trivial⟩ ?_;replace ak:=xW (kS.o V1 qR.o) trivial;clear hK K hB;try simp only[Act.put,aK]
 refine Gs 5 rfl λK hK=>?_
 go_simp;go_at_call 13;refine(k2.o V1 (up.o V1 tF.o)).mono ?_;rintro e V2 ⟨t1,t2,t3,lt,rt,rfl,hq,hlt,hrt,hB⟩;obtain⟨Q1,q1,e⟩:=hq.i.kr.form;subst e;obtain⟨Q2,q2,e⟩:=hq.wr.form;subst e;obtain⟨Q3,q3,e⟩:=hq.r.kr.form;subst e;simp only[l8];replace hq:=Hd (hq.base tF.o.size);replace Bm:=Hd (Bm.o.stay hB);replace Bo:=Hd (Bo.o.stay hB);replace qR:=Hd (qR.o.stay hB);have tG:=Hd (tF.o.trans (hB.mono tF.o.size));refine hK.o _ _ ⟨kS.o V2 qR.o,λ_=>trivial⟩ ?_;replace ak:=xW (kS.o V2 qR.o) trivial;clear hK K hB;try simp only[Act.put,aK]
 refine Gs 14 rfl λK hK=>?_
 go_simp;go_at_call 14;refine(k3.o V2 (up.o V2 tG.o)).mono ?_;rintro e V3 ⟨v5,rfl,h5,hB⟩;obtain⟨P5,p5,e⟩:=h5.form;subst e;replace h5:=Hd (h5.base tG.o.size);replace Bm:=Hd (Bm.o.stay hB);replace hq:=Hd (hq.o.stay hB);replace Bo:=Hd (Bo.o.stay hB);replace qR:=Hd (qR.o.stay hB);have Lc:=Hd (tG.o.trans (hB.mono tG.o.size));refine hK.o _ _ ⟨kS.o V3 qR.o,λ_=>trivial⟩ ?_;replace ak:=xW (kS.o V3 qR.o) trivial;clear hK K hB;try simp only[Act.put,aK]
 refine Gs 17 rfl λK hK=>?_
 go_simp;go_at_call 14;refine(k4.o V3 (up.o V3 Lc.o)).mono ?_;rintro e V4 ⟨v6,rfl,h6,hB⟩;obtain⟨P6,p6,e⟩:=h6.form;subst e;replace h6:=Hd (h6.base Lc.o.size);replace Bm:=Hd (Bm.o.stay hB);replace hq:=Hd (hq.o.stay hB);replace h5:=Hd (h5.o.stay hB);replace Bo:=Hd (Bo.o.stay hB);replace qR:=Hd (qR.o.stay hB);have o6:=Hd (Lc.o.trans (hB.mono Lc.o.size));refine hK.o _ _ ⟨kS.o V4 qR.o,λ_=>trivial⟩ ?_;replace ak:=xW (kS.o V4 qR.o) trivial;clear hK K hB;try simp only[Act.put,aK]
 refine Gs 20 rfl λK hK=>?_
 go_simp;go_at_call 15;refine(k5.o V4 (up.o V4 o6.o)).mono ?_;rintro e V5 ⟨v7,m,rfl,h7,hm,hB⟩;obtain⟨P7,p7,e⟩:=h7.kr.form;subst e;replace h7:=Hd (show RM V5 W0.heap.size _ m from⟨h7.kr.base o6.o.size,λp hp=>(h7.f1 p hp).base o6.o.size,λp hp=>(h7.f2 p hp).base o6.o.size,λp hp=>(h7.f3 p hp).base o6.o.size,h7.ne⟩);replace Bm:=Hd (Bm.o.stay hB);replace hq:=Hd (hq.o.stay hB);replace h5:=Hd (h5.o.stay hB);replace h6:=Hd (h6.o.stay hB);replace Bo:=Hd (Bo.o.stay hB);replace qR:=Hd (qR.o.stay hB);have hU5:=Hd (o6.o.trans (hB.mono o6.o.size));refine hK.o _ _ ⟨kS.o V5 qR.o,λ_=>trivial⟩ ?_;replace ak:=xW (kS.o V5 qR.o) trivial;clear hK K hB;try simp only[Act.put,aK]
 refine Gs 23 rfl λK hK=>?_
 go_simp;go_at_call 16;refine(k6.o V5 (up.o V5 hU5.o)).mono ?_;rintro e V6 ⟨v8,rfl,h8,hB⟩;obtain⟨P8,p8,e⟩:=h8.form;subst e;replace h8:=Hd (h8.base hU5.o.size);replace Bm:=Hd (Bm.o.stay hB);replace hq:=Hd (hq.o.stay hB);replace h5:=Hd (h5.o.stay hB);replace h6:=Hd (h6.o.stay hB);replace h7:=Hd (h7.o.stay hB);replace Bo:=Hd (Bo.o.stay hB);replace qR:=Hd (qR.o.stay hB);have RE:=Hd (hU5.o.trans (hB.mono hU5.o.size));refine hK.o _ _ ⟨kS.o V6 qR.o,λ_=>trivial⟩ ?_;replace ak:=xW (kS.o V6 qR.o) trivial;clear hK K hB;try simp only[Act.put,aK]
 obtain⟨sq,XZ,Rq⟩:=hq.o.qr (q:=x.q) (G:=λb=>W0.heap.size<=b/\b<V6.heap.size) hlt hrt (λb h1 h2=>⟨h1,h2⟩) (λb h=>h.2);have e1:lt.length=x.q.items.length:=by rw[<-hlt,xC]
 have e3:rt.length=x.q.ret.length:=by rw[<-hrt,xC]
 have e7:m.length=x.wait.length:=by rw[<-hm,xC]
 obtain⟨q1',f1,q2',f2,q3',f3⟩:=sq;simp only[l8,qV,List.cons.injEq,Value.slice.injEq]at XZ;obtain⟨⟨r1,_,r2⟩,_,_,⟨r3,_,r4⟩,_,_,⟨r5,_,r6⟩,_⟩:=XZ;subst r1 r2 r3 r4 r5 r6;have r7:=h7.o.rd (G:=λb=>W0.heap.size<=b/\b<V6.heap.size) (λb h1 h2=>⟨h1,h2⟩);rw[hm]at r7;rw[e1,e3,e7]at*;have r0:=Bm.o.rd (G:=λb=>W0.heap.size<=b/\b<V6.heap.size) (λb h1 h2=>⟨zU iU.o h1,h2⟩) (λb h1 h2=>⟨zU iU.o h1,h2⟩);have hst:SR V6 (λb=>W0.heap.size<=b/\b<V6.heap.size) x ⟨P0,p0,⟨Q1,q1,Q2,q2,Q3,q3⟩,P5,p5,P6,p6,P7,p7,P8,p8⟩:=
  ⟨r0,Rq,h5.o.rd (λb hb _=>hb.elim) (λb h1 h2=>⟨h1,h2⟩),h6.o.rd (λb hb _=>hb.elim) (λb h1 h2=>⟨h1,h2⟩),r7,h8.o.rd (λb hb _=>hb.elim) (λb h1 h2=>⟨h1,h2⟩)⟩
 replace hst:=Hd hst;clear Bm hq h5 h6 h7 h8 r0 r7 Rq hm hlt hrt e1 e3 e7 k1 k2 k3 k4 k5 k6;refine' aq 24 rfl ak ?_;try simp only[Act.put,aK]
 refine Gs 25 rfl λK hK=>?_
 refine bh (by rfl) 36 _ _ (by rfl) (cs':=jP x ⟨P0,p0,⟨Q1,q1,Q2,q2,Q3,q3⟩,P5,p5,P6,p6,P7,p7,P8,p8⟩) Bo.o bZ rfl (by rfl) (by rfl) rfl ?_;intro W7 RJ xb;have hU7:=(up.o V6 RE.o).grown xb (up.o V6 RE.o).size (λq hq=>by injection hq with hq;omega);refine hK.o _ _ ⟨kS.o W7 (qR.o.grown xb (λe=>by injection e with e;omega)),λ_=>trivial⟩ ?_;have hs7:=xb.size;have YW:=Hd (show SR W7 (λb=>w.heap.size<=b/\b<W7.heap.size) x ⟨P0,p0,⟨Q1,q1,Q2,q2,Q3,q3⟩,P5,p5,P6,p6,P7,p7,P8,p8⟩ from (hst.o.grown xb (λb hb e=>by injection e with e;omega)).mono (λb hb hl=>⟨oQ,hl⟩) (λb hb=>hb.2));replace hU7:=Hd hU7;clear hK K ak hst xb hs7 Bo qR;refine Gd _ ?_;go_simp;go_wp2;exact l5 rfl RJ bZ rfl rfl ⟨_,rfl,YW.o,hU7.o⟩
structure Km (x:tg)(z z':JA)(w wr:World):Prop where
 hb:Bw w wr
 b1:ao wr w.heap.size 36 (jP x z)
 b2:ao wr (w.heap.size+1) 36 (jP x z')
theorem Km.stay {x z z' w wr W}(h:Km x z z' w wr)(hb:Bw wr W):Km x z z' w W:=⟨h.hb.trans (hb.mono h.hb.size),h.b1.stay hb,h.b2.stay hb⟩
theorem o8 (F G x z z')(hz:Gg x)(w)(R:SR w F x z)(R':SR w G x z'):
  Cl 9 #[.agg ⟨jP x z⟩,.agg ⟨jP x z'⟩] w λe w'=>e=.returned (.bool true)/\Bw w w':=by
 obtain⟨W0,cg⟩:=aB ((w.alloc (.cells ⟨jP x z⟩ 36)).alloc (.cells ⟨jP x z'⟩ 36))
 have h0:Km x z z' w W0:=by rw[cg];exact⟨(bA).alloc sJ _,(ao.new _ _ _).alloc _,ao.new' sJ⟩
 have hF:=R.lt;have hG:=R'.lt;have lf:=λW (hW:Bw w W) b (h:F b)=>zF (hF b h) hW.size
 have lg:=λW (hW:Bw w W) b (h:G b)=>zF (hG b h) hW.size
 have k1:=λW (hW:Bw w W)=>di.Bp z.a0 z'.a0 z.c0 z'.c0 F G x.S hz.s.1 (λt ht=>(hz.s.2 t ht).2.1) W (lf W hW) (lg W hW) (R.rs.under hW hF) (R'.rs.under hW hG)
 have k2:=λW (hW:Bw w W)=>D5 F G x.q z.s z'.s hz.q W (R.rq.under hW) (R'.rq.under hW)
 have k3:=λW (hW:Bw w W)=>rU z.a5 z'.a5 z.c5 z'.c5 F G x.held hz.h W (R.rh.under hW hF) (R'.rh.under hW hG)
 have k4:=λW (hW:Bw w W)=>rU z.a6 z'.a6 z.c6 z'.c6 F G x.kept hz.k W (R.rk.under hW hF) (R'.rk.under hW hG)
 have k5:=λW (hW:Bw w W)=>xk z.a7 z'.a7 z.c7 z'.c7 F G x.wait hz.w hz.m W (lf W hW) (lg W hW) (R.DU.under hW hF) (R'.DU.under hW hG)
 have k6:=λW (hW:Bw w W)=>tO z.a8 z'.a8 z.c8 z'.c8 F G x.used hz.u W (R.ru.under hW hF) (R'.ru.under hW hG)
 obtain⟨y0,y1,y2,y3,y4,y5,y6,y7,y8,y9,kU,kP,kJ,kK,kL⟩:=bj h0.b1;obtain⟨z0,z1,z2,z3,z4,z5,z6,z7,z8,z9,JB,HN,Gh,Gi,Gj⟩:=bj h0.b2;obtain⟨a0,c0,⟨A1,d1,A2,d2,A3,d3⟩,a5,c5,a6,c6,a7,c7,a8,c8⟩:=z;obtain⟨e0,f0,⟨E1,f1,E2,f2,E3,f3⟩,e5,f5,e6,f6,e7,f7,e8,f8⟩:=z';simp only[jP,qV,List.cons_append,List.nil_append]at cg y0 y1 y2 y3 y4 y5 y6 y7 y8 y9 kU kP kJ kK kL z0 z1 z2 z3 z4 z5 z6 z7 z8 z9 JB HN Gh Gi Gj k1 k2 k3 k4 k5 k6 |-;have qd:=Hd cg;replace⟨k1,k2,k3,k4,k5,k6⟩:=H6 k1 k2 k3 k4 k5 k6;have tok:True:=trivial;replace h0:=Hd h0;clear cg R R' hF hG lf lg hz;go_enter func9,ntmps9;go_upto_region 1 with fail
 rw[<-qd.o];go_upto_region 3 with(first
  |(go_at_call 28;refine(k1.o W0 h0.o.hb).eQ λW1 hB=>?_;replace h0:=Hd (h0.o.stay hB);clear hB y0 y1 y2 y3 y4 y5 y6 y7 y8 y9 kU kP kJ kK kL z0 z1 z2 z3 z4 z5 z6 z7 z8 z9 JB HN Gh Gi Gj;obtain⟨y0,y1,y2,y3,y4,y5,y6,y7,y8,y9,kU,kP,kJ,kK,kL⟩:=bj h0.o.b1;obtain⟨z0,z1,z2,z3,z4,z5,z6,z7,z8,z9,JB,HN,Gh,Gi,Gj⟩:=bj h0.o.b2;simp only at y1 y4 y7 z1 z4 z7)
  |(go_at_call 29;refine(k2.o W1 h0.o.hb).eQ λW2 hB=>?_;replace h0:=Hd (h0.o.stay hB);clear hB y0 y1 y2 y3 y4 y5 y6 y7 y8 y9 kU kP kJ kK kL z0 z1 z2 z3 z4 z5 z6 z7 z8 z9 JB HN Gh Gi Gj))
 obtain⟨y0,y1,y2,y3,y4,y5,y6,y7,y8,y9,kU,kP,kJ,kK,kL⟩:=bj h0.o.b1;obtain⟨z0,z1,z2,z3,z4,z5,z6,z7,z8,z9,JB,HN,Gh,Gi,Gj⟩:=bj h0.o.b2;simp only at kP kJ kK kL HN Gh Gi Gj;go_wp2_with (first
  |(have _t:=tok;go_at_call 30;refine(k3.o W2 h0.o.hb).mono ?_;clear _t tok;rintro e W3 ⟨rfl,hB⟩;replace h0:=Hd (h0.o.stay hB);clear hB y0 y1 y2 y3 y4 y5 y6 y7 y8 y9 kU kP kJ kK kL z0 z1 z2 z3 z4 z5 z6 z7 z8 z9 JB HN Gh Gi Gj;obtain⟨y0,y1,y2,y3,y4,y5,y6,y7,y8,y9,kU,kP,kJ,kK,kL⟩:=bj h0.o.b1;obtain⟨z0,z1,z2,z3,z4,z5,z6,z7,z8,z9,JB,HN,Gh,Gi,Gj⟩:=bj h0.o.b2;simp only at kJ Gh)
  |(go_at_call 30;refine(k4.o W3 h0.o.hb).eQ λW4 hB=>?_;replace h0:=Hd (h0.o.stay hB);clear hB y0 y1 y2 y3 y4 y5 y6 y7 y8 y9 kU kP kJ kK kL z0 z1 z2 z3 z4 z5 z6 z7 z8 z9 JB HN Gh Gi Gj;obtain⟨y0,y1,y2,y3,y4,y5,y6,y7,y8,y9,kU,kP,kJ,kK,kL⟩:=bj h0.o.b1;obtain⟨z0,z1,z2,z3,z4,z5,z6,z7,z8,z9,JB,HN,Gh,Gi,Gj⟩:=bj h0.o.b2;simp only at kK Gi)
  |(go_at_call 31;refine(k5.o W4 h0.o.hb).eQ λW5 hB=>?_;replace h0:=Hd (h0.o.stay hB);clear hB y0 y1 y2 y3 y4 y5 y6 y7 y8 y9 kU kP kJ kK kL z0 z1 z2 z3 z4 z5 z6 z7 z8 z9 JB HN Gh Gi Gj;obtain⟨y0,y1,y2,y3,y4,y5,y6,y7,y8,y9,kU,kP,kJ,kK,kL⟩:=bj h0.o.b1;obtain⟨z0,z1,z2,z3,z4,z5,z6,z7,z8,z9,JB,HN,Gh,Gi,Gj⟩:=bj h0.o.b2;simp only at kL Gj)
  |(go_at_call 32;refine(k6.o W5 h0.o.hb).eQ λW6 hB=>?_;replace h0:=Hd (h0.o.stay hB);clear hB y0 y1 y2 y3 y4 y5 y6 y7 y8 y9 kU kP kJ kK kL z0 z1 z2 z3 z4 z5 z6 z7 z8 z9 JB HN Gh Gi Gj))
 go_ret;exact⟨rfl,h0.o.hb⟩
end rS
section
variable {P:Program}{ops:Array Oper}{Q:Exit->Act->World->Prop}{md:Region.Mode}{S:Array Bool->World->Prop}{L0:Array Bool}{a0:Act}{T:Nat->Value->World->Prop}{I:World->Prop}{R:World->World->Prop}
def iP (ops:Array Oper)(L0:Array Bool):List Nat:=(List.range ops.size).filter λk=> !L0.getD k true
def nG (ops:Array Oper)(L0:Array Bool):List Nat:=(iP ops L0).filterMap λk=>(ops[k]?).bind (·.dst)
def Gk (ops:Array Oper)(L0:Array Bool)(n:Nat):Bool:=
 (nG ops L0).Nodup&&(nG ops L0).all (λd=>decide (d<n))&&(List.range ops.size).all (λk=>((ops[k]?).map λo=>o.after.all λe=>decide (e.on<k)).getD true)
structure FrS (ops:Array Oper)(L0:Array Bool)(a0:Act)(T:Nat->Value->World->Prop)(I:World->Prop)(L:Array Bool)(a:Act)(w:World):Prop where
 i:I w
 sz:L.size=ops.size
 ex:∀k,L0.getD k true=true->L.getD k true=true
 de:a.defers=a0.defers
 ts:a.tmps.size=a0.tmps.size
 ag:∀j,j∉nG ops L0->a.tmps.getD j undef=a0.tmps.getD j undef
 t:∀k o d,ops[k]? =some o->L0.getD k true=false->L.getD k true=true->o.dst=some d->T k (a.tmps.getD d undef) w
theorem mem_left {k o}(h:ops[k]? =some o)(hl:L0.getD k true=false):k∈iP ops L0:=List.mem_filter.2 ⟨List.mem_range.2 (Array.getElem?_eq_some_iff.1 h).1,by rw[hl];rfl⟩
theorem Bq {k d:Nat}{o}(h:ops[k]? =some o)(hl:L0.getD k true=false)(hd:o.dst=some d):d∈nG ops L0:=List.mem_filterMap.2 ⟨k,mem_left h hl,by rw[h];exact hd⟩
theorem yQ {α β:Type}{f}:∀{l:List α}{a b:α}{y:β},(l.filterMap f).Nodup->a∈l->b∈l->f a=some y->f b=some y->a=b
 | [],_,_,_,_,ha,_,_,_=>by cases ha
 |c::l,a,b,y,hn,ha,hb,fa,fb=>by
  have key:∀x,x∈l->f x=some y->f c=some y->False:=λx hx fx fc=>by
   rw[List.filterMap_cons,fc]at hn;exact(List.nodup_cons.1 hn).1 (List.mem_filterMap.2 ⟨x,hx,fx⟩)
  have hn':(l.filterMap f).Nodup:=by
   rw[List.filterMap_cons]at hn;split at hn
   .exact hn
   .exact(List.nodup_cons.1 hn).2
  rcases List.mem_cons.1 ha with e |ha<;>rcases List.mem_cons.1 hb with e' |hb
  .exact e.trans e'.symm
  .exact(key b hb fb (e▸fa)).elim
  .exact(key a ha fa (e'▸fb)).elim
  .exact yQ hn' ha hb fa fb
theorem JC {L:Array Bool}{k i}(h:(L.setIfInBounds i true).getD k true=true)(hk:k≠i):L.getD k true=true:=by rwa [getD_set_ne true (Ne.symm hk)]at h
theorem uK {a:Act}{d j v}(hd:d<a.tmps.size):(a.put (some d) v).tmps.getD j undef=if d=j then v else a.tmps.getD j undef:=by
 simp only[Act.put,Array.getD_eq_getD_getElem?,Array.getElem?_setIfInBounds];split
 .next h=>subst h;simp[hd]
 .rfl
theorem Wf (cK:Gk ops L0 a0.tmps.size=true)(hS:∀L w,I w->S L w)(hst:∀k v w w',R w w'->T k v w->T k v w')
  (H:∀i∈iP ops L0,∀o,ops[i]? =some o->∀a w,I w->(∀j,j∉nG ops L0->a.tmps.getD j undef=a0.tmps.getD j undef)->(∀e∈o.after,∀o' d,ops[e.on]? =some o'->L0.getD e.on true=false->Region.binds md e=true->o'.dst=some d->T e.on (a.tmps.getD d undef) w)->
   ∀K:Act->World->Prop,(∀v w',I w'->R w w'->T i v w'->K (a.put o.dst v) w')->Region.wanted o (yielded ops a.tmps)=true/\Oper.wp P o a w K Q)
  (nk:∀a w,I w->a.defers=a0.defers->a.tmps.size=a0.tmps.size->(∀j,j∉nG ops L0->a.tmps.getD j undef=a0.tmps.getD j undef)->(∀k o d,ops[k]? =some o->L0.getD k true=false->o.dst=some d->T k (a.tmps.getD d undef) w)->Q .normal a w):
  ∀(n:Nat)(L:Array Bool)(a:Act)(w:World),FrS ops L0 a0 T I L a w->(iP ops L).length<=n->iZ P md ops Q S n L a w:=by
 unfold Gk at cK;simp only[xK,decide_eq_true_eq,xP]at cK;obtain⟨⟨Qv,hlt⟩,hac⟩:=cK;have fin:∀L a w,FrS ops L0 a0 T I L a w->Region.ready md ops L=[]->Q .normal a w:=by
  intro L a w hF hr;have all:∀m k,k<m->k<ops.size->L.getD k true=true:=by
   intro m;induction m with
   |zero=>intro k hk;omega
   |succ m ih=>
    intro k hk ZK;by_cases Ch:k<m
    .exact ih k Ch ZK
    cases hf:L.getD k true with
    |true=>rfl
    |false=>
     exfalso;obtain⟨o,ho⟩:∃o,ops[k]? =some o:=⟨_,Array.getElem?_eq_getElem ZK⟩
     have:k∈Region.ready md ops L:=mem_ready.2 ⟨hf,o,ho,λe he hb=>by
      have h1:=hac k (List.mem_range.2 ZK);rw[ho]at h1;simp only[Option.map_some,Option.getD_some,Array.all_eq_true_iff_forall_mem,decide_eq_true_eq]at h1;have h2:=h1 e he;have h3:=ih e.on oQ oQ;simp only[Array.getD_eq_getD_getElem?]at h3 |-;rw[Array.getElem?_eq_getElem (by rw[hF.sz];omega)]at h3 |-;exact h3⟩
     rw[hr]at this;cases this
  refine nk a w hF.i hF.de hF.ts hF.ag λk o d ho hl hd=>hF.t k o d ho hl (all _ k (Nat.lt_succ_self k) (Array.getElem?_eq_some_iff.1 ho).1) hd
 intro n;induction n with
 |zero=>
  intro L a w hF hn;have hr:Region.ready md ops L=[]:=by
   cases h:Region.ready md ops L with
   |nil=>rfl
   |cons j r=>
    have hj:j∈Region.ready md ops L:=(by rw[h];exact xS);obtain⟨h1,o,h2,_⟩:=mem_ready.1 hj;have:=List.length_pos_of_mem (mem_left h2 h1);omega
  exact⟨hr,fin L a w hF hr⟩
 |succ n ih=>
  intro L a w hF hn;refine⟨fin L a w hF,λi hi=>?_⟩;obtain⟨h1,o,h2,h3⟩:=mem_ready.1 hi;have qa:L0.getD i true=false:=by
   cases h:L0.getD i true with
   |false=>rfl
   |true=>rw[hF.ex i h]at h1;cases h1
  have his:=(Array.getElem?_eq_some_iff.1 h2).1;refine wpOp_step h2 λK hK=>?_
  have hh:=H i (mem_left h2 qa) o h2 a w hF.i hF.ag (λe he o' d h4 h5 hb h6=>hF.t e.on o' d h4 h5 (by
   have:=h3 e he hb;simp only[Array.getD_eq_getD_getElem?]at this |-;cases hq:L[e.on]? with
   |none=>rfl
   |some b=>rw[hq]at this;exact this) h6) K (λv w' hI hR hT=>hK _ _ ⟨hS _ _ hI,ih _ _ _ ⟨hI,by simpa using hF.sz,λk hk=>?_,?_,?_,λj hj=>?_,λk o' d h4 h5 h6 h7=>?_⟩ ?_⟩)
  .rw[if_pos hh.1];exact hh.2
  .by_cases gC:k=i
   .subst gC;rw[qa]at hk;cases hk
   .rw[getD_set_ne true (Ne.symm gC)];exact hF.ex k hk
  .rw[<-hF.de];unfold Act.put;split<;>rfl
  .rw[<-hF.ts];unfold Act.put;split<;>simp
  .rw[<-hF.ag j hj];cases hd:o.dst with
   |none=>rfl
   |some d=>
    have XJ:=Bq h2 qa hd;rw[uK (by rw[hF.ts];exact hlt d XJ),if_neg (λe:d=j=>hj (e▸XJ))]
  .by_cases C9:k=i
   .subst C9;rw[h2]at h4;injection h4 with h4;subst h4
    rw[h7,uK (by rw[hF.ts];exact hlt d (Bq h2 qa h7)),if_pos rfl];exact hT
   .have hold:=hst k _ w w' hR (hF.t k o' d h4 h5 (JC h6 C9) h7);cases hd:o.dst with
    |none=>exact hold
    |some d2=>
     rw[uK (by rw[hF.ts];exact hlt d2 (Bq h2 qa hd)),if_neg ?_]
     .exact hold
     .intro e;subst e;exact C9 (yQ (α:=Nat) (β:=Nat) (f:=λk:Nat=>(ops[k]?).bind λo:Oper=>o.dst) (l:=iP ops L0) Qv (mem_left h4 h5) (mem_left h2 qa) (by rw[h4];exact h7) (by rw[h2];exact hd))
  .have hlen:(iP ops (L.setIfInBounds i true)).length<(iP ops L).length:=by
    unfold iP;have gen:∀(l:List Nat),((l.filter λk=> !(L.setIfInBounds i true).getD k true).length<=(l.filter λk=> !L.getD k true).length)/\(i∈l->(l.filter λk=> !(L.setIfInBounds i true).getD k true).length<(l.filter λk=> !L.getD k true).length):=by
     intro l;induction l with
     |nil=>exact⟨nR,λh=>by cases h⟩
     |cons c l zd=>
      simp only[List.filter_cons];by_cases hc:c=i
      .subst hc;have e1:(L.setIfInBounds c true).getD c true=true:=by simp[Array.getElem?_setIfInBounds];split<;>simp
       rw[e1,h1];exact⟨zU zd.1 sJ,λ_=>Nat.lt_of_le_of_lt zd.1 sJ⟩
      .rw[getD_set_ne true (Ne.symm hc)];refine⟨?_,λh=>?_⟩
       .split
        .simpa using zd.1
        .exact zd.1
       .have h:=(List.mem_cons.1 h).resolve_left (Ne.symm hc);split
        .simpa using zd.2 h
        .exact zd.2 h
    exact(gen _).2 (List.mem_range.2 his)
   omega
theorem Nz {a a0:Act}:∀{ds:List Nat},a.defers=a0.defers->a.tmps.size=a0.tmps.size->(∀j,j∉ds->a.tmps.getD j undef=a0.tmps.getD j undef)->a=ds.foldl (λb d=>b.put (some d) (a.tmps.getD d undef)) a0:=by
 intro ds;induction ds generalizing a0 with
 |nil=>
  intro h1 h2 h3;obtain⟨t,d⟩:=a;obtain⟨t0,d0⟩:=a0;simp only at h1 h2 h3;subst h1;congr 1;apply Array.ext h2;intro i h4 h5;have:=h3 i sJ;simpa[h4,h5] using this
 |cons d ds ih=>
  intro h1 h2 h3;rw[List.foldl_cons];refine ih h1 (by simp[Act.put,h2]) λj hj=>?_
  by_cases hd:d<a0.tmps.size
  .rw[uK hd];split
   .next e=>rw[e]
   .next e=>exact h3 j (by simp[hj];exact λh=>e h.symm)
  .by_cases e:j=d
   .subst e;simp only[Act.put,Array.getD_eq_getD_getElem?,Array.getElem?_setIfInBounds];rw[Array.getElem?_eq_none oQ];simp[hd]
   .simp only[Act.put,Array.getD_eq_getD_getElem?,Array.getElem?_setIfInBounds];rw[if_neg (λh=>e h.symm)];simpa using h3 j (by simp[hj,e])
def NA (md:Region.Mode)(ops:Array Oper)(L0:Array Bool)(o:Oper)(k d:Nat):Bool:=o.after.any (λe=>Region.binds md e&&e.on==k)&&RS ops L0 k d
where RS (ops:Array Oper)(L0:Array Bool)(k d:Nat):Bool:= !L0.getD k true&&(ops[k]?).any λo=>o.dst==some d
theorem HO {k d}(h:NA.RS ops L0 k d=true):∃o,ops[k]? =some o/\L0.getD k true=false/\o.dst=some d:=by
 unfold NA.RS at h;simp only[xK,Bool.not_eq_true',Option.any_eq_true,beq_iff_eq]at h;obtain⟨h1,o,h2,h3⟩:=h;exact⟨o,h2,h1,h3⟩
theorem xn {p n S0 S1 a w L ks ds}(T:Nat->Value->World->Prop)(I:World->Prop)(R:World->World->Prop)(cK:Gk ops L a.tmps.size=true)(hsz:L.size=ops.size)(hn:(iP ops L).length<=n)(ZK:iP ops L=ks)(hds:nG ops L=ds)(hS:∀w,I w->S0 w/\S1 w)(hst:∀k v w w',R w w'->T k v w->T k v w')(hI:I w)(H:∀i∈ks,∀o,ops[i]? =some o->∀b W,I W->(∀j,j∉ds->b.tmps.getD j undef=a.tmps.getD j undef)->(∀k d,NA md ops L o k d=true->T k (b.tmps.getD d undef) W)->
   ∀K:Act->World->Prop,Hid (∀v w',I w'->R W w'->T i v w'->K (b.put o.dst v) w')->Region.wanted o (yielded ops b.tmps)=true/\Oper.wp P o b W K Q)(nk:∀(f:Nat->Value) W,I W->(∀k d,NA.RS ops L k d=true->T k (f d) W)->Q .normal (ds.foldl (λb d=>b.put (some d) (f d)) a) W):
  iZ P md ops Q (SG p S0 S1) n L a w:=by
 subst ZK hds;refine Wf (L0:=L) (a0:=a) (T:=T) (I:=I) (R:=R) cK (λ_ w h=>⟨(hS w h).1,λ_=>(hS w h).2⟩) hst (λi hi o ho b W hIW et hT K hK=>H i hi o ho b W hIW et (λk d hd=>?_) K (Hd hK)) (λb W hIW h1 h2 h3 h4=>?_) n L a w ⟨hI,hsz,λ_ h=>h,rfl,rfl,λ_ _=>rfl,λk o d _ h2 h3 _=>by rw[h2]at h3;cases h3⟩ hn
 .unfold NA at hd;simp only[xK,Array.any_eq_true',beq_iff_eq]at hd;obtain⟨⟨e,he,hb,rfl⟩,hd⟩:=hd;obtain⟨o',h2,h3,h4⟩:=HO hd;exact hT e he o' d h2 h3 hb h4
 .rw[Nz h1 h2 h3];exact nk _ W hIW λk d hd=>by
   obtain⟨o',h2,h3,h5⟩:=HO hd;exact h4 k o' d h2 h3 h5
end
section
variable {P:Program}{w:World}
theorem Gl {B e size n m g cap:Nat}{xs ys}(h:w.ownsRow B e size (.slice (some ⟨g,0,none⟩) (n+m) cap) (n+m) (xs++ys))(hx:xs.length=n*size):w.ownsRow B e size (.slice (some ⟨g,0,none⟩) n cap) n xs:=by
 obtain⟨h1,h2⟩:=h;rcases h2 with⟨h2,_⟩|⟨g',cap',cur,e1,hB,hg,Ct,hm,hs,ht⟩
 .cases h2
 .injection e1 with e1 e2 e3
  injection e1 with e1
  injection e1 with e1 e4
  subst e1 e3;refine⟨hx,.inr ⟨g,cap,cur,rfl,hB,hg,oQ,hm,hs,?_⟩⟩;have:(cur.toList.take ((n+m)*size)).take (n*size)=(xs++ys).take (n*size):=by rw[ht]
  rw[List.take_take,Nat.min_eq_left (Nat.mul_le_mul oQ nR),<-hx,List.take_left]at this;rw[<-hx];exact this
theorem Br {B t ty e size bytes n m c:Nat}{v ds}{newsV:List Value}{ad}(T:nW P t e size bytes)(dv:OL w B (λ_=>False) e size v n ds)(hl:newsV.length=m*size)(ja:∀j u,newsV[j]? =some u->w.cell? (ad.add j)=some u)(h1:∀u∈newsV,u.oneCell'=true)(hn:n+m<=4294967296)(hb:bytes<=32768)(hB:B<=w.heap.size)(hm:0<m):
  ∃A' c' w',(Builtin.append_ #[t,t] ty #[v,.slice (some ad) m c]).run P w=.ok (.slice A' (n+m) c') w'/\OL w' B (λ_=>False) e size v n ds/\w.grownBy w' v.ownBlock:=by
 obtain⟨cells,ho,hlen,hr⟩:=dv;have dv:OL w B (λ_=>False) e size v n ds:=⟨cells,ho,hlen,hr⟩;obtain⟨ht,⟨i,z,hi,hz,nK,ju,EH⟩,hp⟩:=T;have jg:(n+m)*i.bytes<=140737488355328:=zU (Nat.mul_le_mul hn (by omega:i.bytes<=32768)) dQ;by_cases ZL:v=.slice none 0 0
 .subst ZL;obtain⟨v',w',hrun,a1,a2,_,a4⟩:=run_append_own_at (P:=P) w B t ty e i z size bytes ht hi hz nK ju EH hp _ n cells ho ad m c newsV hl (λj u h=>ja j u h) h1 (by unfold maxLen;omega) (by rw[<-ju];exact jg) hB;have iU:n=0:=by
   rcases ho.2 with⟨_,h⟩|⟨g,cap,cur,h,_⟩
   .exact h
   .cases h
  have hf:∃A' c',v'=.slice A' (n+m) c':=by
   rcases a1.2 with⟨rfl,h⟩|⟨g,cap,cur,rfl,_⟩
   .exact⟨none,0,by rw[h]⟩
   .exact⟨_,_,rfl⟩
  obtain⟨A',c',rfl⟩:=hf;exact⟨A',c',w',hrun,dv.kept (row:=none) a2 (.inl rfl) (λ_ hb=>hb.elim),a2⟩
 .obtain⟨g,cap,hv⟩:∃g cap,v=.slice (some ⟨g,0,none⟩) n cap:=by
   rcases ho.2 with⟨h,_⟩|⟨g,cap,cur,h,_⟩
   .exact absurd h ZL
   .exact⟨g,cap,h⟩
  subst hv;by_cases hroom:n+m<=cap
  .obtain⟨w',hrun,wX,hg⟩:=run_append_own_spare (P:=P) w B t ty e i size ht hi nK g n cap cells ho ad m c newsV hl ja h1 hroom;refine⟨_,_,w',hrun,⟨cells,Gl wX ho.1,hlen,λk d hd=>?_⟩,hg⟩;obtain⟨u,hu,hx⟩:=hr k d hd;exact⟨u,hu,hx.grown hg λb hb=>hb.1.elim⟩
  .subst nK;have holds:∀j u,cells[j]? =some u->w.cell? ((⟨g,0,none⟩:Addr).add j)=some u:=ho.cells (g:=g) rfl
   have hrun:=run_append_grow (P:=P) w t ty e i z ht hi hz ⟨g,0,none⟩ n cap cells ho.1 holds ad m c newsV hl ja oQ oQ (growslice_fits oQ jg);have qL:Bw w (w.drew.alloc (.cells ((cells++newsV).toArray++Builtin.zeroCells z.cells (grownCap w (n+m) cap e- (n+m))) e)):=((bR).drew).alloc nR _;refine⟨_,_,_,hrun,?_,?_⟩
   .exact dv.stay ⟨rfl,rfl,rfl,sJ,λk hk=>Below.heap_alloc w.drew _ k hk⟩
   .exact⟨rfl,rfl,rfl,sJ,λk hk _=>Below.heap_alloc w.drew _ k hk⟩
end
theorem jb {P ops l a w Q}(k:wpList P ops Q l a w):wpList P ops Q l a w:=k
theorem dK {P ops n b a w Q}(k:(Code.region n ops b).wp P Q a w):(Code.region n ops b).wp P Q a w:=k
structure Kp (w w':World)(Bg Eg:Nat):Prop where
 os:w'.os=w.os
 tape:w'.tape=w.tape
 output:w'.output=w.output
 sz:w.heap.size<=w'.heap.size
 ag:∀b,b<w.heap.size->(b<Bg\/Eg<=b)->w'.heap[b]? =w.heap[b]?
def vP (W:World)(Bg Eg:Nat):Nat->Prop:=λb=>b<W.heap.size/\(b<Bg\/Eg<=b)
section
variable {w w1 w2 W W2:World}{Bg Eg g t:Nat}{cs:List Value}{x:tg}{z:JA}{u:Value}{d:D}{row:Option Nat}
theorem Kp.refl (w Bg Eg):Kp w w Bg Eg:=⟨rfl,rfl,rfl,nR,λ_ _ _=>rfl⟩
theorem Kp.write (h:Kp w w1 Bg Eg)(hg:w1.grownBy w2 row)(hr:∀q,row=some q->(Bg<=q/\q<Eg)\/w.heap.size<=q):Kp w w2 Bg Eg:=
 ⟨hg.os.trans h.os,hg.tape.trans h.tape,hg.output.trans h.output,zU h.sz hg.size,λb hb ho=>(hg.block b (zF hb h.sz) (λe=>by rcases hr b e.symm with h1 |h1<;>omega)).trans (h.ag b hb ho)⟩
theorem Kp.below (h:Kp w w1 Bg Eg)(hb:Bw w1 w2):Kp w w2 Bg Eg:=h.write (row:=none) (Below.jU hb) (λq hq=>by cases hq)
theorem Kp.vM (h:Kp W W2 Bg Eg)(hb:ao W g t cs)(ho:g<Bg\/Eg<=g):ao W2 g t cs:=(h.ag g hb.lt ho).trans hb
theorem Kp.rd (h:Kp W W2 Bg Eg)(hr:Rd W (vP W Bg Eg) u d):Rd W2 (vP W2 Bg Eg) u d:=
 (hr.keep λb hb=>h.ag b hb.1 hb.2).mono λb hb _=>⟨zF hb.1 h.sz,hb.2⟩
theorem Kp.sr (h:Kp W W2 Bg Eg)(hr:SR W (vP W Bg Eg) x z):SR W2 (vP W2 Bg Eg) x z:=⟨h.rd hr.rs,⟨h.rd hr.rq.r1,h.rd hr.rq.r2,h.rd hr.rq.r3,λb hb=>hb.1⟩,h.rd hr.rh,h.rd hr.rk,h.rd hr.DU,h.rd hr.ru⟩
theorem Kp.under (h:Kp W W2 Bg Eg)(hb:Bw w W)(hB:w.heap.size<=Bg):Bw w W2:=
 ⟨h.os.trans hb.os,h.tape.trans hb.tape,h.output.trans hb.output,zU hb.size h.sz,λk hk=>(h.ag k (zF hk hb.size) (.inl oQ)).trans (hb.block k hk)⟩
end
structure LS (x y:tg)(L:List Cg)(w:World)(g5 g7 Wh Wi Bg Eg:Nat)(z z1 zg zo zw:JA)(B:Option Addr)(cb:Nat)(A2:Option Addr)(c2:Nat)(W:World):Prop where
 hb:Bw w W
 sb:w.heap.size<Bg
 b2:ao W w.heap.size 36 (jP x z)
 b5:ao W g5 36 (jP x z1)
 b7:ao W g7 36 (jP y zg)
 ZM:ao W Wh 36 (jP y zo)
 Wj:ao W Wi 36 (jP y zw)
 o5:g5<Bg
 o7:Eg<=g7
 o10:Eg<=Wh
 o13:Eg<=Wi
 rs:SR W (vP W Bg Eg) x z
 r1:SR W (vP W Bg Eg) x z1
 ro:SR W (vP W Bg Eg) y zo
 DU:SR W (vP W Bg Eg) y zw
 rl:Rd W (vP W Bg Eg) (.slice B L.length cb) (.sl L.length (L.flatMap pB))
 Kn:Rd W (vP W Bg Eg) (.slice A2 L.length c2) (.sl L.length (L.flatMap pB))
section
variable {x y:tg}{L:List Cg}{w W W2:World}{g5 g7 Wh Wi Bg Eg:Nat}{z z1 zg zo zw:JA}{B:Option Addr}{cb:Nat}{A2:Option Addr}{c2:Nat}{v0 v1 v2 v3 v5 v6 v7 v8:Value}{so:List (Td×Value)}{l:List (It×Value)}{rl:List (List Nd×Value)}{m:List (Mt×Value×Value×Value)}
theorem LS.kp (h:LS x y L w g5 g7 Wh Wi Bg Eg z z1 zg zo zw B cb A2 c2 W)(k:Kp W W2 Bg Eg):LS x y L w g5 g7 Wh Wi Bg Eg z z1 zg zo zw B cb A2 c2 W2:=
 ⟨k.under h.hb (by have:=h.sb;omega),h.sb,k.vM h.b2 (.inl h.sb),k.vM h.b5 (.inl h.o5),k.vM h.b7 (.inr h.o7),k.vM h.ZM (.inr h.o10),k.vM h.Wj (.inr h.o13),h.o5,h.o7,h.o10,h.o13,k.sr h.rs,k.sr h.r1,k.sr h.ro,k.sr h.DU,k.rd h.rl,k.rd h.Kn⟩
theorem LS.stay (h:LS x y L w g5 g7 Wh Wi Bg Eg z z1 zg zo zw B cb A2 c2 W)(hb:Bw W W2):LS x y L w g5 g7 Wh Wi Bg Eg z z1 zg zo zw B cb A2 c2 W2:=h.kp ((Kp.refl _ _ _).below hb)
theorem pE.aeE {w w' B}(h:pE w B y v0 v1 v2 v3 v5 v6 v7 v8 so l rl m)(hg:w.grownBy w' v5.ownBlock)(hO:OL w' B bE 49 11 v5 y.held.length (y.held.flatMap oc)):pE w' B y v0 v1 v2 v3 v5 v6 v7 v8 so l rl m:=
 have hT:lX [49] w w':=.row h.h hg
 ⟨h.s.dM hT,h.es,h.q.dM hT,h.el,h.er,hO,h.k.kept hg (kF h.hk) (λ_ hb=>hb.elim),h.m.dM hT,h.em,h.u.dM hT,h.hk,h.um⟩
theorem pE.aeF {w w' B}(h:pE w B y v0 v1 v2 v3 v5 v6 v7 v8 so l rl m)(hg:w.grownBy w' v6.ownBlock)(hO:OL w' B bE 49 11 v6 y.kept.length (y.kept.flatMap oc)):pE w' B y v0 v1 v2 v3 v5 v6 v7 v8 so l rl m:=
 have hT:lX [49] w w':=.row h.k hg
 ⟨h.s.dM hT,h.es,h.q.dM hT,h.el,h.er,h.h.kept hg h.hk (λ_ hb=>hb.elim),hO,h.m.dM hT,h.em,h.u.dM hT,h.hk,h.um⟩
theorem pE.aeG {w w' B}(h:pE w B y v0 v1 v2 v3 v5 v6 v7 v8 so l rl m)(hg:w.grownBy w' v7.ownBlock)(hO:OL w' B bE 55 4 v7 m.length (m.flatMap λp=>[.v (.int .i64 p.1.dec),.v p.2.1,.v p.2.2.1,.v p.2.2.2])):pE w' B y v0 v1 v2 v3 v5 v6 v7 v8 so l rl m:=
 have hT:lX [55] w w':=.row h.m.kr hg
 ⟨h.s.dM hT,h.es,h.q.dM hT,h.el,h.er,h.h.dM hT,h.k.dM hT,⟨hO,λp hp=>(h.m.f1 p hp).dM hT,λp hp=>(h.m.f2 p hp).dM hT,λp hp=>(h.m.f3 p hp).dM hT,h.m.ne⟩,h.em,h.u.dM hT,h.hk,h.um⟩
theorem pE.aeH {w w' B}(h:pE w B y v0 v1 v2 v3 v5 v6 v7 v8 so l rl m)(hg:w.grownBy w' v8.ownBlock)(hO:OL w' B bE 51 2 v8 y.used.length (y.used.flatMap qi)):pE w' B y v0 v1 v2 v3 v5 v6 v7 v8 so l rl m:=
 have hT:lX [51] w w':=.row h.u hg
 ⟨h.s.dM hT,h.es,h.q.dM hT,h.el,h.er,h.h.dM hT,h.k.dM hT,⟨h.m.kr.dM hT,λp hp=>(h.m.f1 p hp).kept hg (kF (h.um p hp)) (λ_ hb=>hb.elim),λp hp=>(h.m.f2 p hp).dM hT,λp hp=>(h.m.f3 p hp).dM hT,h.m.ne⟩,h.em,hO,h.hk,h.um⟩
end
def Kc (t k:Nat):Prop:=(t=55/\k % 4≠0)\/t=60\/t=28
theorem Kc.no {t:Nat}(k:Nat)(h1:t≠55:=by decide)(h2:t≠60:=by decide)(h3:t≠28:=by decide):¬Kc t k:=λh=>h.elim (λh=>h1 h.1) λh=>h.elim h2 h3
structure qS (w w':World)(Bg Eg:Nat):Prop where
 kp:Kp w w' Bg Eg
 bl:∀(b:Nat)(cur:Array Value)(t:Nat),w.heap[b]? =some (Obj.cells cur t (0,0))->∃Pw:Array Value,w'.heap[b]? =some (Obj.cells Pw t (0,0))/\Pw.size=cur.size/\∀k:Nat,Kc t k->Pw[k]? =cur[k]?
section
variable {w w1 w2:World}{Bg Eg B e size n:Nat}{v u:Value}{ds:List D}
theorem qS.refl (w Bg Eg):qS w w Bg Eg:=⟨.refl _ _ _,λb cur t h=>⟨cur,h,rfl,λ_ _=>rfl⟩⟩
theorem qS.set {g t:Nat}{cur}(h:qS w w1 Bg Eg)(hg:w1.heap[g]? =some (Obj.cells cur t (0,0)))(hB:Bg<=g)(hE:g<Eg)(k x)(hk:¬Kc t k):qS w (w1.setCell ⟨g,k,none⟩ x) Bg Eg:=by
 refine⟨h.kp.write mR (λq hq=>by injection hq with hq;subst hq;exact .inl ⟨hB,hE⟩),λb c t' hb=>?_⟩;obtain⟨c1,h1,h2,h3⟩:=h.bl b c t' hb;by_cases e:b=g
 .subst e;rw[hg]at h1;injection h1 with h1;injection h1 with h4 h5
  subst h4 h5;have hs:=(show ao w1 b t cur.toList from hg).dz k x;refine⟨⟨cur.toList.set k x⟩,hs,by simpa using h2,λj hj=>?_⟩;rw[<-h3 j hj];have:k≠j:=λe=>hk (e▸hj)
  simp[xL,this]
 .exact⟨c1,(Below.heap_setCell w1 ⟨g,k,none⟩ x b e).trans h1,h2,h3⟩
theorem qS.sets {g t}(hB:Bg<=g)(hE:g<Eg)(hk:∀k,¬Kc t k):∀(vs:List Value)(w1:World)(cur:Array Value)(k:Nat),qS w w1 Bg Eg->w1.heap[g]? =some (Obj.cells cur t (0,0))->qS w (w1.setCells g k vs) Bg Eg
 | [],w1,cur,k,h,_=>h
 |u::r,w1,cur,k,h,hg=>qS.sets hB hE hk r (w1.setCell ⟨g,k,none⟩ u) ⟨cur.toList.set k u⟩ (k+1) (h.set hg hB hE k u (hk k)) ((show ao w1 g t cur.toList from hg).dz k u)
theorem OL.slot (h:OL w B bE e size v n ds)(hW:qS w w1 Bg Eg)(hn:0<n):∃(g cap:Nat)(cur:Array Value),v=.slice (some ⟨g,0,none⟩) n cap/\B<=g/\g<w.heap.size/\w1.heap[g]? =some (Obj.cells cur e (0,0))/\n*size<=cur.size:=by
 obtain⟨cells,⟨h1,h2⟩,h3,h4⟩:=h;rcases h2 with⟨_,h2⟩|⟨g,cap,cur,e1,hB,hg,Ct,hm,hs,ht⟩
 .omega
 .obtain⟨c1,k1,k2,_⟩:=hW.bl g cur e hg;exact⟨g,cap,c1,e1,hB,(Array.getElem?_eq_some_iff.1 hg).1,k1,by rw[k2,hs];exact Nat.mul_le_mul_right _ Ct⟩
theorem OL.D6 {g cap k}(h:OL w B bE e size (.slice (some ⟨g,0,none⟩) n cap) n ds)(hW:qS w w1 Bg Eg)(hd:ds[k]? =some (.v u))(hk:Kc e k):w1.cell? ⟨g,k,none⟩=some u:=by
 have hn:0<n:=Nat.pos_of_ne_zero λh0=>by
  subst h0;have:=h.len;have h1:=(zC.1 hd).1;omega
 obtain⟨g',cap',e1,_,_,_,hc⟩:=h.row hn;injection e1 with e1 _ _;injection e1 with e1;injection e1 with e1;subst e1
 obtain⟨u',hu,hr⟩:=hc k _ hd;rw[hr.bH]at hu;obtain⟨cells,⟨h1,h2⟩,h3,h4⟩:=h;rcases h2 with⟨h2,_⟩|⟨g',cap',cur,e1,hB,hg,Ct,hm,hs,ht⟩
 .cases h2
 .injection e1 with e1 _ _;injection e1 with e1;injection e1 with e1;subst e1
  obtain⟨c1,k1,k2,k3⟩:=hW.bl g cur e hg;rw[cell_of_row w1 g k c1 e (0,0) k1,k3 k hk,<-cell_of_row w g k cur e (0,0) hg];exact hu
theorem jQ {g t k:Nat}{cur}(h:w1.heap[g]? =some (Obj.cells cur t (0,0)))(hk:k<cur.size):∃u,w1.cell? ⟨g,k,none⟩=some u/\w1.frozen? ⟨g,k,none⟩=false:=
 ⟨cur[k],by rw[cell_of_row w1 g k cur t (0,0) h,Array.getElem?_eq_getElem hk],(show ao w1 g t cur.toList from h).frozen k⟩
theorem D7 {g t o m:Nat}{cur}(h:w1.heap[g]? =some (Obj.cells cur t (0,0)))(hk:o+m<=cur.size):w1.there g o m:=λj hj=>by
 obtain⟨u,h1,h2⟩:=jQ h (k:=o+j) oQ;exact⟨by rw[h1];rfl,h2⟩
end
theorem Wk {S L}(h:fJ S L (some (aD S L L.length)) 0 0):nO (aD S L L.length):=by
 rcases h with⟨_,h,_⟩|⟨_,_,h,_,_⟩|⟨_,_,k,_,_,_,h,_⟩|⟨h0,_,h1,_,_⟩
 .cases h
 .cases h
 .cases h
 .exact .of (Dm h0 h1)
theorem xe.sz {L x R c a}(h:xe L x R c a)(hz:Gg x):Gg (R.getD rV):=by
 obtain⟨Q,c1,a1,hq,h⟩:=h;have h0:Gg rV:=⟨⟨dQ,λt ht=>by cases ht⟩,TC,dQ,dQ,dQ,dQ,λt ht=>by cases ht⟩;rcases h with⟨_,rfl,_,_⟩|⟨q',rfl,⟨_,rfl,_,_⟩|⟨h,k,hh,hk,rfl,_,_⟩⟩
 .exact h0
 .exact h0
 .obtain⟨hM,_,_⟩:=hq.ok;have hs:=(hq.sz hz.q).1;have hT:=Wk hM;have ev:∀{l l':List Ev},l.length<=1048576->g8 x.S (aD x.S L L.length) l=some l'->l'.length<=1048576:=λ {l l'} hl h=>by
   unfold g8 at h;split at h
   .cases h
   .injection h with h;subst h
    exact zU (Bh _ _) hl
  refine⟨⟨by show((aD x.S L L.length).map cR).length<=_;have:=hT.len;simp;omega,λt ht=>?_⟩,hs,ev hz.h hh,ev hz.k hk,hz.u,hz.w,hz.m⟩;obtain⟨k,hk,rfl⟩:=List.mem_map.1 (show t∈(aD x.S L L.length).map cR from ht);exact⟨by have:=hT.nm k hk;show k.nm.size<=_;omega,(hT.ZN k hk).fs.szS⟩
def OZ (w:World)(B:Nat)(y:tg)(z:JA)(so:List (Td×Value))(l:List (It×Value))(rl:List (List Nd×Value))(m:List (Mt×Value×Value×Value)):Prop:=
 pE w B y (.slice z.a0 y.S.length z.c0) (.slice z.s.a1 y.q.items.length z.s.c1) (.slice z.s.a2 y.q.wh.length z.s.c2) (.slice z.s.a3 y.q.ret.length z.s.c3) (.slice z.a5 y.held.length z.c5) (.slice z.a6 y.kept.length z.c6) (.slice z.a7 y.wait.length z.c7) (.slice z.a8 y.used.length z.c8) so l rl m
section
variable {w W:World}{B:Nat}{y:tg}{z:JA}{so:List (Td×Value)}{l:List (It×Value)}{rl:List (List Nd×Value)}{m:List (Mt×Value×Value×Value)}
theorem OZ.stay (h:OZ w B y z so l rl m)(hb:Bw w W):OZ W B y z so l rl m:=pE.stay h hb
theorem OZ.lens (h:OZ w B y z so l rl m):l.length=y.q.items.length/\rl.length=y.q.ret.length/\m.length=y.wait.length:=⟨by rw[<-h.el,xC],by rw[<-h.er,xC],by rw[<-h.em,xC]⟩
theorem OZ.sr {G}(h:OZ w B y z so l rl m)(hG:∀b,B<=b->b<w.heap.size->G b)(hlt:∀b,G b->b<w.heap.size):SR w G y z:=by
 obtain⟨z',e,r⟩:=pE.sr h hG hlt;obtain⟨a0,c0,⟨A1,d1,A2,d2,A3,d3⟩,a5,c5,a6,c6,a7,c7,a8,c8⟩:=z;obtain⟨b0,e0,⟨B1,e1,B2,e2,B3,e3⟩,b5,e5,b6,e6,b7,e7,b8,e8⟩:=z';simp only[bV,jP,l8,qV,List.cons_append,List.nil_append,List.cons.injEq,Value.slice.injEq,true_and,and_true]at e;obtain⟨⟨rfl,rfl⟩,⟨rfl,rfl⟩,⟨rfl,rfl⟩,⟨rfl,rfl⟩,⟨rfl,rfl⟩,⟨rfl,rfl⟩,⟨rfl,rfl⟩,rfl,rfl⟩:=e;exact r
end
theorem tk.zg {L x w w' e}(h:tk L x w e w'):∃code at_ R z so l rl m,e=.returned (.tuple #[.agg ⟨jP (Option.getD R rV) z⟩,.int .i64 code,.int .i64 at_])/\xe L x R code at_/\OZ w' w.heap.size (Option.getD R rV) z so l rl m/\Bw w w':=by
 obtain⟨code,at_,R,v0,v1,v2,v3,v5,v6,v7,v8,so,l,rl,m,rfl,h1,h2,h3⟩:=h;obtain⟨a0,c0,rfl⟩:=h2.s.kr.form;obtain⟨a1,c1,rfl⟩:=h2.q.i.kr.form;obtain⟨a2,c2,rfl⟩:=h2.q.wr.form;obtain⟨a3,c3,rfl⟩:=h2.q.r.kr.form;obtain⟨a5,c5,rfl⟩:=h2.h.form;obtain⟨a6,c6,rfl⟩:=h2.k.form;obtain⟨a7,c7,rfl⟩:=h2.m.kr.form;obtain⟨a8,c8,rfl⟩:=h2.u.form;have e0:so.length=(Option.getD R rV).S.length:=by rw[<-h2.es,xC]
 have e1:l.length=(Option.getD R rV).q.items.length:=by rw[<-h2.el,xC]
 have e3:rl.length=(Option.getD R rV).q.ret.length:=by rw[<-h2.er,xC]
 have e7:m.length=(Option.getD R rV).wait.length:=by rw[<-h2.em,xC]
 refine⟨code,at_,R,⟨a0,c0,⟨a1,c1,a2,c2,a3,c3⟩,a5,c5,a6,c6,a7,c7,a8,c8⟩,so,l,rl,m,by rw[e0,e1,e3,e7];rfl,h1,?_,h3⟩;rw[e0,e1,e3,e7]at h2;exact h2
theorem Bt.alt {L x F w w' e}(h:Bt L x F w e w')(hF:∀b,F b->b<w.heap.size):∃code at_ R z,e=.returned (.tuple #[.agg ⟨jP (Option.getD R rV) z⟩,.int .i64 code,.int .i64 at_])/\xe L x R code at_/\SR w' (λb=>F b\/w.heap.size<=b/\b<w'.heap.size) (Option.getD R rV) z/\Bw w w':=by
 obtain⟨vs,code,at_,R,rfl,h1,h2,h3,h4⟩:=h;cases R with
 |none=>
  rw[h2 rfl];exact⟨code,at_,none,⟨none,0,⟨none,0,none,0,none,0⟩,none,0,none,0,none,0,none,0⟩,rfl,h1,⟨.nil _ _,⟨.nil _ _,.nil _ _,.nil _ _,λb hb=>hb.elim (λh=>zF (hF b h) h4.size) (λh=>h.2)⟩,.nil _ _,.nil _ _,.nil _ _,.nil _ _⟩,h4⟩
 |some y=>
  obtain⟨z,rfl,hr⟩:=h3 y rfl;exact⟨code,at_,some y,z,rfl,h1,hr,h4⟩
