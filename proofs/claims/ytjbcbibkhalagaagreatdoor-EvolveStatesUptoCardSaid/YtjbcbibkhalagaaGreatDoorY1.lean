/- The law's copies. -/
import Derived.Test.YtjbcbibkhalagaaGreatDoorR8
namespace Go.Proofs.YtjbcbibkhalagaaGreatDoor
set_option maxRecDepth 100000
set_option maxHeartbeats 16000000
open Proofs.Tryz Go.RowKit Go.Deep
set_option linter.unusedVariables false
set_option linter.unusedSimpArgs false
theorem aam {t:List Nd}{j x}(h:t[j]? =some x):(t.take (j+1)).flatMap b9=(t.take j).flatMap b9++b9 x:=by rw[zJ,h];simp
theorem RW.OB {α}{K:RK α}{w B g t k v x l cs}(h:RW K w B v l)(hb:ao w g t cs)(h1:K.e≠t)(h2:K.es≠t):RW K (w.setCell ⟨g,k,none⟩ x) B v l:=
 ⟨h.kr.setCell (p:=⟨g,k,none⟩) (h.kr.aU hb h1) (λh=>h) _,λq hq=>(h.fr q hq).setCell (p:=⟨g,k,none⟩) ((h.fr q hq).aU hb h2) (λh=>h) _,h.ne⟩
theorem OQ.OB {w:World}{B g k:Nat}{v1 v2 v3 x:Value}{l:List (It×Value)}{wh:List Nd}{rl:List (List Nd×Value)}{cs:List Value}(h:OQ w B v1 v2 v3 l wh rl)(hb:ao w g 31 cs):OQ (w.setCell ⟨g,k,none⟩ x) B v1 v2 v3 l wh rl:=
 ⟨h.i.OB hb dQ dQ,h.wr.setCell (p:=⟨g,k,none⟩) (h.wr.aU hb dQ) (λh=>h) _,h.r.OB hb dQ dQ,h.ne⟩
structure Y5 (q:Qy)(s:fV)(w0 w:World)(g:Nat)(vs:List Value):Prop where
 hb:Bw w0 w
 b1:ao w w0.heap.size 31 (qV q s)
 b2:ao w (w0.heap.size+1) 31 lT
 b4:ao w g 31 vs
 lt:w0.heap.size+1<g
section
variable {q:Qy}{s:fV}{w0 w W w1:World}{g:Nat}{vs:List Value}
theorem Y5.stay (h:Y5 q s w0 w g vs)(hb:Bw w W):Y5 q s w0 W g vs:=⟨h.hb.trans (hb.mono h.hb.size),h.b1.stay hb,h.b2.stay hb,h.b4.stay hb,h.lt⟩
theorem Y5.grown {row}(h:Y5 q s w0 w g vs)(hg:w.grownBy w1 row)(hr:∀q,row=some q->w0.heap.size+1+1<=q/\q≠g):Y5 q s w0 w1 g vs:=
 ⟨h.hb.grown hg h.hb.size (λq hq=>by have:=hr q hq;omega),h.b1.grown hg (λe=>by have:=hr _ e.symm;omega),h.b2.grown hg (λe=>by have:=hr _ e.symm;omega),h.b4.grown hg (λe=>(hr _ e.symm).2 rfl),h.lt⟩
theorem Y5.put (h:Y5 q s w0 w g vs)(k x):Y5 q s w0 (w.setCell ⟨g,k,none⟩ x) g (vs.set k x):=
 have hl:=h.lt
 ⟨h.hb.setCell (by show w0.heap.size<=g;omega) _,h.b1.far (by show w0.heap.size≠g;omega) _,h.b2.far (by show w0.heap.size+1≠g;omega) _,h.b4.dz k x,hl⟩
end
structure N1 (q:Qy)(s:fV)(w0 w:World)(g:Nat)(v2:Value)(j:Nat)(v1:Value)(l:List (It×Value)):Prop where
 q5:Y5 q s w0 w g (l8 q v1 v2 (.slice none 0 0) q.au)
 it:RW KI w (w0.heap.size+1+1) v1 l
 wr:OL w (w0.heap.size+1+1) bE 63 6 v2 q.wh.length (q.wh.flatMap b9)
 eq:l.map (·.1)=q.items.take j
structure N2 (q:Qy)(s:fV)(w0 w:World)(g:Nat)(v1 v2 v3:Value)(l:List (It×Value))(rl:List (List Nd×Value)):Prop where
 q5:Y5 q s w0 w g (l8 q v1 v2 v3 q.au)
 oq:OQ w (w0.heap.size+1+1) v1 v2 v3 l q.wh rl
section
variable {q:Qy}{s:fV}{w0 w W w1:World}{g j:Nat}{v1 v2 v3 v' v3' u:Value}{l:List (It×Value)}{t:List Nd}{rl:List (List Nd×Value)}
theorem N1.stay (h:N1 q s w0 w g v2 j v1 l)(hb:Bw w W):N1 q s w0 W g v2 j v1 l:=⟨h.q5.stay hb,h.it.stay hb,h.wr.stay hb,h.eq⟩
theorem N2.stay (h:N2 q s w0 w g v1 v2 v3 l rl)(hb:Bw w W):N2 q s w0 W g v1 v2 v3 l rl:=⟨h.q5.stay hb,h.oq.stay hb⟩
theorem N1.item {o it}(h:N1 q s w0 w g v2 j v1 l)(hi:q.items[j]? =some it)(hu:OL (w.alloc o) (w0.heap.size+1+1) bE 9 1 u it.ah.length (it.ah.flatMap aG))(F1:∀q,u.ownBlock=some q->∀p∈l,p.2.ownBlock≠some q)(hg:(w.alloc o).grownBy w1 v1.ownBlock)(hO:OL w1 (w0.heap.size+1+1) bE 60 5 v' (l.length+1) (l.flatMap Ci++Ci (it,u))):
  w1.cell? ⟨g,0,none⟩=some v1/\w1.frozen? ⟨g,0,none⟩=false/\N1 q s w0 (w1.setCell ⟨g,0,none⟩ v') g v2 (j+1) v' (l++[(it,u)]):=by
 have ha:=h.stay ((bR).alloc nR o);have oU:=ha.q5.grown hg (λq hq=>⟨(ha.it.kr.lt q hq).1,λe=>ha.it.kr.aU ha.q5.b4 dQ (e▸hq)⟩);have vC:∀p∈l,u.ownBlock=none\/u.ownBlock≠p.2.ownBlock:=λp hp=>by
  cases hq:u.ownBlock with
  |none=>exact .inl rfl
  |some q=>exact .inr λe=>F1 q hq p hp e.symm
 have wI:RW KI w1 (w0.heap.size+1+1) v' (l++[(it,u)]):=ha.it.snoc ME hg hO hu vC;have Er:OL w1 (w0.heap.size+1+1) bE 63 6 v2 q.wh.length (q.wh.flatMap b9):=ha.wr.kept hg (ha.wr.ne ha.it.kr dQ) (λ_ hb=>hb.elim);refine⟨oU.b4.cell 0,oU.b4.frozen 0,oU.put 0 v',wI.OB oU.b4 dQ dQ,Er.setCell (p:=⟨g,0,none⟩) (Er.aU oU.b4 dQ) (λh=>h) _,?_⟩;rw[xR,h.eq,zJ,hi];rfl
theorem N2.put {o b}(h:N2 q s w0 w g v1 v2 v3 l rl)(hu:OL (w.alloc o) b bE 63 6 u t.length (t.flatMap b9))(Fb:∀q,u.ownBlock=some q->(∀p∈rl,p.2.ownBlock≠some q)/\v2.ownBlock≠some q)(hb:w0.heap.size+1+1<=b)(hg:(w.alloc o).grownBy w1 v3.ownBlock)(hO:OL w1 (w0.heap.size+1+1) bE 28 1 v3' (rl.length+1) (rl.flatMap J8++J8 (t,u))):
  w1.cell? ⟨g,6,none⟩=some v3/\w1.frozen? ⟨g,6,none⟩=false/\N2 q s w0 (w1.setCell ⟨g,6,none⟩ v3') g v1 v2 v3' l (rl++[(t,u)]):=by
 have ha:=h.stay ((bR).alloc nR o);have oU:=ha.q5.grown hg (λq hq=>⟨(ha.oq.r.kr.lt q hq).1,λe=>ha.oq.r.kr.aU ha.q5.b4 dQ (e▸hq)⟩);have vC:∀p∈rl,u.ownBlock=none\/u.ownBlock≠p.2.ownBlock:=λp hp=>by
  cases hq:u.ownBlock with
  |none=>exact .inl rfl
  |some q=>exact .inr λe=>(Fb q hq).1 p hp e.symm
 have wI:RW KR w1 (w0.heap.size+1+1) v3' (rl++[(t,u)]):=ha.oq.r.snoc MF hg hO (hu.base hb) vC;have Xz:RW KI w1 (w0.heap.size+1+1) v1 l:=ha.oq.i.kept hg (ha.oq.i.kr.ne ha.oq.r.kr dQ) (λp hp=>(ha.oq.i.fr p hp).ne ha.oq.r.kr dQ);have Er:OL w1 (w0.heap.size+1+1) bE 63 6 v2 q.wh.length (q.wh.flatMap b9):=ha.oq.wr.kept hg (ha.oq.wr.ne ha.oq.r.kr dQ) (λ_ hb=>hb.elim);refine⟨oU.b4.cell 6,oU.b4.frozen 6,oU.put 6 v3',OQ.OB ⟨Xz,Er,wI,λp hp=>?_⟩ oU.b4⟩;rcases zM.1 hp with hp |hp
 .exact h.oq.ne p hp
 .rw[xB]at hp;subst hp;cases hq:v2.ownBlock with
  |none=>exact .inl rfl
  |some q=>exact .inr λe=>(Fb q e.symm).2 hq
end
namespace rS
open cH dR
theorem GH (A c F t)(hl:t.length<=1048576)(w)(hF:∀b,F b->b<w.heap.size)(r:Rd w F (.slice A t.length c) (.sl t.length (t.flatMap b9))):
  Cl 34 #[.slice A t.length c] w (lL t w):=by
 replace⟨r,hF⟩:=H2 r hF;go_enter func34,ntmps34;go_wp2;go_loopw [3,4] (λv x wr=>∃(j:Nat)(s3:Value),s3=v/\j<=t.length/\x=.int .i64 j/\OL wr w.heap.size eL 63 6 s3 j ((t.take j).flatMap b9)/\Bw w wr) (λ_ x _=>t.length- (intOf x).toNat)
 .exact⟨0,_,rfl,zE _,rfl,.nil _ _ _ _ _,bR⟩
 obtain⟨j,s3,rfl,hj,rfl,hO,hB⟩:=hrel;by_cases hlt:j<t.length
 .obtain⟨x,hx⟩:=av hlt;obtain⟨g,off,rfl,_,a0,a1,a2,a3,a4,a5⟩:=dk (r.o.under hB hF.o) hx;have g0:=aH j;have g1:=aV j t.length;have tM:=Hd (aam hx);have hsz:=hB.size;replace hB:=Hd hB;clear hx;go_wp2_with (at_builtin;refine ez rfl (.tmp 11) (.tmp 16) _ rfl (m:=1) (news:=b9 x) qY (hO.alloc (.cells ⟨cJ x⟩ 63)) rfl rfl (Src.lit (M7 wr _ x)) rfl oQ oQ (by simp;omega) ?_;intro v' w1 ax aw bu);go_roundw
  .exact⟨j+1,_,rfl,oQ,gQ,by rw[tM.o];exact ax,(hB.o.alloc hB.o.size (.cells ⟨cJ x⟩ 63)).grown aw (by simp;omega) (λq hq=>(hO.lt q hq).1)⟩
  exact mQ
 .obtain rfl:j=t.length:=oQ;rw[zL]at hO;replace⟨hO,hB⟩:=H2 hO hB;go_wp2;go_ret;exact⟨_,rfl,hO.o,hB.o⟩
theorem D4 (F q s)(hs:jE q)(w)(R:QR w F q s):
  Cl 13 #[.agg ⟨qV q s⟩] w (M' q w):=by
 have hF:=R.lt;have mP:=λ(i:Nat) it (hi:q.items[i]? =some it)=>eV R.r1 hi
 have sk:=λ(i:Nat) t (hi:q.ret[i]? =some t)=>nM R.r3 hi
 have kw:=λ(Ax:Option Addr)(cx:Nat) t (hl:t.length<=1048576)(rx:Rd w F (.slice Ax t.length cx) (.sl t.length (t.flatMap b9))) W (hW:Bw w W)=>GH Ax cx F t hl W (λb h=>zF (hF b h) hW.size) (rx.under hW hF)
 have kx:=λ(Ax:Option Addr)(cx:Nat)(t:List ByteArray)(hl:t.length<=1048576)(rx:Rd w F (.slice Ax t.length cx) (.sl t.length (t.flatMap aG))) W (hW:Bw w W)=>di.o9 Ax cx F t hl W (λb h=>zF (hF b h) hW.size) (rx.under hW hF)
 have xc:=kw s.a2 s.c2 q.wh hs.wh.1 R.r2;have iT:=hs.il;have BQ:=hs.rl;have hits:=hs.it;have qH:=hs.re;obtain⟨W0,cg⟩:=aB ((w.alloc (.cells ⟨qV q s⟩ 31)).alloc (.cells ⟨lT⟩ 31))
 have bL:Bw w W0:=by rw[cg];exact(bA).alloc sJ _
 have ch:ao W0 w.heap.size 31 (qV q s):=by rw[cg];exact(ao.new _ _ _).alloc _
 have df:ao W0 (w.heap.size+1) 31 lT:=by rw[cg];exact ao.new' sJ
 have gp:W0.heap.size=w.heap.size+1+1:=by rw[cg];simp
 replace gp:=Hd gp;obtain⟨A1,c1,A2,c2,A3,c3⟩:=s;obtain⟨y0,y1,y2,y3,y4,y5,y6⟩:=nU ch;simp only[zY]at y0 y1 y2 y3 y4 y5 y6;simp only[qV,lT]at cg |-;try simp only at mP sk xc
 have qd:=Hd cg;replace⟨hF,mP,sk,kw,kx,xc,hits,qH,bL,ch,df⟩:=SI hF mP sk kw kx xc hits qH bL ch df;clear R hs cg;go_enter func13,ntmps13;go_upto_region 1 with fail
 rw[<-qd.o];have kS:=λW (hW:Bw W0 W)=>xW ((ch.o.stay hW).cell 1) (xW ((ch.o.stay hW).cell 2) (xW ((ch.o.stay hW).cell 4) (xW ((ch.o.stay hW).cell 5) ((ch.o.stay hW).cell 3))))
 have ak:=xW (kS W0.drew (bR).drew) trivial;replace kS:=Hd kS;clear y0 y1 y2 y3 y4 y5 y6;go_cut [3] (λv wx=>∃g v2,v=.pointer (some ⟨g,0,none⟩)/\N1 q ⟨A1,c1,A2,c2,A3,c3⟩ w wx g v2 0 (.slice none 0 0) [])
 .have ae:∀(g:Nat)(W:World)(v2:Value),Bw W0 W->ao W g 31 (l8 q (.slice none 0 0) v2 (.slice none 0 0) q.au)->w.heap.size+1<g->OL W (w.heap.size+1+1) bE 63 6 v2 q.wh.length (q.wh.flatMap b9)->N1 q ⟨A1,c1,A2,c2,A3,c3⟩ w W g v2 0 (.slice none 0 0) []:=λg W v2 hW hb hlt hO=>
   ⟨⟨bL.o.trans (hW.mono bL.o.size),ch.o.stay hW,df.o.stay hW,hb,hlt⟩,RW.nil _ _ _,hO,rfl⟩
  replace ae:=Hd ae;refine aC (p:=100) (S0:=λW=>W.cell? ⟨w.heap.size,1,none⟩=some (.int .i64 q.mode)/\W.cell? ⟨w.heap.size,2,none⟩=some (.int .i64 q.after)/\W.cell? ⟨w.heap.size,4,none⟩=some (.int .i64 q.within)/\W.cell? ⟨w.heap.size,5,none⟩=some (.string q.au)/\W.cell? ⟨w.heap.size,3,none⟩=some (.slice A2 q.wh.length c2)) (S1:=λ_=>True) kQ ?_;refine' aq 0 rfl ak ?_;refine' aq 1 rfl ak ?_;refine' aq 2 rfl ak ?_;refine' aq 3 rfl ak ?_;refine' aq 4 rfl ak ?_;refine' aq 5 rfl ak ?_;refine' aq 6 rfl ak ?_;refine' aq 7 rfl ak ?_;refine' aq 8 rfl ak ?_;refine' aq 9 rfl ak ?_;try simp only[Act.put,aK]
  refine sW (k1:=10) (k2:=12) kQ rfl rfl (λK hK=>?_) (λK hK=>?_)
  .go_simp;go_at_call 34;refine(xc.o W0.drew (bL.o.trans ((zB W0.heap.size W0).drew.mono bL.o.size))).mono ?_;rintro e W4 ⟨v4,rfl,lR,fI⟩;obtain⟨A4,d4,rfl⟩:=lR.form;have fP:=Hd ((zB W0.heap.size W0).drew.trans fI);have iM:=Hd (lR.base (B':=w.heap.size+1+1) (by have:=gp.o;simp;omega));have hs4:W0.heap.size<=W4.heap.size:=fP.o.size;have hs5:w.heap.size+1<W4.heap.size:=by have:=gp.o;omega
   refine hK.o _ _ ⟨kS.o _ fP.o,λ_=>trivial⟩ ?_;have bF:=xW (kS.o _ fP.o) trivial;clear hK K ak fI lR;refine' aq 11 rfl bF ?_;try simp only[Act.put,aK]
   refine Gs 12 rfl λK hK=>?_
   go_simp;refine hK.o _ _ ⟨kS.o _ (by first|exact fP.o.alloc fP.o.size _ |exact(fP.o.alloc fP.o.size _).drew),λ_=>trivial⟩ ?_;clear hK K;refine Gs 13 rfl λK hK=>?_
   go_simp;refine hK.o _ _ ⟨kS.o _ (by first|exact fP.o.alloc fP.o.size _ |exact(fP.o.alloc fP.o.size _).drew),λ_=>trivial⟩ ?_;clear hK K bF;refine Gd _ ?_;try simp only[Act.put,aK]
   go_wp2
   all_goals(go_meet;exact⟨W4.heap.size,_,rfl,ae.o _ _ _ (fP.o.alloc fP.o.size _) (ao.new _ _ _) oQ (iM.o.alloc _)⟩)
  .go_simp;have hZ:ao (W0.alloc (.cells ⟨lT⟩ 31)).drew W0.heap.size 31 lT:=(ao.new W0 31 lT).stay (bR).drew;have sf:=Hd (((zB W0.heap.size W0).alloc nR (.cells ⟨lT⟩ 31)).drew);simp only[lT]at hZ sf;refine hK.o _ _ ⟨kS.o _ sf.o,λ_=>trivial⟩ ?_;generalize (W0.alloc (.cells ⟨[.slice none 0 0,.int .i64 0,.int .i64 0,.slice none 0 0,.int .i64 0,.string ⟨#[]⟩,.slice none 0 0]⟩ 31)).drew=W5 at*;replace hZ:=Hd hZ;have MD:=hZ.o.lt;clear hK K ak;try simp only[Act.put,aK]
   refine Gs 10 rfl λK hK=>?_
   go_simp;go_at_call 34;refine(xc.o W5 (bL.o.trans (sf.o.mono bL.o.size))).mono ?_;rintro e W4 ⟨v4,rfl,lR,fI⟩;obtain⟨A4,d4,rfl⟩:=lR.form;have fP:=Hd (sf.o.trans (fI.mono sf.o.size));have hZ4:=Hd (hZ.o.stay fI);have iM:=Hd (lR.base (B':=w.heap.size+1+1) (by have:=gp.o;omega));refine hK.o _ _ ⟨kS.o _ fP.o,λ_=>trivial⟩ ?_;have bF:=xW (kS.o _ fP.o) trivial;clear hK K fI lR;refine' aq 11 rfl bF ?_;try simp only[Act.put,aK]
   refine Gs 13 rfl λK hK=>?_
   refine bh (by rfl) 31 _ _ (by rfl) (cs':=l8 q (.slice none 0 0) (.slice A4 q.wh.length d4) (.slice none 0 0) q.au) hZ4.o cB rfl (by rfl) (by rfl) rfl ?_;intro w6 sX wY;have lO:=Hd (fP.o.grown wY fP.o.size (λq hq=>by injection hq with hq;omega));have sP:=Hd (iM.o.kept wY (.inr (iM.o.aU hZ4.o dQ)) (λ_ hb=>hb.elim));refine hK.o _ _ ⟨kS.o _ lO.o,λ_=>trivial⟩ ?_;replace sX:=Hd sX;clear hK K bF wY;refine Gd _ ?_;go_simp;go_wp2
   all_goals(go_meet;exact⟨W0.heap.size,_,rfl,ae.o _ _ _ lO.o sX.o (by have:=gp.o;omega) sP.o⟩)
 obtain⟨g,v2,rfl,E'⟩:=hcut;obtain⟨Aw,cw,rfl⟩:=E'.wr.form;replace E':=Hd E';clear ak kS;go_wp2;go_loopw [4] (λi wr=>∃(j:Nat)(v1:Value)(l:List (It×Value)),j<=q.items.length/\i=.int .i64 j/\N1 q ⟨A1,c1,A2,c2,A3,c3⟩ w wr g (.slice Aw q.wh.length cw) j v1 l) (λi _=>q.items.length- (intOf i).toNat)
 .exact⟨0,.slice none 0 0,[],zE _,rfl,E'.o⟩
 clear E';obtain⟨j,v1,l,hj,rfl,hL⟩:=hrel;obtain⟨Ai,ci,rfl⟩:=hL.it.kr.form;have hB:=hL.q5.hb;have rA:=hB.size;have jJ:=hL.q5.b4.lt;have hlg:=hL.q5.lt;have yA:l.length<=q.items.length:=by
  have:=congrArg List.length hL.eq;rw[xC,zO]at this;omega
 have y0:wr.cell? ⟨w.heap.size,0,none⟩=some (.slice A1 q.items.length c1):=hL.q5.b1.cell 0;by_cases hlt:j<q.items.length
 .obtain⟨it,hi⟩:=av hlt;have uG:=zA hi;have BZ:=(hits.o it uG).1.1;obtain⟨gI,oI,A5,c5,eI,sg,uA,b0,b1,b2,b3,b4⟩:=mP.o j it hi;try simp only at eI
  subst eI;have pA:=hF.o gI sg;have a0:=(hB.cell (p:=⟨gI,oI+j*5,none⟩) pA).trans b0;have a1:=(hB.cell (p:=⟨gI,oI+j*5+1,none⟩) pA).trans b1;have a2:=(hB.cell (p:=⟨gI,oI+j*5+2,none⟩) pA).trans b2;have a3:=(hB.cell (p:=⟨gI,oI+j*5+3,none⟩) pA).trans b3;have a4:=(hB.cell (p:=⟨gI,oI+j*5+4,none⟩) pA).trans b4;clear b0 b1 b2 b3 b4;have g0:=aH j;have g1:=aV j q.items.length;obtain⟨wo,gU⟩:=aB wr
  subst gU;obtain⟨W1,a9⟩:=aB (wo.alloc (.cells ⟨dX it (.slice A5 it.ah.length c5)⟩ 60))
  have az:Bw wo W1:=by rw[a9];exact bA
  have DC:ao W1 wo.heap.size 60 (dX it (.slice A5 it.ah.length c5)):=by rw[a9];exact ao.new wo _ _
  have eC:wo.heap.size<W1.heap.size:=DC.lt;have Hb:=hL.stay az;have Xe:(Value.slice Ai l.length ci).ownBlock≠some wo.heap.size:=λe=>by have:=(hL.it.kr.lt _ e).2;omega
  replace Xe:=Hd Xe;have Xf:=kx.o A5 c5 it.ah BZ uA W1.drew (hB.trans ((az.mono hB.size).trans ((zB W1.heap.size W1).drew.mono Hb.q5.hb.size)));have kS:=λW (hW:Bw W1 W)=>xW ((DC.stay hW).cell 0) (xW ((DC.stay hW).cell 1) (xW ((DC.stay hW).cell 2) (xW ((DC.stay hW).cell 3) ((DC.stay hW).cell 4))))
  have Ya:=λW (hW:Bw W1 W)=>(Hb.q5.stay hW).b4.cell 0
  have ak:=xW (kS W1.drew (bR).drew) (Ya W1.drew (bR).drew);simp only[dX]at a9;have Q9:=Hd a9;replace⟨kS,Ya,Xf,hi,uG,uA,Hb,hB,az,DC⟩:=yX kS Ya Xf hi uG uA Hb hB az DC;clear a9 hL;go_upto_region 6 with fail
  rw[<-Q9.o];clear a0 a1 a2 a3 a4 y0;refine aC (p:=15) (S0:=λW=>W.cell? ⟨wo.heap.size,0,none⟩=some (.bool it.neg)/\W.cell? ⟨wo.heap.size,1,none⟩=some (.slice A5 it.ah.length c5)/\W.cell? ⟨wo.heap.size,2,none⟩=some (.string it.v)/\W.cell? ⟨wo.heap.size,3,none⟩=some (.int .i64 it.lo)/\W.cell? ⟨wo.heap.size,4,none⟩=some (.int .i64 it.hi)) (S1:=λW=>W.cell? ⟨g,0,none⟩=some (.slice Ai l.length ci)) kQ ?_;refine' aq 0 rfl ak ?_;try simp only[Act.put,aK]
  refine' jM (i:=1) (v:=_) rfl dQ kQ kQ kQ rfl kQ kQ (λ_ _ _ h=>h) ak (.inl ⟨by first|(with_reducible rfl)|go_simp,?VZ⟩) ?V9
  case VZ=>(intro W hW;(try dsimp only at hW);go_simp<;>with_reducible rfl)
  refine' aq 2 rfl ak ?_;refine' aq 3 rfl ak ?_;refine' aq 4 rfl ak ?_;refine' aq 5 rfl ak ?_;refine' aq 6 rfl ak ?_;refine' aq 7 rfl ak ?_;refine' aq 8 rfl ak ?_;refine' aq 9 rfl ak ?_;refine' aq 10 rfl ak ?_;refine' aq 11 rfl ak ?_;try simp only[Act.put,aK]
  refine Gs 12 rfl λK hK=>?_
  go_simp;go_at_call 17;refine Xf.o.mono ?_;rintro e W4 ⟨v4,rfl,lR,fI⟩;obtain⟨Au,cu,rfl⟩:=lR.form;have o6:=Hd ((zB W1.heap.size W1).drew.trans fI);have Ha:=Hb.o.stay o6.o;have hs4:=o6.o.size;refine hK.o _ _ ⟨kS.o _ o6.o,λ_=>Ya.o _ o6.o⟩ ?_;have bF:=xW (kS.o _ o6.o) (Ya.o _ o6.o);have hu:OL W4 (w.heap.size+1+1) bE 9 1 (.slice Au it.ah.length cu) it.ah.length (it.ah.flatMap aG):=lR.base (by simp;omega);have F1:∀qq,(Value.slice Au it.ah.length cu).ownBlock=some qq->∀p∈l,p.2.ownBlock≠some qq:=λqq hq p hp e=>by
   have h1:=(lR.lt qq hq).1;have:=((Hb.o.it.fr p hp).lt qq e).2;simp at h1;omega
  have kG:=λw1 v' (hg:(W4.alloc (.cells ⟨[.bool it.neg,.slice Au it.ah.length cu,.string it.v,.int .i64 it.lo,.int .i64 it.hi]⟩ 60)).grownBy w1 (Value.slice Ai l.length ci).ownBlock)(hO:OL w1 (w.heap.size+1+1) bE 60 5 v' (l.length+1) (l.flatMap Ci++Ci (it,.slice Au it.ah.length cu)))=>N1.item Ha hi.o (hu.alloc _) F1 hg hO
  have kT:=Hd (Ha.it.kr.alloc (.cells ⟨[.bool it.neg,.slice Au it.ah.length cu,.string it.v,.int .i64 it.lo,.int .i64 it.hi]⟩ 60));have afu:=Hd (DC.o.stay (o6.o.alloc o6.o.size (.cells ⟨[.bool it.neg,.slice Au it.ah.length cu,.string it.v,.int .i64 it.lo,.int .i64 it.hi]⟩ 60)));replace kG:=Hd kG;clear hK K ak fI lR Ha hu F1;refine' aq 13 rfl bF ?_;try simp only[Act.put,aK]
  refine Gs 14 rfl λK hK=>?_
  go_simp;refine hK.o _ _ ⟨kS.o _ (o6.o.alloc o6.o.size _),λ_=>Ya.o _ (o6.o.alloc o6.o.size _)⟩ ?_;clear hK K bF;refine Gs 15 rfl λK hK=>?_
  refine dj (by rfl) (.tmp 33) (.tmp 46) _ (by rfl) (m:=1) (news:=Ci (it,.slice Au it.ah.length cu)) Vn (by exact kT.o) (by rfl) (by rfl) (by exact Src.lit (MG W4 _ it Au it.ah.length cu)) rfl oQ oQ (by simp;omega) ?_;intro v7 w7 vD xb Zg;obtain⟨B7,d7,rfl⟩:=vD.form;obtain⟨t1,t2,t3⟩:=kG.o _ _ xb vD;have wj:=afu.o.grown xb (λe=>Xe.o e.symm);have OC:=Hd (wj.far (p:=⟨g,0,none⟩) (by show wo.heap.size≠g;omega) (.slice B7 (l.length+1) d7));replace t3:=Hd t3;refine hK.o _ _ ⟨⟨wj.cell 0,wj.cell 1,wj.cell 2,wj.cell 3,wj.cell 4⟩,λ_=>t1⟩ ?_;have Pg:=xW (show _/\_/\_/\_/\_ from⟨wj.cell 0,wj.cell 1,wj.cell 2,wj.cell 3,wj.cell 4⟩) t1;clear hK K vD xb Zg;refine' aq 16 rfl Pg ?_;try simp only[Act.put,aK]
  refine Gs 17 rfl λK hK=>?_
  go_simp;refine hK.o _ _ ⟨?_,λh=>absurd (h.symm.trans (by kernel_rfl:_=true)) sJ⟩ ?_
  .exact⟨OC.o.cell 0,OC.o.cell 1,OC.o.cell 2,OC.o.cell 3,OC.o.cell 4⟩
  clear hK K Pg;refine Gd _ ?_;try simp only[Act.put,aK]
  go_wp2;go_roundw
  .exact⟨j+1,_,_,oQ,gQ,t3.o⟩
  exact mQ
 .obtain rfl:j=q.items.length:=oQ;have pW:=hL.eq;rw[zL]at pW;have vE:=Hd (show N2 q ⟨A1,c1,A2,c2,A3,c3⟩ w wr g (.slice Ai l.length ci) (.slice Aw q.wh.length cw) (.slice none 0 0) l [] from ⟨hL.q5,hL.it,hL.wr,RW.nil _ _ _,λp hp=>by simp at hp⟩);replace pW:=Hd pW;clear hL yA;go_wp2;clear y0;go_loopw [6] (λi wr=>∃(kj:Nat)(v3:Value)(rl:List (List Nd×Value)),kj<=q.ret.length/\rl.length=kj/\i=.int .i64 kj/\N2 q ⟨A1,c1,A2,c2,A3,c3⟩ w wr g (.slice Ai l.length ci) (.slice Aw q.wh.length cw) v3 l rl/\Hid (rl.map (·.1)=q.ret.take kj)) (λi _=>q.ret.length- (intOf i).toNat)
  .exact⟨0,.slice none 0 0,[],zE _,rfl,rfl,vE.o,rfl⟩
  clear vE;obtain⟨kj,v3,rl,hkj,jN,rfl,hM,MQ⟩:=hrel;obtain⟨Ar,cr,rfl⟩:=hM.oq.r.kr.form;have fy:=hM.q5.hb;have Cw:=fy.size;have ako:=hM.q5.lt;have y6:wr.cell? ⟨w.heap.size,6,none⟩=some (.slice A3 q.ret.length c3):=hM.q5.b1.cell 6;by_cases tY:kj<q.ret.length
  .obtain⟨t,ht⟩:=av tY;have nj:=zA ht;obtain⟨gR,oR,At5,ct5,eR,Rw,F7,r0⟩:=sk.o kj t ht;try simp only at eR
   subst eR;have Rx:=hF.o gR Rw;have p0:=aH kj;have p1:=aV kj q.ret.length;have r1:=(fy.cell (p:=⟨gR,oR+kj,none⟩) Rx).trans r0;have rE:=kw.o At5 ct5 t (qH.o t nj).1 F7 wr fy;have hst:(rl.map (·.1)++[t])=q.ret.take (kj+1):=by rw[zJ,ht,<-MQ.o];rfl
   have ad6:rl.length<=1048576:=oQ;replace⟨hst,rE,jN,ht,nj,F7,hM,fy⟩:=H8 hst rE jN ht nj F7 hM fy;clear r0;go_upto_region 11 with(go_at_call 34;refine rE.o.mono ?_;rintro e W8 ⟨v8,rfl,Jn,uC⟩;obtain⟨A8,c8,rfl⟩:=Jn.form)
   have yE:=hM.o.stay uC;have q6:W8.cell? ⟨g,6,none⟩=some (.slice Ar rl.length cr):=yE.q5.b4.cell 6;have q6l:=yE.q5.b4.lt;have eX:=yE.q5.hb.size;have kH:=λw1 v' (hg:(W8.alloc (.cells ⟨[.slice A8 t.length c8]⟩ 28)).grownBy w1 (Value.slice Ar rl.length cr).ownBlock) hO=>N2.put (t:=t) (u:=.slice A8 t.length c8) (b:=wr.heap.size) (v3':=v') yE (Jn.alloc (.cells ⟨[.slice A8 t.length c8]⟩ 28)) (λqq hq=>⟨λp hp e=>(by have h1:=(Jn.lt qq hq).1;have h2:=((hM.o.oq.r.fr p hp).lt qq e).2;omega),λe=>(by have h1:=(Jn.lt qq hq).1;have h2:=(hM.o.oq.wr.lt qq e).2;omega)⟩) (by have:=hM.o.q5.b2.lt;omega) hg hO
   have kT:=Hd (yE.oq.r.kr.alloc (.cells ⟨[.slice A8 t.length c8]⟩ 28));replace kH:=Hd kH;clear yE Jn uC r1 y6;go_wp2_with (at_builtin;refine ez rfl (.tmp 63) (.tmp 65) _ rfl (m:=1) (news:=J8 (t,.slice A8 t.length c8)) Vo kT.o rfl rfl (Src.lit (MH W8 _ t A8 t.length c8)) rfl oQ oQ (by simp;omega) ?_;intro v' w9 EC Tm Zh;obtain⟨B9,d9,rfl⟩:=EC.form;obtain⟨t1,t2,t3⟩:=kH.o _ _ Tm EC;replace t3:=Hd t3;clear EC Tm Zh);go_roundw
   .exact⟨kj+1,_,rl++[(t,.slice A8 t.length c8)],oQ,by rw[zH,jN.o];rfl,gQ,t3.o,by show _=_;rw[<-hst.o];simp⟩
   exact mQ
  .obtain rfl:kj=q.ret.length:=oQ;have iA:=MQ.o;rw[zL]at iA;have b0:wr.cell? ⟨g,0,none⟩=some (.slice Ai l.length ci):=hM.q5.b4.cell 0;have b1:wr.cell? ⟨g,1,none⟩=some (.int .i64 q.mode):=hM.q5.b4.cell 1;have b2:wr.cell? ⟨g,2,none⟩=some (.int .i64 q.after):=hM.q5.b4.cell 2;have b3:wr.cell? ⟨g,3,none⟩=some (.slice Aw q.wh.length cw):=hM.q5.b4.cell 3;have b4:wr.cell? ⟨g,4,none⟩=some (.int .i64 q.within):=hM.q5.b4.cell 4;have b5:wr.cell? ⟨g,5,none⟩=some (.string q.au):=hM.q5.b4.cell 5;have b6:wr.cell? ⟨g,6,none⟩=some (.slice Ar rl.length cr):=hM.q5.b4.cell 6;replace⟨iA,jN,hM⟩:=H3 iA jN hM;go_wp2_with (refine ay (.store 31 (.tmp 2) (.tmp 68)) rfl ?_;refine eU rfl 31 (.tmp 2) (.tmp 68) rfl (cs':=l8 q (.slice Ai l.length ci) (.slice Aw q.wh.length cw) (.slice Ar rl.length cr) q.au) hM.o.q5.b2 cB rfl rfl rfl rfl ?_;intro w8 eX eY);exact l5 rfl eX cB rfl rfl ⟨_,_,_,l,rl,rfl,(hM.o.oq.under eY (show w.heap.size+1<w.heap.size+1+1 by omega)).base oQ,pW.o,iA.o,hM.o.q5.hb.grown eY hM.o.q5.hb.size (λqq hq=>by injection hq with hq;omega)⟩
end rS
theorem afv (w x y):(Op.equalIn 10000 63 (.agg ⟨cJ x⟩) (.agg ⟨cJ y⟩)).run prog w=.ok (x.op==y.op&&(x.n==y.n&&(x.v.toList==y.v.toList&&(x.at_.toList==y.at_.toList&&(x.a==y.a&&(x.b==y.b&&true)))))) w:=by
 rw[run_equalIn_struct w 9999 63 _ _ kQ kQ];rw[show(prog.fieldsOf 63).toList=[{name:= "Op",type:=61,offset:=0,embedded:=false,tag:= "",pkgPath:= "",byteOffset:=0},{name:= "N",type:=2,offset:=1,embedded:=false,tag:= "",pkgPath:= "",byteOffset:=8},
  {name:= "Var",type:=9,offset:=2,embedded:=false,tag:= "",pkgPath:= "",byteOffset:=16},{name:= "Attr",type:=9,offset:=3,embedded:=false,tag:= "",pkgPath:= "",byteOffset:=32},
  {name:= "A",type:=3,offset:=4,embedded:=false,tag:= "",pkgPath:= "",byteOffset:=48},{name:= "B",type:=3,offset:=5,embedded:=false,tag:= "",pkgPath:= "",byteOffset:=56}] by kernel_rfl]
 exact cC w dQ kQ kQ (run_equalIn_int w _ 61 .i64 .i64 _ _ underlying61)
  (cC w dQ kQ kQ (run_equalIn_int w _ 2 .i64 .i64 _ _ underlying2)
   (cC w dQ kQ kQ (run_equalIn_string w _ 9 _ _ underlying9)
    (cC w dQ kQ kQ (run_equalIn_string w _ 9 _ _ underlying9)
     (cC w dQ kQ kQ (run_equalIn_int w _ 3 .i64 .i64 _ _ underlying3)
      (cC w dQ kQ kQ (run_equalIn_int w _ 3 .i64 .i64 _ _ underlying3) rfl)))))
theorem Xg (w x):(binOp .neq 63 (.agg ⟨cJ x⟩) (.agg ⟨cJ x⟩)).run prog w=.ok (.bool false) w:=by
 simp only[binOp];simp[Op.equal,Op.maxDepth,afv w x x]
namespace rS
open cH dR
theorem GI (A B c d F G)(t:List Nd)(hl:t.length<=1048576)(w)(hF:∀b,F b->b<w.heap.size)(hG:∀b,G b->b<w.heap.size)(r:Rd w F (.slice A t.length c) (.sl t.length (t.flatMap b9)))(s:Rd w G (.slice B t.length d) (.sl t.length (t.flatMap b9))):
  Cl 51 #[.slice A t.length c,.slice B t.length d] w λe w'=>e=.returned (.bool true)/\Bw w w':=by
 replace⟨r,s,hF,hG⟩:=H4 r s hF hG;go_enter func51,ntmps51;go_wp2;go_loopw [5] (λx wr=>∃k:Nat,k<=t.length/\x=.int .i64 k/\Bw w wr) (λx _=>t.length- (intOf x).toNat)
 .exact⟨0,zE _,rfl,bR⟩
 obtain⟨k,hk,rfl,hB⟩:=hrel;by_cases hlt:k<t.length
 .obtain⟨x,hx⟩:=av hlt;obtain⟨gN,oN,rfl,Zk,n0,n1,n2,n3,n4,n5⟩:=dk r.o hx;obtain⟨gM,oM,rfl,hGM,m0,m1,m2,m3,m4,m5⟩:=dk s.o hx;have pC:=hF.o gN Zk;have Gf:=hG.o gM hGM;have g0:=aH k;have g1:=aV k t.length;have a0:=(hB.cell (p:=⟨gN,oN+k*6,none⟩) pC).trans n0;have a1:=(hB.cell (p:=⟨gN,oN+k*6+1,none⟩) pC).trans n1;have a2:=(hB.cell (p:=⟨gN,oN+k*6+2,none⟩) pC).trans n2;have a3:=(hB.cell (p:=⟨gN,oN+k*6+3,none⟩) pC).trans n3;have a4:=(hB.cell (p:=⟨gN,oN+k*6+4,none⟩) pC).trans n4;have a5:=(hB.cell (p:=⟨gN,oN+k*6+5,none⟩) pC).trans n5;have b0:=(hB.cell (p:=⟨gM,oM+k*6,none⟩) Gf).trans m0;have b1:=(hB.cell (p:=⟨gM,oM+k*6+1,none⟩) Gf).trans m1;have b2:=(hB.cell (p:=⟨gM,oM+k*6+2,none⟩) Gf).trans m2;have b3:=(hB.cell (p:=⟨gM,oM+k*6+3,none⟩) Gf).trans m3;have b4:=(hB.cell (p:=⟨gM,oM+k*6+4,none⟩) Gf).trans m4;have b5:=(hB.cell (p:=⟨gM,oM+k*6+5,none⟩) Gf).trans m5;have hne:=λW=>Xg W x
  simp only[cJ]at hne;replace hB:=Hd hB;clear hx n0 n1 n2 n3 n4 n5 m0 m1 m2 m3 m4 m5;go_wp2;go_quiet (fail);clear hne;go_wp2;go_roundw
  .exact⟨k+1,oQ,gQ,hB.o.trans ((below_drewN bR _).mono hB.o.size)⟩
  exact mQ
 .obtain rfl:k=t.length:=oQ;replace hB:=Hd hB;go_wp2;go_ret;exact⟨rfl,hB.o⟩
structure Yb (q:Qy)(s s':fV)(w wr:World):Prop where
 hb:Bw w wr
 b1:ao wr w.heap.size 31 (qV q s)
 b2:ao wr (w.heap.size+1) 31 (qV q s')
theorem Yb.stay {q s s' w wr W}(h:Yb q s s' w wr)(hb:Bw wr W):Yb q s s' w W:=⟨h.hb.trans (hb.mono h.hb.size),h.b1.stay hb,h.b2.stay hb⟩
theorem D5 (F G q s s')(hs:jE q)(w)(R:QR w F q s)(R':QR w G q s'):
  Cl 29 #[.agg ⟨qV q s⟩,.agg ⟨qV q s'⟩] w λe w'=>e=.returned (.bool true)/\Bw w w':=by
 have h0:Yb q s s' w ((w.alloc (.cells ⟨qV q s⟩ 31)).alloc (.cells ⟨qV q s'⟩ 31)):=⟨(bA).alloc sJ _,(ao.new _ _ _).alloc _,ao.new' sJ⟩;obtain⟨W0,cg⟩:=aB ((w.alloc (.cells ⟨qV q s⟩ 31)).alloc (.cells ⟨qV q s'⟩ 31))
 rw[<-cg]at h0;have hF:=R.lt;have hG:=R'.lt;have mP:=λ(i:Nat) it (hi:q.items[i]? =some it)=>eV R.r1 hi
 have sk:=λ(i:Nat) t (hi:q.ret[i]? =some t)=>nM R.r3 hi
 have SA:=λ(i:Nat) it (hi:q.items[i]? =some it)=>eV R'.r1 hi
 have SC:=λ(i:Nat) t (hi:q.ret[i]? =some t)=>nM R'.r3 hi
 have kt:=λ(A B:Option Addr)(c d:Nat) t (hl:t.length<=1048576)(r1:Rd w F (.slice A t.length c) (.sl t.length (t.flatMap b9)))(r2:Rd w G (.slice B t.length d) (.sl t.length (t.flatMap b9))) W (hW:Bw w W)=>GI A B c d F G t hl W (λb h=>zF (hF b h) hW.size) (λb h=>zF (hG b h) hW.size) (r1.under hW hF) (r2.under hW hG)
 have kx:=λ(A B:Option Addr)(c d:Nat)(t:List ByteArray)(hl:t.length<=1048576)(r1:Rd w F (.slice A t.length c) (.sl t.length (t.flatMap aG)))(r2:Rd w G (.slice B t.length d) (.sl t.length (t.flatMap aG))) W (hW:Bw w W)=>di.pn A B c d F G t hl W (r1.under hW hF) (r2.under hW hG)
 have kw:=kt s.a2 s'.a2 s.c2 s'.c2 q.wh hs.wh.1 R.r2 R'.r2 W0 h0.hb;have iT:=hs.il;have BQ:=hs.rl;have hits:=hs.it;have qH:=hs.re;obtain⟨A1,c1,A2,c2,A3,c3⟩:=s;obtain⟨B1,d1,B2,d2,B3,d3⟩:=s';obtain⟨y0,y1,y2,y3,y4,y5,y6⟩:=nU h0.b1;obtain⟨z0,z1,z2,z3,z4,z5,z6⟩:=nU h0.b2;simp only[zY]at y0 y1 y2 y3 y4 y5 y6 z0 z1 z2 z3 z4 z5 z6;simp only[qV]at cg |-;try simp only at mP sk SA SC kw
 have qd:=Hd cg;replace⟨hF,hG,mP,sk,SA,SC,kt,kx,kw,hits,qH,h0⟩:=uM hF hG mP sk SA SC kt kx kw hits qH h0;clear R R' hs cg;go_enter func29,ntmps29;go_upto_region 1 with fail
 rw[<-qd.o];go_upto_region 3 with(go_at_call 51;refine kw.o.mono ?_;rintro e W1 ⟨rfl,az⟩)
 have qm:=Hd (h0.o.stay az);clear y0 y1 y2 y3 y4 y5 y6 z0 z1 z2 z3 z4 z5 z6 az kw h0;go_wp2;go_loopw [5] (λi wr=>∃j:Nat,j<=q.items.length/\i=.int .i64 j/\Yb q ⟨A1,c1,A2,c2,A3,c3⟩ ⟨B1,d1,B2,d2,B3,d3⟩ w wr) (λi _=>q.items.length- (intOf i).toNat)
 .exact⟨0,zE _,rfl,qm.o⟩
 clear qm;obtain⟨j,hj,rfl,hQ⟩:=hrel;have hB:=hQ.hb;have df:=hQ.b2.lt;have y0:wr.cell? ⟨w.heap.size,0,none⟩=some (.slice A1 q.items.length c1):=hQ.b1.cell 0;have z0:wr.cell? ⟨w.heap.size+1,0,none⟩=some (.slice B1 q.items.length d1):=hQ.b2.cell 0;by_cases hlt:j<q.items.length
 .obtain⟨it,hi⟩:=av hlt;have uG:=zA hi;have BZ:=(hits.o it uG).1.1;obtain⟨gI,oI,A5,c5,eI,sg,uA,b0,b1,b2,b3,b4⟩:=mP.o j it hi;obtain⟨gJ,oJ,B5,d5,eJ,hGJ,ry0,e0,e1,e2,e3,e4⟩:=SA.o j it hi;try simp only at eI
  try simp only at eJ
  subst eI;subst eJ;have pA:=hF.o gI sg;have hgJ:=hG.o gJ hGJ;have IZ:=hB.size;have akr:gJ<wr.heap.size:=oQ;have aks:gI<wr.heap.size:=oQ;have a0:=(hB.cell (p:=⟨gI,oI+j*5,none⟩) pA).trans b0;have a1:=(hB.cell (p:=⟨gI,oI+j*5+1,none⟩) pA).trans b1;have a2:=(hB.cell (p:=⟨gI,oI+j*5+2,none⟩) pA).trans b2;have a3:=(hB.cell (p:=⟨gI,oI+j*5+3,none⟩) pA).trans b3;have a4:=(hB.cell (p:=⟨gI,oI+j*5+4,none⟩) pA).trans b4;have f0:=(hB.cell (p:=⟨gJ,oJ+j*5,none⟩) hgJ).trans e0;have f1:=(hB.cell (p:=⟨gJ,oJ+j*5+1,none⟩) hgJ).trans e1;have f2:=(hB.cell (p:=⟨gJ,oJ+j*5+2,none⟩) hgJ).trans e2;have f3:=(hB.cell (p:=⟨gJ,oJ+j*5+3,none⟩) hgJ).trans e3;have f4:=(hB.cell (p:=⟨gJ,oJ+j*5+4,none⟩) hgJ).trans e4;clear b0 b1 b2 b3 b4 e0 e1 e2 e3 e4;have g0:=aH j;have g1:=aV j q.items.length;obtain⟨W2,aX⟩:=aB ((wr.alloc (.cells ⟨dX it (.slice A5 it.ah.length c5)⟩ 60)).alloc (.cells ⟨dX it (.slice B5 it.ah.length d5)⟩ 60))
  have cD:Bw wr W2:=by rw[aX];exact(bA).alloc sJ _
  have h6:ao W2 wr.heap.size 60 (dX it (.slice A5 it.ah.length c5)):=by rw[aX];exact(ao.new wr _ _).alloc _
  have h7:ao W2 (wr.heap.size+1) 60 (dX it (.slice B5 it.ah.length d5)):=by rw[aX];exact ao.new' sJ
  have hQ2:=hQ.stay cD;have i0:W2.cell? ⟨wr.heap.size,0,none⟩=some (.bool it.neg):=h6.cell 0;have i1:W2.cell? ⟨wr.heap.size,1,none⟩=some (.slice A5 it.ah.length c5):=h6.cell 1;have i2:W2.cell? ⟨wr.heap.size,2,none⟩=some (.string it.v):=h6.cell 2;have i3:W2.cell? ⟨wr.heap.size,3,none⟩=some (.int .i64 it.lo):=h6.cell 3;have i4:W2.cell? ⟨wr.heap.size,4,none⟩=some (.int .i64 it.hi):=h6.cell 4;have k0:W2.cell? ⟨wr.heap.size+1,0,none⟩=some (.bool it.neg):=h7.cell 0;have k1:W2.cell? ⟨wr.heap.size+1,1,none⟩=some (.slice B5 it.ah.length d5):=h7.cell 1;have k2:W2.cell? ⟨wr.heap.size+1,2,none⟩=some (.string it.v):=h7.cell 2;have k3:W2.cell? ⟨wr.heap.size+1,3,none⟩=some (.int .i64 it.lo):=h7.cell 3;have k4:W2.cell? ⟨wr.heap.size+1,4,none⟩=some (.int .i64 it.hi):=h7.cell 4;have Xf:=kx.o A5 B5 c5 d5 it.ah BZ uA ry0 W2 hQ2.hb;simp only[dX]at aX;have afx:=Hd aX;replace⟨Xf,hi,uG,uA,ry0,hQ2,hB,cD,h6,h7⟩:=yX Xf hi uG uA ry0 hQ2 hB cD h6 h7;clear aX hQ;go_upto_region 8 with fail
  rw[<-afx.o];clear a0 a1 a2 a3 a4 f0 f1 f2 f3 f4 y0 z0;go_wp2_with (go_at_call 33;refine Xf.o.mono ?_;rintro e W3 ⟨rfl,nq,rfl⟩);go_roundw
  .exact⟨j+1,oQ,gQ,hQ2.o.stay (below_drewN bR _)⟩
  exact mQ
 .obtain rfl:j=q.items.length:=oQ;have vE:=Hd hQ;clear hQ;go_wp2;clear y0 z0;go_loopw [8] (λi wr=>∃k:Nat,k<=q.ret.length/\i=.int .i64 k/\Yb q ⟨A1,c1,A2,c2,A3,c3⟩ ⟨B1,d1,B2,d2,B3,d3⟩ w wr) (λi _=>q.ret.length- (intOf i).toNat)
  .exact⟨0,zE _,rfl,vE.o⟩
  clear vE;obtain⟨k,hk,rfl,hQ⟩:=hrel;have fy:=hQ.hb;have Cw:=fy.size;have y6:wr.cell? ⟨w.heap.size,6,none⟩=some (.slice A3 q.ret.length c3):=hQ.b1.cell 6;by_cases tY:k<q.ret.length
  .obtain⟨t,ht⟩:=av tY;have nj:=zA ht;obtain⟨gR,oR,A6,c6,eR,Rw,F7,r0⟩:=sk.o k t ht;obtain⟨gS,oS,B6,d6,eS,hGS,rs0,s0⟩:=SC.o k t ht;try simp only at eR
   try simp only at eS
   subst eR;subst eS;have Rx:=hF.o gR Rw;have hgS:=hG.o gS hGS;have p0:=aH k;have p1:=aV k q.ret.length;have rE:=kt.o A6 B6 c6 d6 t (qH.o t nj).1 F7 rs0 wr.drew fy.drew;have kS:=λW (hW:Bw wr W)=>xW ((hQ.stay hW).b1.cell 6) (xW ((hQ.stay hW).b2.cell 6) (xW ((hW.cell (p:=⟨gR,oR+k,none⟩) (by show gR<_;omega)).trans ((fy.cell (p:=⟨gR,oR+k,none⟩) Rx).trans r0)) ((hW.cell (p:=⟨gS,oS+k,none⟩) (by show gS<_;omega)).trans ((fy.cell (p:=⟨gS,oS+k,none⟩) hgS).trans s0))))
   have ak:=xW (kS wr.drew (bR).drew) trivial;replace⟨kS,rE,ht,nj,F7,rs0,hQ,fy⟩:=H8 kS rE ht nj F7 rs0 hQ fy;go_upto_region 13 with fail
   clear y6 r0 s0;refine aC (p:=100) (S0:=λW=>W.cell? ⟨w.heap.size,6,none⟩=some (.slice (some ⟨gR,oR,none⟩) q.ret.length c3)/\W.cell? ⟨w.heap.size+1,6,none⟩=some (.slice (some ⟨gS,oS,none⟩) q.ret.length d3)/\W.cell? ⟨gR,oR+k,none⟩=some (.slice A6 t.length c6)/\W.cell? ⟨gS,oS+k,none⟩=some (.slice B6 t.length d6)) (S1:=λ_=>True) kQ ?_;refine' aq 0 rfl ak ?_;refine' aq 1 rfl ak ?_;refine' aq 2 rfl ak ?_;refine' aq 3 rfl ak ?_;refine' aq 4 rfl ak ?_;refine' aq 5 rfl ak ?_;refine' aq 6 rfl ak ?_;refine' aq 7 rfl ak ?_;refine' aq 8 rfl ak ?_;refine' aq 9 rfl ak ?_;try simp only[Act.put,aK]
   refine Gs 10 rfl λK hK=>?_
   go_simp;go_at_call 51;refine rE.o.mono ?_;rintro e W4 ⟨rfl,oX⟩;have o6:=Hd ((zB wr.heap.size wr).drew.trans oX);refine hK.o _ _ ⟨kS.o W4 o6.o,λ_=>trivial⟩ ?_;have bF:=xW (kS.o W4 o6.o) trivial;clear hK K ak oX;refine' aq 11 rfl bF ?_;try simp only[Act.put,aK]
   clear bF;refine Gd _ ?_;try simp only[Act.put,aK]
   go_wp2;go_roundw
   .exact⟨k+1,oQ,gQ,hQ.o.stay o6.o⟩
   exact mQ
  .obtain rfl:k=q.ret.length:=oQ;replace⟨hQ,fy⟩:=H2 hQ fy;go_wp2;go_ret;exact⟨rfl,fy.o⟩
end rS
