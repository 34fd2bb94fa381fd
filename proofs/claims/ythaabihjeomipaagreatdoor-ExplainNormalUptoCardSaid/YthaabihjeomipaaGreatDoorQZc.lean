/- The law's copies. -/
import Derived.Test.YthaabihjeomipaaGreatDoorQZb
namespace Go.Proofs.YthaabihjeomipaaGreatDoor
set_option maxRecDepth 100000
set_option maxHeartbeats 16000000
open Go.RowKit Go.Deep
set_option linter.unusedVariables false
set_option linter.unusedSimpArgs false
theorem nd_rdl (w:World)(G:Nat→Prop)(x:Nd):RdL w G (ndV x) (ndD x):=⟨.v _ rfl,.v _ rfl,.v _ rfl,.v _ rfl,.v _ rfl,.v _ rfl,trivial⟩
theorem nd_tk {t:List Nd}{j:Nat}{x:Nd}(h:t[j]? =some x):(t.take (j+1)).flatMap ndD=(t.take j).flatMap ndD++ndD x:=by rw[zJ,h];simp
theorem RW.offB {α:Type}{K:RK α}{w:World}{B g t k:Nat}{v x:Value}{l:List (α×Value)}{cs:List Value}(h:RW K w B v l)(hb:Blk w g t cs)(h1:K.e≠t)(h2:K.es≠t):RW K (w.setCell ⟨g,k,none⟩ x) B v l:=
 ⟨h.kr.setCell (p:=⟨g,k,none⟩) (h.kr.neBlk hb h1) (fun h=>h) _,fun q hq=>(h.fr q hq).setCell (p:=⟨g,k,none⟩) ((h.fr q hq).neBlk hb h2) (fun h=>h) _,h.ne⟩
theorem OQ.offB {w:World}{B g k:Nat}{v1 v2 v3 x:Value}{l:List (It×Value)}{wh:List Nd}{rl:List (List Nd×Value)}{cs:List Value}(h:OQ w B v1 v2 v3 l wh rl)(hb:Blk w g 31 cs):OQ (w.setCell ⟨g,k,none⟩ x) B v1 v2 v3 l wh rl:=
 ⟨h.i.offB hb dQ dQ,h.wr.setCell (p:=⟨g,k,none⟩) (h.wr.neBlk hb dQ) (fun h=>h) _,h.r.offB hb dQ dQ,h.ne⟩
def RQPost (q:Qy)(w:World)(e:Ending)(w':World):Prop:=∃v1 v2 v3 l rl,e=.returned (.agg ⟨quV q v1 v2 v3 q.by_⟩)∧OQ w' w.heap.size v1 v2 v3 l q.wh rl∧l.map (·.1)=q.items∧rl.map (·.1)=q.ret∧Bw w w'
theorem OQ.under {w w1:World}{v1 v2 v3:Value}{l:List (It×Value)}{wh:List Nd}{rl:List (List Nd×Value)}{B g:Nat}(h:OQ w B v1 v2 v3 l wh rl)(hg:w.grownBy w1 (some g))(hlt:g<B):OQ w1 B v1 v2 v3 l wh rl:=by
 have hn:∀{e size n:Nat}{v:Value}{ds:List D},OL w B NoB e size v n ds→v.ownBlock=none∨v.ownBlock≠some g:=fun ho=>.inr fun e=>by have:=(ho.lt _ e).1;omega
 exact⟨h.i.kept hg (hn h.i.kr) (fun p hp=>hn (h.i.fr p hp)),h.wr.kept hg (hn h.wr) (fun _ hb=>hb.elim),h.r.kept hg (hn h.r.kr) (fun p hp=>hn (h.r.fr p hp)),h.ne⟩
structure Y5 (q:Qy)(s:Sl3)(w0 w:World)(g:Nat)(vs:List Value):Prop where
 hb:Bw w0 w
 b1:Blk w w0.heap.size 31 (qV q s)
 b2:Blk w (w0.heap.size+1) 31 zqV
 b4:Blk w g 31 vs
 lt:w0.heap.size+1<g
section
variable {q:Qy}{s:Sl3}{w0 w W w1:World}{g:Nat}{vs:List Value}
theorem Y5.stay (h:Y5 q s w0 w g vs)(hb:Bw w W):Y5 q s w0 W g vs:=⟨h.hb.trans (hb.mono h.hb.size),h.b1.stay hb,h.b2.stay hb,h.b4.stay hb,h.lt⟩
theorem Y5.grown {row:Option Nat}(h:Y5 q s w0 w g vs)(hg:w.grownBy w1 row)(hr:∀q,row=some q→w0.heap.size+1+1≤q∧q≠g):Y5 q s w0 w1 g vs:=
 ⟨h.hb.grown hg h.hb.size (fun q hq=>by have:=hr q hq;omega),h.b1.grown hg (fun e=>by have:=hr _ e.symm;omega),h.b2.grown hg (fun e=>by have:=hr _ e.symm;omega),h.b4.grown hg (fun e=>(hr _ e.symm).2 rfl),h.lt⟩
theorem Y5.put (h:Y5 q s w0 w g vs)(k:Nat)(x:Value):Y5 q s w0 (w.setCell ⟨g,k,none⟩ x) g (vs.set k x):=
 have hl:=h.lt
 ⟨h.hb.setCell (by show w0.heap.size≤g;omega) _,h.b1.far (by show w0.heap.size≠g;omega) _,h.b2.far (by show w0.heap.size+1≠g;omega) _,h.b4.set_ k x,hl⟩
end
structure N1 (q:Qy)(s:Sl3)(w0 w:World)(g:Nat)(j:Nat)(v1:Value)(l:List (It×Value)):Prop where
 q5:Y5 q s w0 w g (quV q v1 (.slice s.a2 q.wh.length s.c2) (.slice s.a3 q.ret.length s.c3) q.by_)
 it:RW KI w (w0.heap.size+1+1) v1 l
 eq:l.map (·.1)=q.items.take j
structure N2 (q:Qy)(s:Sl3)(w0 w:World)(g:Nat)(v1 v2 v3:Value)(l:List (It×Value))(rl:List (List Nd×Value)):Prop where
 q5:Y5 q s w0 w g (quV q v1 v2 v3 q.by_)
 oq:OQ w (w0.heap.size+1+1) v1 v2 v3 l q.wh rl
section
variable {q:Qy}{s:Sl3}{w0 w W w1:World}{g j:Nat}{v1 v2 v3 v' v3' u:Value}{l:List (It×Value)}{t:List Nd}{rl:List (List Nd×Value)}
theorem N1.stay (h:N1 q s w0 w g j v1 l)(hb:Bw w W):N1 q s w0 W g j v1 l:=⟨h.q5.stay hb,h.it.stay hb,h.eq⟩
theorem N2.stay (h:N2 q s w0 w g v1 v2 v3 l rl)(hb:Bw w W):N2 q s w0 W g v1 v2 v3 l rl:=⟨h.q5.stay hb,h.oq.stay hb⟩
theorem N1.item {it:It}(h:N1 q s w0 w g j v1 l)(hi:q.items[j]? =some it)(hu:OL w (w0.heap.size+1+1) NoB 9 1 u it.tys.length (it.tys.flatMap strD))(hud:∀q,u.ownBlock=some q→∀p∈l,p.2.ownBlock≠some q)
  (hg:w.grownBy w1 v1.ownBlock)(hO:OL w1 (w0.heap.size+1+1) NoB 53 5 v' (l.length+1) (l.flatMap icD++icD (it,u))):
  w1.cell? ⟨g,0,none⟩=some v1∧w1.frozen? ⟨g,0,none⟩=false∧N1 q s w0 (w1.setCell ⟨g,0,none⟩ v') g (j+1) v' (l++[(it,u)]):=by
 have hq1:=h.q5.grown hg (fun q hq=>⟨(h.it.kr.lt q hq).1,fun e=>h.it.kr.neBlk h.q5.b4 dQ (e▸hq)⟩);have hdis:∀p∈l,u.ownBlock=none∨u.ownBlock≠p.2.ownBlock:=fun p hp=>by
  cases hq:u.ownBlock with
  |none=>exact .inl rfl
  |some q=>exact .inr fun e=>hud q hq p hp e.symm
 have hr2:RW KI w1 (w0.heap.size+1+1) v' (l++[(it,u)]):=h.it.snoc KI_ne hg hO hu hdis;refine⟨hq1.b4.cell 0,hq1.b4.frozen 0,hq1.put 0 v',hr2.offB hq1.b4 dQ dQ,?_⟩;rw[xR,h.eq,zJ,hi];rfl
theorem N2.put {o:Obj}{b:Nat}(h:N2 q s w0 w g v1 v2 v3 l rl)(hu:OL (w.alloc o) b NoB 96 6 u t.length (t.flatMap ndD))(hub:∀q,u.ownBlock=some q→(∀p∈rl,p.2.ownBlock≠some q)∧v2.ownBlock≠some q)(hb:w0.heap.size+1+1≤b)
  (hg:(w.alloc o).grownBy w1 v3.ownBlock)(hO:OL w1 (w0.heap.size+1+1) NoB 28 1 v3' (rl.length+1) (rl.flatMap rcD++rcD (t,u))):
  w1.cell? ⟨g,6,none⟩=some v3∧w1.frozen? ⟨g,6,none⟩=false∧N2 q s w0 (w1.setCell ⟨g,6,none⟩ v3') g v1 v2 v3' l (rl++[(t,u)]):=by
 have ha:=h.stay ((bR).alloc nR o);have hq1:=ha.q5.grown hg (fun q hq=>⟨(ha.oq.r.kr.lt q hq).1,fun e=>ha.oq.r.kr.neBlk ha.q5.b4 dQ (e▸hq)⟩);have hdis:∀p∈rl,u.ownBlock=none∨u.ownBlock≠p.2.ownBlock:=fun p hp=>by
  cases hq:u.ownBlock with
  |none=>exact .inl rfl
  |some q=>exact .inr fun e=>(hub q hq).1 p hp e.symm
 have hr2:RW KR w1 (w0.heap.size+1+1) v3' (rl++[(t,u)]):=ha.oq.r.snoc KR_ne hg hO (hu.base hb) hdis;have hi1:RW KI w1 (w0.heap.size+1+1) v1 l:=ha.oq.i.kept hg (ha.oq.i.kr.ne ha.oq.r.kr dQ) (fun p hp=>(ha.oq.i.fr p hp).ne ha.oq.r.kr dQ);have hw1:OL w1 (w0.heap.size+1+1) NoB 96 6 v2 q.wh.length (q.wh.flatMap ndD):=ha.oq.wr.kept hg (ha.oq.wr.ne ha.oq.r.kr dQ) (fun _ hb=>hb.elim);refine⟨hq1.b4.cell 6,hq1.b4.frozen 6,hq1.put 6 v3',OQ.offB ⟨hi1,hw1,hr2,fun p hp=>?_⟩ hq1.b4⟩;rcases zM.1 hp with hp |hp
 ·exact h.oq.ne p hp
 ·rw[xB]at hp;subst hp;cases hq:v2.ownBlock with
  |none=>exact .inl rfl
  |some q=>exact .inr fun e=>(hub q e.symm).2 hq
end
namespace lawW
open nmW ckW
theorem twinTree_k (A:Option Addr)(c:Nat)(F:Nat→Prop)(t:List Nd)(hl:t.length≤1048576)(w:World)(hF:∀b,F b→b<w.heap.size)(r:Rd w F (.slice A t.length c) (.sl t.length (t.flatMap ndD))):
  Calls Tryz.prog 22 #[.slice A t.length c] w (TrPost t w):=by
 replace r:=Hd r;replace hF:=Hd hF;go_enter Tryz.func22,Tryz.ntmps22;go_wp2;go_loopw [3,4] (fun v x wr=>∃(j:Nat)(s3:Value),s3=v∧j≤t.length∧x=.int .i64 j∧OL wr w.heap.size NoF 96 6 s3 j ((t.take j).flatMap ndD)∧Bw w wr) (fun _ x _=>t.length- (intOf x).toNat)
 case atStart=>exact⟨0,_,rfl,zE _,rfl,.nil _ _ _ _ _,bR⟩
 case round=>
  obtain⟨j,s3,rfl,hj,rfl,hO,hB⟩:=hrel;by_cases hlt:j<t.length
  ·obtain⟨x,hx⟩:=getx hlt;obtain⟨g,off,rfl,_,a0,a1,a2,a3,a4,a5⟩:=nd_at (r.out.under hB hF.out) hx;have g0:(0:Int)≤(j:Int):=oQ;have g1:(j:Int)<t.length:=oQ;have hfk:=Hd (nd_tk hx);have hsz:=hB.size;replace hB:=Hd hB;clear hx;go_wp2_with (at_builtin;refine wpa rfl (.tmp 11) (.tmp 16) _ rfl (m:=1) (news:=ndD x) elNd (hO.alloc (.cells ⟨ndV x⟩ 96)) rfl rfl (Src.lit (nd_rdl wr _ x)) rfl oQ oQ (by simp;omega) ?_;intro v' w1 hO1 hg1 ha1);go_roundw
   case rel=>exact⟨j+1,_,rfl,oQ,gQ,by rw[hfk.out];exact hO1,(hB.out.alloc hB.out.size (.cells ⟨ndV x⟩ 96)).grown hg1 (by simp;omega) (fun q hq=>(hO.lt q hq).1)⟩
   case measure=>exact mQ
  ·obtain rfl:j=t.length:=oQ;rw[zL]at hO;replace hO:=Hd hO;replace hB:=Hd hB;go_wp2;go_ret;exact⟨_,rfl,hO.out,hB.out⟩
theorem twinQuery_k (F:Nat→Prop)(q:Qy)(s:Sl3)(hs:SzQ q)(w:World)(R:QR w F q s):
  Calls Tryz.prog 9 #[.agg ⟨qV q s⟩] w (RQPost q w):=by
 have hF:=R.lt;have kit:=fun(i:Nat) it (hi:q.items[i]? =some it)=>it_at R.r1 hi
 have kre:=fun(i:Nat) t (hi:q.ret[i]? =some t)=>re_at R.r3 hi
 have kw:=fun(Ax:Option Addr)(cx:Nat) t (hl:t.length≤1048576)(rx:Rd w F (.slice Ax t.length cx) (.sl t.length (t.flatMap ndD))) W (hW:Bw w W)=>twinTree_k Ax cx F t hl W (fun b h=>zF (hF b h) hW.size) (rx.under hW hF)
 have kx:=fun(Ax:Option Addr)(cx:Nat)(t:List ByteArray)(hl:t.length≤1048576)(rx:Rd w F (.slice Ax t.length cx) (.sl t.length (t.flatMap strD))) W (hW:Bw w W)=>evW.twinTexts_k Ax cx F t hl W (fun b h=>zF (hF b h) hW.size) (rx.under hW hF)
 have kww:=kw s.a2 s.c2 q.wh hs.wh.1 R.r2;have hil:=hs.il;have hrl:=hs.rl;have hits:=hs.it;have hres:=hs.re;obtain⟨W0,hW0⟩:∃W0,W0=((w.alloc (.cells ⟨qV q s⟩ 31)).alloc (.cells ⟨zqV⟩ 31)):=⟨_,rfl⟩
 have hb0:Bw w W0:=by rw[hW0];exact(bA).alloc sJ _
 have hb1:Blk W0 w.heap.size 31 (qV q s):=by rw[hW0];exact(Blk.new _ _ _).alloc _
 have hb2:Blk W0 (w.heap.size+1) 31 zqV:=by rw[hW0];exact Blk.new' sJ
 have hs0:W0.heap.size=w.heap.size+1+1:=by rw[hW0];simp
 replace hs0:=Hd hs0;obtain⟨A1,c1,A2,c2,A3,c3⟩:=s;obtain⟨y0,y1,y2,y3,y4,y5,y6⟩:=qbc hb1;simp only[zY]at y0 y1 y2 y3 y4 y5 y6;simp only[qV,zqV]at hW0 ⊢;try simp only at kit kre kww
 have hWW:=Hd hW0;replace hF:=Hd hF;replace kit:=Hd kit;replace kre:=Hd kre;replace kw:=Hd kw;replace kx:=Hd kx;replace kww:=Hd kww;replace hits:=Hd hits;replace hres:=Hd hres;replace hb0:=Hd hb0;replace hb1:=Hd hb1;replace hb2:=Hd hb2;clear R hs hW0;go_enter Tryz.func9,Tryz.ntmps9;go_upto_region 1 with fail
 rw[←hWW.out];have hb4:Blk (W0.alloc (.cells ⟨[.slice A1 q.items.length c1,.int .i64 q.mode,.int .i64 q.after,.slice A2 q.wh.length c2,.int .i64 q.within,.string q.by_,.slice A3 q.ret.length c3]⟩ 31)) W0.heap.size 31 [.slice A1 q.items.length c1,.int .i64 q.mode,.int .i64 q.after,.slice A2 q.wh.length c2,.int .i64 q.within,.string q.by_,.slice A3 q.ret.length c3]:=Blk.new _ _ _;have z0:=hb4.cell 0;have fz0:=hb4.frozen 0;simp only[zY]at z0;clear hb4;obtain⟨W1,hW1⟩:∃W1,W1=W0.alloc (.cells #[.slice none 0 0,.int .i64 q.mode,.int .i64 q.after,.slice A2 q.wh.length c2,.int .i64 q.within,.string q.by_,.slice A3 q.ret.length c3] 31):=⟨_,rfl⟩
 have hN0:N1 q ⟨A1,c1,A2,c2,A3,c3⟩ w W1 W0.heap.size 0 (.slice none 0 0) []:=by
  have h1:Bw W0 W1:=by rw[hW1];exact bA
  refine⟨⟨hb0.out.trans (h1.mono hb0.out.size),hb1.out.stay h1,hb2.out.stay h1,?_,by have:=hs0.out;omega⟩,RW.nil _ _ _,rfl⟩;rw[hW1];exact Blk.new _ _ _
 replace hW1:=Hd hW1;replace hN0:=Hd hN0;go_upto_region 3 with fail
 rw[←hW1.out];clear hW1 z0 fz0 y0 y1 y2 y3 y4 y5 y6;obtain⟨g,hg⟩:∃g,g=W0.heap.size:=⟨_,rfl⟩
 rw[←hg]at hN0 ⊢;clear hg;go_wp2;go_loopw [4] (fun i wr=>∃(j:Nat)(v1:Value)(l:List (It×Value)),j≤q.items.length∧i=.int .i64 j∧N1 q ⟨A1,c1,A2,c2,A3,c3⟩ w wr g j v1 l) (fun i _=>q.items.length- (intOf i).toNat)
 case atStart=>exact⟨0,.slice none 0 0,[],zE _,rfl,hN0.out⟩
 case round=>
  clear hN0;obtain⟨j,v1,l,hj,rfl,hL⟩:=hrel;obtain⟨Ai,ci,rfl⟩:=hL.it.kr.form;have hB:=hL.q5.hb;have hbw:=hB.size;have hgl:=hL.q5.b4.lt;have hlg:=hL.q5.lt;have hll:l.length≤q.items.length:=by
   have:=congrArg List.length hL.eq;rw[xC,zO]at this;omega
  have y0:wr.cell? ⟨w.heap.size,0,none⟩=some (.slice A1 q.items.length c1):=hL.q5.b1.cell 0;by_cases hlt:j<q.items.length
  ·obtain⟨it,hi⟩:=getx hlt;have him:=zA hi;have htl:=(hits.out it him).1.1;obtain⟨gI,oI,A5,c5,eI,hFI,rx0,b0,b1,b2,b3,b4⟩:=kit.out j it hi;try simp only at eI
   subst eI;have hgI:=hF.out gI hFI;have a0:=(hB.cell (p:=⟨gI,oI+j*5,none⟩) hgI).trans b0;have a1:=(hB.cell (p:=⟨gI,oI+j*5+1,none⟩) hgI).trans b1;have a2:=(hB.cell (p:=⟨gI,oI+j*5+2,none⟩) hgI).trans b2;have a3:=(hB.cell (p:=⟨gI,oI+j*5+3,none⟩) hgI).trans b3;have a4:=(hB.cell (p:=⟨gI,oI+j*5+4,none⟩) hgI).trans b4;clear b0 b1 b2 b3 b4;have g0:(0:Int)≤(j:Int):=oQ;have g1:(j:Int)<q.items.length:=oQ;obtain⟨wo,hwo⟩:∃wo:World,wo=wr:=⟨_,rfl⟩
   subst hwo;obtain⟨W2,hW2⟩:∃W1,W1=wo.alloc (.cells ⟨itV it (.slice A5 it.tys.length c5)⟩ 53):=⟨_,rfl⟩
   have hB1:Bw wo W2:=by rw[hW2];exact bA
   have hb9:Blk W2 wo.heap.size 53 (itV it (.slice A5 it.tys.length c5)):=by rw[hW2];exact Blk.new wo _ _
   have hs1:wo.heap.size<W2.heap.size:=hb9.lt;have hL1:=hL.stay hB1;have hne9:(Value.slice Ai l.length ci).ownBlock≠some wo.heap.size:=fun e=>by have:=(hL.it.kr.lt _ e).2;omega
   have hnl:∀p∈l,∀qq,p.2.ownBlock=some qq→qq<W2.heap.size:=fun p hp qq e=>by have:=((hL1.it.fr p hp).lt qq e).2;omega
   have kxx:=kx.out A5 c5 it.tys htl rx0 W2 (hB.trans (hB1.mono hB.size));have x1:W2.cell? ⟨wo.heap.size,1,none⟩=some (.slice A5 it.tys.length c5):=hb9.cell 1;simp only[itV]at hW2;have hWW1:=Hd hW2;replace kxx:=Hd kxx;replace hi:=Hd hi;replace him:=Hd him;replace rx0:=Hd rx0;replace hL1:=Hd hL1;replace hne9:=Hd hne9;replace hnl:=Hd hnl;replace hB:=Hd hB;replace hB1:=Hd hB1;replace hb9:=Hd hb9;have hLH:=Hd hL;clear hW2 hL;go_upto_region 7 with fail
   rw[←hWW1.out];obtain⟨gI2,hgI2⟩:∃g,g=wo.heap.size:=⟨_,rfl⟩
   rw[←hgI2]at x1 hb9 hne9 ⊢;replace hgI2:=Hd hgI2;clear a0 a1 a2 a3 a4 y0 hWW1;go_upto_region 8 with(go_at_call 21;refine kxx.out.mono ?_;rintro e W4 ⟨v4,rfl,hO4,hB4⟩;obtain⟨Au,cu,rfl⟩:=hO4.form;have hb94:=hb9.out.stay hB4;have z1:=hb94.cell 1;have fz1:=hb94.frozen 1;simp only[itV,zY,xA]at z1)
   have hL4:=hL1.out.stay hB4;have hs4:=hB4.size;have hu:OL W4 (w.heap.size+1+1) NoB 9 1 (.slice Au it.tys.length cu) it.tys.length (it.tys.flatMap strD):=hO4.base oQ;have hud:∀qq,(Value.slice Au it.tys.length cu).ownBlock=some qq→∀p∈l,p.2.ownBlock≠some qq:=fun qq hq p hp e=>by
    have h1:=(hO4.lt qq hq).1;have:=hnl.out p hp qq e;omega
   obtain⟨W6,hW6⟩:∃W6,W6=W4.setCell ⟨gI2,1,none⟩ (.slice Au it.tys.length cu):=⟨_,rfl⟩
   have hgI3:wo.heap.size≤gI2:=by rw[hgI2.out];exact nR
   have hB6:Bw wo W6:=by rw[hW6];exact(hB1.out.trans (hB4.mono hB1.out.size)).setCell (p:=⟨gI2,1,none⟩) hgI3 _
   have hb96:Blk W6 gI2 53 (itV it (.slice Au it.tys.length cu)):=by rw[hW6];exact hb94.set_ 1 _
   have hL6:=hLH.out.stay hB6;have hu6:OL W6 (w.heap.size+1+1) NoB 9 1 (.slice Au it.tys.length cu) it.tys.length (it.tys.flatMap strD):=by
    rw[hW6];exact hu.setCell (p:=⟨gI2,1,none⟩) (hu.neBlk hb94 dQ) (fun h=>h) _
   have hBs:Bw W6 (W6.alloc (.cells ⟨itV it (.slice Au it.tys.length cu)⟩ 53)):=bA;have hpost2:=fun w1 v' (hg:(W6.alloc (.cells ⟨itV it (.slice Au it.tys.length cu)⟩ 53)).grownBy w1 (Value.slice Ai l.length ci).ownBlock)(hO:OL w1 (w.heap.size+1+1) NoB 53 5 v' (l.length+1) (l.flatMap icD++icD (it,.slice Au it.tys.length cu)))=>N1.item (hL6.stay hBs) hi.out (hu6.stay hBs) hud hg hO
   have hkr:=Hd ((hL6.stay hBs).it.kr);have x0:=hb96.cell 0;have x1:=hb96.cell 1;have x2:=hb96.cell 2;have x3:=hb96.cell 3;have x4:=hb96.cell 4;have u0:W6.cell? ⟨g,0,none⟩=some (.slice Ai l.length ci):=hL6.q5.b4.cell 0;have hw6:=hL6.q5.hb.size;have hw6l:=hL6.q5.b4.lt;simp only[itV,zY,xA]at x0 x1 x2 x3 x4;simp only[itV]at hpost2 hkr;have hlm:l.length≤1048576:=oQ;have hb2l:=hL6.q5.b2.lt;replace hW6:=Hd hW6;replace hpost2:=Hd hpost2;clear hL4 hu hud hb94 z1 fz1 hB6 hb96 hL6 hu6 hBs hO4 hB4 kxx hLH hL1 hb9;rw[←hW6.out];clear hW6;go_wp2_with (at_builtin;refine wpa rfl (.tmp 26) (.tmp 28) _ rfl (m:=1) (news:=icD (it,.slice Au it.tys.length cu)) elIt hkr.out rfl rfl (Src.lit (ic_rd W6 _ it Au it.tys.length cu)) rfl oQ oQ (by simp;omega) ?_;intro v7 w7 hO7 hg7 ha7;obtain⟨B7,d7,rfl⟩:=hO7.form;obtain⟨t1,t2,t3⟩:=hpost2.out _ _ hg7 hO7;replace t3:=Hd t3;clear hO7 hg7 ha7 x0 x1 x2 x3 x4 u0);go_roundw
   case rel=>exact⟨j+1,_,_,oQ,gQ,t3.out⟩
   case measure=>exact mQ
  ·obtain rfl:j=q.items.length:=oQ;have g1:¬(q.items.length:Int)<q.items.length:=oQ;have hleq:=hL.eq;rw[zL]at hleq;have y3:wr.cell? ⟨w.heap.size,3,none⟩=some (.slice A2 q.wh.length c2):=hL.q5.b1.cell 3;replace hleq:=Hd hleq;have hLH:=Hd hL;have kwr:=Hd (kww.out wr hB);have hb2l:=hL.q5.b2.lt;clear hL hll;go_upto_region 10 with(go_at_call 22;refine kwr.out.mono ?_;rintro e W8 ⟨v8,rfl,hO8,hB8⟩;obtain⟨Aw,cw,rfl⟩:=hO8.form;have hb48:=(hLH.out.stay hB8).q5.b4;have z3:=hb48.cell 3;have fz3:=hb48.frozen 3;simp only[quV,zY,xA]at z3)
   have hL8:=hLH.out.stay hB8;have hO8':OL W8 (w.heap.size+1+1) NoB 96 6 (.slice Aw q.wh.length cw) q.wh.length (q.wh.flatMap ndD):=hO8.base oQ;obtain⟨W9,hW9⟩:∃W9,W9=W8.setCell ⟨g,3,none⟩ (.slice Aw q.wh.length cw):=⟨_,rfl⟩
   have hb49:Blk W9 g 31 ((quV q (.slice Ai l.length ci) (.slice A2 q.wh.length c2) (.slice A3 q.ret.length c3) q.by_).set 3 (.slice Aw q.wh.length cw)):=by rw[hW9];exact hb48.set_ 3 _
   have hq9:Y5 q ⟨A1,c1,A2,c2,A3,c3⟩ w W9 g ((quV q (.slice Ai l.length ci) (.slice A2 q.wh.length c2) (.slice A3 q.ret.length c3) q.by_).set 3 (.slice Aw q.wh.length cw)):=by rw[hW9];exact hL8.q5.put 3 _
   have hi9:RW KI W9 (w.heap.size+1+1) (.slice Ai l.length ci) l:=by rw[hW9];exact hL8.it.offB hb48 dQ dQ
   have ho9:OL W9 (w.heap.size+1+1) NoB 96 6 (.slice Aw q.wh.length cw) q.wh.length (q.wh.flatMap ndD):=by rw[hW9];exact hO8'.setCell (p:=⟨g,3,none⟩) (hO8'.neBlk hb48 dQ) (fun h=>h) _
   have z6:=hb49.cell 6;have fz6:=hb49.frozen 6;simp only[quV,List.set_cons_succ,List.set_cons_zero,zY,xA]at z6;replace hW9:=Hd hW9;rw[←hW9.out];clear hL8 hO8' hb48 hO8 hB8 z3 fz3 hW9 hLH kwr y3 y0;obtain⟨W10,hW10⟩:∃W10,W10=W9.setCell ⟨g,6,none⟩ (.slice none 0 0):=⟨_,rfl⟩
   have hM0:N2 q ⟨A1,c1,A2,c2,A3,c3⟩ w W10 g (.slice Ai l.length ci) (.slice Aw q.wh.length cw) (.slice none 0 0) l []:=by
    rw[hW10];exact⟨hq9.put 6 _,⟨hi9.offB hb49 dQ dQ,ho9.setCell (p:=⟨g,6,none⟩) (ho9.neBlk hb49 dQ) (fun h=>h) _,RW.nil _ _ _,fun p hp=>by simp at hp⟩⟩
   replace hW10:=Hd hW10;replace hM0:=Hd hM0;clear hq9 hi9 ho9 hb49 hB;go_upto_region 11 with fail
   rw[←hW10.out];clear hW10 z6 fz6;go_wp2;go_loopw [6] (fun i wr=>∃(kj:Nat)(v3:Value)(rl:List (List Nd×Value)),kj≤q.ret.length∧rl.length=kj∧i=.int .i64 kj∧N2 q ⟨A1,c1,A2,c2,A3,c3⟩ w wr g (.slice Ai l.length ci) (.slice Aw q.wh.length cw) v3 l rl∧Hid (rl.map (·.1)=q.ret.take kj)) (fun i _=>q.ret.length- (intOf i).toNat)
   case atStart=>exact⟨0,.slice none 0 0,[],zE _,rfl,rfl,hM0.out,rfl⟩
   case round=>
    clear hM0;obtain⟨kj,v3,rl,hkj,hrll,rfl,hM,hp3⟩:=hrel;obtain⟨Ar,cr,rfl⟩:=hM.oq.r.kr.form;have hBr:=hM.q5.hb;have hbr:=hBr.size;have hlg3:=hM.q5.lt;have y6:wr.cell? ⟨w.heap.size,6,none⟩=some (.slice A3 q.ret.length c3):=hM.q5.b1.cell 6;by_cases hlt3:kj<q.ret.length
    ·obtain⟨t,ht⟩:=getx hlt3;have htm:=zA ht;obtain⟨gR,oR,At5,ct5,eR,hFR,rt0,r0⟩:=kre.out kj t ht;try simp only at eR
     subst eR;have hgR:=hF.out gR hFR;have p0:(0:Int)≤(kj:Int):=oQ;have p1:(kj:Int)<q.ret.length:=oQ;have hst:(rl.map (·.1)++[t])=q.ret.take (kj+1):=by rw[zJ,ht,←hp3.out];rfl
     have hrl2:rl.length≤1048576:=oQ;have kS:=fun W (hW:Bw wr W)=>(show W.cell? ⟨w.heap.size,6,none⟩=some (.slice (some ⟨gR,oR,none⟩) q.ret.length c3)∧W.cell? ⟨gR,oR+kj,none⟩=some (.slice At5 t.length ct5)from⟨(hM.q5.stay hW).b1.cell 6,((hBr.trans (hW.mono hBr.size)).cell (p:=⟨gR,oR+kj,none⟩) hgR).trans r0⟩)
     have kS1:=fun W (hW:Bw wr W)=>(show W.cell? ⟨g,6,none⟩=some (.slice Ar rl.length cr)from(hM.q5.stay hW).b4.cell 6)
     have hSS:=xW (kS wr.drew (bR).drew) (kS1 wr.drew (bR).drew);have ktt:=Hd (kw.out At5 ct5 t (hres.out t htm).1 rt0 wr.drew (hBr.trans ((bR).drew.mono hBr.size)));have hb2l2:=hM.q5.b2.lt;replace kS:=Hd kS;replace kS1:=Hd kS1;replace hst:=Hd hst;replace hrll:=Hd hrll;replace ht:=Hd ht;replace htm:=Hd htm;replace rt0:=Hd rt0;replace hM:=Hd hM;replace hBr:=Hd hBr;clear r0;go_upto_region 14 with fail
     clear y6;refine G_region (p:=9) (S0:=fun W=>W.cell? ⟨w.heap.size,6,none⟩=some (.slice (some ⟨gR,oR,none⟩) q.ret.length c3)∧W.cell? ⟨gR,oR+kj,none⟩=some (.slice At5 t.length ct5)) (S1:=fun W=>W.cell? ⟨g,6,none⟩=some (.slice Ar rl.length cr)) kQ ?_;refine' TkB 0 rfl hSS ?_;try go_simp
     refine' G_take1 (i:=1) (v:=_) rfl dQ kQ kQ kQ rfl kQ kQ (fun _ _ _ h=>h) hSS (.inl ⟨by rfl,?hya1⟩) ?resta1
     case hya1=>(intro W hW;(try dsimp only at hW);go_simp<;>with_reducible rfl)
     try go_simp
     refine' TkB 2 rfl hSS ?_;try go_simp
     refine' TkB 3 rfl hSS ?_;try go_simp
     refine' TkB 4 rfl hSS ?_;try go_simp
     refine' TkB 5 rfl hSS ?_;try go_simp
     refine' TkB 6 rfl hSS ?_;try go_simp
     clear hSS;refine Gs 7 rfl fun K hK=>?_
     go_simp;go_at_call 22;refine ktt.out.mono ?_;rintro e W8 ⟨v8,rfl,hO8,hB8⟩;obtain⟨A8,c8,rfl⟩:=hO8.form;have hU8:=(zB wr.heap.size wr).drew.trans hB8;have hM8:=hM.out.stay hU8;have hBs:Bw wr (W8.alloc (.cells ⟨[.slice A8 t.length c8]⟩ 28)):=hU8.alloc hU8.size _;have hS8:=xW (kS.out _ hU8) (kS1.out _ hU8);have hS9:=xW (kS.out _ hBs) (kS1.out _ hBs);have q6l:=hM8.q5.b4.lt;have hz8:=hM8.q5.hb.size;have hpost3:=fun w1 v' (hg:(W8.alloc (.cells ⟨[.slice A8 t.length c8]⟩ 28)).grownBy w1 (Value.slice Ar rl.length cr).ownBlock) hO=>N2.put (t:=t) (u:=.slice A8 t.length c8) (b:=wr.heap.size) (v3':=v') hM8 ((hO8.base sJ).alloc (.cells ⟨[.slice A8 t.length c8]⟩ 28)) (fun qq hq=>⟨fun p hp e=>(by have h1:=(hO8.lt qq hq).1;have h2:=((hM.out.oq.r.fr p hp).lt qq e).2;simp at h1;omega),fun e=>(by have h1:=(hO8.lt qq hq).1;have h2:=(hM.out.oq.wr.lt qq e).2;simp at h1;omega)⟩) oQ hg hO
     have hkr:=Hd (hM8.oq.r.kr.alloc (.cells ⟨[.slice A8 t.length c8]⟩ 28));have hS0:=fun w1 (hg:(W8.alloc (.cells ⟨[.slice A8 t.length c8]⟩ 28)).grownBy w1 (Value.slice Ar rl.length cr).ownBlock)=>(show w1.cell? ⟨w.heap.size,6,none⟩=some (.slice (some ⟨gR,oR,none⟩) q.ret.length c3)∧w1.cell? ⟨gR,oR+kj,none⟩=some (.slice At5 t.length ct5)from by
      have hbx:=((hM8.stay (bX (.cells ⟨[.slice A8 t.length c8]⟩ 28))).q5.grown hg (fun q hq=>⟨(hkr.out.lt q hq).1,fun e=>hkr.out.neBlk ((hM8.stay bA).q5.b4) dQ (e▸hq)⟩));exact⟨hbx.b1.cell 6,(hbx.hb.cell (p:=⟨gR,oR+kj,none⟩) hgR).trans ((hBr.out.cell (p:=⟨gR,oR+kj,none⟩) hgR).symm.trans (kS.out wr bR).2)⟩)
     have hS10:=fun(w1:World)(x:Value)(h:w1.cell? ⟨w.heap.size,6,none⟩=some (.slice (some ⟨gR,oR,none⟩) q.ret.length c3)∧w1.cell? ⟨gR,oR+kj,none⟩=some (.slice At5 t.length ct5))=>(show(w1.setCell ⟨g,6,none⟩ x).cell? ⟨w.heap.size,6,none⟩=some (.slice (some ⟨gR,oR,none⟩) q.ret.length c3)∧(w1.setCell ⟨g,6,none⟩ x).cell? ⟨gR,oR+kj,none⟩=some (.slice At5 t.length ct5)from by
      refine⟨?_,?_⟩
      ·rw[World.cell?_setCell_far _ _ _ _ (by show g≠w.heap.size;omega)];exact h.1
      ·rw[World.cell?_setCell_far _ _ _ _ (by show g≠gR;omega)];exact h.2)
     replace hpost3:=Hd hpost3;replace hS0:=Hd hS0;replace hS10:=Hd hS10;replace hS8:=Hd hS8;replace hS9:=Hd hS9;clear hM8 hO8 hB8 hU8 hBs ktt;try go_simp
     refine hK.out _ _ ⟨hS8.out.1,fun _=>hS8.out.2⟩ ?_;clear hK K;refine Gs 8 rfl fun K hK=>?_
     go_simp;refine hK.out _ _ ⟨hS9.out.1,fun _=>hS9.out.2⟩ ?_;clear hK K;refine Gs 9 rfl fun K hK=>?_
     refine step_app (by rfl) (.tmp 44) (.tmp 51) _ (by rfl) (m:=1) (news:=rcD (t,.slice A8 t.length c8)) elRe (by exact hkr.out) (by rfl) (by rfl) (by exact Src.lit (rc_rd W8 _ t A8 t.length c8)) rfl oQ oQ (by simp;omega) ?_;intro v' w9 hO9 hg9 ha9;obtain⟨B9,d9,rfl⟩:=hO9.form;obtain⟨t1,t2,t3⟩:=hpost3.out _ _ hg9 hO9;have hS11:=hS0.out w9 hg9;have hS12:=Hd (hS10.out w9 (.slice B9 (rl.length+1) d9) hS11);replace t3:=Hd t3;replace hS11:=Hd hS11;refine hK.out _ _ ⟨hS11.out,fun h=>absurd (h.symm.trans (by kernel_rfl:_=true)) sJ⟩ ?_;clear hK K hO9 hg9 ha9 hS0 hS10;try go_simp
     refine Gs 10 rfl fun K hK=>?_
     go_simp;refine hK.out _ _ ⟨hS11.out,fun h=>absurd (h.symm.trans (by kernel_rfl:_=true)) sJ⟩ ?_;clear hK K;refine Gs 11 rfl fun K hK=>?_
     go_simp;refine hK.out _ _ ⟨hS12.out,fun h=>absurd (h.symm.trans (by kernel_rfl:_=true)) sJ⟩ ?_;clear hK K;refine Gd _ ?_;go_wp2;go_roundw
     case rel=>exact⟨kj+1,_,rl++[(t,.slice A8 t.length c8)],oQ,by rw[zH,hrll.out];rfl,gQ,t3.out,by show _=_;rw[←hst.out];simp⟩
     case measure=>exact mQ
    ·obtain rfl:kj=q.ret.length:=oQ;have p1:¬(q.ret.length:Int)<q.ret.length:=oQ;have hret:=hp3.out;rw[zL]at hret;have b0:wr.cell? ⟨g,0,none⟩=some (.slice Ai l.length ci):=hM.q5.b4.cell 0;have b1:wr.cell? ⟨g,1,none⟩=some (.int .i64 q.mode):=hM.q5.b4.cell 1;have b2:wr.cell? ⟨g,2,none⟩=some (.int .i64 q.after):=hM.q5.b4.cell 2;have b3:wr.cell? ⟨g,3,none⟩=some (.slice Aw q.wh.length cw):=hM.q5.b4.cell 3;have b4:wr.cell? ⟨g,4,none⟩=some (.int .i64 q.within):=hM.q5.b4.cell 4;have b5:wr.cell? ⟨g,5,none⟩=some (.string q.by_):=hM.q5.b4.cell 5;have b6:wr.cell? ⟨g,6,none⟩=some (.slice Ar rl.length cr):=hM.q5.b4.cell 6;replace hret:=Hd hret;replace hrll:=Hd hrll;replace hM:=Hd hM;go_wp2_with (refine at_op (.store 31 (.tmp 2) (.tmp 54)) rfl ?_;refine wsb rfl 31 (.tmp 2) (.tmp 54) rfl (cs':=quV q (.slice Ai l.length ci) (.slice Aw q.wh.length cw) (.slice Ar rl.length cr) q.by_) hM.out.q5.b2 aggQu rfl rfl rfl rfl ?_;intro w8 hz8 hg8);exact bpa rfl hz8 aggQu rfl rfl ⟨_,_,_,l,rl,rfl,(hM.out.oq.under hg8 (show w.heap.size+1<w.heap.size+1+1 by omega)).base oQ,hleq.out,hret.out,hM.out.q5.hb.grown hg8 hM.out.q5.hb.size (fun qq hq=>by injection hq with hq;omega)⟩
end lawW
theorem set_row2 (W:World)(a:Addr)(u:Value):W.grownBy (W.setCell a u) (some a.block):=⟨rfl,rfl,rfl,by simp[World.setCell],fun k hk hne=>Below.heap_setCell _ _ _ _ (fun e=>hne (by rw[e]))⟩
def tkd {α:Type}(a b:List α)(j:Nat):List α:=a.take j++b.drop j
theorem tkd_0 {α:Type}(a b:List α):tkd a b 0=b:=by simp[tkd]
theorem tkd_end {α:Type}{a b:List α}{j:Nat}(h1:a.length=j)(h2:b.length=j):tkd a b j=a:=by
 unfold tkd;rw[←h1,zL,h1,←h2,List.drop_length,zT]
theorem tkd_get {α:Type}{a b:List α}{j:Nat}{y:α}(h:b[j]? =some y)(hl:a.length=b.length):(tkd a b j)[j]? =some y:=by
 have:=(zC.1 h).1;have hl2:(a.take j).length=j:=by rw[zO];omega
 unfold tkd;rw[zP oQ,hl2,Nat.sub_self,xT];exact h
theorem tkd_set {α:Type}{a b:List α}{j:Nat}{x:α}(h:a[j]? =some x)(hl:a.length=b.length):(tkd a b j).set j x=tkd a b (j+1):=by
 have h1:=(zC.1 h).1;have hl2:(a.take j).length=j:=by rw[zO];omega
 unfold tkd;rw[List.set_append_right _ _ oQ,hl2,Nat.sub_self,List.drop_eq_getElem_cons (by omega:j<b.length),List.set_cons_zero,zJ,h];simp
section
variable {α:Type}{K:RK α}{w w1:World}{B i:Nat}{v:Value}{l:List (α×Value)}{p p':α×Value}
theorem RW.putK (hK:K.e≠K.es)(h:RW K w B v l)(hg:w.grownBy w1 v.ownBlock)(hO:OL w1 B NoB K.e K.size v l.length ((l.set i p').flatMap K.f))
  (hu:OL w1 B NoB K.es K.ss p'.2 (K.n p'.1) (K.ds p'.1))(hne:∀(j:Nat) q,l[j]? =some q→j≠i→p'.2.ownBlock=none∨p'.2.ownBlock≠q.2.ownBlock):RW K w1 B v (l.set i p'):=by
 refine⟨by rw[List.length_set];exact hO,fun q hq=>?_,fun a b x y hx hy hab=>?_⟩
 ·obtain⟨j,hj⟩:=zN hq;rw[xL]at hj;by_cases hij:i=j
  ·rw[if_pos hij]at hj;split at hj
   ·injection hj with hj;subst hj;exact hu
   ·cases hj
  ·rw[if_neg hij]at hj;have hm:=h.fr q (zA hj);exact hm.kept hg (hm.ne h.kr (fun e=>hK e.symm)) (fun _ hb=>hb.elim)
 ·rw[xL]at hx hy;by_cases ha:i=a
  ·rw[if_pos ha]at hx;split at hx
   ·injection hx with hx;subst hx
    rw[if_neg oQ]at hy;exact hne b y hy oQ
   ·cases hx
  ·rw[if_neg ha]at hx;by_cases hb:i=b
   ·rw[if_pos hb]at hy;split at hy
    ·injection hy with hy;subst hy
     exact ne_sym (hne a x hx oQ)
    ·cases hy
   ·rw[if_neg hb]at hy;exact h.ne a b x y hx hy hab
end
section
variable {w w1:World}{B i:Nat}{v1 v2 v2' v3:Value}{l:List (It×Value)}{wh wh':List Nd}{rl:List (List Nd×Value)}
theorem OQ.putI {p':It×Value}(h:OQ w B v1 v2 v3 l wh rl)(hg:w.grownBy w1 v1.ownBlock)(hO:OL w1 B NoB 53 5 v1 l.length ((l.set i p').flatMap icD))(hu:OL w1 B NoB 9 1 p'.2 p'.1.tys.length (p'.1.tys.flatMap strD))(hne:∀(j:Nat) q,l[j]? =some q→j≠i→p'.2.ownBlock=none∨p'.2.ownBlock≠q.2.ownBlock):OQ w1 B v1 v2 v3 (l.set i p') wh rl:=
 ⟨h.i.putK KI_ne hg hO hu hne,h.wr.kept hg (h.wr.ne h.i.kr dQ) (fun _ hb=>hb.elim),h.r.kept hg (h.r.kr.ne h.i.kr dQ) (fun q hq=>(h.r.fr q hq).ne h.i.kr dQ),h.ne⟩
theorem OQ.putR {p':List Nd×Value}(h:OQ w B v1 v2 v3 l wh rl)(hg:w.grownBy w1 v3.ownBlock)(hO:OL w1 B NoB 28 1 v3 rl.length ((rl.set i p').flatMap rcD))(hu:OL w1 B NoB 96 6 p'.2 p'.1.length (p'.1.flatMap ndD))(hne:∀(j:Nat) q,rl[j]? =some q→j≠i→p'.2.ownBlock=none∨p'.2.ownBlock≠q.2.ownBlock)(hw:v2.ownBlock=none∨v2.ownBlock≠p'.2.ownBlock):OQ w1 B v1 v2 v3 l wh (rl.set i p'):=by
 refine⟨h.i.kept hg (h.i.kr.ne h.r.kr dQ) (fun q hq=>(h.i.fr q hq).ne h.r.kr dQ),h.wr.kept hg (h.wr.ne h.r.kr dQ) (fun _ hb=>hb.elim),h.r.putK KR_ne hg hO hu hne,fun q hq=>?_⟩;rcases List.mem_or_eq_of_mem_set hq with hq |rfl
 ·exact h.ne q hq
 ·exact hw
theorem OQ.putW (h:OQ w B v1 v2 v3 l wh rl)(hO:OL w B NoB 96 6 v2' wh'.length (wh'.flatMap ndD))(hne:∀p∈rl,v2'.ownBlock=none∨v2'.ownBlock≠p.2.ownBlock):OQ w B v1 v2' v3 l wh' rl:=⟨h.i,hO,h.r,hne⟩
end
structure O2 (q:Qy)(s:Sl3)(w0 w:World)(g:Nat)(v1 v2 v3:Value)(l:List (It×Value))(wh:List Nd)(rl:List (List Nd×Value)):Prop where
 q5:Y5 q s w0 w g (quV q v1 v2 v3 q.by_)
 oq:OQ w (w0.heap.size+1+1) v1 v2 v3 l wh rl
section
variable {q:Qy}{s:Sl3}{w0 w W w1:World}{g i b c:Nat}{v1 v2 v2' v3 u:Value}{l:List (It×Value)}{wh wh':List Nd}{rl:List (List Nd×Value)}{g1:Nat}
theorem O2.stay (h:O2 q s w0 w g v1 v2 v3 l wh rl)(hb:Bw w W):O2 q s w0 W g v1 v2 v3 l wh rl:=⟨h.q5.stay hb,h.oq.stay hb⟩
theorem O2.nm {it:It}{n:Nat}{x:ByteArray}(h:O2 q s w0 w g (.slice (some ⟨g1,0,none⟩) n c) v2 v3 l wh rl)(hn:l.length=n)(hi:l[i]? =some (it,u)):
  O2 q s w0 (w.setCell ⟨g1,i*5+2,none⟩ (.string x)) g (.slice (some ⟨g1,0,none⟩) n c) v2 v3 (l.set i ({it with v:=x},u)) wh rl:=by
 subst hn;have hgr:=set_row2 w ⟨g1,i*5+2,none⟩ (.string x);have hO:=h.oq.i.kr.set (j:=i*5+2) (u:=.string x) (d:=.v (.string x)) (.v _ rfl);have hO':OL (w.setCell ⟨g1,i*5+2,none⟩ (.string x)) (w0.heap.size+1+1) NoB 53 5 (.slice (some ⟨g1,0,none⟩) l.length c) l.length ((l.set i ({it with v:=x},u)).flatMap icD):=by
  rw[←flat_set (f:=icD) (m:=5) (c:=2) (d:=.v (.string x)) (y:=({it with v:=x},u)) (fun _=>rfl) hi rfl oQ];exact hO
 have hf:OL w (w0.heap.size+1+1) NoB 9 1 u it.tys.length (it.tys.flatMap strD):=h.oq.i.fr (it,u) (zA hi);refine⟨h.q5.grown hgr fun q hq=>?_,h.oq.putI hgr hO' (hf.kept hgr (hf.ne h.oq.i.kr dQ) (fun _ hb=>hb.elim)) fun j q hq hj=>(show u.ownBlock=none∨u.ownBlock≠q.2.ownBlock from h.oq.i.ne i j (it,u) q hi hq (fun e=>hj e.symm))⟩;injection hq with hq
 subst hq;exact⟨(h.oq.i.kr.lt g1 rfl).1,fun e=>h.oq.i.kr.neBlk h.q5.b4 dQ (by show some g1=some g;exact congrArg some e)⟩
theorem O2.ty {it:It}{n:Nat}{u':Value}{tys:List ByteArray}(h:O2 q s w0 w g (.slice (some ⟨g1,0,none⟩) n c) v2 v3 l wh rl)(hn:l.length=n)(hi:l[i]? =some (it,u))(hu:OL w (w0.heap.size+1+1) NoB 9 1 u' tys.length (tys.flatMap strD))(hne:∀p∈l,u'.ownBlock=none∨u'.ownBlock≠p.2.ownBlock)(h1:u'.oneCell'=true):
  O2 q s w0 (w.setCell ⟨g1,i*5+1,none⟩ u') g (.slice (some ⟨g1,0,none⟩) n c) v2 v3 (l.set i ({it with tys:=tys},u')) wh rl:=by
 subst hn;have hgr:=set_row2 w ⟨g1,i*5+1,none⟩ u';have hO:=h.oq.i.kr.set (j:=i*5+1) (u:=u') (d:=.v u') (.v _ h1);have hO':OL (w.setCell ⟨g1,i*5+1,none⟩ u') (w0.heap.size+1+1) NoB 53 5 (.slice (some ⟨g1,0,none⟩) l.length c) l.length ((l.set i ({it with tys:=tys},u')).flatMap icD):=by
  rw[←flat_set (f:=icD) (m:=5) (c:=1) (d:=.v u') (y:=({it with tys:=tys},u')) (fun _=>rfl) hi rfl oQ];exact hO
 refine⟨h.q5.grown hgr fun q hq=>?_,h.oq.putI hgr hO' (hu.kept hgr (hu.ne h.oq.i.kr dQ) (fun _ hb=>hb.elim)) fun j q hq hj=>hne q (zA hq)⟩;injection hq with hq
 subst hq;exact⟨(h.oq.i.kr.lt g1 rfl).1,fun e=>h.oq.i.kr.neBlk h.q5.b4 dQ (by show some g1=some g;exact congrArg some e)⟩
theorem O2.re {t t':List Nd}{n:Nat}{u':Value}(h:O2 q s w0 w g v1 v2 (.slice (some ⟨g1,0,none⟩) n c) l wh rl)(hn:rl.length=n)(hi:rl[i]? =some (t,u))(hu:OL w (w0.heap.size+1+1) NoB 96 6 u' t'.length (t'.flatMap ndD))(hne:∀p∈rl,u'.ownBlock=none∨u'.ownBlock≠p.2.ownBlock)(hw:v2.ownBlock=none∨v2.ownBlock≠u'.ownBlock)(h1:u'.oneCell'=true):
  O2 q s w0 (w.setCell ⟨g1,i,none⟩ u') g v1 v2 (.slice (some ⟨g1,0,none⟩) n c) l wh (rl.set i (t',u')):=by
 subst hn;have hgr:=set_row2 w ⟨g1,i,none⟩ u';have hO:=h.oq.r.kr.set (j:=i) (u:=u') (d:=.v u') (.v _ h1);have hO':OL (w.setCell ⟨g1,i,none⟩ u') (w0.heap.size+1+1) NoB 28 1 (.slice (some ⟨g1,0,none⟩) rl.length c) rl.length ((rl.set i (t',u')).flatMap rcD):=by
  have e:=flat_set (f:=rcD) (m:=1) (c:=0) (d:=.v u') (y:=(t',u')) (fun _=>rfl) hi rfl oQ;rw[Nat.mul_one,Nat.add_zero]at e;rw[←e];exact hO
 refine⟨h.q5.grown hgr fun q hq=>?_,h.oq.putR hgr hO' (hu.kept hgr (hu.ne h.oq.r.kr dQ) (fun _ hb=>hb.elim)) (fun j q hq hj=>hne q (zA hq)) hw⟩;injection hq with hq
 subst hq;exact⟨(h.oq.r.kr.lt g1 rfl).1,fun e=>h.oq.r.kr.neBlk h.q5.b4 dQ (by show some g1=some g;exact congrArg some e)⟩
theorem O2.putWh (h:O2 q s w0 w g v1 v2 v3 l wh rl)(hO:OL w (w0.heap.size+1+1) NoB 96 6 v2' wh'.length (wh'.flatMap ndD))(hne:∀p∈rl,v2'.ownBlock=none∨v2'.ownBlock≠p.2.ownBlock):
 O2 q s w0 (w.setCell ⟨g,3,none⟩ v2') g v1 v2' v3 l wh' rl:=⟨h.q5.put 3 v2',(h.oq.putW hO hne).offB h.q5.b4⟩
end
end Go.Proofs.YthaabihjeomipaaGreatDoor
