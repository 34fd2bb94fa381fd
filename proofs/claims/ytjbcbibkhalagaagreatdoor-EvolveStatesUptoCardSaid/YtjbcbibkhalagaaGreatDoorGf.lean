/- The document's parents and below. -/
import Derived.Test.YtjbcbibkhalagaaGreatDoorGc
namespace Go.Proofs.YtjbcbibkhalagaaGreatDoor
set_option maxRecDepth 100000
set_option maxHeartbeats 16000000
open Proofs.Tryz Go.RowKit Go.Deep Go.Maps
set_option linter.unusedVariables false
set_option linter.unusedSimpArgs false
theorem kC {f:Nat->Value}{n k}(h:k<n):((List.range n).map f)[k]? =some (f k):=by rw[zG,List.getElem?_range h];rfl
theorem Am {f n k}{v:Value}:((List.range n).map f).set k v=(List.range n).map λj=>if j=k then v else f j:=by
 apply List.ext_getElem?;intro i;rw[xL];by_cases Uf:k=i
 .subst Uf;rw[if_pos rfl];by_cases hl:k<n
  .rw[if_pos (by simpa using hl),kC hl,if_pos rfl]
  .rw[if_neg (by simpa using hl),xO (by simp;omega)]
 .rw[if_neg Uf];by_cases hl:i<n
  .rw[kC hl,kC hl,if_neg (λe=>Uf e.symm)]
  .rw[xO (by simp;omega),xO (by simp;omega)]
theorem rJ {f g:Nat->Value}{n}(h:∀j,j<n->f j=g j):(List.range n).map f=(List.range n).map g:=List.map_congr_left λj hj=>h j (List.mem_range.1 hj)
theorem Lv:nW prog 229 4 1 1:=.of underlying229 kQ oQ
def Aq (t:List Nd)(n i:Nat):List Value:=(List.range n).map λj=>.int .i64 (nX t i j)
theorem UD {t k j}{i:Nat}(h:nX t k j=(i:Int)):i<k:=(og h).1
theorem Lw (t k j): -1<=nX t k j/\nX t k j<(k:Int)\/nX t k j= -1:=by
 rcases fq t k j with⟨h,_⟩|⟨i,h⟩
 .exact .inr h
 .left;rw[h];have:=UD h;omega
theorem rK {t i x}(hx:t[i]? =some x)(j):nX t (i+1) j=if x.a=(j:Int)\/x.b=(j:Int)then(i:Int)else nX t i j:=by
 show(match t[i]? with |some x=>_ |none=>_)=_
 rw[hx]
theorem Lx {t n i g}{x:Nd}{W}(hx:t[i]? =some x)(hb:ao W g 3 (Aq t n i)):
  (∀m k:Nat,x.a=m->x.b=k->ao ((W.setCell ⟨g,m,none⟩ (.int .i64 i)).setCell ⟨g,k,none⟩ (.int .i64 i)) g 3 (Aq t n (i+1)))/\
  (∀m:Nat,x.a=m->¬0<=x.b->ao (W.setCell ⟨g,m,none⟩ (.int .i64 i)) g 3 (Aq t n (i+1)))/\
  (∀k:Nat,¬0<=x.a->x.b=k->ao (W.setCell ⟨g,k,none⟩ (.int .i64 i)) g 3 (Aq t n (i+1)))/\
  (¬0<=x.a->¬0<=x.b->ao W g 3 (Aq t n (i+1))):=by
 refine⟨λm k h1 h2=>?_,λm h1 h2=>?_,λk h1 h2=>?_,λh1 h2=>?_⟩
 .have:=(hb.dz m (.int .i64 i)).dz k (.int .i64 i);unfold Aq at this |-;rw[Am,Am]at this;rw[show((List.range n).map λj=>Value.int .i64 (nX t (i+1) j))=_ from rJ λj _=>?_]
  .exact this
  .rw[rK hx,h1,h2];by_cases e1:j=k
   .subst e1;rw[if_pos (.inr rfl),if_pos rfl]
   .rw[if_neg e1];by_cases e2:j=m
    .subst e2;rw[if_pos (.inl rfl),if_pos rfl]
    .rw[if_neg oQ,if_neg e2]
 .have:=hb.dz m (.int .i64 i);unfold Aq at this |-;rw[Am]at this;rw[show((List.range n).map λj=>Value.int .i64 (nX t (i+1) j))=_ from rJ λj _=>?_]
  .exact this
  .rw[rK hx,h1];by_cases e2:j=m
   .subst e2;rw[if_pos (.inl rfl),if_pos rfl]
   .rw[if_neg oQ,if_neg e2]
 .have:=hb.dz k (.int .i64 i);unfold Aq at this |-;rw[Am]at this;rw[show((List.range n).map λj=>Value.int .i64 (nX t (i+1) j))=_ from rJ λj _=>?_]
  .exact this
  .rw[rK hx,h2];by_cases e2:j=k
   .subst e2;rw[if_pos (.inr rfl),if_pos rfl]
   .rw[if_neg oQ,if_neg e2]
 .have:Aq t n (i+1)=Aq t n i:=rJ λj _=>by rw[rK hx,if_neg oQ]
  rw[this];exact hb
def lB (e t n:Nat)(cs:List Value)(w:World)(x:Ending)(w':World):Prop:=∃g,x=.returned (.slice (some ⟨g,0,none⟩) n n)/\w.heap.size<=g/\ao w' g t cs/\Bw w w'
theorem lB.mk {e t n g cs w w'}(h:w.heap.size<=g)(hb:ao w' g t cs)(hB:Bw w w'):lB e t n cs w (.returned (.slice (some ⟨g,0,none⟩) n n)) w':=⟨g,rfl,h,hb,hB⟩
def qN (b r i:Nat):Bool:=decide (b<=i)&&decide (i<=r)
theorem UE {t:List Nd}{b r:Nat}(h:Sp t b r)(ha:iR t t.length){i:Nat}(hi:i<t.length):qN b r i=(decide (i=r)||(match nX t t.length i with | .ofNat k=>qN b r k | .negSucc _=>false)):=by
 have hle:=h.le;by_cases e:i=r
 .subst e;unfold qN;simp[hle]
 .rw[zV e,Bool.false_or];by_cases e2:b<=i/\i<r
  .obtain⟨k,a1,a2,a3,_⟩:=h.KF ha e2.1 e2.2;rw[a1];show _=qN b r k
   unfold qN;rw[zW e2.1,zW oQ,zW (by omega:b<=k),zW a3]
  .have hf:qN b r i=false:=by
    unfold qN;by_cases h1:b<=i
    .rw[zV (by omega:¬i<=r),Bool.and_false]
    .rw[zV h1,Bool.false_and]
   rw[hf];rcases fq t t.length i with⟨hu,_⟩|⟨k,hu⟩
   .rw[hu];rfl
   .rw[hu];show false=qN b r k
    obtain⟨_,_,c3⟩:=h.SS ha (by omega:i<b\/r<=i) hu;unfold qN;rcases c3 with h1 |h1
    .rw[zV (by omega:¬b<=k),Bool.false_and]
    .rw[zV (by omega:¬k<=r),Bool.and_false]
theorem yn {t}(ha:iR t t.length){i k:Nat}(h:nX t t.length i=(k:Int)):i<k/\k<t.length:=by
 obtain⟨c1,c2,_⟩:=og h;obtain⟨b,hb⟩:=ha k c1;exact⟨(hb.kids c2).2,c1⟩
namespace dR
open cH
theorem yo (A c F t)(hl:t.length<=1048576)(ht:aW t=true)(w)(hF:∀b,F b->b<w.heap.size)(r:Rd w F (.slice A t.length c) (.sl t.length (t.flatMap b9))):
  Cl 161 #[.slice A t.length c] w (lB 52 3 t.length (Aq t t.length t.length) w):=by
 have jX:=j8 ht;obtain⟨zs,hz,Qa⟩:=rz (P:=prog) dS t.length hl oQ;have bL:ao (w.alloc (.cells ⟨zs⟩ 3)) w.heap.size 3 zs:=ao.new _ _ _;have cN:Bw w (w.alloc (.cells ⟨zs⟩ 3)):=bA;replace r:=r.under cN hF;replace hz:zs.length=t.length:=oQ;generalize hn:t.length=n at*;replace⟨jX,bL,cN⟩:=H3 jX bL cN;have hnH:=Hd hn;clear hn ht;go_enter func161,ntmps161;go_wp2;go_loopw [4] (λi wr=>∃(j:Nat)(cs:List Value),j<=n/\i=.int .i64 j/\Bw w wr/\ao wr w.heap.size 3 cs/\cs.length=n/\Hid (∀k,k<j->cs[k]? =some (.int .i64 (-1)))) (λi _=>n- (intOf i).toNat)
 .exact⟨0,zs,zE _,rfl,cN.o,bL.o,hz,λk hk=>by omega⟩
 clear bL cN;obtain⟨j,cs,hj,rfl,hB,hb,gE,hc⟩:=hrel;by_cases hlt:j<n
 .obtain⟨u,hu⟩:=av (l:=cs) (i:=j) oQ;have c4:=(hb.cell j).trans hu;have d4:=hb.frozen j;have g1:=aH j;have g2:(j:Int)<n:=oQ;have bz:Hid (∀k,k<j+1->(cs.set j (.int .i64 (-1)))[k]? =some (.int .i64 (-1))):=λk hk=>by
   rw[xL];by_cases e:j=k
   .rw[if_pos e,if_pos oQ]
   .rw[if_neg e];exact hc.o k oQ
  have df:=Hd (hb.dz j (.int .i64 (-1)));have cD:=Hd (hB.setCell (p:=⟨w.heap.size,j,none⟩) nR (.int .i64 (-1)));replace⟨hb,hB,hu⟩:=H3 hb hB hu;have ql:=Hd gE;clear gE;go_wp2;go_roundw
  .exact⟨j+1,_,oQ,gQ,cD.o,df.o,by rw[List.length_set];exact ql.o,bz⟩
  exact mQ
 .have g1:¬(j:Int)<n:=oQ;obtain rfl:j=n:=oQ;have hcs:cs=Aq t j 0:=by
   apply List.ext_getElem?;intro i;by_cases hi:i<j
   .rw[hc.o i hi];unfold Aq;rw[kC hi];rfl
   .rw[xO oQ,xO (by unfold Aq;simp;omega)]
  rw[hcs]at hb;replace⟨hb,hB,hcs⟩:=H3 hb hB hcs;clear gE;go_wp2;go_loopw [5] (λi wr=>∃k:Nat,k<=j/\i=.int .i64 k/\Bw w wr/\ao wr w.heap.size 3 (Aq t j k)) (λi _=>j- (intOf i).toNat)
  .exact⟨0,zE _,rfl,hB.o,hb.o⟩
  clear hB hb;obtain⟨k,hk,rfl,hB,hb⟩:=hrel;by_cases oK:k<j
  .obtain⟨x,hx⟩:=av (l:=t) (i:=k) (by rw[hnH.o];exact oK);obtain⟨⟨xa1,xa2⟩,xb1,xb2⟩:=jX.o x (zA hx);have hst:=Lx (n:=j) hx hb;have hr:∃g off,A=some ⟨g,off,none⟩/\wr.cell? ⟨g,off+k*6+4,none⟩=some (.int .i64 x.a)/\wr.cell? ⟨g,off+k*6+5,none⟩=some (.int .i64 x.b)/\g≠w.heap.size:=by
    have rr:=r;rw[<-hnH.o]at rr;obtain⟨g,off,e,hg,_,_,_,_,z4,z5⟩:=dk rr hx;have tC:=hF g hg;have e1:wr.cell? ⟨g,off+k*6+4,none⟩=w.cell? ⟨g,off+k*6+4,none⟩:=hB.cell (p:=⟨g,off+k*6+4,none⟩) tC;have e2:wr.cell? ⟨g,off+k*6+5,none⟩=w.cell? ⟨g,off+k*6+5,none⟩:=hB.cell (p:=⟨g,off+k*6+5,none⟩) tC;have hh:Bw w (w.alloc (.cells ⟨zs⟩ 3)):=bA;have e3:=hh.cell (p:=⟨g,off+k*6+4,none⟩) tC;have e4:=hh.cell (p:=⟨g,off+k*6+5,none⟩) tC;exact⟨g,off,e,by rw[e1,<-e3];exact z4,by rw[e2,<-e4];exact z5,oQ⟩
   obtain⟨g,off,rfl,z4,z5,UF⟩:=hr;have g1:=aH k;have g2:(k:Int)<j:=oQ;have cc:∀m:Nat,m<j->∃u,wr.cell? ⟨w.heap.size,m,none⟩=some u:=λm hm=>⟨_,(hb.cell m).trans (by unfold Aq;exact kC hm)⟩
   have ff:=λm=>hb.frozen m
   have cD:=λ(m:Nat) v=>hB.setCell (p:=⟨w.heap.size,m,none⟩) nR v
   have ig:=λ(m:Nat) v (m2:Nat) v2=>(cD m v).setCell (p:=⟨w.heap.size,m2,none⟩) nR v2
   replace⟨cD,ig,cc,ff,hst,hB,hb,hx⟩:=H8 cD ig cc ff hst hB hb hx;by_cases pa:0<=x.a
   .obtain⟨m,hm⟩:∃m:Nat,x.a=m:=⟨x.a.toNat,oQ⟩
    have J5:(m:Int)<j:=oQ;have JY:=aH m;obtain⟨u1,q1⟩:=cc.o m oQ;have f1:=ff.o m;rw[hm]at z4;by_cases pb:0<=x.b
    .obtain⟨m2,zy⟩:∃m:Nat,x.b=m:=⟨x.b.toNat,oQ⟩
     have hm4:(m2:Int)<j:=oQ;have YI:=aH m2;obtain⟨u2,q2⟩:=cc.o m2 oQ;have f2:=ff.o m2;rw[zy]at z5;have ae:=Hd (hst.o.1 m m2 hm zy);replace⟨hm,zy⟩:=H2 hm zy;have fI:=Hd (ig.o m (.int .i64 k) m2 (.int .i64 k));by_cases SL:m=m2
     .subst SL;go_wp2;go_roundw
      .exact⟨k+1,oQ,gQ,fI.o,ae.o⟩
      exact mQ
     .go_wp2;go_roundw
      .exact⟨k+1,oQ,gQ,fI.o,ae.o⟩
      exact mQ
    .have ae:=Hd (hst.o.2.1 m hm pb);have fI:=Hd (cD.o m (.int .i64 k));replace hm:=Hd hm;go_wp2;go_roundw
     .exact⟨k+1,oQ,gQ,fI.o,ae.o⟩
     exact mQ
   .by_cases pb:0<=x.b
    .obtain⟨m2,zy⟩:∃m:Nat,x.b=m:=⟨x.b.toNat,oQ⟩
     have hm4:(m2:Int)<j:=oQ;have YI:=aH m2;obtain⟨u2,q2⟩:=cc.o m2 oQ;have f2:=ff.o m2;rw[zy]at z5;have ae:=Hd (hst.o.2.2.1 m2 pa zy);have fI:=Hd (cD.o m2 (.int .i64 k));replace zy:=Hd zy;go_wp2;go_roundw
     .exact⟨k+1,oQ,gQ,fI.o,ae.o⟩
     exact mQ
    .have ae:=Hd (hst.o.2.2.2 pa pb);go_wp2;go_roundw
     .exact⟨k+1,oQ,gQ,hB.o,ae.o⟩
     exact mQ
  .have g1:¬(k:Int)<j:=oQ;obtain rfl:k=j:=oQ;replace⟨hB,hb⟩:=H2 hB hb;go_wp2;go_ret;exact lB.mk nR hb.o hB.o
theorem Qs (A c F t)(hl:t.length<=1048576)(ht:aW t=true){b rt}(hsp:Sp t b rt)(w)(hF:∀b,F b->b<w.heap.size)(r:Rd w F (.slice A t.length c) (.sl t.length (t.flatMap b9))):
  Cl 162 #[.slice A t.length c,.int .i64 rt] w (lB 229 4 t.length ((List.range t.length).map λi=>.bool (qN b rt i)) w):=by
 have k1:=yo A c F t hl ht w hF r;obtain⟨_,ha,_⟩:=dF ht;have heq:=λi=>UE hsp ha (i:=i)
 have qe:=λi k=>yn ha (i:=i) (k:=k)
 have oL:=λi=>Lw t t.length i
 have BQ:=hsp.lt;obtain⟨zs,hz,Qa⟩:=rz (P:=prog) Lv t.length hl oQ;replace hz:zs.length=t.length:=oQ;generalize hn:t.length=n at*;have cY:Aq t n n=(List.range n).map λj=>.int .i64 (nX t n j):=rfl
 generalize hU:nX t n=U at*;replace⟨heq,qe,oL,k1,cY,hU,hn⟩:=H7 heq qe oL k1 cY hU hn;have nw:IntKind.i64.wrap ((n:Int) -1)=(n:Int) -1:=by rw[xI];omega
 clear ht hsp ha r hF;go_enter func162,ntmps162;go_wp2_with (go_at_call 161;refine k1.o.mono ?_;rintro e W ⟨gu,rfl,hgu,G4,hW⟩;rw[cY.o]at G4;have tC:=G4.lt;replace⟨G4,hW⟩:=H2 G4 hW);have bL:ao (W.alloc (.cells ⟨zs⟩ 4)) W.heap.size 4 zs:=ao.new _ _ _;have iz:Bw W (W.alloc (.cells ⟨zs⟩ 4)):=bA;have IZ:=hW.o.size;go_loopw [7] (λi wr=>∃(m:Nat)(cs:List Value),m<=n/\i=.int .i64 ((m:Int) -1)/\Bw W wr/\ao wr W.heap.size 4 cs/\cs.length=n/\Hid (∀k,m<=k->k<n->cs[k]? =some (.bool (qN b rt k)))) (λi _=>((intOf i)+1).toNat)
 .exact⟨n,zs,nR,rfl,iz,bL,hz,λk hk h2=>by omega⟩
 clear iz bL;obtain⟨m,cs,hm,hi,hB,hb,gE,hc⟩:=hrel;have zt:Bw w wr:=hW.o.trans (hB.mono IZ);by_cases JY:m=0
 .subst JY;obtain rfl:=(hi.trans rfl:_=Value.int .i64 (-1));clear hi;have hcs:cs=(List.range n).map λi=>.bool (qN b rt i):=by
   apply List.ext_getElem?;intro i;by_cases hi:i<n
   .rw[hc.o i (zE _) hi,kC hi]
   .rw[xO oQ,xO (by simp;omega)]
  rw[hcs]at hb;replace⟨hb,zt,hcs⟩:=H3 hb zt hcs;clear gE hB;go_wp2;go_ret;exact lB.mk IZ hb.o zt.o
 .obtain⟨k,rfl⟩:∃k,m=k+1:=⟨m-1,oQ⟩
  obtain rfl:=(hi.trans (by congr 1;omega):_=Value.int .i64 (k:Int));clear hi JY;have qy:k<n:=oQ;obtain⟨u,hu⟩:=av (l:=cs) (i:=k) oQ;have c4:=(hb.cell k).trans hu;have d4:=hb.frozen k;have cu:∀j,j<n->wr.cell? ⟨gu,j,none⟩=some (.int .i64 (U j)):=λj hj=>by
   have h1:=(G4.o.stay hB).cell j;rw[h1,kC hj]
  have q1:=cu k qy;have Ex:=heq.o k qy;have g1:=aH k;have g2:(k:Int)<n:=oQ;have UF:gu≠W.heap.size:=oQ;have fin:∀v:Bool,v=qN b rt k->Hid (∀k',k<=k'->k'<n->(cs.set k (.bool v))[k']? =some (.bool (qN b rt k'))):=λv hv k' hk gC=>by
   rw[xL];by_cases e:k=k'
   .subst e;rw[if_pos rfl,if_pos oQ,hv]
   .rw[if_neg e];exact hc.o k' oQ gC
  have df:=λv:Bool=>hb.dz k (.bool v)
  have cD:=λv:Bool=>hB.setCell (p:=⟨W.heap.size,k,none⟩) nR (.bool v)
  have iT:=Hd (show (k:Int)=((k:Int)+1-1) from oQ);have Av:k<=n:=oQ;have J6:=oL.o k;replace⟨fin,df,cD,zt⟩:=H4 fin df cD zt;have ql:=Hd gE;by_cases kT:k=rt
  .have e1:((k:Int)==(rt:Int))=true:=mf oQ;have e2:(k==rt)=true:=by simpa using kT
   have hv:true=qN b rt k:=(by rw[Ex,zW kT];rfl);have ae:=Hd (fin.o true hv);have tD:=Hd (df.o true);have kO:=Hd (cD.o true);replace⟨kT,hv,Ex,hb,hB,hu⟩:=H6 kT hv Ex hb hB hu;clear gE cu J6;go_wp2;go_roundw
   .exact⟨k,_,Av,gQ,kO.o,tD.o,by rw[List.length_set];exact ql.o,ae.o⟩
   simp[intOf]
  .have e1:((k:Int)==(rt:Int))=false:=cM oQ;have e2:(k==rt)=false:=by simpa using kT
   by_cases Ey:0<=U k
   .obtain⟨p,hp⟩:∃p:Nat,U k=p:=⟨(U k).toNat,oQ⟩
    obtain⟨p1,p2⟩:=qe.o k p hp;have Yx:=(hb.cell p).trans (hc.o p oQ p2);have p3:(p:Int)<n:=oQ;have p4:=aH p;have hv:qN b rt p=qN b rt k:=by rw[Ex,zV kT,hp];rfl
    have ae:=Hd (fin.o (qN b rt p) hv);have tD:=Hd (df.o (qN b rt p));have kO:=Hd (cD.o (qN b rt p));rw[hp]at q1;generalize qN b rt p=vp at*;replace⟨kT,hv,Ex,hb,hB,hu,hp⟩:=H7 kT hv Ex hb hB hu hp;clear gE cu J6 Ey;cases vp with
    |true=>
     go_wp2;go_roundw
     .exact⟨k,_,Av,gQ,kO.o,tD.o,by rw[List.length_set];exact ql.o,ae.o⟩
     simp[intOf]
    |false=>
     go_wp2;go_roundw
     .exact⟨k,_,Av,gQ,kO.o,tD.o,by rw[List.length_set];exact ql.o,ae.o⟩
     simp[intOf]
   .have Qt:U k= -1:=oQ;have hv:false=qN b rt k:=by rw[Ex,zV kT,Qt];rfl
    have ae:=Hd (fin.o false hv);have tD:=Hd (df.o false);have kO:=Hd (cD.o false);rw[Qt]at q1;replace⟨kT,hv,Ex,hb,hB,hu,Qt⟩:=H7 kT hv Ex hb hB hu Qt;clear gE cu J6 Ey;go_wp2;go_roundw
    .exact⟨k,_,Av,gQ,kO.o,tD.o,by rw[List.length_set];exact ql.o,ae.o⟩
    simp[intOf]
end dR
