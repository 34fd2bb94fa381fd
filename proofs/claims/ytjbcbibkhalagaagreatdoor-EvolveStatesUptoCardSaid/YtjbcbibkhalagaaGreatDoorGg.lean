/- The document's Conjuncts and Sub. -/
import Derived.Test.YtjbcbibkhalagaaGreatDoorGf
namespace Go.Proofs.YtjbcbibkhalagaaGreatDoor
set_option maxRecDepth 100000
set_option maxHeartbeats 16000000
open Proofs.Tryz Go.RowKit Go.Deep Go.Maps
set_option linter.unusedVariables false
set_option linter.unusedSimpArgs false
def tZ (t:List Nd):Nat->Nat->Bool
 |0,_=>true
 |f+1,i=>match nX t t.length i with | .ofNat k=>tZ t f k&&decide (opAt t k=25)| .negSucc _=>true
theorem I0 {t}(ha:iR t t.length):∀(f g i:Nat),t.length-i<=f->t.length-i<=g->tZ t f i=tZ t g i:=by
 intro f;induction f with
 |zero=>
  intro g i h1 h2;cases g with
  |zero=>rfl
  |succ g=>
   unfold tZ;rcases fq t t.length i with⟨h,_⟩|⟨k,h⟩
   .rw[h];rfl
   .have:=yn ha h;omega
 |succ f ih=>
  intro g i h1 h2;cases g with
  |zero=>
   unfold tZ;rcases fq t t.length i with⟨h,_⟩|⟨k,h⟩
   .rw[h];rfl
   .have:=yn ha h;omega
  |succ g=>
   unfold tZ;rcases fq t t.length i with⟨h,_⟩|⟨k,h⟩
   .rw[h];rfl
   .rw[h];have:=yn ha h;show(tZ t f k&&_)=(tZ t g k&&_)
    rw[ih g k oQ oQ]
def Fx (t:List Nd)(i:Nat):Bool:=tZ t t.length i
theorem G7 {t:List Nd}(ha:iR t t.length){i:Nat}(hi:i<t.length):Fx t i=(match nX t t.length i with | .ofNat k=>Fx t k&&decide (opAt t k=25)| .negSucc _=>true):=by
 unfold Fx;obtain⟨n,hn⟩:∃n,t.length=n+1:=⟨t.length-1,oQ⟩
 rw[hn];show(match nX t t.length i with | .ofNat k=>tZ t n k&&_ | .negSucc _=>true)=_
 rw[hn];rcases fq t (n+1) i with⟨h,_⟩|⟨k,h⟩
 .rw[h];rfl
 .rw[h];have h':nX t t.length i=(k:Int):=by rw[hn];exact h
  have:=yn ha h';show(tZ t n k&&_)=(tZ t (n+1) k&&_)
  rw[I0 ha n (n+1) k oQ oQ]
def cjG (t:List Nd)(i:Nat):Bool:=Fx t i&& !decide (opAt t i=25)
theorem Ly {t b m x}(h:t[b+m]? =some x):(qp t b (m+1)).map (cE b)=(qp t b m).map (cE b)++[cE b x]:=by
 unfold qp;have:(t.drop b).take (m+1)=(t.drop b).take m++[x]:=by rw[zJ,xT,h];rfl
 rw[this,xR];rfl
theorem tI {w G}(x):fB w G (cJ x) (b9 x):=⟨.v _ rfl,.v _ rfl,.v _ rfl,.v _ rfl,.v _ rfl,.v _ rfl,trivial⟩
theorem oO {w G cs}{t g:Nat}{ds}(hg:w.heap.size=g)(h:fB w G cs ds):Src (w.alloc (.cells ⟨cs⟩ t)) (some ⟨g,0,none⟩) ds G:=hg▸Src.lit h
namespace dR
open cH
theorem Qu (A c F t)(hs:tT t)(ht:aW t=true)(w)(hK:cW w)(hF:∀b,F b->b<w.heap.size)(r:Rd w F (.slice A t.length c) (.sl t.length (t.flatMap b9))):
  Cl 132 #[.slice A t.length c] w (j9 (cI t) w):=by
 have k0:=sD A c F t hs w hK hF r;rw[ht]at k0;have hl:=hs.1;have k1:∀W,Bw w W->Cl 161 #[.slice A t.length c] W (lB 52 3 t.length (Aq t t.length t.length) W):=λW hW=>yo A c F t hl ht W (λb h=>zF (hF b h) hW.size) (r.under hW hF)
 obtain⟨_,ha,_⟩:=dF ht;have heq:=λi=>G7 ha (i:=i)
 have qe:=λi k=>yn ha (i:=i) (k:=k)
 have oL:=λi=>Lw t t.length i
 have O1:=KG ht (g:=Fx t) (λi hi=>G7 ha hi);have Qv:∀(i:Nat) W,i<t.length->Bw w W->∃g off,A=some ⟨g,off,none⟩/\W.cell? ⟨g,off+i*6,none⟩=some (.int .i64 (opAt t i)):=λi W hi hW=>by
  obtain⟨x,hx⟩:=av hi;obtain⟨g,off,e,_,z0,_⟩:=dk (r.under hW hF) hx;exact⟨g,off,e,by rw[dY hx];exact z0⟩
 have lN:0<t.length:=by
  obtain⟨⟨n,hn,_⟩,_,_⟩:=dF ht;omega
 obtain⟨g,off,rfl,_⟩:=Qv 0 w lN bR;have Lz:∀(i:Nat) W,i<t.length->Bw w W->W.cell? ⟨g,off+i*6,none⟩=some (.int .i64 (opAt t i)):=λi W hi hW=>by
  obtain⟨_,_,e,z⟩:=Qv i W hi hW;injection e with e
  injection e with e1 e2
  subst e1 e2;exact z
 have tC:g<w.heap.size:=zX w _ (Lz 0 w lN bR);obtain⟨zs,hz,Qa⟩:=rz (P:=prog) Lv t.length hl oQ;replace hz:zs.length=t.length:=oQ;have UG:Aq t t.length t.length=(List.range t.length).map λj=>.int .i64 (nX t t.length j):=rfl
 have UH:(List.range t.length).filter (cjG t)=cI t:=O1;have O5:∀i,cjG t i=(Fx t i&& !decide (opAt t i=25)):=λi=>rfl
 generalize hO:opAt t=O at*;generalize hT:Fx t=T at*;generalize hG:cjG t=G at*;generalize hC:cI t=C at*;generalize hn:t.length=n at*;generalize hU:nX t n=U at*;replace⟨heq,qe,oL,k0,k1,UG,Lz,UH,O5⟩:=H9 heq qe oL k0 k1 UG Lz UH O5;clear hU hn hC hG hT hO ht ha r hF hK hs O1 Qv;have nw:IntKind.i64.wrap ((n:Int) -1)=(n:Int) -1:=by rw[xI];omega
 go_enter func132,ntmps132;go_wp2_with (first
  |(go_at_call 126;refine k0.o.mono ?_;rintro e W0 ⟨rfl,cg⟩;have k2:=Hd (k1.o W0 cg);replace cg:=Hd cg)
  |(go_at_call 161;refine k2.o.mono ?_;rintro e W ⟨gu,rfl,hgu,G4,hW⟩;rw[UG.o]at G4;have ah1:=G4.lt;replace G4:=Hd G4;replace hW:=Hd (cg.o.trans (hW.mono cg.o.size))))
 have bL:ao (W.alloc (.cells ⟨zs⟩ 4)) W.heap.size 4 zs:=ao.new _ _ _;have iz:Bw W (W.alloc (.cells ⟨zs⟩ 4)):=bA;have IZ:=hW.o.size;go_loopw [6] (λi wr=>∃(m:Nat)(cs:List Value),m<=n/\i=.int .i64 ((m:Int) -1)/\Bw W wr/\ao wr W.heap.size 4 cs/\cs.length=n/\Hid (∀k,m<=k->k<n->cs[k]? =some (.bool (T k)))) (λi _=>((intOf i)+1).toNat)
 .exact⟨n,zs,nR,rfl,iz,bL,hz,λk hk h2=>by omega⟩
 clear iz bL;obtain⟨m,cs,hm,hi,hB,hb,gE,hc⟩:=hrel;have zt:Bw w wr:=hW.o.trans (hB.mono IZ);by_cases JY:m=0
 .subst JY;obtain rfl:=(hi.trans rfl:_=Value.int .i64 (-1));clear hi;have hcs:cs=(List.range n).map λi=>.bool (T i):=by
   apply List.ext_getElem?;intro i;by_cases hi:i<n
   .rw[hc.o i (zE _) hi,kC hi]
   .rw[xO oQ,xO (by simp;omega)]
  rw[hcs]at hb;replace⟨hb,zt,hcs⟩:=H3 hb zt hcs;clear gE hB;have I1:w.heap.size<=W.heap.size:=IZ;obtain⟨wo,gU⟩:=aB wr
  subst gU;go_wp2;go_loopw [7,8] (λv i wr=>∃(j:Nat)(L:List Nat),j<=n/\i=.int .i64 j/\Hid (L=(List.range j).filter G)/\Bw w wr/\ao wr W.heap.size 4 ((List.range n).map λi=>.bool (T i))/\OL wr w.heap.size eL 3 1 v L.length (L.map iJ)) (λ_ i _=>n- (intOf i).toNat)
  .exact⟨0,[],zE _,rfl,rfl,zt.o,hb.o,OL.nil _ _ _ _ _⟩
  clear zt hb;obtain⟨j,L,hj,rfl,hL,hB,hb,hO⟩:=hrel;have bz:=sM (p:=G) j;have O2:=ky (p:=G) j;rw[<-hL.o]at bz O2;obtain⟨A4,c4,rfl⟩:=hO.form;have rA:=hB.size;by_cases hlt:j<n
  .have g1:=aH j;have g2:(j:Int)<n:=oQ;have q1:=(hb.cell j).trans (kC hlt);have q2:=Lz.o j wr hlt hB;have OW:=O5.o j;have cY:∀v' w1,(wr.alloc (.cells ⟨[.int .i64 (j:Nat)]⟩ 3)).grownBy w1 (Value.slice A4 L.length c4).ownBlock->OL w1 w.heap.size eL 3 1 v' (L.length+1) (L.map iJ++[iJ j])->Bw w w1/\ao w1 W.heap.size 4 ((List.range n).map λi=>.bool (T i))/\OL w1 w.heap.size eL 3 1 v' (L++[j]).length ((L++[j]).map iJ):=λv' w1 hg ax=>
    ⟨(hB.alloc rA _).grown hg (by simp;omega) (λq hq=>(hO.lt q hq).1),(hb.alloc _).grown hg (λe=>hO.aU hb dQ e.symm),by rw[zH,xR];exact ax⟩
   have dv:=Hd (hO.alloc (.cells ⟨[.int .i64 (j:Nat)]⟩ 3));have hLL:L.length<=1048576:=oQ;have UF:g≠W.heap.size:=oQ;replace⟨cY,hB,hb,hO⟩:=H4 cY hB hb hO;generalize T j=tv at*;generalize O j=ov at*;cases tv with
   |false=>
    have Aj:Hid (L=(List.range (j+1)).filter G):=by show _=_;rw[bz,OW];simp
    clear bz OW;go_wp2;go_roundw
    .exact⟨j+1,L,oQ,gQ,Aj,hB.o,hb.o,hO.o⟩
    exact mQ
   |true=>
    by_cases ho:ov=25
    .have f1:=Ua ho;have Aj:Hid (L=(List.range (j+1)).filter G):=by show _=_;rw[bz,OW,zW ho];simp
     clear bz OW;replace ho:=Hd ho;go_wp2;go_roundw
     .exact⟨j+1,L,oQ,gQ,Aj,hB.o,hb.o,hO.o⟩
     exact mQ
    .have f1:=gL ho;have Aj:Hid (L++[j]=(List.range (j+1)).filter G):=by show _=_;rw[bz,OW,zV ho];simp
     clear bz OW;replace ho:=Hd ho;go_wp2_with (at_builtin;refine ez rfl (.tmp 71) (.tmp 73) _ rfl (m:=1) (news:=[iJ j]) dS dv.o rfl rfl (Src.lit (show fB wr _ [.int .i64 j] [iJ j]from⟨.v _ rfl,trivial⟩)) rfl oQ oQ (by simp;omega) ?_;intro v' w1 ax aw bu;obtain⟨B3,d3,rfl⟩:=ax.form;have dB:=Hd (cY.o _ _ aw ax);clear ax aw bu);go_roundw
     .exact⟨j+1,L++[j],oQ,gQ,Aj,dB.o.1,dB.o.2.1,dB.o.2.2⟩
     exact mQ
  .have g1:¬(j:Int)<n:=oQ;obtain rfl:j=n:=oQ;have ae:Hid (L=C):=hL.o.trans UH.o;replace⟨hB,hO,hb⟩:=H3 hB hO hb;go_wp2;go_ret;have hf:=ae.o;subst hf;exact j9.mk hO.o hB.o
 .obtain⟨k,rfl⟩:∃k,m=k+1:=⟨m-1,oQ⟩
  obtain rfl:=(hi.trans (by congr 1;omega):_=Value.int .i64 (k:Int));clear hi JY;have qy:k<n:=oQ;obtain⟨u,hu⟩:=av (l:=cs) (i:=k) oQ;have c4:=(hb.cell k).trans hu;have d4:=hb.frozen k;have cu:∀j,j<n->wr.cell? ⟨gu,j,none⟩=some (.int .i64 (U j)):=λj hj=>by
   have h1:=(G4.o.stay hB).cell j;rw[h1,kC hj]
  have q1:=cu k qy;have Ex:=heq.o k qy;have g1:=aH k;have g2:(k:Int)<n:=oQ;have UF:gu≠W.heap.size:=oQ;have af2:g≠W.heap.size:=oQ;have fin:∀v:Bool,v=T k->Hid (∀k',k<=k'->k'<n->(cs.set k (.bool v))[k']? =some (.bool (T k'))):=λv hv k' hk gC=>by
   rw[xL];by_cases e:k=k'
   .subst e;rw[if_pos rfl,if_pos oQ,hv]
   .rw[if_neg e];exact hc.o k' oQ gC
  have df:=λv:Bool=>hb.dz k (.bool v)
  have cD:=λv:Bool=>hB.setCell (p:=⟨W.heap.size,k,none⟩) nR (.bool v)
  have Av:k<=n:=oQ;have J6:=oL.o k;replace⟨fin,df,cD⟩:=H3 fin df cD;have ql:=Hd gE;by_cases Ey:U k<0
  .have Qt:U k= -1:=oQ;have hv:true=T k:=by rw[Ex,Qt];rfl
   have ae:=Hd (fin.o true hv);have tD:=Hd (df.o true);have kO:=Hd (cD.o true);rw[Qt]at q1;replace⟨hv,Ex,hb,hB,zt,hu,Qt⟩:=H7 hv Ex hb hB zt hu Qt;clear gE cu J6 Ey;go_wp2;go_roundw
   .exact⟨k,_,Av,gQ,kO.o,tD.o,by rw[List.length_set];exact ql.o,ae.o⟩
   simp[intOf]
  .obtain⟨p,hp⟩:∃p:Nat,U k=p:=⟨(U k).toNat,oQ⟩
   obtain⟨p1,p2⟩:=qe.o k p hp;have Yx:=(hb.cell p).trans (hc.o p oQ p2);have q2:=Lz.o p wr p2 zt;have p3:(p:Int)<n:=oQ;have p4:=aH p;have hv:(T p&&decide (O p=25))=T k:=by rw[Ex,hp]
   have ae:=λv h=>fin.o v h
   have tD:=λv=>df.o v
   have kO:=λv=>cD.o v
   rw[hp]at q1;generalize T p=vp at*;generalize O p=op at*;have hvH:=Hd hv;replace⟨ae,tD,kO,Ex,hb,hB,zt,hu,hp⟩:=H9 ae tD kO Ex hb hB zt hu hp;clear gE cu J6 Ey hv;cases vp with
   |false=>
    have aP:=Hd (ae.o false hvH.o);have LA:=Hd (tD.o false);have LB:=Hd (kO.o false);go_wp2;go_roundw
    .exact⟨k,_,Av,gQ,LB.o,LA.o,by rw[List.length_set];exact ql.o,aP.o⟩
    simp[intOf]
   |true=>
    by_cases ho:op=25
    .have f1:=mf ho;have aP:=Hd (ae.o true (by have:=hvH.o;rwa [zW ho]at this));have LA:=Hd (tD.o true);have LB:=Hd (kO.o true);replace ho:=Hd ho;go_wp2;go_roundw
     .exact⟨k,_,Av,gQ,LB.o,LA.o,by rw[List.length_set];exact ql.o,aP.o⟩
     simp[intOf]
    .have f1:=cM ho;have aP:=Hd (ae.o false (by have:=hvH.o;rwa [zV ho]at this));have LA:=Hd (tD.o false);have LB:=Hd (kO.o false);replace ho:=Hd ho;go_wp2;go_roundw
     .exact⟨k,_,Av,gQ,LB.o,LA.o,by rw[List.length_set];exact ql.o,aP.o⟩
     simp[intOf]
theorem UJ (A c F t)(hs:tT t)(ht:aW t=true){b rt}(hsp:Sp t b rt)(w)(hK:cW w)(hF:∀b,F b->b<w.heap.size)(r:Rd w F (.slice A t.length c) (.sl t.length (t.flatMap b9))):
  Cl 133 #[.slice A t.length c,.int .i64 rt] w (lL (dW t b rt) w):=by
 have k0:=sD A c F t hs w hK hF r;rw[ht]at k0;have hl:=hs.1;have BQ:=hsp.lt;have hle:=hsp.le;have k1:∀W,Bw w W->Cl 162 #[.slice A t.length c,.int .i64 rt] W (lB 229 4 t.length ((List.range t.length).map λi=>.bool (qN b rt i)) W):=λW hW=>Qs A c F t hl ht hsp W (λb h=>zF (hF b h) hW.size) (r.under hW hF)
 have jX:=j8 ht;have K5:dW t b rt=(qp t b (rt+1-b)).map (cE b):=rfl;rw[K5];have P9:(qp t b (rt+1-b)).length<=1048576:=by unfold qp;rw[zO];omega
 replace⟨k0,k1,jX,r,hF⟩:=H5 k0 k1 jX r hF;clear ht hsp hK hs K5;go_enter func133,ntmps133;go_wp2_with (first
  |(go_at_call 126;refine k0.o.mono ?_;rintro e W0 ⟨rfl,cg⟩;have k2:=Hd (k1.o W0 cg);replace cg:=Hd cg)
  |(go_at_call 162;refine k2.o.mono ?_;rintro e W ⟨gi,rfl,Eo,sd,hW⟩;have ah2:=sd.lt;replace sd:=Hd sd;replace hW:=Hd (cg.o.trans (hW.mono cg.o.size))))
 go_loopw [7,8,9] (λv f i wr=>∃(j:Nat)(L:List Nd),j<=t.length/\i=.int .i64 j/\f=.int .i64 (if j<=b then -1 else(b:Int))/\Hid (L=(qp t b (min j (rt+1) -b)).map (cE b))/\Bw w wr/\ao wr gi 4 ((List.range t.length).map λi=>.bool (qN b rt i))/\OL wr w.heap.size eL 63 6 v L.length (L.flatMap b9)) (λ_ _ i _=>t.length- (intOf i).toNat)
 .exact⟨0,[],zE _,rfl,by rw[if_pos (zE _)],by show []=_;rw[show min 0 (rt+1) -b=0 by omega];rfl,hW.o,sd.o,OL.nil _ _ _ _ _⟩
 obtain⟨j,L,hj,rfl,rfl,hL,hB,hb,hO⟩:=hrel;have Fw:L.length<=1048576:=by
  rw[hL.o,xC];unfold qp;rw[zO];omega
 obtain⟨A4,c4,rfl⟩:=hO.form;have rA:=hB.size;have Fy:=hb.lt;by_cases hlt:j<t.length
 .have g1:=aH j;have g2:=aV j t.length;have q1:=(hb.cell j).trans (kC (f:=λi=>Value.bool (qN b rt i)) hlt);obtain⟨x,hx⟩:=av hlt;obtain⟨g,off,rfl,_,z0,z1,z2,z3,z4,z5⟩:=dk (r.o.under hB hF.o) hx;obtain⟨⟨xa1,xa2⟩,xb1,xb2⟩:=jX.o x (zA hx);have cY:∀(y:Nd) v' w1 (o:Obj),((wr.alloc o).alloc (.cells ⟨cJ y⟩ 63)).grownBy w1 (Value.slice A4 L.length c4).ownBlock->OL w1 w.heap.size eL 63 6 v' (L.length+1) (L.flatMap b9++b9 y)->Bw w w1/\ao w1 gi 4 ((List.range t.length).map λi=>.bool (qN b rt i))/\OL w1 w.heap.size eL 63 6 v' (L++[y]).length ((L++[y]).flatMap b9):=λy v' w1 o hg ax=>
   ⟨((hB.alloc rA _).alloc (by simp;omega) _).grown hg (by simp;omega) (λq hq=>(hO.lt q hq).1),((hb.alloc _).alloc _).grown hg (λe=>hO.aU hb dQ e.symm),by rw[zH,xD];simpa using ax⟩
  by_cases hin:b<=j/\j<=rt
  .have hv:qN b rt j=true:=(by unfold qN;rw[zW hin.1,zW hin.2];rfl);rw[hv]at q1;have bz:Hid (L++[cE b x]=(qp t b (min (j+1) (rt+1) -b)).map (cE b)):=by
    show _=_
    rw[show min (j+1) (rt+1) -b=(min j (rt+1) -b)+1 by omega,Ly (x:=x) (by rw[show b+(min j (rt+1) -b)=j by omega];exact hx),hL.o]
   have YN:cE b x={x with a:=if 0<=x.a then x.a-b else x.a,b:=if 0<=x.b then x.b-b else x.b}:=rfl;have qz:(if j+1<=b then(-1:Int)else(b:Int))=b:=if_neg oQ;have hjb:j<=b->j=b:=λh=>by omega
   obtain⟨fv,I2⟩:=aB (if j<=b then -1 else(b:Int):Int)
   rw[<-I2];have hfc:(fv<0/\j=b)\/fv=(b:Int):=by
    by_cases h:j<=b
    .left;rw[I2,if_pos h];omega
    .right;rw[I2,if_neg h]
   have BR:(b:Int)<=1048576:=oQ;have bL:=aH b;replace⟨cY,hB,hb,hO,hv,qz,I2,hx⟩:=H8 cY hB hb hO hv qz I2 hx;obtain⟨op,nn,v,at_,a,bb⟩:=x;simp only at YN z0 z1 z2 z3 z4 z5 xa1 xa2 xb1 xb2;obtain⟨a',ha'⟩:=aB (if 0<=a then a- (b:Int)else a)
   obtain⟨b',fA⟩:=aB (if 0<=bb then bb- (b:Int)else bb)
   rw[<-ha',<-fA]at YN;rw[YN]at bz;replace YN:=Hd YN;rcases hfc with⟨hf0,I3⟩|I3
   .subst I3;have JW:(j:Int)<=1048576:=oQ;by_cases pa:0<=a
    .obtain rfl:a'=a- (j:Int):=by rw[ha'];exact if_pos pa
     replace ha':=Hd ha';by_cases pb:0<=bb
     .obtain rfl:b'=bb- (j:Int):=by rw[fA];exact if_pos pb
      replace fA:=Hd fA;go_wp2_with (at_builtin;refine ez rfl (.tmp 52) (.tmp 54) _ rfl (m:=1) (news:=b9 ⟨op,nn,v,at_,a- (j:Int),bb- (j:Int)⟩) qY ((hO.o.alloc _).alloc _) rfl rfl (oO sJ (tI ⟨op,nn,v,at_,a- (j:Int),bb- (j:Int)⟩)) rfl oQ oQ (by simp;omega) ?_;intro v' w1 ax aw bu;obtain⟨B3,d3,rfl⟩:=ax.form;have dB:=Hd (cY.o ⟨op,nn,v,at_,a- (j:Int),bb- (j:Int)⟩ _ _ _ aw ax);clear ax aw bu);go_roundw
      .exact⟨j+1,_,oQ,gQ,by rw[qz.o],bz,dB.o.1,dB.o.2.1,dB.o.2.2⟩
      exact mQ
     .obtain rfl:b'=bb:=by rw[fA];exact if_neg pb
      replace fA:=Hd fA;go_wp2_with (at_builtin;refine ez rfl (.tmp 52) (.tmp 54) _ rfl (m:=1) (news:=b9 ⟨op,nn,v,at_,a- (j:Int),b'⟩) qY ((hO.o.alloc _).alloc _) rfl rfl (oO sJ (tI ⟨op,nn,v,at_,a- (j:Int),b'⟩)) rfl oQ oQ (by simp;omega) ?_;intro v' w1 ax aw bu;obtain⟨B3,d3,rfl⟩:=ax.form;have dB:=Hd (cY.o ⟨op,nn,v,at_,a- (j:Int),b'⟩ _ _ _ aw ax);clear ax aw bu);go_roundw
      .exact⟨j+1,_,oQ,gQ,by rw[qz.o],bz,dB.o.1,dB.o.2.1,dB.o.2.2⟩
      exact mQ
    .obtain rfl:a'=a:=by rw[ha'];exact if_neg pa
     replace ha':=Hd ha';by_cases pb:0<=bb
     .obtain rfl:b'=bb- (j:Int):=by rw[fA];exact if_pos pb
      replace fA:=Hd fA;go_wp2_with (at_builtin;refine ez rfl (.tmp 52) (.tmp 54) _ rfl (m:=1) (news:=b9 ⟨op,nn,v,at_,a',bb- (j:Int)⟩) qY ((hO.o.alloc _).alloc _) rfl rfl (oO sJ (tI ⟨op,nn,v,at_,a',bb- (j:Int)⟩)) rfl oQ oQ (by simp;omega) ?_;intro v' w1 ax aw bu;obtain⟨B3,d3,rfl⟩:=ax.form;have dB:=Hd (cY.o ⟨op,nn,v,at_,a',bb- (j:Int)⟩ _ _ _ aw ax);clear ax aw bu);go_roundw
      .exact⟨j+1,_,oQ,gQ,by rw[qz.o],bz,dB.o.1,dB.o.2.1,dB.o.2.2⟩
      exact mQ
     .obtain rfl:b'=bb:=by rw[fA];exact if_neg pb
      replace fA:=Hd fA;go_wp2_with (at_builtin;refine ez rfl (.tmp 52) (.tmp 54) _ rfl (m:=1) (news:=b9 ⟨op,nn,v,at_,a',b'⟩) qY ((hO.o.alloc _).alloc _) rfl rfl (oO sJ (tI ⟨op,nn,v,at_,a',b'⟩)) rfl oQ oQ (by simp;omega) ?_;intro v' w1 ax aw bu;obtain⟨B3,d3,rfl⟩:=ax.form;have dB:=Hd (cY.o ⟨op,nn,v,at_,a',b'⟩ _ _ _ aw ax);clear ax aw bu);go_roundw
      .exact⟨j+1,_,oQ,gQ,by rw[qz.o],bz,dB.o.1,dB.o.2.1,dB.o.2.2⟩
      exact mQ
   .subst I3;by_cases pa:0<=a
    .obtain rfl:a'=a- (b:Int):=by rw[ha'];exact if_pos pa
     replace ha':=Hd ha';by_cases pb:0<=bb
     .obtain rfl:b'=bb- (b:Int):=by rw[fA];exact if_pos pb
      replace fA:=Hd fA;go_wp2_with (at_builtin;refine ez rfl (.tmp 52) (.tmp 54) _ rfl (m:=1) (news:=b9 ⟨op,nn,v,at_,a- (b:Int),bb- (b:Int)⟩) qY ((hO.o.alloc _).alloc _) rfl rfl (oO sJ (tI ⟨op,nn,v,at_,a- (b:Int),bb- (b:Int)⟩)) rfl oQ oQ (by simp;omega) ?_;intro v' w1 ax aw bu;obtain⟨B3,d3,rfl⟩:=ax.form;have dB:=Hd (cY.o ⟨op,nn,v,at_,a- (b:Int),bb- (b:Int)⟩ _ _ _ aw ax);clear ax aw bu);go_roundw
      .exact⟨j+1,_,oQ,gQ,by rw[qz.o],bz,dB.o.1,dB.o.2.1,dB.o.2.2⟩
      exact mQ
     .obtain rfl:b'=bb:=by rw[fA];exact if_neg pb
      replace fA:=Hd fA;go_wp2_with (at_builtin;refine ez rfl (.tmp 52) (.tmp 54) _ rfl (m:=1) (news:=b9 ⟨op,nn,v,at_,a- (b:Int),b'⟩) qY ((hO.o.alloc _).alloc _) rfl rfl (oO sJ (tI ⟨op,nn,v,at_,a- (b:Int),b'⟩)) rfl oQ oQ (by simp;omega) ?_;intro v' w1 ax aw bu;obtain⟨B3,d3,rfl⟩:=ax.form;have dB:=Hd (cY.o ⟨op,nn,v,at_,a- (b:Int),b'⟩ _ _ _ aw ax);clear ax aw bu);go_roundw
      .exact⟨j+1,_,oQ,gQ,by rw[qz.o],bz,dB.o.1,dB.o.2.1,dB.o.2.2⟩
      exact mQ
    .obtain rfl:a'=a:=by rw[ha'];exact if_neg pa
     replace ha':=Hd ha';by_cases pb:0<=bb
     .obtain rfl:b'=bb- (b:Int):=by rw[fA];exact if_pos pb
      replace fA:=Hd fA;go_wp2_with (at_builtin;refine ez rfl (.tmp 52) (.tmp 54) _ rfl (m:=1) (news:=b9 ⟨op,nn,v,at_,a',bb- (b:Int)⟩) qY ((hO.o.alloc _).alloc _) rfl rfl (oO sJ (tI ⟨op,nn,v,at_,a',bb- (b:Int)⟩)) rfl oQ oQ (by simp;omega) ?_;intro v' w1 ax aw bu;obtain⟨B3,d3,rfl⟩:=ax.form;have dB:=Hd (cY.o ⟨op,nn,v,at_,a',bb- (b:Int)⟩ _ _ _ aw ax);clear ax aw bu);go_roundw
      .exact⟨j+1,_,oQ,gQ,by rw[qz.o],bz,dB.o.1,dB.o.2.1,dB.o.2.2⟩
      exact mQ
     .obtain rfl:b'=bb:=by rw[fA];exact if_neg pb
      replace fA:=Hd fA;go_wp2_with (at_builtin;refine ez rfl (.tmp 52) (.tmp 54) _ rfl (m:=1) (news:=b9 ⟨op,nn,v,at_,a',b'⟩) qY ((hO.o.alloc _).alloc _) rfl rfl (oO sJ (tI ⟨op,nn,v,at_,a',b'⟩)) rfl oQ oQ (by simp;omega) ?_;intro v' w1 ax aw bu;obtain⟨B3,d3,rfl⟩:=ax.form;have dB:=Hd (cY.o ⟨op,nn,v,at_,a',b'⟩ _ _ _ aw ax);clear ax aw bu);go_roundw
      .exact⟨j+1,_,oQ,gQ,by rw[qz.o],bz,dB.o.1,dB.o.2.1,dB.o.2.2⟩
      exact mQ
  .have hv:qN b rt j=false:=by
    unfold qN;by_cases h1:b<=j
    .rw[zV (by omega:¬j<=rt),Bool.and_false]
    .rw[zV h1,Bool.false_and]
   rw[hv]at q1;have bz:Hid (L=(qp t b (min (j+1) (rt+1) -b)).map (cE b)):=by
    show _=_
    rw[show min (j+1) (rt+1) -b=min j (rt+1) -b by omega,hL.o]
   have qz:(if j<=b then(-1:Int)else(b:Int))=if j+1<=b then -1 else(b:Int):=by
    by_cases h1:j+1<=b
    .rw[if_pos h1,if_pos oQ]
    .rw[if_neg h1,if_neg oQ]
   obtain⟨fv,I2⟩:=aB (if j<=b then -1 else(b:Int):Int)
   rw[<-I2]at qz |-;replace⟨qz,I2,hB,hb,hO,hv,hx⟩:=H7 qz I2 hB hb hO hv hx;clear cY;go_wp2;go_roundw
   .exact⟨j+1,L,oQ,gQ,by rw[qz.o],bz,hB.o,hb.o,hO.o⟩
   exact mQ
 .have g1:=jS j t.length;obtain rfl:j=t.length:=oQ;have ae:Hid (L=(qp t b (rt+1-b)).map (cE b)):=by
   show _=_
   rw[hL.o,show min t.length (rt+1) -b=rt+1-b by omega]
  obtain⟨fv,I2⟩:=aB (if t.length<=b then -1 else(b:Int):Int)
  rw[<-I2];replace⟨I2,hB,hO,hb⟩:=H4 I2 hB hO hb;go_wp2;go_ret;have hf:=ae.o;rw[<-hf];exact lL.mk hO.o hB.o
end dR
