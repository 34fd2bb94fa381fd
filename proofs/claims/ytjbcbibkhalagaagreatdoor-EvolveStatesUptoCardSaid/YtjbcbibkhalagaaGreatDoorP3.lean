/- The first loss that concerns the query. -/
import Derived.Test.YtjbcbibkhalagaaGreatDoorK7
namespace Go.Proofs.YtjbcbibkhalagaaGreatDoor
set_option maxRecDepth 100000
set_option maxHeartbeats 16000000
open Proofs.Tryz Go.RowKit Go.Deep
set_option linter.unusedVariables false
set_option linter.unusedSimpArgs false
def FV (S:List Td)(q:Qy)(x:Ls)(it:It):Bool:=it.ah.any (λm=>decide (m=FM S x.ty))&&(decide (x.at_= -2)||pU q it.v (wV S x.ty x.at_))
theorem Mq {S q x}(h0:0<=x.ty)(h1:x.at_≠ -1):fg S q x=q.items.any (FV S q x):=by
 unfold fg;rw[zW h0,zW h1,xE,xE];rfl
theorem Mr {S q x}(h0:x.ty<0):fg S q x=false:=by unfold fg;rw[zV oQ];rfl
theorem Ms {S q x}(h1:x.at_= -1):fg S q x=false:=by unfold fg;simp[h1]
theorem Q6 {S q nl j x}(hx:nl[j]? =some x)(hc:fg S q x=true)(hp:∀(i:Nat) y,nl[i]? =some y->i<j->fg S q y=false):ei S q nl=some x.au:=by
 unfold ei;obtain⟨y,hy,_,hf⟩:=qF (tJ hx hc hp);rw[hx]at hy;injection hy with hy;subst hy
 rw[hf];rfl
theorem Q7 {S q nl}(hp:∀(i:Nat) y,nl[i]? =some y->i<nl.length->fg S q y=false):ei S q nl=none:=by
 unfold ei;rw[Dp (jK hp)];rfl
structure LX (w0 w:World)(B gt g:Nat)(F:Nat->Prop)(A:Option Addr)(c:Nat)(S:List Td)(T:List Kd)(nl:List Ls)(q:Qy)(s:fV)(gl gd:Nat)(x:Ls)(t:Td)(At:Option Addr)(ct:Nat):Prop where
 tx:TX w B gt g F A c S T nl q s
 hb:Bw w0 w
 bl:ao w gl 141 (Tj x.ty x.at_ x.au)
 bd:ao w gd 95 [.string t.name,.slice At t.attrs.length ct]
 ra:Rd w F (.slice At t.attrs.length ct) (.sl t.attrs.length (t.attrs.flatMap aG))
theorem LX.stay {w0 w W B gt g F A c S T nl q s gl gd x t At ct}(h:LX w0 w B gt g F A c S T nl q s gl gd x t At ct)(hb:Bw w W):LX w0 W B gt g F A c S T nl q s gl gd x t At ct:=
 ⟨h.tx.stay hb,h.hb.trans (hb.mono h.hb.size),h.bl.stay hb,h.bd.stay hb,h.ra.under hb h.tx.qr.lt⟩
def Y' (o:Option Int)(w:World)(e:Ending)(w':World):Prop:=e=.returned (.tuple #[.int .i64 (o.getD 0),.bool o.isSome])/\Bw w w'
namespace di
open cH
theorem Vb {w B gt g F A c S T nl q s}(h:TX w B gt g F A c S T nl q s)(hs:jE q)(hS:iI S)(tK:nl.length<=1048576)(ud:∀x∈nl,∀a:Nat,x.ty=a->∃t,S[a]? =some t/\(∀b:Nat,x.at_=b->b<t.attrs.length))(oL:∀x∈nl,-2<=x.at_):
  Cl 36 #[.pointer (some ⟨gt,0,none⟩)] w (Y' (ei S q nl) w):=by
 have Hs:=h;obtain⟨x0,x1,x2,x3,x4,x5,x6,x7,x8⟩:=h.cells;have qe:=h.bt.lt;obtain⟨vk,vl,au,l,hD,Pa⟩:=h.ds;have d1:=hD.c1;have J6:=hD.bx.lt;obtain⟨A4,c4,rfl⟩:=hD.lr.form;have qP:=hD.lr;have kl:∀W (j:Nat) x,Bw w W->nl[j]? =some x->∃ga,A4=some ⟨ga,0,none⟩/\W.cell? ⟨ga,j*3,none⟩=some (.int .i64 x.ty)/\W.cell? ⟨ga,j*3+1,none⟩=some (.int .i64 x.at_)/\W.cell? ⟨ga,j*3+2,none⟩=some (.int .i64 x.au):=λW j x hW hx=>by
  obtain⟨ga,cap,e,_,_,_,h6⟩:=(qP.stay hW).row (by have:=(zC.1 hx).1;omega);injection e with e1 e2 e3
  have key:∀(k:Nat)(y:Value),(Jj x)[k]? =some (.v y)->W.cell? ⟨ga,j*3+k,none⟩=some y:=λk y hk=>by
   obtain⟨u,hu,hr⟩:=h6 (j*3+k) _ (po (f:=Jj) (m:=3) (λ_=>rfl) hx hk);rw[hr.bH]at hu;exact hu
  exact⟨ga,e1,key 0 _ rfl,key 1 _ rfl,key 2 _ rfl⟩
 obtain⟨o,ho⟩:=aB (ei S q nl)
 rw[<-ho];have ae:∀(j:Nat) x,nl[j]? =some x->fg S q x=true->(∀(i:Nat) y,nl[i]? =some y->i<j->fg S q y=false)->o=some x.au:=λj x h1 h2 h3=>by rw[ho];exact Q6 h1 h2 h3
 have nk:(∀(i:Nat) y,nl[i]? =some y->i<nl.length->fg S q y=false)->o=none:=λh1=>by rw[ho];exact Q7 h1
 have kn:∀W (it:It)(A2:Option Addr)(c2:Nat)(a:ByteArray),TX W B gt g F A c S T nl q s->Cl 61 #[.pointer (some ⟨gt,0,none⟩),.agg #[.bool it.neg,.slice A2 it.ah.length c2,.string it.v,.int .i64 it.lo,.int .i64 it.hi],.string a] W λe w'=>e=.returned (.bool (pU q it.v a))/\Bw W w':=λW it A2 c2 a hX=>AU hX hs it (.slice A2 it.ah.length c2) rfl a
 have hit:=hs.it;have iT:=hs.il;have hS1:=hS.1;obtain⟨A1,c1,A2,c2,A3,c3⟩:=s;simp only at x0 x2 Hs kn;replace⟨Hs,kl,ae,nk,kn,ud,oL,hit⟩:=H8 Hs kl ae nk kn ud oL hit;clear h hD Pa qP hs hS ho x3 x4 x5 x6 x7 x8;go_enter func36,ntmps36;go_wp2;go_loopw [17] (λi wr=>∃j:Nat,j<=nl.length/\i=.int .i64 j/\Bw w wr/\Hid (∀(i:Nat) y,nl[i]? =some y->i<j->fg S q y=false)) (λi _=>nl.length- (intOf i).toNat)
 .exact⟨0,zE _,rfl,bR,λi y hy hi=>by omega⟩
 obtain⟨j,hj,rfl,hB,hp⟩:=hrel;clear x0 x1 x2 d1;by_cases hlt:j<nl.length
 .obtain⟨x,hx⟩:=av hlt;have uW:=zA hx;obtain⟨ga,rfl,a0,a1,a2⟩:=kl.o wr j x hB hx;have g0:=aH j;have g1:=aV j nl.length;have mB:fg S q x=false->Hid (∀(i:Nat) y,nl[i]? =some y->i<j+1->fg S q y=false):=λhc i y hy hi=>by
   by_cases e:i=j
   .subst e;rw[hx]at hy;injection hy with hy;subst hy;exact hc
   .exact hp.o i y hy oQ
  have hBl:=Hd (hB.alloc hB.size (.cells ⟨Tj x.ty x.at_ x.au⟩ 141));have Q8:=ud.o x uW;have aiG:=oL.o x uW;have qc:=λh=>ae.o j x hx h hp.o
  replace⟨mB,Q8,qc,hx,uW⟩:=H5 mB Q8 qc hx uW;obtain⟨wo,gU⟩:=aB wr
  subst gU;have aiH:=hB.size;by_cases iU:x.ty<0
  .have hno:=Hd (mB.o (Mr iU));go_wp2;go_roundw
   .exact⟨j+1,oQ,gQ,hBl.o,hno.o⟩
   exact mQ
  have aiI:¬x.ty<0:=iU;by_cases uz:x.at_= -1
  .have hno:=Hd (mB.o (Ms uz));have f1:(x.at_== -1)=true:=mf uz;replace uz:=Hd uz;go_wp2;go_roundw
   .exact⟨j+1,oQ,gQ,hBl.o,hno.o⟩
   exact mQ
  have f1:(x.at_== -1)=false:=cM uz;obtain⟨a,ha⟩:∃a:Nat,x.ty=a:=⟨x.ty.toNat,oQ⟩
  obtain⟨t,ht,wv⟩:=Q8.o a ha;have nj:FM S x.ty=t.name:=by rw[ha];exact Mi ht
  have Et:a<S.length:=(zC.1 ht).1;have Jk:=Hs.o.stay hB;obtain⟨bS,oS,hAS,hFS,hv,hsl⟩:=Jk.rs.cP (m:=2) (λ_=>rfl) ht oQ;subst hAS;obtain⟨At,ct,u1,rt⟩:=hsl 1 _ _ rfl;have u0:wo.cell? ⟨bS,oS+a*2,none⟩=some (.string t.name):=hv 0 _ rfl;have hbS:=Jk.qr.lt bS hFS;obtain⟨y0,y1,y2,_,_,_,_,_,_⟩:=Jk.cells;simp only at y2;obtain⟨W1,a9⟩:=aB (wo.alloc (.cells ⟨Tj x.ty x.at_ x.au⟩ 141))
  have Mu:Bw wo W1:=by rw[a9];exact bA
  have ch:ao W1 wo.heap.size 141 (Tj x.ty x.at_ x.au):=by rw[a9];exact ao.new _ _ _
  have eC:W1.heap.size=wo.heap.size+1:=by rw[a9];simp
  have hLX:∀w2,Bw W1 w2->LX w (w2.alloc (.cells ⟨[.string t.name,.slice At t.attrs.length ct]⟩ 95)) B gt g F (some ⟨bS,oS,none⟩) c S T nl q ⟨A1,c1,A2,c2,A3,c3⟩ wo.heap.size w2.heap.size x t At ct:=λw2 hw2=>by
   have h1:Bw wo w2:=Mu.trans (hw2.mono Mu.size);have h2:Bw wo (w2.alloc (.cells ⟨[.string t.name,.slice At t.attrs.length ct]⟩ 95)):=h1.alloc h1.size _;exact⟨Jk.stay h2,hB.trans (h2.mono hB.size),(ch.stay hw2).alloc _,ao.new _ _ _,rt.under h2 Jk.qr.lt⟩
  replace hLX:=Hd hLX;have k1:∀W,Bw wo W->W.cell? ⟨gt,0,none⟩=some (.slice (some ⟨bS,oS,none⟩) S.length c)/\W.cell? ⟨bS,oS+a*2,none⟩=some (.string t.name)/\W.cell? ⟨bS,oS+a*2+1,none⟩=some (.slice At t.attrs.length ct):=λW hW=>
   ⟨(hW.cell (p:=⟨gt,0,none⟩) (by show gt<_;omega)).trans y0,(hW.cell (p:=⟨bS,oS+a*2,none⟩) hbS).trans u0,(hW.cell (p:=⟨bS,oS+a*2+1,none⟩) hbS).trans u1⟩
  have sa:W1.cell? ⟨wo.heap.size,0,none⟩=some (.int .i64 x.ty):=ch.cell 0;obtain⟨XL,k11,k12⟩:=k1 W1 Mu;have mP:∀W,LX w W B gt g F (some ⟨bS,oS,none⟩) c S T nl q ⟨A1,c1,A2,c2,A3,c3⟩ wo.heap.size W1.heap.size x t At ct->True:=λ_ _=>trivial
  have g2:(0:Int)<=x.ty:=oQ;have g3:x.ty<(S.length:Int):=oQ;have g4:x.ty.toNat=a:=oQ;have Vc:∀it:It,FV S q x it=(it.ah.any (λm=>decide (m=t.name))&&((x.at_== -2)||pU q it.v (wV S x.ty x.at_))):=λit=>by
   unfold FV;rw[nj];congr 2
  have hcx:=Mq (S:=S) (q:=q) (x:=x) oQ uz;rw[hcx]at qc mB;have Jg:∀k:Nat,x.at_=k->∃z,t.attrs[k]? =some z/\wV S x.ty x.at_=z:=λk hk=>by
   obtain⟨z,hz⟩:=av (wv k hk);exact⟨z,hz,by rw[ha,hk];exact AP ht hz⟩
  replace⟨Vc,Jg⟩:=H2 Vc Jg;have Q9:=Hd a9;replace⟨Mu,ch,eC,nj,ht,ha,wv,uz,Jk,rt⟩:=yX Mu ch eC nj ht ha wv uz Jk rt;clear hv hsl y0 y1 y2 u0 u1 hcx k1 mP Q8 a9;simp only[Tj]at Q9;go_upto_region 5 with fail
  rw[<-Q9.o];clear a0 a1 a2;have kS:=λW (hW:Bw W1 W)=>xW ((hW.cell (p:=⟨gt,0,none⟩) (by show gt<_;have:=eC.o;omega)).trans XL) (xW ((hW.cell (p:=⟨bS,oS+a*2,none⟩) (by show bS<_;have:=eC.o;omega)).trans k11) (xW ((hW.cell (p:=⟨bS,oS+a*2+1,none⟩) (by show bS<_;have:=eC.o;omega)).trans k12) ((hW.cell (p:=⟨wo.heap.size,0,none⟩) (by show wo.heap.size<_;have:=eC.o;omega)).trans sa)))
  have ak:=xW (kS W1.drew (bR).drew) trivial;replace kS:=Hd kS;refine aC (p:=100) (S0:=λW=>W.cell? ⟨gt,0,none⟩=some (.slice (some ⟨bS,oS,none⟩) S.length c)/\W.cell? ⟨bS,oS+a*2,none⟩=some (.string t.name)/\W.cell? ⟨bS,oS+a*2+1,none⟩=some (.slice At t.attrs.length ct)/\W.cell? ⟨wo.heap.size,0,none⟩=some (.int .i64 x.ty)) (S1:=λ_=>True) kQ ?_;refine' aq 0 rfl ak ?_;refine' aq 1 rfl ak ?_;refine' aq 2 rfl ak ?_;refine' aq 3 rfl ak ?_;refine' aq 4 rfl ak ?_;refine' aq 5 rfl ak ?_;refine' aq 6 rfl ak ?_;refine' aq 7 rfl ak ?_;refine' aq 8 rfl ak ?_;try simp only[Act.put,aK]
  refine Gs 9 rfl λK hK=>?_
  go_simp;refine hK.o _ _ ⟨kS.o _ (by first|exact(bR).drew.alloc sJ _ |exact(bA).drew),λ_=>trivial⟩ ?_;clear hK K;refine Gs 10 rfl λK hK=>?_
  go_simp;refine hK.o _ _ ⟨kS.o _ (bA).drew,λ_=>trivial⟩ ?_;clear hK K;refine Gd _ ?_;try simp only[Act.put,aK]
  have Ra:=(hLX.o W1 bR).stay (bR).drew;generalize (W1.alloc (.cells ⟨[.string t.name,.slice At t.attrs.length ct]⟩ 95)).drew=W2 at*;obtain⟨y0,y1,y2,_,_,_,_,_,_⟩:=Ra.tx.cells;simp only at y2;replace Ra:=Hd Ra;clear ak hLX kS XL k11 k12 sa;go_wp2;go_loopw [44] (λi wr=>∃k:Nat,k<=q.items.length/\i=.int .i64 k/\LX w wr B gt g F (some ⟨bS,oS,none⟩) c S T nl q ⟨A1,c1,A2,c2,A3,c3⟩ wo.heap.size W1.heap.size x t At ct/\Hid (∀(i:Nat) y,q.items[i]? =some y->i<k->FV S q x y=false)) (λi _=>q.items.length- (intOf i).toNat)
  .exact⟨0,zE _,rfl,Ra.o,λi y hy hi=>by omega⟩
  clear Ra y0 y1 y2;obtain⟨k,hk,rfl,hX,ej⟩:=hrel;by_cases oK:k<q.items.length
  .obtain⟨it,hi⟩:=av oK;have uG:=zA hi;have hsz:=(hit.o it uG).1.1;obtain⟨gA,oA,A5,c5,e5,_,rx,a0,a1,a2,a3,a4⟩:=eV hX.tx.qr.r1 hi;simp only at e5;subst e5;have p0:=aH k;have p1:=aV k q.items.length;have rA:=hX.hb.size;have jv:=Hd (show Bw wr (wr.alloc (.cells ⟨dX it (.slice A5 it.ah.length c5)⟩ 60))from bA);have qw:=hX.stay jv.o;have l4:ao (wr.alloc (.cells ⟨dX it (.slice A5 it.ah.length c5)⟩ 60)) wr.heap.size 60 (dX it (.slice A5 it.ah.length c5)):=ao.new _ _ _;have Za:=λW (hW:Bw wr W)=>contains_k A5 c5 F it.ah t.name hsz W (rx.under hW (λb hb=>hX.tx.qr.lt b hb))
   have kS:=λW (hW:Below (wr.alloc (.cells ⟨dX it (.slice A5 it.ah.length c5)⟩ 60)).heap.size (wr.alloc (.cells ⟨dX it (.slice A5 it.ah.length c5)⟩ 60)) W)=>xW ((l4.stay hW).cell 0) (xW ((l4.stay hW).cell 1) (xW ((l4.stay hW).cell 2) (xW ((l4.stay hW).cell 3) (xW ((l4.stay hW).cell 4) (xW ((qw.stay hW).bd.cell 0) (xW ((qw.stay hW).bd.cell 1) ((qw.stay hW).bl.cell 1)))))))
   have kX:=λW (hW:Below (wr.alloc (.cells ⟨dX it (.slice A5 it.ah.length c5)⟩ 60)).heap.size (wr.alloc (.cells ⟨dX it (.slice A5 it.ah.length c5)⟩ 60)) W)=>qw.stay hW
   have Ht:=λW (hW:Below (wr.alloc (.cells ⟨dX it (.slice A5 it.ah.length c5)⟩ 60)).heap.size (wr.alloc (.cells ⟨dX it (.slice A5 it.ah.length c5)⟩ 60)) W) a=>kn.o W it A5 c5 a (qw.stay hW).tx
   have hh:=Vc.o it;have Zb:FV S q x it=false->Hid (∀(i:Nat) y,q.items[i]? =some y->i<k+1->FV S q x y=false):=λhc i y hy PV=>by
    by_cases e:i=k
    .subst e;rw[hi]at hy;injection hy with hy;subst hy;exact hc
    .exact ej.o i y hy oQ
   have kE:FV S q x it=true->o=some x.au:=λhc=>qc.o (xM.2 ⟨it,uG,hc⟩)
   obtain⟨W3,pV⟩:=aB (wr.alloc (.cells ⟨dX it (.slice A5 it.ah.length c5)⟩ 60))
   rw[<-pV]at kS kX Ht qw l4 jv;generalize it.ah.any (λm=>decide (m=t.name))=cb at hh Za;simp only[dX]at pV kS l4;have Vd:=Hd pV;replace Za:=Hd (Za W3.drew (jv.o.drew));replace⟨hh,Zb,kE,kX,Ht,qw,hX,hi,uG,l4⟩:=yX hh Zb kE kX Ht qw hX hi uG l4;have ak:=xW (kS W3.drew (bR).drew) trivial;replace kS:=Hd kS;clear rx pV;go_upto_region 9 with fail
   rw[<-Vd.o];clear a0 a1 a2 a3 a4;by_cases Pb:x.at_= -2
   .have f2:(x.at_== -2)=true:=mf Pb;replace Pb:=Hd Pb;refine aC (p:=100) (S0:=λW=>W.cell? ⟨wr.heap.size,0,none⟩=some (.bool it.neg)/\W.cell? ⟨wr.heap.size,1,none⟩=some (.slice A5 it.ah.length c5)/\W.cell? ⟨wr.heap.size,2,none⟩=some (.string it.v)/\W.cell? ⟨wr.heap.size,3,none⟩=some (.int .i64 it.lo)/\W.cell? ⟨wr.heap.size,4,none⟩=some (.int .i64 it.hi)/\W.cell? ⟨W1.heap.size,0,none⟩=some (.string t.name)/\W.cell? ⟨W1.heap.size,1,none⟩=some (.slice At t.attrs.length ct)/\W.cell? ⟨wo.heap.size,1,none⟩=some (.int .i64 x.at_)) (S1:=λ_=>True) kQ ?_;refine' aq 0 rfl ak ?_;refine' aq 1 rfl ak ?_;refine' aq 2 rfl ak ?_;refine' aq 3 rfl ak ?_;try simp only[Act.put,aK]
    refine Gs 4 rfl λK hK=>?_
    go_simp;go_at_call 60;refine Za.o.mono ?_;rintro e W' ⟨rfl,rfl⟩;refine hK.o _ _ ⟨kS.o _ (bR).drew,λ_=>trivial⟩ ?_;clear hK K;try simp only[Act.put,aK]
    cases cb with
    |true=>
     refine' aq 5 rfl ak ?_;refine' aq 6 rfl ak ?_;refine' aq 7 rfl ak ?_;refine' aq 8 rfl ak ?_;refine' aq 9 rfl ak ?_;refine' nV 10 rfl ak ?_;refine' nV 11 rfl ak ?_;refine' nV 12 rfl ak ?_;refine' nV 13 rfl ak ?_;refine' nV 14 rfl ak ?_;refine' nV 15 rfl ak ?_;refine' nV 16 rfl ak ?_;refine' nV 17 rfl ak ?_;refine' nV 18 rfl ak ?_;refine' aq 19 rfl ak ?_;try simp only[Act.put,aK]
     refine Gs 20 rfl λK hK=>?_
     go_simp;refine hK.o _ _ ⟨ak.1,λ_=>trivial⟩ ?_;clear hK K;refine Gd _ ?_;try simp only[Act.put,aK]
     have hy:=kE.o (by rw[hh.o,f2];rfl);clear ak;have jj:W3.drew.cell? ⟨wo.heap.size,2,none⟩=some (.int .i64 x.au):=(kX.o _ (bR).drew).bl.cell 2;subst hy;go_wp2;go_ret2;exact⟨rfl,(kX.o _ (bR).drew).hb⟩
    |false=>
     refine' aq 5 rfl ak ?_;refine' nV 6 rfl ak ?_;refine' nV 7 rfl ak ?_;refine' nV 8 rfl ak ?_;refine' nV 9 rfl ak ?_;refine' nV 10 rfl ak ?_;refine' nV 11 rfl ak ?_;refine' nV 12 rfl ak ?_;refine' nV 13 rfl ak ?_;refine' nV 14 rfl ak ?_;refine' nV 15 rfl ak ?_;refine' nV 16 rfl ak ?_;refine' nV 17 rfl ak ?_;refine' nV 18 rfl ak ?_;refine' nV 19 rfl ak ?_;try simp only[Act.put,aK]
     refine Gs 20 rfl λK hK=>?_
     go_simp;refine hK.o _ _ ⟨ak.1,λ_=>trivial⟩ ?_;clear hK K;refine Gd _ ?_;try simp only[Act.put,aK]
     have hno:=Hd (Zb.o (by rw[hh.o];rfl));clear ak;go_wp2;go_roundw
     .exact⟨k+1,oQ,gQ,kX.o _ (bR).drew,hno.o⟩
     exact mQ
   .have f2:(x.at_== -2)=false:=cM Pb;obtain⟨m,hm⟩:∃m:Nat,x.at_=m:=⟨x.at_.toNat,by have:=uz.o;omega⟩
    obtain⟨z,hz,Ve⟩:=Jg.o m hm;have B0:m<t.attrs.length:=(zC.1 hz).1;have r0:(0:Int)<=x.at_:=oQ;have r1:x.at_<(t.attrs.length:Int):=oQ;have r2:x.at_.toNat=m:=oQ;obtain⟨ba,oa,hAt,hFa,hzc⟩:=dN qw.o.ra hz;subst hAt;have adu:=qw.o.tx.qr.lt ba hFa;have kZ:=λW (hW:Bw W3 W)=>(hW.cell (p:=⟨ba,oa+m,none⟩) adu).trans hzc
    rw[Ve]at hh;have oV:=xW (xW (kZ W3.drew (bR).drew) ak.1) trivial;replace⟨kZ,Pb,hm,hz,Ve⟩:=H5 kZ Pb hm hz Ve;clear ak hzc;refine aC (p:=100) (S0:=λW=>W.cell? ⟨ba,oa+m,none⟩=some (.string z)/\W.cell? ⟨wr.heap.size,0,none⟩=some (.bool it.neg)/\W.cell? ⟨wr.heap.size,1,none⟩=some (.slice A5 it.ah.length c5)/\W.cell? ⟨wr.heap.size,2,none⟩=some (.string it.v)/\W.cell? ⟨wr.heap.size,3,none⟩=some (.int .i64 it.lo)/\W.cell? ⟨wr.heap.size,4,none⟩=some (.int .i64 it.hi)/\W.cell? ⟨W1.heap.size,0,none⟩=some (.string t.name)/\W.cell? ⟨W1.heap.size,1,none⟩=some (.slice (some ⟨ba,oa,none⟩) t.attrs.length ct)/\W.cell? ⟨wo.heap.size,1,none⟩=some (.int .i64 x.at_)) (S1:=λ_=>True) kQ ?_;refine' aq 0 rfl oV ?_;refine' aq 1 rfl oV ?_;refine' aq 2 rfl oV ?_;refine' aq 3 rfl oV ?_;try simp only[Act.put,aK]
    refine Gs 4 rfl λK hK=>?_
    go_simp;go_at_call 60;refine Za.o.mono ?_;rintro e W' ⟨rfl,rfl⟩;refine hK.o _ _ ⟨⟨kZ.o _ (bR).drew,kS.o _ (bR).drew⟩,λ_=>trivial⟩ ?_;clear hK K;try simp only[Act.put,aK]
    cases cb with
    |false=>
     refine' aq 5 rfl oV ?_;refine' nV 6 rfl oV ?_;refine' nV 7 rfl oV ?_;refine' nV 8 rfl oV ?_;refine' nV 9 rfl oV ?_;refine' nV 10 rfl oV ?_;refine' nV 11 rfl oV ?_;refine' nV 12 rfl oV ?_;refine' nV 13 rfl oV ?_;refine' nV 14 rfl oV ?_;refine' nV 15 rfl oV ?_;refine' nV 16 rfl oV ?_;refine' nV 17 rfl oV ?_;refine' nV 18 rfl oV ?_;refine' nV 19 rfl oV ?_;try simp only[Act.put,aK]
     refine Gs 20 rfl λK hK=>?_
     go_simp;refine hK.o _ _ ⟨oV.1,λ_=>trivial⟩ ?_;clear hK K;refine Gd _ ?_;try simp only[Act.put,aK]
     have hno:=Hd (Zb.o (by rw[hh.o];rfl));clear oV;go_wp2;go_roundw
     .exact⟨k+1,oQ,gQ,kX.o _ (bR).drew,hno.o⟩
     exact mQ
    |true=>
     refine' aq 5 rfl oV ?_;refine' aq 6 rfl oV ?_;refine' aq 7 rfl oV ?_;refine' aq 8 rfl oV ?_;refine' aq 9 rfl oV ?_;refine' aq 10 rfl oV ?_;refine' aq 11 rfl oV ?_;refine' aq 12 rfl oV ?_;refine' aq 13 rfl oV ?_;refine' aq 14 rfl oV ?_;refine' aq 15 rfl oV ?_;refine' aq 16 rfl oV ?_;refine' aq 17 rfl oV ?_;try simp only[Act.put,aK]
     refine Gs 18 rfl λK hK=>?_
     go_simp;go_at_call 61;refine(Ht.o W3.drew (bR).drew z).eQ λW4 fI=>?_;have fP:=Hd ((zB W3.heap.size W3).drew.trans fI);refine hK.o _ _ ⟨⟨kZ.o _ fP.o,kS.o _ fP.o⟩,λ_=>trivial⟩ ?_;have Dq:=xW (xW (kZ.o _ fP.o) (kS.o _ fP.o)) trivial;clear hK K oV fI;rw[f2,Bool.false_or,xE]at hh;generalize pU q it.v z=nb at hh |-;refine' aq 19 rfl Dq ?_;try simp only[Act.put,aK]
     refine Gs 20 rfl λK hK=>?_
     go_simp;refine hK.o _ _ ⟨Dq.1,λ_=>trivial⟩ ?_;clear hK K;refine Gd _ ?_;try simp only[Act.put,aK]
     clear Dq;cases nb with
     |true=>
      have hy:=kE.o hh.o;have jj:W4.cell? ⟨wo.heap.size,2,none⟩=some (.int .i64 x.au):=(kX.o _ fP.o).bl.cell 2;subst hy;go_wp2;go_ret2;exact⟨rfl,(kX.o _ fP.o).hb⟩
     |false=>
      have hno:=Hd (Zb.o hh.o);go_wp2;go_roundw
      .exact⟨k+1,oQ,gQ,kX.o _ fP.o,hno.o⟩
      exact mQ
  .obtain rfl:k=q.items.length:=oQ;have hno:=Hd (mB.o (by
    rw[List.any_eq_false];intro y hy;obtain⟨i,hi⟩:=zN hy;rw[ej.o i y hi (zC.1 hi).1];simp))
   replace hX:=Hd hX;go_wp2;go_roundw
   .exact⟨j+1,oQ,gQ,hX.o.hb,hno.o⟩
   exact mQ
 .obtain rfl:j=nl.length:=oQ;have ho:=nk.o hp.o;subst ho;go_wp2;go_ret2;exact⟨rfl,hB⟩
end di
theorem Hu (a b:Int):(a==b)=decide (a=b):=by
 by_cases h:a=b
 .rw[zW h,h];simp
 .rw[zV h];simpa using h
def lD (o:Option ByteArray)(w:World)(e:Ending)(w':World):Prop:=e=.returned (.tuple #[.string (o.getD emp),.bool o.isSome])/\Bw w w'
theorem lD.no {o w w'}(h:o=none)(hb:Bw w w'):lD o w (.returned (.tuple #[.string emp,.bool false])) w':=by subst h;exact⟨rfl,hb⟩
theorem lD.yes {o s w w'}(h:o=some s)(hb:Bw w w'):lD o w (.returned (.tuple #[.string s,.bool true])) w':=by subst h;exact⟨rfl,hb⟩
theorem Vf {ty fr k r out}(h:k.fr≠ty):nu ty fr (k::r) out=nu ty fr r out:=by rw[nu,if_pos h]
theorem Vg {ty fr k r out}(h:k.fr=ty)(hf:k.fs.find? (λf=>decide (f.fr=fr))=none):nu ty fr (k::r) out=none:=by rw[nu,if_neg (λh2=>h2 h),hf]
theorem Rb {ty fr k r out f}(h:k.fr=ty)(hf:k.fs.find? (λf=>decide (f.fr=fr))=some f)(h2:out≠emp)(h3:f.nm≠out):nu ty fr (k::r) out=none:=by rw[nu,if_neg (λh2=>h2 h),hf];exact if_pos ⟨h2,h3⟩
theorem Vh {ty fr k r out f}(h:k.fr=ty)(hf:k.fs.find? (λf=>decide (f.fr=fr))=some f)(h2:out=emp\/f.nm=out):nu ty fr (k::r) out=nu ty fr r f.nm:=by
 rw[nu,if_neg (λh2=>h2 h),hf];exact if_neg λh3=>h2.elim h3.1 h3.2
theorem lE {α:Type}{l:List α}{i x}(h:l[i]? =some x):l.drop i=x::l.drop (i+1):=by
 obtain⟨hi,e⟩:=zC.1 h;rw[List.drop_eq_getElem_cons hi,e]
namespace di
open cH
theorem Rc (nm fr ty v q W)(hq:W.cell? ⟨q,0,none⟩=some (.int .i64 ty)):
  Cl 107 #[.agg #[.string nm,.int .i64 fr,v],.pointer (some ⟨q,0,none⟩)] W λe w'=>e=.returned (.bool (decide (fr=ty)))/\Bw W w':=by
 rw[<-Hu];have hb:=Hd ((zB W.heap.size W).alloc nR (.cells ⟨[.string nm,.int .i64 fr,v]⟩ 115));have mV:q<W.heap.size:=zX W _ hq;have hne:q≠W.heap.size:=oQ;go_enter func107,ntmps107;go_wp2;go_ret;exact⟨rfl,hb.o⟩
theorem Re (nm fr fl ty q W)(hq:W.cell? ⟨q,0,none⟩=some (.int .i64 ty)):
  Cl 113 #[.agg #[.string nm,.int .i64 fr,.int .i64 fl],.pointer (some ⟨q,0,none⟩)] W λe w'=>e=.returned (.bool (decide (fr=ty)))/\Bw W w':=by
 rw[<-Hu];have hb:=Hd ((zB W.heap.size W).alloc nR (.cells ⟨[.string nm,.int .i64 fr,.int .i64 fl]⟩ 117));have mV:q<W.heap.size:=zX W _ hq;have hne:q≠W.heap.size:=oQ;go_enter func113,ntmps113;go_wp2;go_ret;exact⟨rfl,hb.o⟩
theorem FW {w B gt g F A c S T nl q s}(h:TX w B gt g F A c S T nl q s)(hS:iI S)(hT:T.length<=1048576)(n):
  Cl 62 #[.pointer (some ⟨gt,0,none⟩),.string n] w λe w'=>e=.returned (.string (eZ S T n))/\Bw w w':=by
 obtain⟨x0,x1,_,_,_,_,_,_,_⟩:=h.cells;have qe:=h.bt.lt;obtain⟨vk,vl,au,l,hD,Pa⟩:=h.ds;have J6:=hD.bx.lt;obtain⟨Ak,ck,rfl⟩:=hD.kr.form;have yA:l.length<=1048576:=by rw[<-Pa]at hT;simpa using hT
 have d0:=hD.c0;have k1:=ot A c F S n hS.1 w h.qr.lt h.rs;have kx:=λW (hW:Bw w W)=>xW ((h.stay hW).cells.2.1) ((hD.stay hW).c0)
 obtain⟨ty,hty⟩:=aB (aj (aY S) n)
 have k2:∀W,Bw w W->Cl 75 #[.slice Ak l.length ck,.func (.func 107) #[] #[.pointer (some ⟨W.heap.size,0,none⟩)]] (W.alloc (.cells ⟨[.int .i64 ty]⟩ 3)) λe w'=>e=.returned (.int .i64 (cm (l.findIdx? λx=>decide (x.1.fr=ty))))/\Below (W.alloc (.cells ⟨[.int .i64 ty]⟩ 3)).heap.size (W.alloc (.cells ⟨[.int .i64 ty]⟩ 3)) w':=λW hW=>by
  have hDW:=(hD.stay hW).stay (bX (.cells ⟨[.int .i64 ty]⟩ 3));refine QU Ak ck (λb=>b<(W.alloc (.cells ⟨[.int .i64 ty]⟩ 3)).heap.size) l (λx=>decide (x.1.fr=ty)) W.heap.size yA _ (λb h=>h) (hDW.kr.rd (λb hb _=>hb.elim) (λb _ hb=>hb)) λW2 aX x _=>Rc x.1.nm x.1.fr ty x.2 W.heap.size W2 ?_
  exact((ao.new W 3 [.int .i64 ty]).stay aX).cell 0
 have si:eZ S T n=match l.findIdx? (λx=>decide (x.1.fr=ty))with |some i=>(match l[i]? with |some p=>p.1.nm |none=>emp)|none=>emp:=by
  unfold eZ;rw[<-Pa,<-hty];have e:=Mm (l:=l) (f:=λx:Kd×Value=>x.1) (p:=λk=>decide (k.fr=ty));cases hf:l.findIdx? (λx=>decide (x.1.fr=ty))with
  |none=>rw[hf]at e;rw[Dp e]
  |some i=>
   rw[hf]at e;obtain⟨k,h1,_,h3⟩:=qF e;rw[h3];rw[zG]at h1;obtain⟨p,hp,rfl⟩:=xG.1 h1;simp only[hp]
 rw[si];rw[show aj (S.map (·.name)) n=aj (aY S) n from rfl,<-hty]at k1;have kd:=λW (hW:Bw w W) i p (hp:l[i]? =some p)=>(hD.stay hW).at_ hp
 clear hD si hty h;have CV:=tS
 cases hf:l.findIdx? (λx=>decide (x.1.fr=ty))with
 |none=>
  rw[hf]at k2;replace⟨k2,k1,kx⟩:=H3 k2 k1 kx;clear hf kd;go_enter func62,ntmps62;go_wp2_with (first
   |(go_at_call 66;refine k1.o.mono ?_;rintro e W1 ⟨rfl,a9⟩;obtain⟨y1,y2⟩:=kx.o W1 a9;have eC:=a9.size;have cL:=zF qe a9.size;have Rf:=zF J6 a9.size;replace a9:=Hd a9)
   |(go_at_call 75;refine(k2.o W1 a9.o).eQ λW2 aX=>?_;replace aX:=Hd aX;simp only[cm]))
  go_ret;exact⟨rfl,(a9.o.alloc eC _).trans (aX.o.mono (by simp;omega))⟩
 |some i=>
  obtain⟨p,hp,_,_⟩:=qF hf;have iT:=(zC.1 hp).1;rw[hf]at k2;simp only[hp];have kd':=λW (hW:Bw w W)=>kd W hW i p hp
  obtain⟨gk,cap,eA,_,Vi,_⟩:=kd' w bR;injection eA with e1 e2 e3
  subst e1 e3;have kd2:∀W,Bw w W->W.cell? ⟨gt,1,none⟩=some (.pointer (some ⟨g,0,none⟩))/\W.cell? ⟨g,0,none⟩=some (.slice (some ⟨gk,0,none⟩) l.length ck)/\W.cell? ⟨gk,i*3,none⟩=some (.string p.1.nm):=λW hW=>by
   obtain⟨gk',cap',e,_,_,_,v0,_,_⟩:=kd' W hW;injection e with e1 _ _
   injection e1 with e1
   injection e1 with e1
   subst e1;obtain⟨z1,z2⟩:=kx W hW;exact⟨z1,z2,v0⟩
  have g0:=aH i;have g1:=aV i l.length;replace⟨k2,k1,kx,kd2⟩:=H4 k2 k1 kx kd2;clear hf kd kd' hp e2;go_enter func62,ntmps62;go_wp2_with (first
   |(go_at_call 66;refine k1.o.mono ?_;rintro e W1 ⟨rfl,a9⟩;obtain⟨y1,y2⟩:=kx.o W1 a9;have eC:=a9.size;have cL:=zF qe a9.size;have Rf:=zF J6 a9.size;replace a9:=Hd a9)
   |(go_at_call 75;refine(k2.o W1 a9.o).eQ λW2 aX=>?_;have Rg:=Hd ((a9.o.alloc eC (.cells ⟨[.int .i64 ty]⟩ 3)).trans (aX.mono (by simp;omega)));clear aX;obtain⟨z1,z2,z3⟩:=kd2.o W2 Rg.o;simp only[cm]))
  go_ret;exact⟨rfl,Rg.o⟩
end di
theorem Mv {S T a n r out o}(h:nu (aj (aY S) n) (bG S (aj (aY S) n) a) T out=some o):vq S T a (n::r) out=vq S T a r o:=by rw[vq,h]
theorem Mw {S T a n r out}(h:nu (aj (aY S) n) (bG S (aj (aY S) n) a) T out=none):vq S T a (n::r) out=none:=by rw[vq,h]
theorem Dt {S T ah a}(gw:a≠jk)(h:vq S T a ah emp=none):bJ S T ah a=none:=by unfold bJ;rw[if_neg gw,h]
theorem FZ {S T ah a}(gw:a≠jk)(h:vq S T a ah emp=some emp):bJ S T ah a=none:=by unfold bJ;rw[if_neg gw,h];exact if_pos rfl
theorem Du {S T ah a o}(gw:a≠jk)(h:vq S T a ah emp=some o)(ho:o≠emp):bJ S T ah a=some o:=by unfold bJ;rw[if_neg gw,h];exact if_neg ho
namespace di
open cH dR
theorem vy {w B gt g F A c S T nl q s}(h:TX w B gt g F A c S T nl q s)(hS:iI S)(hT:T.length<=1048576)(sj:∀k∈T,k.fs.length<=1048576)(A5 c5 G ah a)(hl:ah.length<=1048576)(hG:∀b,G b->b<w.heap.size)(rt:Rd w G (.slice A5 ah.length c5) (.sl ah.length (ah.flatMap aG))):
  Cl 64 #[.pointer (some ⟨gt,0,none⟩),.slice A5 ah.length c5,.string a] w (lD (bJ S T ah a) w):=by
 by_cases gw:a=jk
 .have f0:=jF gw;have ae:bJ S T ah a=some a:=by unfold bJ;rw[if_pos gw,gw]
  replace⟨gw,ae⟩:=H2 gw ae;clear h rt;go_enter func64,ntmps64;go_wp2;go_ret2;exact lD.yes ae.o bR
 have f0:=gK gw;obtain⟨x0,x1,_,_,_,_,_,_,_⟩:=h.cells;have qe:=h.bt.lt;obtain⟨vk,vl,au,l,hD,Pa⟩:=h.ds;have J6:=hD.bx.lt;obtain⟨Ak,ck,rfl⟩:=hD.kr.form;have yA:l.length<=1048576:=by rw[<-Pa]at hT;simpa using hT
 have Vj:l.length=T.length:=by rw[<-Pa];simp
 have d0:=hD.c0;have k1:=λn W (hW:Bw w W)=>ot A c F S n hS.1 W (h.qr.under hW).lt (h.rs.under hW h.qr.lt)
 have k3:=λt W (hW:Bw w W)=>CK A c F S t a hS W (h.qr.under hW).lt (h.rs.under hW h.qr.lt)
 have kx:=λW (hW:Bw w W)=>xW ((h.stay hW).cells.1) (xW ((h.stay hW).cells.2.1) ((hD.stay hW).c0))
 have kty:=λ(i:Nat) n W (hW:Bw w W)(hn:ah[i]? =some n)=>dN (rt.under hW hG) hn
 obtain⟨R0,ek⟩:=aB (bJ S T ah a)
 rw[<-ek];have e1:vq S T a ah emp=none->R0=none:=λh=>by rw[ek];exact Dt gw h
 have e2:vq S T a ah emp=some emp->R0=none:=λh=>by rw[ek];exact FZ gw h
 have e3:∀o,vq S T a ah emp=some o->o≠emp->R0=some o:=λo h h2=>by rw[ek];exact Du gw h h2
 clear ek;have CV:=tS
 have hD0:=Hd hD;replace⟨k1,k3,kx,kty,e1,e2,e3,sj,Pa,Vj,gw⟩:=SI k1 k3 kx kty e1 e2 e3 sj Pa Vj gw;clear h hD hS rt hG x0 x1 d0 hT;go_enter func64,ntmps64;go_wp2;go_loopw [8,21] (λv i wr=>∃(k:Nat)(o:ByteArray),k<=ah.length/\v=.string o/\i=.int .i64 k/\Bw w wr/\Hid (vq S T a ah emp=vq S T a (ah.drop k) o)) (λ_ i _=>ah.length- (intOf i).toNat)
 .exact⟨0,emp,zE _,rfl,rfl,bR,rfl⟩
 obtain⟨k,o,hk,rfl,rfl,hB,hp⟩:=hrel;by_cases hlt:k<ah.length
 .obtain⟨n,hn⟩:=av hlt;obtain⟨b5,o5,rfl,_,a0⟩:=kty.o k n wr hB hn;have g0:=aH k;have g1:=aV k ah.length;have vz:=lE hn;rw[vz]at hp;have kE:∀o2,nu (aj (aY S) n) (bG S (aj (aY S) n) a) T o=some o2->Hid (vq S T a ah emp=vq S T a (ah.drop (k+1)) o2):=λo2 h=>by show _=_;rw[hp.o,Mv h]
  have hno:nu (aj (aY S) n) (bG S (aj (aY S) n) a) T o=none->R0=none:=λh=>e1.o (by rw[hp.o,Mw h])
  obtain⟨ty,hty⟩:=aB (aj (aY S) n)
  have eW:=k1.o n wr hB;rw[show aj (S.map (·.name)) n=aj (aY S) n from rfl]at eW;rw[<-hty]at eW kE hno;have Ag:=k3.o ty;obtain⟨fr,sV⟩:=aB (bG S ty a)
  rw[<-sV]at Ag kE hno;obtain⟨y0,y1,y2⟩:=kx.o wr hB;have rA:=hB.size;replace⟨eW,Ag,kE,hno,hn,vz,hty,sV⟩:=H8 eW Ag kE hno hn vz hty sV;obtain⟨wo,gU⟩:=aB wr
  subst gU;go_wp2_with (first
   |(go_at_call 66;refine eW.o.mono ?_;rintro e W1 ⟨rfl,a9⟩;have az:=hB.trans (a9.mono hB.size);clear y0 y1 y2;obtain⟨y0,y1,y2⟩:=kx.o W1 az;replace az:=Hd az;clear a9)
   |(go_at_call 111;refine(Ag.o W1 az.o).eQ λW2 aX=>?_;have cD:=az.o.trans (aX.mono az.o.size);clear y0 y1 y2;obtain⟨y0,y1,y2⟩:=kx.o W2 cD;have hz0:=cD.size;have cL:=zF qe cD.size;have Rf:=zF J6 cD.size;replace cD:=Hd cD;clear aX))
  clear y0 y1 y2 a0;have Ah:Hid (Bw w (W2.alloc (.cells ⟨[.int .i64 fr]⟩ 3))/\ao (W2.alloc (.cells ⟨[.int .i64 fr]⟩ 3)) W2.heap.size 3 [.int .i64 fr]):=⟨cD.o.alloc hz0 _,ao.new _ _ _⟩;go_loopw [8,46] (λv i wr=>∃(m:Nat)(o2:ByteArray),m<=l.length/\v=.string o2/\i=.int .i64 m/\Bw w wr/\ao wr W2.heap.size 3 [.int .i64 fr]/\Hid (nu ty fr T o=nu ty fr (T.drop m) o2)) (λ_ i _=>l.length- (intOf i).toNat)
  .exact⟨0,o,zE _,rfl,rfl,Ah.o.1,Ah.o.2,rfl⟩
  clear Ah;obtain⟨m,o2,hm,rfl,rfl,fy,hbq,ej⟩:=hrel;by_cases oK:m<l.length
  .obtain⟨p,fe⟩:=av oK;have Pc:T[m]? =some p.1:=by rw[<-Pa.o,zG,fe];rfl
   have Dv:=hD0.o.stay fy;obtain⟨gk,cap,eA,_,Vi,_,v0,v1,v2⟩:=Dv.at_ fe;injection eA with e1' e2' e3'
   subst e1' e3';clear e2';have Es:=zA fe;have yB:=sj.o p.1 (zA Pc);have Dw:=Dv.fr p Es;obtain⟨Af,cf,pT⟩:=Dw.form;rw[pT]at v2 Dw;have g2:=aH m;have g3:=aV m l.length;have Mx:=lE Pc;rw[Mx]at ej;have jv:Bw wr (wr.alloc (.cells ⟨[.string p.1.nm,.int .i64 p.1.fr,.slice Af p.1.fs.length cf]⟩ 115)):=bA;have Dx:=Hd (fy.alloc fy.size (.cells ⟨[.string p.1.nm,.int .i64 p.1.fr,.slice Af p.1.fs.length cf]⟩ 115));have Rh:=Hd (hbq.alloc (.cells ⟨[.string p.1.nm,.int .i64 p.1.fr,.slice Af p.1.fs.length cf]⟩ 115));by_cases hne:p.1.fr=ty
   .have f1:(p.1.fr != ty)=false:=(by rw[bne_eq_false_iff_eq];exact hne);have kf:Cl 112 #[.slice Af p.1.fs.length cf,.func (.func 113) #[] #[.pointer (some ⟨W2.heap.size,0,none⟩)]] (wr.alloc (.cells ⟨[.string p.1.nm,.int .i64 p.1.fr,.slice Af p.1.fs.length cf]⟩ 115)) λe w'=>e=.returned (.int .i64 (cm (p.1.fs.findIdx? λf=>decide (f.fr=fr))))/\Below (wr.alloc (.cells ⟨[.string p.1.nm,.int .i64 p.1.fr,.slice Af p.1.fs.length cf]⟩ 115)).heap.size (wr.alloc (.cells ⟨[.string p.1.nm,.int .i64 p.1.fr,.slice Af p.1.fs.length cf]⟩ 115)) w':=by
     refine QV Af cf (λb=>b<(wr.alloc (.cells ⟨[.string p.1.nm,.int .i64 p.1.fr,.slice Af p.1.fs.length cf]⟩ 115)).heap.size) p.1.fs (λf=>decide (f.fr=fr)) W2.heap.size yB _ (λb h=>h) ((Dw.stay jv).rd (λb hb _=>hb.elim) (λb _ hb=>hb)) λW4 fP x _=>Re x.nm x.fr x.fl fr W2.heap.size W4 ?_
     exact(Rh.o.stay fP).cell 0
    obtain⟨W3,pV⟩:=aB (wr.alloc (.cells ⟨[.string p.1.nm,.int .i64 p.1.fr,.slice Af p.1.fs.length cf]⟩ 115))
    have l4:ao W3 wr.heap.size 115 [.string p.1.nm,.int .i64 p.1.fr,.slice Af p.1.fs.length cf]:=(by rw[pV];exact ao.new _ _ _);rw[<-pV]at kf Dx Rh jv;have My:=Dw.stay jv;have adB:=jv.size;have aiR:wr.heap.size<W3.heap.size:=l4.lt;replace⟨Dx,l4,Dv,fe,Pc,Mx⟩:=H6 Dx l4 Dv fe Pc Mx;replace pV:=Hd pV.symm;replace jv:=Hd jv;cases yC:p.1.fs.findIdx? (λf=>decide (f.fr=fr))with
    |none=>
     rw[yC]at kf;simp only[cm]at kf;have hR:=Hd (hno.o (by rw[ej.o,Vg hne (Dp yC)]));replace⟨kf,hne,yC,Dw,My,pT⟩:=H6 kf hne yC Dw My pT;go_upto_region 13 with fail
     rw[pV.o];clear v0 v1 v2;have b2:W3.cell? ⟨wr.heap.size,2,none⟩=some (.slice Af p.1.fs.length cf):=l4.o.cell 2;go_wp2_with (go_at_call 112;refine kf.o.mono ?_;rintro e W4 ⟨rfl,fP⟩);go_ret2;exact lD.no hR.o (Dx.o.o.trans (fP.mono Dx.o.o.size))
    |some i=>
     obtain⟨f,qc,_,F0⟩:=qF yC;rw[yC]at kf;simp only[cm]at kf;have iT:=(zC.1 qc).1;obtain⟨gf,gX,eF,_,hgf,_,EA⟩:=My.row oQ;injection eF with q1 q2 q3
     subst q1 q3;clear q2;obtain⟨u0,Ey,Tk⟩:=EA (i*3+0) _ (po (f:=dt) (m:=3) (λ_=>rfl) qc rfl);rw[Tk.bH]at Ey;have g4:=aH i;have g5:(i:Int)<p.1.fs.length:=oQ;have kq:=λW (hW:Bw W3 W)=>xW ((l4.o.stay hW).cell 2) ((hW.cell (p:=⟨gf,i*3,none⟩) hgf).trans Ey)
     have nB:o2≠emp->f.nm≠o2->R0=none:=λh h2=>hno.o (by rw[ej.o,Rb hne F0 h h2])
     have cK:(o2=emp\/f.nm=o2)->Hid (nu ty fr T o=nu ty fr (T.drop (m+1)) f.nm):=λh=>by show _=_;rw[ej.o,Vh hne F0 h]
     replace⟨kf,kq,nB,cK,hne,yC,F0,qc,Dw,My,pT⟩:=SI kf kq nB cK hne yC F0 qc Dw My pT;clear EA Tk Ey;go_upto_region 13 with fail
     rw[pV.o];clear v0 v1 v2;obtain⟨b2,b3⟩:=kq.o W3 bR;go_upto_region 14 with(go_at_call 112;refine kf.o.mono ?_;rintro e W4 ⟨rfl,fP⟩;clear b2 b3;obtain⟨b2,b3⟩:=kq.o W4 fP;have fI:=Hd (Dx.o.o.trans (fP.mono Dx.o.o.size));have hq4:=Hd (Rh.o.stay fP);clear fP)
     by_cases wX:o2=emp
     .have hgo:=Hd (cK.o (.inl wX));have f3:o2.toList.isEmpty=true:=by rw[wX,show emp.toList=[] by rw[ByteArray.toList_eq];rfl];rfl
      have f4:(o2.toList != ([]:List UInt8))=false:=(by rw[bne,aN,zW wX];rfl);replace wX:=Hd wX;go_wp2;go_roundw
      .exact⟨m+1,f.nm,oQ,rfl,gQ,fI.o,hq4.o,hgo.o⟩
      exact mQ
     .have f3:o2.toList.isEmpty=false:=by
       have:=aN o2;rw[zV wX]at this;cases ho:o2.toList with
       |nil=>rw[ho]at this;simp at this
       |cons=>rfl
      have f4:(o2.toList != ([]:List UInt8))=true:=(by rw[bne,aN,zV wX];rfl);by_cases si:f.nm=o2
      .have hgo:=Hd (cK.o (.inr si));have f5:(f.nm.toList != o2.toList)=false:=by rw[bne,ji,zW si];rfl
       have f6:(f.nm.toList==o2.toList)=true:=(by rw[ji,zW si]);replace⟨wX,si⟩:=H2 wX si;go_wp2;go_roundw
       .exact⟨m+1,f.nm,oQ,rfl,gQ,fI.o,hq4.o,hgo.o⟩
       exact mQ
      .have hR:=Hd (nB.o wX si);have f5:(f.nm.toList != o2.toList)=true:=by rw[bne,ji,zV si];rfl
       have f6:(f.nm.toList==o2.toList)=false:=(by rw[ji,zV si]);replace⟨wX,si⟩:=H2 wX si;go_wp2;go_ret2;exact lD.no hR.o fI.o
   .have f1:(p.1.fr != ty)=true:=gL hne;have hgo:Hid (nu ty fr T o=nu ty fr (T.drop (m+1)) o2):=by show _=_;rw[ej.o,Vf hne]
    replace⟨hne,fe,Pc,Mx,Dv,pT⟩:=H6 hne fe Pc Mx Dv pT;go_wp2;go_roundw
    .exact⟨m+1,o2,oQ,rfl,gQ,Dx.o,Rh.o,hgo.o⟩
    exact mQ
  .obtain rfl:m=l.length:=oQ;have ae:nu ty fr T o=some o2:=by rw[ej.o,Vj.o,List.drop_length];rfl
   have hgo:=kE.o o2 ae;replace ae:=Hd ae;go_wp2;go_roundw
   .exact⟨k+1,o2,oQ,rfl,gQ,fy,hgo⟩
   exact mQ
 .obtain rfl:k=ah.length:=oQ;have ae:vq S T a ah emp=some o:=by rw[hp.o,List.drop_length];rfl
  by_cases ho:o=emp
  .have hR:=Hd (e2.o (by rw[ae,ho]));subst ho;have f3:emp.toList.isEmpty=true:=by rw[show emp.toList=[] by rw[ByteArray.toList_eq];rfl];rfl
   replace ae:=Hd ae;go_wp2;go_ret2;exact lD.no hR.o hB
  .have hR:=Hd (e3.o o ae ho);have f1:(o.toList==([]:List UInt8))=false:=by rw[aN];exact zV ho
   have f2:(o.toList != ([]:List UInt8))=true:=(by rw[bne,f1];rfl);replace⟨ae,ho⟩:=H2 ae ho;go_wp2;go_ret2;exact lD.yes hR.o hB
end di
section
variable {P:Program}{ops:Array Oper}{Q:Exit->Act->World->Prop}{md:Region.Mode}{S0 S1:World->Prop}{p:Nat}
theorem sW {k1 k2 o1 o2 n L a w}(hr:Region.ready md ops L=[k1,k2])(Zc:ops[k1]? =some o1)(wX:ops[k2]? =some o2)(h1:∀K':Act->World->Prop,Hid (∀a w',SG p S0 S1 (L.setIfInBounds k1 true) w'->iZ P md ops Q (SG p S0 S1) n (L.setIfInBounds k1 true) a w'->K' a w')->if Region.wanted o1 (yielded ops a.tmps)=true then Oper.wp P o1 a w K' Q else K' (a.put o1.dst undef) w)(h2:∀K':Act->World->Prop,Hid (∀a w',SG p S0 S1 (L.setIfInBounds k2 true) w'->iZ P md ops Q (SG p S0 S1) n (L.setIfInBounds k2 true) a w'->K' a w')->if Region.wanted o2 (yielded ops a.tmps)=true then Oper.wp P o2 a w K' Q else K' (a.put o2.dst undef) w):iZ P md ops Q (SG p S0 S1) (n+1) L a w:=by
 refine⟨(λh0=>by rw[h0]at hr;cases hr),λi hi=>?_⟩;rw[hr]at hi;rcases List.mem_cons.1 hi with rfl |hi
 .exact wpOp_step Zc λK' hK=>h1 K' (Hd λa w' h1 h2=>hK a w' ⟨h1,h2⟩)
 .rcases xB.1 hi with rfl
  exact wpOp_step wX λK' hK=>h2 K' (Hd λa w' h1 h2=>hK a w' ⟨h1,h2⟩)
theorem bh {o:Oper}{a w K E}(EI:o.guard=none)(ty x y)(ho:o.op=.store ty x y){g t cs cs'}(h:ao w g t cs)(T:jV P ty cs'.length)(hl:cs'.length=cs.length)(hx:a.eval x=.pointer (some ⟨g,0,none⟩))(hy:a.eval y=.agg ⟨cs'⟩)(h1:cs'.all (·.oneCell')=true)(hk:∀w',ao w' g t cs'->w.grownBy w' (some g)->K (a.put o.dst undef) w'):if Region.wanted o (yielded ops a.tmps)=true then Oper.wp P o a w K Q else E:=by
 have hw:Region.wanted o (yielded ops a.tmps)=true:=by simp[Region.wanted,EI]
 rw[if_pos hw];obtain⟨d,hu,hd,hi⟩:=T;obtain⟨h2,h3⟩:=qT cs' 0 w cs h oQ;refine wp_store_mid ty x y ho g 0 ⟨cs'⟩ hx hy (λj hj=>?_) hi (by simpa using h1) (hk _ (by simpa using h2) h3);rw[Nat.zero_add];refine⟨?_,h.frozen j⟩;rw[h.cell,zI (by simp at hj;omega)];rfl
end
theorem Mz (x):fD (b9 x):=λd hd=>by
 simp only[b9,List.mem_cons,List.not_mem_nil,or_false]at hd;rcases hd with rfl |rfl |rfl |rfl |rfl |rfl<;>exact⟨_,rfl⟩
theorem MA (l:List Nd):(l.flatMap b9).length=l.length*6:=BO (f:=b9) (m:=6) (λ_=>rfl) l
theorem OL.AV (w:World)(T size:Nat):OL (w.alloc (.cells #[] T)) w.heap.size eL T size (.slice (some ⟨w.heap.size,0,none⟩) 0 0) 0 []:=
 ⟨[],⟨sJ,.inr ⟨w.heap.size,0,#[],rfl,nR,heap_alloc_new w _,nR,zE _,sJ,sJ⟩⟩,rfl,λk d h=>by simp at h⟩
theorem Zd:jV prog 60 5:=⟨_,underlying60,rfl,kQ⟩
def vA (o:Option (List Nd))(w:World)(e:Ending)(w':World):Prop:=∃v,e=.returned (.tuple #[v,.bool o.isSome])/\(∀t,o=some t->OL w' w.heap.size eL 63 6 v t.length (t.flatMap b9))/\(∃A n c,v=.slice A n c)/\Bw w w'
theorem vA.no {o w w'}(h:o=none)(hb:Bw w w'):vA o w (.returned (.tuple #[.slice none 0 0,.bool false])) w':=by subst h;exact⟨_,rfl,λt h=>(by cases h),⟨_,_,_,rfl⟩,hb⟩
theorem vA.yes {o t A n c w w'}(h:o=some t)(hO:OL w' w.heap.size eL 63 6 (.slice A n c) t.length (t.flatMap b9))(hb:Bw w w'):vA o w (.returned (.tuple #[.slice A n c,.bool true])) w':=by
 subst h;exact⟨_,rfl,λt h=>(by injection h with h;subst h;exact hO),⟨_,_,_,rfl⟩,hb⟩
theorem Ze {S T q}(l m):bB S T q (l++m)=(bB S T q l).bind λa=>(bB S T q m).map (a++ ·):=by
 induction l with
 |nil=>show bB S T q m=(bB S T q m).map (λx=>[]++x);cases bB S T q m<;>rfl
 |cons x r ih=>
  show(match ij S T q x with |none=>none |some y=>(bB S T q (r++m)).map (y:: ·))=(match ij S T q x with |none=>none |some y=>(bB S T q r).map (y:: ·)).bind _
  cases ij S T q x with
  |none=>rfl
  |some y=>
   simp only;rw[ih];cases bB S T q r with
   |none=>rfl
   |some a=>cases bB S T q m<;>rfl
theorem yD {S T q t ys j x y}(hx:t[j]? =some x)(hy:ij S T q x=some y)(h:bB S T q t=(bB S T q (t.drop j)).map (ys++ ·)):bB S T q t=(bB S T q (t.drop (j+1))).map ((ys++[y])++ ·):=by
 rw[h,lE hx,bB,hy];cases bB S T q (t.drop (j+1))with
 |none=>rfl
 |some a=>simp
theorem Jl {S T q t ys j x}(hx:t[j]? =some x)(hy:ij S T q x=none)(h:bB S T q t=(bB S T q (t.drop j)).map (ys++ ·)):bB S T q t=none:=by
 rw[h,lE hx,bB,hy];rfl
theorem Vk {ys x r s j}(hj:ys.length=j):((ys++x::r).flatMap b9).set (j*6+3) (.v (.string s))=((ys++[{x with at_:=s}])++r).flatMap b9:=by
 subst hj;rw[xD,xD,xD,zK,List.set_append,MA,if_neg oQ,zR];congr 1;rw[show ys.length*6+3-ys.length*6=3 by omega,List.set_append,if_pos (by show 3<6;omega)];simp[b9]
theorem MB (q v):aM q v=cm (q.items.findIdx? λy=>decide (y.v=v)):=by
 unfold aM aj lZ;rw[Mm];cases q.items.findIdx? (λy=>decide (y.v=v))<;>rfl
theorem Ri {q v}(h:∃it∈q.items,it.v=v):∃(i:Nat)(it:It),q.items.findIdx? (λy=>decide (y.v=v))=some i/\q.items[i]? =some it/\q.items[(aM q v).toNat]? =some it:=by
 cases hf:q.items.findIdx? (λy=>decide (y.v=v))with
 |none=>
  obtain⟨it,h1,h2⟩:=h;rw[List.findIdx?_eq_none_iff]at hf;have:=hf it h1;simp[h2]at this
 |some i=>
  obtain⟨it,hi,_,_⟩:=qF hf;exact⟨i,it,rfl,hi,by rw[MB,hf];exact hi⟩
theorem MC {S T q x}(h:x.at_=emp):ij S T q x=some x:=by unfold ij;rw[if_pos h]
theorem Rj {S T q x it}(h:x.at_≠emp)(h2:q.items[(aM q x.v).toNat]? =some it):ij S T q x=(bJ S T it.ah x.at_).map λa=>{x with at_:=a}:=by unfold ij;rw[if_neg h,h2]
namespace di
open cH dR
theorem Jm (A c F)(l:List Nd)(hl:l.length<=1048576)(w)(r:Rd w F (.slice A l.length c) (.sl l.length (l.flatMap b9))):
  Cl 108 #[.slice A l.length c] w λe w'=>∃v,e=.returned v/\OL w' w.heap.size eL 63 6 v l.length (l.flatMap b9)/\Bw w w':=by
 have qK:=MA l;have Vl:∀(W:World)(a:Option Addr)(n c:Nat),(binOp .eql 28 (.slice a n c) (.slice none 0 0)).run prog W=.ok (.bool a.isNone) W:=λW a n c=>Lib.run_eql_slice_nil W _ _ a n c 0 0 underlying28
 cases A with
 |none=>
  obtain rfl:l=[]:=by
   cases l with
   |nil=>rfl
   |cons a l=>obtain⟨b,off,e,_⟩:=r.cells (by simp[b9]);cases e
  go_enter func108,ntmps108;go_wp2;go_ret;exact⟨_,rfl,.nil _ _ _ _ _,.refl _ _⟩
 |some a=>
  have r1:=r.alloc (.cells #[] 63);go_enter func108,ntmps108;go_wp2_with (at_builtin;refine ez rfl (.tmp 5) (.tmp 6) _ rfl (m:=l.length) (news:=l.flatMap b9) qY (OL.AV w 63 6) rfl rfl (Rd.Ie (fD.flatMap Mz l) r1) qK oQ oQ sJ ?_;intro v1 w1 ax aw bu;have ch:Bw w w1:=(bA).grown aw sJ (λq hq=>by simp[Value.ownBlock]at hq;omega));go_ret;exact⟨_,rfl,by simpa using ax,ch⟩
theorem Vm (x:It)(A2 c2 v q W)(hq:W.cell? ⟨q,2,none⟩=some (.string v)):
  Cl 110 #[.agg #[.bool x.neg,.slice A2 x.ah.length c2,.string x.v,.int .i64 x.lo,.int .i64 x.hi],.pointer (some ⟨q,0,none⟩)] W λe w'=>e=.returned (.bool (decide (x.v=v)))/\Bw W w':=by
 rw[<-ji];have hb:=Hd ((zB W.heap.size W).alloc nR (.cells ⟨[.bool x.neg,.slice A2 x.ah.length c2,.string x.v,.int .i64 x.lo,.int .i64 x.hi]⟩ 60));have mV:q<W.heap.size:=zX W _ hq;have hne:q≠W.heap.size:=oQ;go_enter func110,ntmps110;go_wp2;go_ret;exact⟨rfl,hb.o⟩
theorem sx {w B gt g F A c S T nl q s}(h:TX w B gt g F A c S T nl q s)(hs:jE q)(hS:iI S)(hT:T.length<=1048576)(sj:∀k∈T,k.fs.length<=1048576)(At ct G t)(hl:t.length<=1048576)(rt:Rd w G (.slice At t.length ct) (.sl t.length (t.flatMap b9)))(hit:∀x∈t,x.at_=emp\/∃it∈q.items,it.v=x.v):
  Cl 63 #[.pointer (some ⟨gt,0,none⟩),.slice At t.length ct] w (vA (bB S T q t) w):=by
 have Hs:=h;obtain⟨x0,x1,x2,_,_,_,_,_,_⟩:=h.cells;have qe:=h.bt.lt;have kc:=Jm At ct G t hl w rt;have kx:=λW (hW:Bw w W)=>xW ((h.stay hW).cells.1) (xW ((h.stay hW).cells.2.1) ((h.stay hW).cells.2.2.1))
 have kn:=λW (hW:Bw w W)(A5:Option Addr)(c5:Nat) ah a (h1:ah.length<=1048576) r=>vy (h.stay hW) hS hT sj A5 c5 F ah a h1 (h.stay hW).qr.lt r
 have ki:=λW (hW:Bw w W)(gn:Nat)(v:ByteArray)(hc:W.cell? ⟨gn,2,none⟩=some (.string v))=>QW s.a1 s.c1 F q.items (λx=>decide (x.v=v)) gn hs.il W (h.stay hW).qr.lt (h.stay hW).qr.r1 λW2 aX x _ A2 c2=>Vm x A2 c2 v gn W2 ((aX.cell (p:=⟨gn,2,none⟩) (zX W _ hc)).trans hc)
 have mP:=λW (hW:Bw w W)(i:Nat) it (hi:q.items[i]? =some it)=>eV (h.stay hW).qr.r1 hi
 have iT:=hs.il;have hits:=hs.it;have vB:=h.qr.lt;obtain⟨R0,ek⟩:=aB (bB S T q t)
 rw[<-ek];have CV:=tS
 obtain⟨A1,c1,A2,c2,A3,c3⟩:=s;simp only at x2 kx ki mP;replace⟨Hs,kc,kx,kn,ki,mP,ek,hit,hits,vB⟩:=yX Hs kc kx kn ki mP ek hit hits vB;clear h hs hS hT sj rt x0 x1 x2;go_enter func63,ntmps63;go_wp2_with (go_at_call 108;refine kc.o.mono ?_;rintro e W1 ⟨v1,rfl,ax,a9⟩;obtain⟨Ao,co,rfl⟩:=ax.form;replace⟨ax,a9⟩:=H2 ax a9);go_loopw [16] (λi wr=>∃(j:Nat)(ys:List Nd),j<=t.length/\ys.length=j/\i=.int .i64 j/\Bw w wr/\OL wr w.heap.size eL 63 6 (.slice Ao t.length co) t.length ((ys++t.drop j).flatMap b9)/\Hid (bB S T q t=(bB S T q (t.drop j)).map (ys++ ·))) (λi _=>t.length- (intOf i).toNat)
 .exact⟨0,[],zE _,rfl,rfl,a9.o,ax.o,by show _=_;simp⟩
 clear ax a9;obtain⟨j,ys,hj,Tl,rfl,hB,hO,hp⟩:=hrel;replace Tl:=Hd Tl;by_cases hlt:j<t.length
 .obtain⟨x,hx⟩:=av hlt;have uW:=zA hx;have vz:=lE hx;have XM:(ys++t.drop j)[j]? =some x:=by rw[vz,zP (by rw[Tl.o];omega),Tl.o];simp
  obtain⟨go,aiS,eo,adC,aiT,aiU,EA⟩:=hO.row oQ;injection eo with e1 e2 e3
  subst e1 e3;clear e2;have key:∀(k:Nat)(y:Value),(b9 x)[k]? =some (.v y)->wr.cell? ⟨go,j*6+k,none⟩=some y:=λk y hk=>by
   obtain⟨u,hu,hr⟩:=EA (j*6+k) _ (po (f:=b9) (m:=6) (λ_=>rfl) XM hk);rw[hr.bH]at hu;exact hu
  have a0:wr.cell? ⟨go,j*6,none⟩=some (.int .i64 x.op):=key 0 _ rfl;have a1:wr.cell? ⟨go,j*6+1,none⟩=some (.int .i64 x.n):=key 1 _ rfl;have a2:wr.cell? ⟨go,j*6+2,none⟩=some (.string x.v):=key 2 _ rfl;have a3:wr.cell? ⟨go,j*6+3,none⟩=some (.string x.at_):=key 3 _ rfl;have a4:wr.cell? ⟨go,j*6+4,none⟩=some (.int .i64 x.a):=key 4 _ rfl;have a5:wr.cell? ⟨go,j*6+5,none⟩=some (.int .i64 x.b):=key 5 _ rfl;have g0:=aH j;have g1:=aV j t.length;have rA:=hB.size;have Pf:=Hd (hB.alloc hB.size (.cells ⟨cJ x⟩ 63));have pw:=Hd (ao.new wr 63 (cJ x));have hOn:=Hd (hO.alloc (.cells ⟨cJ x⟩ 63));by_cases he:x.at_=emp
  .have f1:(x.at_.toList==([]:List UInt8))=true:=(by rw[aN];exact zW he);have f3:x.at_.toList.isEmpty=true:=by rw[he,show emp.toList=[] by rw[ByteArray.toList_eq];rfl];rfl
   have hst:=Hd (yD hx (MC he) hp.o);have XO:Hid (OL (wr.alloc (.cells ⟨cJ x⟩ 63)) w.heap.size eL 63 6 (.slice (some ⟨go,0,none⟩) t.length co) t.length (((ys++[x])++t.drop (j+1)).flatMap b9)):=by
    have:=hOn.o;rw[vz]at this;show OL _ _ _ _ _ _ _ _
    rw[zR];exact this
   simp only[cJ]at XO Pf;replace⟨he,vz,XM,hx⟩:=H4 he vz XM hx;clear key EA hO;go_wp2;go_roundw
   .exact⟨j+1,ys++[x],oQ,by rw[zH,Tl.o];rfl,gQ,Pf.o,XO.o,hst.o⟩
   exact mQ
  have f1:(x.at_.toList==([]:List UInt8))=false:=by rw[aN];exact zV he
  have f3:x.at_.toList.isEmpty=false:=by
   cases ho:x.at_.toList with
   |nil=>rw[ho]at f1;simp at f1
   |cons=>rfl
  obtain⟨i,it,yC,Qr,hig⟩:=Ri ((hit.o x uW).resolve_left he);have aiV:=(zC.1 Qr).1;have hno:=Rj (S:=S) (T:=T) he hig;obtain⟨W3,pV⟩:=aB (wr.alloc (.cells ⟨cJ x⟩ 63))
  rw[<-pV]at Pf pw hOn;have EP:wr.heap.size<W3.heap.size:=pw.o.lt;have adF:=Pf.o.size;obtain⟨gI,oI,A5,c5,eI,sg,rx,i0,i1,i2,i3,i4⟩:=mP.o W3 Pf.o i it Qr;try simp only at eI
  subst eI;have pA:=vB.o gI sg;have C9:=λW (hW:Bw W3 W)=>ki.o W (Pf.o.trans (hW.mono Pf.o.size)) wr.heap.size x.v ((pw.o.stay hW).cell 2)
  rw[yC]at C9;simp only[cm]at C9;obtain⟨y0,y1,y2⟩:=kx.o W3 Pf.o;have kS:=λW (hW:Bw W3 W)=>xW ((hW.cell (p:=⟨gt,2,none⟩) (by show gt<_;omega)).trans y2) (xW ((hW.cell (p:=⟨gI,oI+i*5,none⟩) (by show gI<_;omega)).trans i0) (xW ((hW.cell (p:=⟨gI,oI+i*5+1,none⟩) (by show gI<_;omega)).trans i1) (xW ((hW.cell (p:=⟨gI,oI+i*5+2,none⟩) (by show gI<_;omega)).trans i2) (xW ((hW.cell (p:=⟨gI,oI+i*5+3,none⟩) (by show gI<_;omega)).trans i3) ((hW.cell (p:=⟨gI,oI+i*5+4,none⟩) (by show gI<_;omega)).trans i4)))))
  have ak:=xW (kS W3.drew (bR).drew) trivial;have g4:=aH i;have g5:=aV i q.items.length;have hsz:=(hits.o it (zA Qr)).1.1;replace⟨Qr,hig,yC,hno,C9,kS,he,vz,XM,hx,rx,uW⟩:=uM Qr hig yC hno C9 kS he vz XM hx rx uW;simp only[cJ]at pV;have Vd:=Hd pV;clear key EA hO pV i0 i1 i2 i3 i4 y0 y1 y2;go_upto_region 6 with fail
  rw[<-Vd.o];clear a0 a1 a2 a3 a4 a5;go_cut [9] (λv wx=>∃gi,v=.pointer (some ⟨gi,0,none⟩)/\Bw W3 wx/\ao wx gi 60 (dX it (.slice A5 it.ah.length c5)))
  .refine aC (p:=100) (S0:=λW=>W.cell? ⟨gt,2,none⟩=some (.slice (some ⟨gI,oI,none⟩) q.items.length c1)/\W.cell? ⟨gI,oI+i*5,none⟩=some (.bool it.neg)/\W.cell? ⟨gI,oI+i*5+1,none⟩=some (.slice A5 it.ah.length c5)/\W.cell? ⟨gI,oI+i*5+2,none⟩=some (.string it.v)/\W.cell? ⟨gI,oI+i*5+3,none⟩=some (.int .i64 it.lo)/\W.cell? ⟨gI,oI+i*5+4,none⟩=some (.int .i64 it.hi)) (S1:=λ_=>True) kQ ?_;refine' aq 0 rfl ak ?_;refine' aq 1 rfl ak ?_;refine' aq 2 rfl ak ?_;refine' aq 3 rfl ak ?_;refine' aq 4 rfl ak ?_;refine' aq 5 rfl ak ?_;refine' aq 6 rfl ak ?_;refine' aq 7 rfl ak ?_;refine' aq 8 rfl ak ?_;refine' aq 9 rfl ak ?_;refine' aq 10 rfl ak ?_;try simp only[Act.put,aK]
   refine sW (k1:=11) (k2:=14) kQ rfl rfl (λK hK=>?_) (λK hK=>?_)
   .go_simp;go_at_call 109;refine(C9.o W3.drew (bR).drew).eQ λW4 fI=>?_;have fP:=Hd ((zB W3.heap.size W3).drew.trans fI);refine hK.o _ _ ⟨kS.o _ fP.o,λ_=>trivial⟩ ?_;have bF:=xW (kS.o _ fP.o) trivial;clear hK K ak fI;refine' aq 12 rfl bF ?_;refine' aq 13 rfl bF ?_;try simp only[Act.put,aK]
    refine Gs 14 rfl λK hK=>?_
    go_simp;refine hK.o _ _ ⟨kS.o _ (by first|exact fP.o.alloc fP.o.size _ |exact(fP.o.alloc fP.o.size _).drew),λ_=>trivial⟩ ?_;clear hK K;refine Gs 15 rfl λK hK=>?_
    go_simp;refine hK.o _ _ ⟨kS.o _ (by first|exact fP.o.alloc fP.o.size _ |exact(fP.o.alloc fP.o.size _).drew),λ_=>trivial⟩ ?_;clear hK K bF;refine Gd _ ?_;try simp only[Act.put,aK]
    go_wp2
    all_goals(go_meet;exact⟨W4.heap.size,rfl,fP.o.alloc fP.o.size _,ao.new _ _ _⟩)
   .go_simp;have hZ:ao (W3.alloc (.cells ⟨[.bool false,.slice none 0 0,.string ⟨#[]⟩,.int .i64 0,.int .i64 0]⟩ 60)).drew W3.heap.size 60 [.bool false,.slice none 0 0,.string ⟨#[]⟩,.int .i64 0,.int .i64 0]:=(ao.new W3 60 [.bool false,.slice none 0 0,.string ⟨#[]⟩,.int .i64 0,.int .i64 0]).stay (bR).drew;have sf:=Hd (((zB W3.heap.size W3).alloc nR (.cells ⟨[.bool false,.slice none 0 0,.string ⟨#[]⟩,.int .i64 0,.int .i64 0]⟩ 60)).drew);refine hK.o _ _ ⟨kS.o _ sf.o,λ_=>trivial⟩ ?_;generalize (W3.alloc (.cells ⟨[.bool false,.slice none 0 0,.string ⟨#[]⟩,.int .i64 0,.int .i64 0]⟩ 60)).drew=W5 at*;replace hZ:=Hd hZ;have MD:=hZ.o.lt;clear hK K ak;try simp only[Act.put,aK]
    refine Gs 11 rfl λK hK=>?_
    go_simp;go_at_call 109;refine(C9.o W5 sf.o).eQ λW4 fI=>?_;have fP:=Hd (sf.o.trans (fI.mono sf.o.size));have hZ4:=Hd (hZ.o.stay fI);refine hK.o _ _ ⟨kS.o _ fP.o,λ_=>trivial⟩ ?_;have bF:=xW (kS.o _ fP.o) trivial;clear hK K fI;refine' aq 12 rfl bF ?_;refine' aq 13 rfl bF ?_;try simp only[Act.put,aK]
    refine Gs 15 rfl λK hK=>?_
    refine bh (by rfl) 60 _ _ (by rfl) (cs':=dX it (.slice A5 it.ah.length c5)) hZ4.o Zd rfl (by rfl) (by rfl) rfl ?_;intro w6 sX wY;have lO:=Hd (fP.o.grown wY fP.o.size (λq hq=>by injection hq with hq;omega));refine hK.o _ _ ⟨kS.o _ lO.o,λ_=>trivial⟩ ?_;replace sX:=Hd sX;clear hK K bF wY;refine Gd _ ?_;go_simp;go_wp2
    all_goals(go_meet;exact⟨W3.heap.size,rfl,lO.o,sX.o⟩)
  obtain⟨gi,rfl,pK,sd⟩:=hcut;have Hv:=Pf.o.trans (pK.mono Pf.o.size);have sY:=Hd (hOn.o.stay pK);have hbc:=pw.o.stay pK;have i1:wc.cell? ⟨gi,1,none⟩=some (.slice A5 it.ah.length c5):=sd.cell 1;have n3:wc.cell? ⟨wr.heap.size,3,none⟩=some (.string x.at_):=hbc.cell 3;have kk:=kn.o wc Hv A5 c5 it.ah x.at_ hsz (rx.o.under pK λb hb=>zF (vB.o b hb) adF);replace Hv:=Hd Hv;clear ak pK sd hbc;cases hA:bJ S T it.ah x.at_ with
  |none=>
   rw[hA]at kk;have hst:=Hd (show R0=none by rw[ek.o];exact Jl hx.o (by rw[hno.o,hA];rfl) hp.o);replace⟨kk,hA⟩:=H2 kk hA;go_wp2_with (go_at_call 64;refine kk.o.mono ?_;rintro e W6 ⟨rfl,mE⟩;simp only[Option.getD_none,Option.isSome_none]);go_ret2;exact vA.no hst.o (Hv.o.trans (mE.mono Hv.o.size))
  |some b=>
   rw[hA]at kk;have hst:=Hd (yD (y:={x with at_:=b}) hx.o (by rw[hno.o,hA];rfl) hp.o);have Rk:=λW (hW:Bw wc W)=>xW ((sY.o.stay hW).row oQ) ((sY.o.stay hW).set (j:=j*6+3) (u:=.string b) (d:=.v (.string b)) (.v _ rfl))
   have O5:(ys++t.drop j)=ys++x::t.drop (j+1):=(by rw[vz.o]);rw[O5]at Rk;rw[Vk Tl.o]at Rk;have kw:∀W,Bw wc W->W.cell? ⟨go,j*6+3,none⟩=some (.string x.at_)/\W.frozen? ⟨go,j*6+3,none⟩=false/\OL (W.setCell ⟨go,j*6+3,none⟩ (.string b)) w.heap.size eL 63 6 (.slice (some ⟨go,0,none⟩) t.length co) t.length (((ys++[{x with at_:=b}])++t.drop (j+1)).flatMap b9):=λW hW=>by
    obtain⟨⟨g',cap',e,_,_,hf,hc⟩,h2⟩:=Rk W hW;injection e with e1 _ _
    injection e1 with e1
    injection e1 with e1
    subst e1;obtain⟨u,hu,hr⟩:=hc (j*6+3) _ (po (f:=b9) (m:=6) (λ_=>rfl) (show(ys++x::t.drop (j+1))[j]? =some x by rw[<-O5];exact XM.o) (j:=3) rfl);rw[hr.bH]at hu;exact⟨hu,hf _,h2⟩
   replace⟨kk,hA,kw,O5⟩:=H4 kk hA kw O5;clear Rk;go_wp2_with (go_at_call 64;refine kk.o.mono ?_;rintro e W6 ⟨rfl,mE⟩;simp only[Option.getD_some,Option.isSome_some];have uP:=Hd (Hv.o.trans (mE.mono Hv.o.size));obtain⟨z1,z2,z3⟩:=kw.o W6 mE;replace z3:=Hd z3;clear mE);go_roundw
   .exact⟨j+1,ys++[{x with at_:=b}],oQ,by rw[zH,Tl.o];rfl,gQ,uP.o.setCell adC _,z3.o,hst⟩
   exact mQ
 .obtain rfl:j=t.length:=oQ;have ae:R0=some ys:=by rw[ek.o,hp.o,List.drop_length];simp[bB]
  rw[List.drop_length,zT]at hO;have XO:OL wr w.heap.size eL 63 6 (.slice Ao t.length co) ys.length (ys.flatMap b9):=by rw[Tl.o];exact hO
  replace⟨XO,ae⟩:=H2 XO ae;clear hO;go_wp2;go_ret2;exact vA.yes ae.o XO.o hB
end di
