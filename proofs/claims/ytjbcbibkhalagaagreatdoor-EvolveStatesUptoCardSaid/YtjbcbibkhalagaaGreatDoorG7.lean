/- Subtrees of the program. -/
import Derived.Test.YtjbcbibkhalagaaGreatDoorX7
import Derived.Laws.EntriesVeiled
namespace Go.Proofs.YtjbcbibkhalagaaGreatDoor
set_option maxRecDepth 100000
set_option maxHeartbeats 16000000
open Proofs.Tryz Go.RowKit Go.Deep Go.Maps
set_option linter.unusedVariables false
set_option linter.unusedSimpArgs false
theorem j8 {t}(h:aW t=true):∀x∈t,(-1<=x.a/\x.a<t.length)/\(-1<=x.b/\x.b<t.length):=by
 obtain⟨_,ha,_⟩:=dF h;intro x hx;obtain⟨i,hi⟩:=List.mem_iff_getElem?.1 hx;have iT:=(zC.1 hi).1;obtain⟨b,hb⟩:=ha i iT;obtain⟨y,hy,hcs⟩:=hb.inv;rw[hi]at hy;obtain rfl:=eO hy;rcases hcs with⟨_,h1,h2,_⟩|⟨j,_,h1,h2,_,_⟩|⟨m,j,_,h1,h2,h3,h4,_⟩
 .omega
 .omega
 .have:=h4.le;omega
theorem P4 {L b j g x W}(h:L[j]? =some x)(hb:ao W g 63 ((BW L b j).flatMap cJ)):
  (0<=x.a->0<=x.b->ao ((W.setCell ⟨g,j*6+4,none⟩ (.int .i64 (x.a-b))).setCell ⟨g,j*6+5,none⟩ (.int .i64 (x.b-b))) g 63 ((BW L b (j+1)).flatMap cJ))/\
  (0<=x.a->¬0<=x.b->ao (W.setCell ⟨g,j*6+4,none⟩ (.int .i64 (x.a-b))) g 63 ((BW L b (j+1)).flatMap cJ))/\
  (¬0<=x.a->0<=x.b->ao (W.setCell ⟨g,j*6+5,none⟩ (.int .i64 (x.b-b))) g 63 ((BW L b (j+1)).flatMap cJ))/\
  (¬0<=x.a->¬0<=x.b->ao W g 63 ((BW L b (j+1)).flatMap cJ)):=by
 obtain⟨h1,h2⟩:=G1 (b:=b) h;refine⟨λp q=>?_,λp q=>?_,λp q=>?_,λp q=>?_⟩
 .have e1:=uy (c:=4) (p:=x) (p':={x with a:=x.a-b}) (x:=.int .i64 (x.a-b)) oQ rfl h1;have h3:((BW L b j).set j {x with a:=x.a-b})[j]? =some {x with a:=x.a-b}:=by
   rw[List.getElem?_set_self];exact(zC.1 h1).1
  have e2:=uy (c:=5) (p':=cE b x) (x:=.int .i64 (x.b-b)) oQ (by unfold cE;rw[if_pos p,if_pos q];rfl) h3;rw[List.set_set,h2]at e2;have:=(hb.dz (j*6+4) (.int .i64 (x.a-b))).dz (j*6+5) (.int .i64 (x.b-b));rw[e1,e2]at this;exact this
 .have e1:=uy (c:=4) (p':=cE b x) (x:=.int .i64 (x.a-b)) oQ (by unfold cE;rw[if_pos p,if_neg q];rfl) h1;have:=hb.dz (j*6+4) (.int .i64 (x.a-b));rw[e1,h2]at this;exact this
 .have e1:=uy (c:=5) (p':=cE b x) (x:=.int .i64 (x.b-b)) oQ (by unfold cE;rw[if_neg p,if_pos q];rfl) h1;have:=hb.dz (j*6+5) (.int .i64 (x.b-b));rw[e1,h2]at this;exact this
 .have e:cE b x=x:=by unfold cE;rw[if_neg p,if_neg q]
  rw[e]at h2;rw[<-h2];have:(BW L b j).set j x=BW L b j:=by
   obtain⟨h3,h4⟩:=zC.1 h1;rw[<-h4];exact List.set_getElem_self h3
  rw[this];exact hb
theorem K4 {t}{w W:World}{F g off c b n}(r:Rd W F (.slice (some ⟨g,off,none⟩) t.length c) (.sl t.length (t.flatMap b9)))(hF:∀b,F b->b<W.heap.size){zs}(hz:zs.length=n*6)(hn:b+n<=t.length)(ty:Nat):
  ∃W2,(Builtin.copy_ #[28,28] ty #[.slice (some ⟨W.heap.size,0,none⟩) n n,.slice (some ⟨g,off+b*6,none⟩) (t.length-b) (c-b)]).run prog (W.alloc (.cells ⟨zs⟩ 63))=.ok (goInt n) W2/\ao W2 W.heap.size 63 ((qp t b n).flatMap cJ)/\(W.alloc (.cells ⟨zs⟩ 63)).grownBy W2 (some W.heap.size):=by
 have hl:((qp t b n).flatMap cJ).length=n*6:=by rw[BO jI,G2 hn]
 have Yv:ao (W.alloc (.cells ⟨zs⟩ 63)) W.heap.size 63 zs:=ao.new _ _ _;have hra:=r.alloc (.cells ⟨zs⟩ 63);have hs:=ao.setCells ((qp t b n).flatMap cJ) 0 _ _ Yv oQ;refine⟨_,run_copy_row ty qY _ W.heap.size 0 n n ⟨g,off+b*6,none⟩ (t.length-b) (c-b) n ((qp t b n).flatMap cJ) (by show n=min (t.length-b) n;omega) hl (λj v hj=>?_) (λj hj=>?_) (λj hj=>Yv.frozen _) (λv hv=>?_),?_,hs.2⟩
 .obtain⟨h1,_⟩:=Fh hj;obtain⟨g2,jG,e,_,hc⟩:=hra.cells (iG h1);injection e with e
  injection e with e1 e2
  subst e1 e2;obtain⟨u,hu,hr⟩:=hc _ _ h1;rw[hr.bH]at hu;rw[jT,Nat.add_assoc];exact hu
 .rw[Yv.cell,zI oQ];rfl
 .obtain⟨j,hj⟩:=zN hv;exact(Fh hj).2
 .have h1:=hs.1;have e:zs.take 0++(qp t b n).flatMap cJ++zs.drop (0+((qp t b n).flatMap cJ).length)=(qp t b n).flatMap cJ:=by
   rw[List.take_zero,List.nil_append,List.drop_eq_nil_of_le oQ,zT]
  rw[e]at h1;exact h1
namespace dR
open cH
theorem Yw (A c F t)(hs:tT t)(w)(hK:cW w)(hF:∀b,F b->b<w.heap.size)(r:Rd w F (.slice A t.length c) (.sl t.length (t.flatMap b9)))(ht:aW t=true){b rt}(hsp:Sp t b rt):
  Cl 100 #[.slice A t.length c,.int .i64 rt] w (lL (dW t b rt) w):=by
 have k1:=Un A c F t hs w hK hF r ht hsp;have hlt:=hsp.lt;have hle:=hsp.le;have eC:=hs.1;have jX:=j8 ht;have htc:t.length<=c:=by obtain⟨_,_,e,h1,_⟩:=r.cU;injection e with _ _ e;subst e;exact h1
 obtain⟨n,hn⟩:=aB (rt+1-b:Nat)
 obtain⟨x0,tu⟩:=av hlt;obtain⟨g,off,rfl,_⟩:=dk r tu;have K5:dW t b rt=(qp t b n).map (cE b):=by unfold dW qp;rw[hn]
 have P9:(qp t b n).length=n:=G2 oQ;rw[<-hn]at k1;rw[K5];obtain⟨zs,hz,Qa⟩:=rz (P:=prog) qY n oQ oQ;have BZ:=K6 (P:=prog) qY g off t.length c b oQ oQ htc;have Yx:∀W ty,Bw w W->∃W2,_:=λW ty hW=>K4 (w:=w) (r.under hW hF) (λb h=>zF (hF b h) hW.size) hz (by omega:b+n<=t.length) ty
 have f0:((n:Int)==0)=false:=cM oQ;have f1:((n:Int) != 0)=true:=gL oQ;have q1:=aH b;have q2:(b:Int)<=1048576:=oQ;have tD:(rt:Int) -n+1=b:=oQ;have Et:∀(j:Nat) x,(qp t b n)[j]? =some x->(-1<=x.a/\x.a<1048577)/\(-1<=x.b/\x.b<1048577):=λj x h=>by
  have:=jX x (zA (G3 h).1);omega
 have zq:n<=1048576:=oQ;have uz:0<n:=oQ;have S5:(n:Int)<=rt+1:=oQ;have hrt:(rt:Int)<=1048576:=oQ;generalize qp t b n=L at*;replace⟨k1,Yx,tD,Et,P9⟩:=H5 k1 Yx tD Et P9;clear hs hK r ht hsp jX tu K5 hn hF hz hle hlt htc eC;go_enter func100,ntmps100;go_upto_region 4 with(go_at_call 143;refine k1.o.mono ?_;rintro e W ⟨rfl,hW⟩;replace hW:=Hd hW)
 go_cut [6] (λs wx=>s=.int .i64 (b:Nat)/\wx=W)
 .go_wp2
  all_goals(go_meet;exact⟨by rw[tD.o],rfl⟩)
 obtain⟨rfl,tW⟩:=hcut;obtain rfl:=tW.symm;clear tW;have Uo:=hW.o.size;go_wp2_with (refine ay (.call {callee:=.builtin .copy,args:=#[.tmp 20,.tmp 23],argTypes:=#[28,28]}) rfl ?_;obtain⟨W2,hrun,df,mc⟩:=Yx.o W _ hW.o;refine wP _ rfl (.tmp 20) (.tmp 23) 28 28 rfl _ _ rfl rfl hrun ?_;replace⟨df,mc⟩:=H2 df mc;clear hrun);have cD:=Hd (show Bw w W2 from (hW.o.alloc hW.o.size _).grown mc.o (by simp;omega) (λq hq=>by injection hq with hq;omega));have wH:W.heap.size<W2.heap.size:=df.o.lt;go_loopw [27] (λi wr=>∃j:Nat,j<=n/\i=.int .i64 j/\Bw w wr/\ao wr W.heap.size 63 ((BW L b j).flatMap cJ)) (λi _=>n- (intOf i).toNat)
 .exact⟨0,zE _,rfl,cD.o,by have:=df.o;unfold BW;simpa using this⟩
 clear cD df mc wH;obtain⟨j,hj,rfl,hB,hb⟩:=hrel;by_cases hlt:j<n
 .obtain⟨x,hx⟩:=av (l:=L) (i:=j) (by rw[P9.o];exact hlt);have hst:=Hd (P4 hx hb);obtain⟨⟨xa1,xa2⟩,xb1,xb2⟩:=Et.o j x hx;have jD:=(G1 (b:=b) hx).1;have c4:wr.cell? ⟨W.heap.size,j*6+4,none⟩=some (.int .i64 x.a):=(hb.cell _).trans (po jI jD rfl);have c5:wr.cell? ⟨W.heap.size,j*6+5,none⟩=some (.int .i64 x.b):=(hb.cell _).trans (po jI jD rfl);have d4:=hb.frozen (j*6+4);have d5:=hb.frozen (j*6+5);have g1:=aH j;have g2:(j:Int)<n:=oQ;replace⟨hB,hb⟩:=H2 hB hb;clear hx jD;by_cases pa:0<=x.a
  .by_cases pb:0<=x.b
   .have ae:=Hd (hst.o.1 pa pb);go_wp2;go_roundw
    .exact⟨j+1,oQ,gQ,(hB.o.setCell (p:=⟨W.heap.size,j*6+4,none⟩) (by simpa using Uo) _).setCell (p:=⟨W.heap.size,j*6+5,none⟩) (by simpa using Uo) _,ae.o⟩
    exact mQ
   .have ae:=Hd (hst.o.2.1 pa pb);go_wp2;go_roundw
    .exact⟨j+1,oQ,gQ,(hB.o.setCell (p:=⟨W.heap.size,j*6+4,none⟩) (by simpa using Uo) _),ae.o⟩
    exact mQ
  .by_cases pb:0<=x.b
   .have ae:=Hd (hst.o.2.2.1 pa pb);go_wp2;go_roundw
    .exact⟨j+1,oQ,gQ,(hB.o.setCell (p:=⟨W.heap.size,j*6+5,none⟩) (by simpa using Uo) _),ae.o⟩
    exact mQ
   .have ae:=Hd (hst.o.2.2.2 pa pb);go_wp2;go_roundw
    .exact⟨j+1,oQ,gQ,hB.o,ae.o⟩
    exact mQ
 .have g1:¬(j:Int)<n:=oQ;obtain rfl:j=n:=oQ;have ae:OL wr w.heap.size eL 63 6 (.slice (some ⟨W.heap.size,0,none⟩) j j) (L.map (cE b)).length ((L.map (cE b)).flatMap b9):=by
   have h1:=P9.o;have:=K7 Uo (L:=L.map (cE b)) (g:=W.heap.size) (w:=wr) (by have e:=Qb L b;rw[h1]at e;rw[<-e];exact hb) (by rw[xC];omega);rw[xC,h1]at this;rw[xC,h1];exact this
  replace⟨ae,hB,hb⟩:=H3 ae hB hb;go_wp2;go_ret;exact lL.mk ae.o hB.o
end dR
theorem qu {t r n}(h:opAt t r≠25):pY t n r=[r]:=by
 cases n with
 |zero=>rfl
 |succ n=>unfold pY;exact if_neg h
theorem Fi {t b m j f}(ho:opAt t (j+1)=25)(hA:wF t (j+1)=m)(hB:wG t (j+1)=j)(h1:Sp t b m)(h2:Sp t (m+1) j)(hf:j+1-b<=f):pY t f (j+1)=pY t f m++pY t f j:=by
 have l1:=h1.le;have l2:=h2.le;cases f with
 |zero=>omega
 |succ f=>
  have e:pY t (f+1) (j+1)=pY t f (wF t (j+1))++pY t f (wG t (j+1)):=by
   show(if opAt t (j+1)=25 then _ else _)=_
   exact if_pos ho
  rw[e,hA,hB,Cx h1 (n:=f) (m:=f+1) oQ oQ,Cx h2 (n:=f) (m:=f+1) oQ oQ]
theorem zr {t b r}(h:Sp t b r):∀{n:Nat},r-b<=n->(pY t n r).length<=r+1-b:=by
 induction h with
 |lf hx h1 h2 h3=>
  intro n _;rw[qu (by rw[dY hx];simp[dg]at h1;omega)];simp
 |un hx h1 h2 h3 h4 ih=>
  intro n _;have:=h4.le;rw[qu (by rw[dY hx];simp[fm]at h1;omega)];simp;omega
 |bi hx h1 h2 h3 h4 h5 Im zd=>
  rename_i b m j x;intro n hn;have l1:=h4.le;have l2:=h5.le;by_cases ho:opAt t (j+1)=25
  .rw[Fi ho (by unfold wF;rw[hx];simp[h2]) (by unfold wG;rw[hx];simp[h3]) h4 h5 oQ,zH];have:=Im (n:=n) oQ;have:=zd (n:=n) oQ;omega
  .rw[qu ho];simp;omega
def iJ (i:Nat):D:=.v (.int .i64 (i:Nat))
structure CJ (t:List Nd)(A:Option Addr)(c B bt bo bs:Nat)(W:World)(v:Value)(L:List Nat):Prop where
 bT:ao W bt 28 [.slice A t.length c]
 bO:ao W bo 52 [v]
 bS:ao W bs 213 [.func (.func 141) #[] #[.pointer (some ⟨bt,0,none⟩),.pointer (some ⟨bo,0,none⟩),.pointer (some ⟨bs,0,none⟩)]]
 ol:OL W B eL 3 1 v L.length (L.map iJ)
 lo:B<=bo
 bw:B<=W.heap.size
 ne:bt≠bo/\bs≠bo
section
variable {t:List Nd}{A:Option Addr}{c B bt bo bs:Nat}{W W' w1:World}{v v':Value}{L:List Nat}
theorem CJ.stay (h:CJ t A c B bt bo bs W v L)(hb:Bw W W'):CJ t A c B bt bo bs W' v L:=⟨h.bT.stay hb,h.bO.stay hb,h.bS.stay hb,h.ol.stay hb,h.lo,zU h.bw hb.size,h.ne⟩
theorem CJ.app {o i}(h:CJ t A c B bt bo bs W v L)(hg:(W.alloc o).grownBy w1 v.ownBlock)(hO:OL w1 B eL 3 1 v' (L.length+1) (L.map iJ++[iJ i])):
  ao w1 bo 52 [v]/\CJ t A c B bt bo bs (w1.setCell ⟨bo,0,none⟩ v') v' (L++[i])/\Below B W (w1.setCell ⟨bo,0,none⟩ v'):=by
 have h1:=(h.bO.alloc o).grown hg (λe=>h.ol.aU h.bO dQ e.symm);have h2:=(h.bT.alloc o).grown hg (λe=>h.ol.aU h.bT dQ e.symm);have h3:=(h.bS.alloc o).grown hg (λe=>h.ol.aU h.bS dQ e.symm);have BR:Below B W w1:=((zB B W).alloc h.bw o).grown hg (by have:=h.bw;simp;omega) (λq hq=>(h.ol.lt q hq).1);refine⟨h1,⟨h2.far h.ne.1 _,h1.dz 0 _,h3.far h.ne.2 _,?_,h.lo,?_,h.ne⟩,BR.setCell (p:=⟨bo,0,none⟩) h.lo _⟩
 .have:=hO.setCell (p:=⟨bo,0,none⟩) (hO.aU h1 dQ) (λh=>h) v';simpa using this
 .have:=BR.size;have:=h.bw;simp[World.setCell];omega
end
def sL (t:List Nd)(A:Option Addr)(c B bt bo bs:Nat)(w:World)(L:List Nat)(e:Ending)(w':World):Prop:=e=.returned (.tuple #[])/\∃v,CJ t A c B bt bo bs w' v L/\Below B w w'
theorem sL.mk {t A c B bt bo bs w w' v L L'}(hL:L'=L)(h:CJ t A c B bt bo bs w' v L')(hb:Below B w w'):sL t A c B bt bo bs w L (.returned (.tuple #[])) w':=hL▸⟨rfl,v,h,hb⟩
namespace dR
open cH
theorem Qc (A c F t)(hl:t.length<=1048576)(B bt bo bs w0)(hF:∀b,F b->b<B)(cN:B<=w0.heap.size)(r:Rd w0 F (.slice A t.length c) (.sl t.length (t.flatMap b9))):
  ∀(n b rt:Nat),rt<n->Sp t b rt->∀(w:World)(v:Value)(L:List Nat),Below B w0 w->CJ t A c B bt bo bs w v L->L.length+(rt+1-b)<=2097152->
  Cl 141 #[.int .i64 rt,.pointer (some ⟨bt,0,none⟩),.pointer (some ⟨bo,0,none⟩),.pointer (some ⟨bs,0,none⟩)] w (sL t A c B bt bo bs w (L++pY t t.length rt)):=by
 intro n;induction n with
 |zero=>intro b rt h;omega
 |succ n ih=>
  intro b rt hn hsp w v L hB h hL;have hle:=hsp.le;have hlt:=hsp.lt;obtain⟨x,hx,hcs⟩:=hsp.inv;obtain⟨g,off,rfl,_,z0,z1,z2,z3,z4,z5⟩:=dk (r.under hB hF) hx;have g0:=aH rt;have g1:=aV rt t.length;have yT:=h.bT.cell 0;have yO:=h.bO.cell 0;have yS:=h.bS.cell 0;have fO:=h.bO.frozen 0;simp only[zY]at yT yO yS;by_cases ho:x.op=25
  .have Yy:opAt t rt=25:=by rw[dY hx];exact ho
   rcases hcs with⟨h1,_⟩|⟨j,h1,_⟩|⟨m,j,_,ha,hb,eC,ia,he⟩
   .rw[ho]at h1;cases h1
   .rw[ho]at h1;cases h1
   .have tE:=eC.le;have K8:=ia.le;have O1:pY t t.length rt=pY t t.length m++pY t t.length j:=by
     subst he;exact Fi Yy (by unfold wF;rw[hx];simp[ha]) (by unfold wG;rw[hx];simp[hb]) eC ia oQ
    have sa:=zr eC (n:=t.length) oQ;have k1:∀W,Bw w W->_:=λW hW=>ih b m oQ eC W v L (hB.trans (hW.mono (zU cN hB.size))) (h.stay hW) oQ
    have k2:∀W v2,Below B w0 W->CJ t (some ⟨g,off,none⟩) c B bt bo bs W v2 (L++pY t t.length m)->_:=λW v2 hW hc=>ih (m+1) j oQ ia W v2 (L++pY t t.length m) hW hc (by rw[zH];omega)
    have zz:∀W,Below B w0 W->W.cell? ⟨g,off+rt*6+5,none⟩=some (.int .i64 (j:Nat)):=λW hW=>by
     obtain⟨g',tX,e,_,_,_,_,_,_,q⟩:=dk (r.under hW hF) hx;injection e with e
     injection e with e1 e2
     subst e1 e2;rw[hb]at q;exact q
    rw[ha]at z4;have p1:=aH j;have p0:=aH m;have f1:(x.op != 25)=false:=Ua ho;have acx:=zU cN hB.size;have dh:=True.intro;have zt:=Hd hB;replace⟨O1,k1,k2,zz⟩:=H4 O1 k1 k2 zz;have h':=Hd h;replace ho:=Hd ho;clear ih hsp ha hb he hx r z1 z2 z3 z5 eC ia hB h Yy hL sa;go_enter func141,ntmps141;go_upto_region 2 with fail
    go_cut [21] (λs wx=>s=.tuple #[]/\∃v,CJ t (some ⟨g,off,none⟩) c B bt bo bs wx v (L++pY t t.length m)/\Below B w wx)
    .go_region_law ((go_simp;(go_at_call 141;refine(k1.o _ (by first|exact bR |exact below_drewN bR _ |exact(bR).drew)).mono ?_;rintro e W ⟨rfl,v2,se,aX⟩;replace⟨se,aX⟩:=H2 se aX)))
     all_goals(go_wp2;all_goals(go_meet;exact⟨rfl,v2,se.o,(by first|exact aX.o |exact(bR).drew.trans aX.o |exact(below_drewN bR _).trans aX.o)⟩))
    obtain⟨rfl,v2,se,aX⟩:=hcut;have zz2:=zz.o _ (zt.o.trans aX);have k3:=Hd (λW (hW:Bw wc W)=>k2.o W v2 ((zt.o.trans aX).trans (hW.mono (zU acx aX.size))) (se.stay hW));clear yT yO yS fO z0 z4;have yT:=se.bT.cell 0;have yO:=se.bO.cell 0;have yS:=se.bS.cell 0;simp only[zY]at yT yO yS;replace⟨se,aX⟩:=H2 se aX;go_upto_region 3 with fail
    go_region_law ((go_simp;(go_at_call 141;refine(k3.o _ (by first|exact bR |exact below_drewN bR _ |exact(bR).drew)).mono ?_;rintro e W ⟨rfl,v3,Fj,jv⟩;replace Fj:=Hd Fj;replace jv:=Hd (aX.o.trans (by first|exact jv |exact(bR).drew.trans jv |exact(below_drewN bR _).trans jv)))))
    all_goals(go_wp2;first|refine bodyPost_ret (results_none rfl _ _ _) rfl ?_ |refine bodyPost_end (results_none rfl _ _ _) rfl ?_)
    all_goals exact sL.mk (by rw[O1.o,zR]) Fj.o jv.o
  .have O1:pY t t.length rt=[rt]:=qu (by rw[dY hx];exact ho);have f1:(x.op != 25)=true:=gL ho;have f2:(x.op==25)=false:=cM ho;obtain⟨A2,c2,rfl⟩:=h.ol.form;have zt:=Hd hB;have rA:=h.bw;have dv:=Hd (h.ol.alloc (.cells ⟨[.int .i64 rt]⟩ 3));have cY:∀v' w1,(w.alloc (.cells ⟨[.int .i64 rt]⟩ 3)).grownBy w1 (Value.slice A2 L.length c2).ownBlock->OL w1 B eL 3 1 v' (L.length+1) (L.map iJ++[iJ rt])->_:=λv' w1 hg hO=>h.app hg hO
   replace cY:=Hd cY;have hLL:L.length<=2097152:=oQ;replace⟨O1,ho⟩:=H2 O1 ho;clear ih hsp hcs hx r z1 z2 z3 z4 z5 hB h yS hL;go_enter func141,ntmps141;go_wp2_with (at_builtin;refine ez rfl (.tmp 11) (.tmp 13) _ rfl (m:=1) (news:=[iJ rt]) dS dv.o rfl rfl (Src.lit (show fB w _ [.int .i64 rt] [iJ rt]from⟨.v _ rfl,trivial⟩)) rfl oQ oQ (by simp;omega) ?_;intro v' w1 ax aw bu;obtain⟨B3,d3,rfl⟩:=ax.form;obtain⟨fR,ej⟩:=cY.o _ _ aw ax;have q1:=fR.cell 0;have q2:=fR.frozen 0;simp only[zY]at q1;replace ej:=Hd ej;clear ax aw bu fR);first|refine bodyPost_ret (results_none rfl _ _ _) rfl ?_ |refine bodyPost_end (results_none rfl _ _ _) rfl ?_
   exact sL.mk (by rw[O1.o]) ej.o.1 ej.o.2
end dR
def j9 (L:List Nat)(w:World)(e:Ending)(w':World):Prop:=∃v,e=.returned v/\OL w' w.heap.size eL 3 1 v L.length (L.map iJ)/\Bw w w'
theorem j9.mk {L w w' v}(h:OL w' w.heap.size eL 3 1 v L.length (L.map iJ))(hb:Bw w w'):j9 L w (.returned v) w':=⟨v,rfl,h,hb⟩
theorem CJ.new {t A c w W}(hW:Bw w W){bt}(wv:ao W bt 28 [.slice A t.length c]):
  CJ t A c w.heap.size bt W.heap.size (W.heap.size+1) ((W.alloc (.cells ⟨[.slice none 0 0]⟩ 52)).alloc (.cells ⟨[.func (.func 141) #[] #[.pointer (some ⟨bt,0,none⟩),.pointer (some ⟨W.heap.size,0,none⟩),.pointer (some ⟨W.heap.size+1,0,none⟩)]]⟩ 213)) (.slice none 0 0) []:=
 ⟨(wv.alloc _).alloc _,(ao.new W _ _).alloc _,ao.new' sJ,OL.nil _ _ _ _ _,hW.size,by have:=hW.size;simp;omega,by have:=wv.lt;omega,oQ⟩
theorem Up (w):(zeroValue 3).run prog w=.ok (.int .i64 0) w:=kQ
def ki (i:Nat):Lit:=.int .i64 (i:Int)
theorem Yz {i:Nat}(h:i<=4194304):(Lit.int .i64 (i:Int)).wf=true:=WalkArith.wf_i64 oQ
theorem K9 {i:Nat}(h:i<=4194304):keyOf prog 3 (.int .i64 (i:Int))=some (ki i):=keyOf_int_mk underlying3 (Yz h)
theorem YA {i k}(h:i≠k):ki i≠ki k:=λe=>h (by unfold ki at e;injection e with _ e;omega)
theorem cV.rB {w m n f}(h:cV 3 w m n f){i:Nat}(hi:i<=4194304):(Instr.lookup 214 (.map (some m)) (.int .i64 (i:Int)) false).run prog w=.ok (.int .i64 ((f (ki i)).getD 0)) w:=by
 obtain⟨D,h1,h2⟩:=h;obtain⟨c,hrun,Fk,_⟩:=h1.lookup_int Yq underlying214 underlying3 (Up w) (K9 hi);have e:=(h2 (ki i)).2;rw[Fk]at e;have e2:c=(f (ki i)).getD 0:=(Lit.int.inj (DataW.lit.inj e)).2;rw[hrun,e2]
theorem ln {w ops rest o a Q}(hg:o.guard=none)(m x v)(hop:o.op=Op.mapUpdate 214 m x v){b n i f k}(hm:a.eval m=.map (some b))(h:cV 3 w b n f)(hn:n<=1048576)(hx:a.eval x=.int .i64 (i:Int))(hv:a.eval v=.int .i64 k)(hi:i<=4194304)(hk:(Lit.int .i64 k).wf=true)(hK:∀w',cV 3 w' b (n+1) (E4 f (ki i) k)->w.grownBy w' (some b)->wpList prog ops Q rest (a.put o.dst undef) w'):wpList prog ops Q (o::rest) a w:=by
 obtain⟨D,h1,h2⟩:=h;refine wpList_mapUpdate_own w hg m x v _ hop 3 3 Yq underlying214 _ b n D hm h1 (by unfold maxLen;omega) _ _ (ki i) hx hv (K9 hi) _ [] (plainElem_int underlying3 hk) λw' h3 h4=>hK w' ⟨_,h3,λt=>?_⟩ h4
 by_cases e:t=ki i
 .subst e;rw[has_put_same h1.isMap (by unfold ki;trivial),atKey_put_same h1.isMap (by unfold ki;trivial),px];exact⟨rfl,rfl⟩
 .rw[has_put_other e,atKey_put_other e,nh e];exact h2 t
def oE (f:Lit->Option Int)(i:Nat):Bool:=decide (0<(f (ki i)).getD 0)
theorem sM {p}(j):(List.range (j+1)).filter p=(List.range j).filter p++if p j=true then [j]else []:=by
 rw[List.range_succ,List.filter_append];cases h:p j<;>simp[h]
theorem ky {p}(j):((List.range j).filter p).length<=j:=by have:=List.length_filter_le p (List.range j);simpa using this
def pQ (q:Qy)(L:List Nat)(j:Nat):Nat:=((L.take j).filter (mZ q)).length
theorem yj {q L j i}(h:L[j]? =some i):pQ q L (j+1)=pQ q L j+if mZ q i=true then 1 else 0:=by
 unfold pQ;rw[zJ,h,List.filter_append,zH];cases hx:mZ q i<;>simp[hx]
namespace dR
open cH
theorem Uq (A c F t)(hs:tT t)(w)(hK:cW w)(hF:∀b,F b->b<w.heap.size)(r:Rd w F (.slice A t.length c) (.sl t.length (t.flatMap b9)))(ht:aW t=true):
  Cl 97 #[.slice A t.length c] w (j9 (cI t) w):=by
 have bL:Bw w (w.alloc (.cells ⟨[.slice A t.length c]⟩ 28)):=bA;have k1:=sx A c F t hs _ (hK.stay bL) (λb h=>zF (hF b h) bL.size) (r.under bL hF);rw[ht]at k1;obtain⟨⟨n,hn,hsp⟩,_,_⟩:=dF ht;have eC:=hs.1;have wv:ao (w.alloc (.cells ⟨[.slice A t.length c]⟩ 28)) w.heap.size 28 [.slice A t.length c]:=ao.new _ _ _;have kc:∀W,Below (w.alloc (.cells ⟨[.slice A t.length c]⟩ 28)).heap.size (w.alloc (.cells ⟨[.slice A t.length c]⟩ 28)) W->
   Cl 141 #[.int .i64 n,.pointer (some ⟨w.heap.size,0,none⟩),.pointer (some ⟨W.heap.size,0,none⟩),.pointer (some ⟨W.heap.size+1,0,none⟩)] ((W.alloc (.cells ⟨[.slice none 0 0]⟩ 52)).alloc (.cells ⟨[.func (.func 141) #[] #[.pointer (some ⟨w.heap.size,0,none⟩),.pointer (some ⟨W.heap.size,0,none⟩),.pointer (some ⟨W.heap.size+1,0,none⟩)]]⟩ 213))
    (sL t A c w.heap.size w.heap.size W.heap.size (W.heap.size+1) ((W.alloc (.cells ⟨[.slice none 0 0]⟩ 52)).alloc (.cells ⟨[.func (.func 141) #[] #[.pointer (some ⟨w.heap.size,0,none⟩),.pointer (some ⟨W.heap.size,0,none⟩),.pointer (some ⟨W.heap.size+1,0,none⟩)]]⟩ 213)) (cI t))/\Bw w ((W.alloc (.cells ⟨[.slice none 0 0]⟩ 52)).alloc (.cells ⟨[.func (.func 141) #[] #[.pointer (some ⟨w.heap.size,0,none⟩),.pointer (some ⟨W.heap.size,0,none⟩),.pointer (some ⟨W.heap.size+1,0,none⟩)]]⟩ 213)):=λW hW=>by
  have aX:=bL.trans (hW.mono bL.size);have hC:=CJ.new aX (wv.stay hW);have hB:=(aX.alloc aX.size (.cells ⟨[.slice none 0 0]⟩ 52)).alloc (by have:=aX.size;simp;omega) (.cells ⟨[.func (.func 141) #[] #[.pointer (some ⟨w.heap.size,0,none⟩),.pointer (some ⟨W.heap.size,0,none⟩),.pointer (some ⟨W.heap.size+1,0,none⟩)]]⟩ 213);have:=Qc A c F t eC w.heap.size w.heap.size W.heap.size (W.heap.size+1) w hF nR r (n+1) 0 n oQ hsp _ _ [] hB hC (by simp;omega);rw[List.nil_append]at this;have e:pY t t.length n=cI t:=by unfold cI;rw[show t.length-1=n by omega]
  rw[e]at this;exact⟨this,hB⟩
 have CV:=tS
 have y0:∀W,Below (w.alloc (.cells ⟨[.slice A t.length c]⟩ 28)).heap.size (w.alloc (.cells ⟨[.slice A t.length c]⟩ 28)) W->((W.alloc (.cells ⟨[.slice none 0 0]⟩ 52)).alloc (.cells ⟨[.func (.func 141) #[] #[.pointer (some ⟨w.heap.size,0,none⟩),.pointer (some ⟨W.heap.size,0,none⟩),.pointer (some ⟨W.heap.size+1,0,none⟩)]]⟩ 213)).cell? ⟨w.heap.size,0,none⟩=some (.slice A t.length c):=λW hW=>((((wv.stay hW).alloc _).alloc _).cell 0)
 have nw:IntKind.i64.wrap (n:Int)=n:=by rw[xI];omega
 have n0:=aH n;have n1:n<=1048576:=oQ;replace⟨k1,kc,y0⟩:=H3 k1 kc y0;clear r hs hK hF ht hsp eC wv bL;rw[hn]at k1 kc y0 |-;generalize cI t=L at*;replace hn:=Hd hn;go_enter func97,ntmps97;go_upto_region 6 with(go_at_call 89;refine k1.o.mono ?_;rintro e W ⟨rfl,hW⟩;have y1:=y0.o W hW;have k2:=Hd (kc.o W hW);replace hW:=Hd hW)
 go_wp2_with (go_at_call 141;refine k2.o.1.mono ?_;rintro e W2 ⟨rfl,v,hC,aX⟩;obtain⟨A2,c2,rfl⟩:=hC.ol.form;have z0:=hC.bO.cell 0;simp only[zY]at z0;replace hC:=Hd hC;replace aX:=Hd (k2.o.2.trans aX));go_ret;exact j9.mk hC.o.ol aX.o
theorem La (q s bq m n f)(hl:q.items.length<=1048576)(w)(hq:ao w bq 31 (qV q s))(hM:cV 3 w m n f):
  Cl 142 #[.map (some m),.pointer (some ⟨bq,0,none⟩)] w (j9 ((List.range q.items.length).filter (oE f)) w):=by
 have y0:=hq.cell 0;have B0:=hM.lt;obtain⟨A1,c1,A2,c2,A3,c3⟩:=s;simp only[qV,zY]at y0;replace hM:=Hd hM;clear hq;go_enter func142,ntmps142;go_wp2;clear y0;go_loopw [4,9] (λv i wr=>∃j:Nat,j<=q.items.length/\i=.int .i64 j/\Bw w wr/\OL wr w.heap.size eL 3 1 v ((List.range j).filter (oE f)).length (((List.range j).filter (oE f)).map iJ)) (λ_ i _=>q.items.length- (intOf i).toNat)
 .exact⟨0,zE _,rfl,bR,OL.nil _ _ _ _ _⟩
 obtain⟨j,hj,rfl,hB,hO⟩:=hrel;have bz:=sM (p:=oE f) j;have O2:=ky (p:=oE f) j;obtain⟨A4,c4,rfl⟩:=hO.form;by_cases hlt:j<q.items.length
 .have g1:=aH j;have g2:=aV j q.items.length;have E5:=hM.o.kept (row:=none) (w':=wr) ⟨hB.os,hB.tape,hB.output,hB.size,λk hk _=>hB.block k hk⟩ sJ;have lk:=E5.rB (i:=j) oQ;generalize hL:(List.range j).filter (oE f)=L at*;generalize jn:(List.range (j+1)).filter (oE f)=L2 at*;have YB:oE f j=decide (0<(f (ki j)).getD 0):=rfl;generalize (f (ki j)).getD 0=cv at lk YB;have rA:=hB.size;by_cases hp:0<cv
  .have hd:oE f j=true:=(by rw[YB];exact zW hp);rw[if_pos hd]at bz;have cY:∀v' w1,(wr.alloc (.cells ⟨[.int .i64 (j:Nat)]⟩ 3)).grownBy w1 (Value.slice A4 L.length c4).ownBlock->OL w1 w.heap.size eL 3 1 v' (L.length+1) (L.map iJ++[iJ j])->Bw w w1/\OL w1 w.heap.size eL 3 1 v' L2.length (L2.map iJ):=λv' w1 hg ax=>by
    refine⟨(hB.alloc rA _).grown hg (by simp;omega) (λq hq=>(hO.lt q hq).1),?_⟩;rw[bz,zH,xR];exact ax
   have dv:=Hd (hO.alloc (.cells ⟨[.int .i64 (j:Nat)]⟩ 3));have hLL:L.length<=1048576:=oQ;replace⟨cY,bz,hL,jn,hd⟩:=H5 cY bz hL jn hd;clear YB E5 hO hB;go_wp2_with (at_builtin;refine ez rfl (.tmp 16) (.tmp 18) _ rfl (m:=1) (news:=[iJ j]) dS dv.o rfl rfl (Src.lit (show fB wr _ [.int .i64 j] [iJ j]from⟨.v _ rfl,trivial⟩)) rfl oQ oQ (by simp;omega) ?_;intro v' w1 ax aw bu;obtain⟨B3,d3,rfl⟩:=ax.form;have dB:=Hd (cY.o _ _ aw ax);clear ax aw bu);go_roundw
   .exact⟨j+1,oQ,gQ,dB.o.1,by rw[jn.o];exact dB.o.2⟩
   exact mQ
  .have hd:¬oE f j=true:=(by rw[YB];simp;omega);rw[if_neg hd,zT]at bz;replace⟨bz,hL,jn,hd,hB,hO⟩:=H6 bz hL jn hd hB hO;clear YB E5;go_wp2;go_roundw
   .exact⟨j+1,oQ,gQ,hB.o,by rw[jn.o,bz.o];exact hO.o⟩
   exact mQ
 .have g1:=jS j q.items.length;obtain rfl:j=q.items.length:=oQ;replace⟨hB,hO,bz⟩:=H3 hB hO bz;go_wp2;go_ret;exact j9.mk hO.o hB.o
end dR
