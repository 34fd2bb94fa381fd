/- How great Query's answer is. -/
import Derived.Test.YtjbcbibkhalagaaGreatDoorS1
import Derived.Test.YtjbcbibkhalagaaGreatDoorProg
namespace Go.Proofs.YtjbcbibkhalagaaGreatDoor
set_option maxRecDepth 100000
set_option maxHeartbeats 16000000
open Proofs.Tryz Go.RowKit Go.Deep
set_option linter.unusedVariables false
set_option linter.unusedSimpArgs false
section
variable {S:List Td}{T:List Kd}{q:Qy}{M:Nat}
def xw (M:Nat)(T:List Kd):Prop:=∀k∈T,k.nm.size<=M/\∀f∈k.fs,f.nm.size<=M
theorem Xn (hT:xw M T){ty fr}:∀{out o:ByteArray},out.size<=M->nu ty fr T out=some o->o.size<=M:=by
 induction T with
 |nil=>intro out o ho h;injection h with h;subst h;exact ho
 |cons k r ih=>
  intro out o ho h;have K0:=@ih λk hk=>hT k (xU _ hk)
  unfold nu at h;split at h
  .exact K0 ho h
  .split at h
   .cases h
   .rename_i f hf;split at h
    .cases h
    .exact K0 ((hT k xS).2 f (List.mem_of_find?_eq_some hf)) h
theorem Xo (hT:xw M T){a}:∀{ah:List ByteArray}{out o:ByteArray},out.size<=M->vq S T a ah out=some o->o.size<=M:=by
 intro ah;induction ah with
 |nil=>intro out o ho h;injection h with h;subst h;exact ho
 |cons n r ih=>
  intro out o ho h;unfold vq at h;split at h
  .cases h
  .rename_i o1 h1;exact ih (Xn hT ho h1) h
theorem yW (hT:xw M T)(hM:2<=M){ah a o}(h:bJ S T ah a=some o):o.size<=M:=by
 unfold bJ at h;split at h
 .injection h with h;subst h;exact hM
 .split at h
  .cases h
  .rename_i o1 h1;split at h
   .cases h
   .injection h with h
    subst h;exact Xo hT (show emp.size<=M from zE _) h1
theorem OU (hT:xw M T)(hM:2<=M){x y}(hx:x.at_.size<=M)(h:ij S T q x=some y):y.v=x.v/\y.at_.size<=M:=by
 unfold ij at h;split at h
 .injection h with h;subst h;exact⟨rfl,hx⟩
 .split at h
  .cases h
  .obtain⟨a,ha,rfl⟩:=xG.1 h;exact⟨rfl,yW hT hM ha⟩
theorem En (hT:xw 1048576 T):∀{t t':List Nd},tT t->bB S T q t=some t'->tT t'/\t'.length=t.length:=by
 intro t;induction t with
 |nil=>intro t' ht h;injection h with h;subst h;exact⟨ht,rfl⟩
 |cons x r ih=>
  intro t' ht h;have hr:tT r:=⟨by have:=ht.1;simp at this;omega,λy hy=>ht.2 y (xU _ hy)⟩;unfold bB at h;split at h
  .cases h
  .rename_i y hy;obtain⟨r',qZ,rfl⟩:=xG.1 h;obtain⟨h1,h2⟩:=ih hr qZ;obtain⟨e1,e2⟩:=OU hT dQ (ht.2 x xS).2 hy;have h3:=ht.1;refine⟨⟨by simp at h3 |-;omega,λz hz=>?_⟩,by simp;exact h2⟩;rcases List.mem_cons.1 hz with rfl |hz
   .exact⟨by rw[e1];exact(ht.2 x xS).1,e2⟩
   .exact h1.2 z hz
theorem SH (hT:xw 1048576 T):∀{l l':List (List Nd)},(∀t∈l,tT t)->fT S T q l=some l'->(∀t∈l',tT t)/\l'.length=l.length:=by
 intro l;induction l with
 |nil=>intro l' hl h;injection h with h;subst h;exact⟨hl,rfl⟩
 |cons x r ih=>
  intro l' hl h;unfold fT at h;split at h
  .cases h
  .rename_i y hy;obtain⟨r',qZ,rfl⟩:=xG.1 h;obtain⟨h1,h2⟩:=ih (λt ht=>hl t (xU _ ht)) qZ;refine⟨λz hz=>?_,by simp;exact h2⟩;rcases List.mem_cons.1 hz with rfl |hz
   .exact(En hT (hl x xS) hy).1
   .exact h1 z hz
theorem JT (hT:xw M T)(n):(eZ S T n).size<=M:=by
 unfold eZ;split
 .rename_i k hk;exact(hT k (List.mem_of_find?_eq_some hk)).1
 .exact zE _
theorem Xp (hT:xw 1048576 T){x}(hx:Yn x):Yn (wA S T x):=by
 obtain⟨⟨h1,h2⟩,h3⟩:=hx;refine⟨⟨by show(x.ah.map _).length<=_;rw[xC];exact h1,λa ha=>?_⟩,h3⟩;obtain⟨n,_,rfl⟩:=List.mem_map.1 (show a∈x.ah.map (eZ S T)from ha);exact JT hT n
theorem GJ (hT:xw 1048576 T)(hs:jE q){q'}(h:bK S T q=some q'):jE q'/\q'.items.length=q.items.length/\q'.ret.length=q.ret.length:=by
 unfold bK at h;split at h
 .cases h
 .rename_i wh VD;obtain⟨w1,w2⟩:=En hT hs.wh VD;split at h
  .cases h
  .rename_i ret iA;obtain⟨r1,r2⟩:=SH hT hs.re iA;have hit:∀x∈q.items.map (wA S T),Yn x:=λx hx=>by
    obtain⟨y,hy,rfl⟩:=List.mem_map.1 hx;exact Xp hT (hs.it y hy)
   split at h
   .injection h with h
    subst h;exact⟨⟨by simp;exact hs.il,hit,w1,hs.au,by simp only;rw[r2];exact hs.rl,r1⟩,sJ,r2⟩
   .split at h
    .cases h
    .rename_i b hb;injection h with h
     subst h;exact⟨⟨by simp;exact hs.il,hit,w1,yW hT dQ hb,by simp only;rw[r2];exact hs.rl,r1⟩,sJ,r2⟩
end
theorem Xq {S L}(h0:dy S=0)(cK:∀j,j<L.length->eH S L j):xw 1048576 (aD S L L.length):=λk hk=>by
 obtain⟨_,_,lK⟩:=oP (Dm h0 cK);obtain⟨n1,_,n2⟩:=lK (cR k) (xJ hk);have a1:=pF n1;refine⟨zU a1 dQ,λf hf=>?_⟩;have a2:=pF (n2 _ (xJ hf));exact zU a2 dQ
def zQ:Qy:=⟨[],0,0,[],0,emp,[]⟩
theorem TC:jE zQ:=⟨dQ,λx hx=>(by cases hx),⟨dQ,λx hx=>(by cases hx)⟩,dQ,dQ,λx hx=>(by cases hx)⟩
theorem iY.sz {S L q R c a}(h:iY S L q R c a)(hs:jE q):jE (R.getD zQ)/\(R.getD zQ).items.length<=20/\(R.getD zQ).ret.length<=20:=by
 have hz:jE ((none:Option Qy).getD zQ)/\((none:Option Qy).getD zQ).items.length<=20/\((none:Option Qy).getD zQ).ret.length<=20:=⟨TC,dQ,dQ⟩;rcases h with⟨_,rfl⟩|⟨h1,h2⟩
 .exact hz
 .obtain⟨m1,_,m3,_⟩:=Ml h1;by_cases h:bf (dy S) S q=0
  .obtain⟨_,_,i1,i2,_⟩:=qC h;cases hl:ei S q (dr S L L.length)with
   |some y=>rw[mL h hl]at h2;injection h2 with h2 _;subst h2;exact hz
   |none=>
    cases ht:bK S (aD S L L.length) q with
    |none=>rw[mM h hl ht]at h2;injection h2 with h2 _;subst h2;exact hz
    |some q'=>
     rw[mN h hl ht]at h2;injection h2 with h2 _
     subst h2;obtain⟨s1,s2,s3⟩:=GJ (Xq m1 m3) hs ht;exact⟨s1,by show q'.items.length<=20;omega,by show q'.ret.length<=20;omega⟩
  .rw[mK h]at h2;injection h2 with h2 _
   subst h2;exact hz
section
variable {S:List Td}{L:List Cg}{q:Qy}{w w' W W2:World}{e:Ending}
theorem OQ.none (w:World)(B:Nat):OQ w B (.slice none 0 0) (.slice none 0 0) (.slice none 0 0) [] [] []:=⟨RW.nil KI w B,OL.nil _ _ _ _ _,RW.nil KR w B,λp hp=>by cases hp⟩
theorem lF.own (h:lF S L q w e w'):∃code at_ R v1 v2 v3 l rl,e=.returned (.tuple #[.agg ⟨l8 (Option.getD R zQ) v1 v2 v3 (Option.getD R zQ).au⟩,.int .i64 code,.int .i64 at_])/\iY S L q R code at_/\
  OQ w' w.heap.size v1 v2 v3 l (Option.getD R zQ).wh rl/\l.map (·.1)=(Option.getD R zQ).items/\rl.map (·.1)=(Option.getD R zQ).ret/\Bw w w':=by
 obtain⟨vs,code,at_,R,rfl,h1,h2,h3,h4⟩:=h;cases R with
 |none=>
  rw[h2 rfl];exact⟨code,at_,none,_,_,_,[],[],rfl,h1,OQ.none _ _,rfl,rfl,h4⟩
 |some q'=>
  obtain⟨v1,v2,v3,l,rl,rfl,g1,g2,g3⟩:=h3 q' rfl;exact⟨code,at_,some q',v1,v2,v3,l,rl,rfl,h1,g1,g2,g3,h4⟩
end
section
variable {α:Type}
theorem Xr {f g}{n:α->Nat}{ds:α->List D}{m}(hf:∀p,(f p).length=m)(hg:∀x,(g x).length=m)(hp:∀(p:α×Value)(k:Nat)(d:D),(g p.1)[k]? =some d->∃d',(f p)[k]? =some d'/\(d'=d\/(d'=.v p.2/\d=.sl (n p.1) (ds p.1)))):∀{l:List (α×Value)}{k:Nat}{d:D},((l.map (·.1)).flatMap g)[k]? =some d->∃d',(l.flatMap f)[k]? =some d'/\(d'=d\/∃p∈l,d'=.v p.2/\d=.sl (n p.1) (ds p.1)):=by
 intro l;induction l with
 |nil=>intro k d h;simp at h
 |cons a l ih=>
  intro k d h;rw[List.map_cons,zK]at h;rw[zK];by_cases hk:k<m
  .rw[zS (by rw[hg];omega)]at h;rw[zS (by rw[hf];omega)];obtain⟨d',h1,h2⟩:=hp a k d h;refine⟨d',h1,?_⟩;rcases h2 with h2 |h2
   .exact .inl h2
   .exact .inr ⟨a,xS,h2⟩
  .rw[zP (by rw[hg];omega),hg]at h;rw[zP (by rw[hf];omega),hf];obtain⟨d',h1,h2⟩:=ih h;refine⟨d',h1,?_⟩;rcases h2 with h2 |⟨p,hp,h3⟩
   .exact .inl h2
   .exact .inr ⟨p,xU _ hp,h3⟩
theorem RW.rd {K w B v l G g}(h:RW K w B v l)(hK:K.es≠K.e)(hf:∀p,(K.f p).length=K.size)(hg:∀x,(g x).length=K.size)(hp:∀(p:α×Value)(k:Nat)(d:D),(g p.1)[k]? =some d->∃d',(K.f p)[k]? =some d'/\(d'=d\/(d'=.v p.2/\d=.sl (K.n p.1) (K.ds p.1))))(hG:∀b,B<=b->b<w.heap.size->G b):Rd w G v (.sl l.length ((l.map (·.1)).flatMap g)):=by
 have hO:OL w B G K.e K.size v l.length ((l.map (·.1)).flatMap g):=by
  obtain⟨cells,h1,h2,h3⟩:=h.kr;refine⟨cells,h1,by rw[BO (f:=g) hg,xC,h1.1],λk d hd=>?_⟩;obtain⟨d',GK,wO⟩:=Xr hf hg hp hd;obtain⟨u,hu,hr⟩:=h3 k d' GK;refine⟨u,hu,?_⟩;rcases wO with rfl |⟨p,hp,rfl,rfl⟩
  .exact hr.mono λb hb _=>hb.1.elim
  .have hv:=hr.bH;subst hv;refine(h.fr p hp).Kr (λb hb _=>hb.elim) (λb hb h1 h2=>⟨hG b h1 h2,λe=>?_⟩);rcases(h.fr p hp).ne h.kr hK with e2 |e2
   .rw[hb]at e2;cases e2
   .exact e2 (by rw[hb,e])
 exact hO.rd (λb hb _=>hb) hG
end
theorem OQ.qr {w B v1 v2 v3 l rl q G}(h:OQ w B v1 v2 v3 l q.wh rl)(hl:l.map (·.1)=q.items)(hr:rl.map (·.1)=q.ret)(hG:∀b,B<=b->b<w.heap.size->G b)(hlt:∀b,G b->b<w.heap.size):
  ∃s,l8 q v1 v2 v3 q.au=qV q s/\QR w G q s:=by
 have e1:l.length=q.items.length:=by rw[<-hl,xC]
 have e3:rl.length=q.ret.length:=by rw[<-hr,xC]
 have r1:=h.i.rd (G:=G) (g:=SV) dQ (λ_=>rfl) (λ_=>rfl) (λp k d hd=>by
  match k,hd with
  |0,hd=>exact⟨_,rfl,.inl (eO hd)⟩
  |1,hd=>exact⟨_,rfl,.inr ⟨rfl,(eO hd).symm⟩⟩
  |2,hd=>exact⟨_,rfl,.inl (eO hd)⟩
  |3,hd=>exact⟨_,rfl,.inl (eO hd)⟩
  |4,hd=>exact⟨_,rfl,.inl (eO hd)⟩
  |k+5,hd=>simp[SV]at hd) hG
 have r3:=h.r.rd (G:=G) (g:=Xv) dQ (λ_=>rfl) (λ_=>rfl) (λp k d hd=>by
  match k,hd with
  |0,hd=>exact⟨_,rfl,.inr ⟨rfl,(eO hd).symm⟩⟩
  |k+1,hd=>simp[Xv]at hd) hG
 have r2:=h.wr.rd (G:=G) (λb hb _=>hb.elim) hG;obtain⟨A1,c1,rfl⟩:=h.i.kr.form;obtain⟨A2,c2,rfl⟩:=h.wr.form;obtain⟨A3,c3,rfl⟩:=h.r.kr.form;rw[hl,e1]at r1;rw[hr,e3]at r3;exact⟨⟨A1,c1,A2,c2,A3,c3⟩,by rw[e1,e3];rfl,⟨r1,r2,r3,hlt⟩⟩
structure JA where
 a0:Option Addr
 c0:Nat
 s:fV
 a5:Option Addr
 c5:Nat
 a6:Option Addr
 c6:Nat
 a7:Option Addr
 c7:Nat
 a8:Option Addr
 c8:Nat
def jP (x:tg)(z:JA):List Value:=.slice z.a0 x.S.length z.c0::(qV x.q z.s++[.int .i64 x.cap,.int .i64 x.mark,.bool x.closed,.slice z.a5 x.held.length z.c5,.slice z.a6 x.kept.length z.c6,.slice z.a7 x.wait.length z.c7,.slice z.a8 x.used.length z.c8])
def sm:List Value:=.slice none 0 0::(lT++[.int .i64 0,.int .i64 0,.bool false,.slice none 0 0,.slice none 0 0,.slice none 0 0,.slice none 0 0])
theorem bZ:jV prog 36 15:=⟨_,underlying36,rfl,kQ⟩
theorem ab2 (x z):(jP x z).length=15:=rfl
structure SR (w:World)(F:Nat->Prop)(x:tg)(z:JA):Prop where
 rs:Rd w F (.slice z.a0 x.S.length z.c0) (.sl x.S.length (x.S.flatMap fj))
 rq:QR w F x.q z.s
 rh:Rd w F (.slice z.a5 x.held.length z.c5) (.sl x.held.length (x.held.flatMap oc))
 rk:Rd w F (.slice z.a6 x.kept.length z.c6) (.sl x.kept.length (x.kept.flatMap oc))
 DU:Rd w F (.slice z.a7 x.wait.length z.c7) (.sl x.wait.length (x.wait.flatMap Pk))
 ru:Rd w F (.slice z.a8 x.used.length z.c8) (.sl x.used.length (x.used.flatMap qi))
section
variable {w w' W:World}{F G:Nat->Prop}{x:tg}{z:JA}
theorem SR.lt (h:SR w F x z):∀b,F b->b<w.heap.size:=h.rq.lt
theorem SR.under (h:SR w F x z)(hb:Bw w W):SR W F x z:=⟨h.rs.under hb h.lt,h.rq.under hb,h.rh.under hb h.lt,h.rk.under hb h.lt,h.DU.under hb h.lt,h.ru.under hb h.lt⟩
theorem SR.mono (h:SR w F x z)(hk:∀b,F b->b<w.heap.size->G b)(hG:∀b,G b->b<w.heap.size):SR w G x z:=⟨h.rs.mono hk,⟨h.rq.r1.mono hk,h.rq.r2.mono hk,h.rq.r3.mono hk,hG⟩,h.rh.mono hk,h.rk.mono hk,h.DU.mono hk,h.ru.mono hk⟩
theorem bj {g}(h:ao W g 36 (jP x z)):W.cell? ⟨g,0,none⟩=some (.slice z.a0 x.S.length z.c0)/\W.cell? ⟨g,1,none⟩=some (.slice z.s.a1 x.q.items.length z.s.c1)/\W.cell? ⟨g,2,none⟩=some (.int .i64 x.q.mode)/\W.cell? ⟨g,3,none⟩=some (.int .i64 x.q.after)/\
  W.cell? ⟨g,4,none⟩=some (.slice z.s.a2 x.q.wh.length z.s.c2)/\W.cell? ⟨g,5,none⟩=some (.int .i64 x.q.within)/\W.cell? ⟨g,6,none⟩=some (.string x.q.au)/\W.cell? ⟨g,7,none⟩=some (.slice z.s.a3 x.q.ret.length z.s.c3)/\W.cell? ⟨g,8,none⟩=some (.int .i64 x.cap)/\W.cell? ⟨g,9,none⟩=some (.int .i64 x.mark)/\
  W.cell? ⟨g,10,none⟩=some (.bool x.closed)/\W.cell? ⟨g,11,none⟩=some (.slice z.a5 x.held.length z.c5)/\W.cell? ⟨g,12,none⟩=some (.slice z.a6 x.kept.length z.c6)/\W.cell? ⟨g,13,none⟩=some (.slice z.a7 x.wait.length z.c7)/\W.cell? ⟨g,14,none⟩=some (.slice z.a8 x.used.length z.c8):=
 ⟨h.cell 0,h.cell 1,h.cell 2,h.cell 3,h.cell 4,h.cell 5,h.cell 6,h.cell 7,h.cell 8,h.cell 9,h.cell 10,h.cell 11,h.cell 12,h.cell 13,h.cell 14⟩
end
def Bt (L:List Cg)(x:tg)(F:Nat->Prop)(w:World)(e:Ending)(w':World):Prop:=∃vs code at_ R,e=.returned (.tuple #[.agg ⟨vs⟩,.int .i64 code,.int .i64 at_])/\xe L x R code at_/\(R=none->vs=sm)/\
 (∀y,R=some y->∃z,vs=jP y z/\SR w' (λb=>F b\/w.heap.size<=b/\b<w'.heap.size) y z)/\Bw w w'
structure RM (w:World)(B:Nat)(v:Value)(l:List (Mt×Value×Value×Value)):Prop where
 kr:OL w B bE 55 4 v l.length (l.flatMap λp=>[.v (.int .i64 p.1.dec),.v p.2.1,.v p.2.2.1,.v p.2.2.2])
 f1:∀p∈l,OL w B bE 51 2 p.2.1 p.1.iE.length (p.1.iE.flatMap qi)
 f2:∀p∈l,OL w B bE 3 1 p.2.2.1 p.1.lens.length (p.1.lens.flatMap (jf .i64))
 f3:∀p∈l,OL w B bE 57 2 p.2.2.2 p.1.vals.length (p.1.vals.flatMap uh)
 ne:∀(i j:Nat)(p q:Mt×Value×Value×Value),l[i]? =some p->l[j]? =some q->i≠j->(p.2.1.ownBlock=none\/p.2.1.ownBlock≠q.2.1.ownBlock)/\(p.2.2.1.ownBlock=none\/p.2.2.1.ownBlock≠q.2.2.1.ownBlock)/\(p.2.2.2.ownBlock=none\/p.2.2.2.ownBlock≠q.2.2.2.ownBlock)
theorem RM.stay {w w2 B v l}(h:RM w B v l)(hb:Bw w w2):RM w2 B v l:=⟨h.kr.stay hb,λp hp=>(h.f1 p hp).stay hb,λp hp=>(h.f2 p hp).stay hb,λp hp=>(h.f3 p hp).stay hb,h.ne⟩
namespace pX
open cH dR di
theorem NB (B cb F G x z L)(hS:iI x.S)(hL:L.length<=1048576)(hC:∀c∈L,ED c)(hs:jE x.q)(mF:Cc x.q)(hh:x.held.length<=1048576)(hk:x.kept.length<=1048576)(w)(hK:cW w)(hG:∀b,G b->b<w.heap.size)(R:SR w F x z)(rc:Rd w G (.slice B L.length cb) (.sl L.length (L.flatMap pB))):
  Cl 8 #[.agg ⟨jP x z⟩,.slice B L.length cb] w (Bt L x F w):=by
 obtain⟨W0,cg⟩:=aB ((w.alloc (.cells ⟨jP x z⟩ 36)).alloc (.cells ⟨sm⟩ 36))
 have bL:Bw w W0:=by rw[cg];exact(bA).alloc sJ _
 have b2:ao W0 w.heap.size 36 (jP x z):=by rw[cg];exact(ao.new _ _ _).alloc _
 have b4:ao W0 (w.heap.size+1) 36 sm:=by rw[cg];exact ao.new' sJ
 have hF:=R.lt;have Tw:w.heap.size+1<W0.heap.size:=b4.lt;have k1:=Nc z.a0 B z.c0 cb F G x.S L x.q z.s hS hL hC hs mF W0 (hK.stay bL) (λb h=>zF (hG b h) bL.size) (R.rs.under bL hF) (rc.under bL hG) (R.rq.under bL);have k2:=λW (hW:Bw w W)=>Eh z.a0 B z.c0 cb F G x.S L hS hL hC W (hK.stay hW) (λb h=>zF (hF b h) hW.size) (λb h=>zF (hG b h) hW.size) (R.rs.under hW hF) (rc.under hW hG)
 have k3:=λ(T:List Kd)(hM:fJ x.S L (some T) 0 0) W (hW:Bw w W)=>xW (tL z.a0 B z.c0 cb F G x.S L T hS hL hC hM W (hK.stay hW) (λb h=>zF (hF b h) hW.size) (λb h=>zF (hG b h) hW.size) (R.rs.under hW hF) (rc.under hW hG) z.a5 z.c5 F x.held hh (λb h=>zF (hF b h) hW.size) (R.rh.under hW hF)) (tL z.a0 B z.c0 cb F G x.S L T hS hL hC hM W (hK.stay hW) (λb h=>zF (hF b h) hW.size) (λb h=>zF (hG b h) hW.size) (R.rs.under hW hF) (rc.under hW hG) z.a6 z.c6 F x.kept hk (λb h=>zF (hF b h) hW.size) (R.rk.under hW hF))
 obtain⟨y0,y1,y2,y3,y4,y5,y6,y7,y8,y9,kU,kP,kJ,kK,kL⟩:=bj b2;have R0:=Hd R;obtain⟨a0,c0,⟨A1,d1,A2,d2,A3,d3⟩,a5,c5,a6,c6,a7,c7,a8,c8⟩:=z;simp only[jP,sm,lT,qV,List.cons_append,List.nil_append]at cg y0 y1 y2 y3 y4 y5 y6 y7 y8 y9 kU kP kJ kK kL k1 k2 k3 |-;have qd:=Hd cg;replace⟨k1,k2,k3,b2,b4,bL⟩:=H6 k1 k2 k3 b2 b4 bL;clear hK hG rc R hF cg hS hL hC hs mF;go_enter func8,ntmps8;go_upto_region 1 with fail
 rw[<-qd.o];go_upto_region 2 with(go_at_call 25;refine k1.o.mono ?_;rintro e W1 hP;obtain⟨code,at_,O,v1,v2,v3,l,rl,rfl,hA,hO,hl,hr,az⟩:=hP.own;obtain⟨Q,hQ⟩:=aB (Option.getD O zQ);rw[<-hQ]at hO hl hr |-;clear hP;replace⟨hQ,hl,hr,hA⟩:=H4 hQ hl hr hA;obtain⟨g1,Co,e1⟩:=hO.i.kr.form;obtain⟨g2,Cp,e2⟩:=hO.wr.form;obtain⟨g3,Cq,e3⟩:=hO.r.kr.form;subst e1 e2 e3;simp only[l8];have el:l.length=Q.items.length:=(by rw[<-hl.o,xC]);have er:rl.length=Q.ret.length:=(by rw[<-hr.o,xC]);rw[el,er];replace⟨el,er⟩:=H2 el er)
 clear y0 y1 y2 y3 y4 y5 y6 y7 y8 y9 kU kP kJ kK kL;obtain⟨Kk,vN⟩:=aB (W1.alloc (.cells ⟨[.slice g1 Q.items.length Co,.int .i64 Q.mode,.int .i64 Q.after,.slice g2 Q.wh.length Cp,.int .i64 Q.within,.string Q.au,.slice g3 Q.ret.length Cq]⟩ 31))
 rw[<-vN];have Bl:Bw W0 Kk:=by rw[vN];exact az.alloc az.size _
 have Nt:Bw W1 Kk:=by rw[vN];exact bA
 have bq:ao Kk W1.heap.size 31 [.slice g1 Q.items.length Co,.int .i64 Q.mode,.int .i64 Q.after,.slice g2 Q.wh.length Cp,.int .i64 Q.within,.string Q.au,.slice g3 Q.ret.length Cq]:=by rw[vN];exact ao.new _ _ _
 have ax:=Hd (hO.stay Nt);have VQ:=Hd (b2.o.stay Bl);have RP:=Hd (b4.o.stay Bl);have ch:=Hd (bL.o.trans (Bl.mono bL.o.size));have nq:=bq.lt;have n4:=RP.o.lt;replace bq:=Hd bq;clear vN hO az Bl Nt b2 b4 bL k1;cases O with
 |none=>
  have fH:=hA.o.bad;have f1:=cM fH;have f2:=gL fH;replace fH:=Hd fH;go_wp2_with (refine ay (.store 36 (.tmp 4) (.tmp 29)) rfl ?_;refine eU rfl 36 (.tmp 4) (.tmp 29) rfl (cs':=sm) RP.o bZ rfl rfl rfl rfl ?_;intro w8 eX eY);exact yF rfl eX bZ rfl rfl rfl rfl ⟨_,_,_,none,rfl,⟨none,code,at_,hA.o,.inl ⟨rfl,rfl,rfl,rfl⟩⟩,λ_=>rfl,λy h=>(by cases h),ch.o.grown eY ch.o.size (λq hq=>by injection hq with hq;omega)⟩
 |some q'=>
  obtain⟨hM,rfl,rfl⟩:=hA.o.ok;obtain rfl:Q=q':=hQ.o;obtain⟨y0,y1,y2,y3,y4,y5,y6,y7,y8,y9,kU,kP,kJ,kK,kL⟩:=bj VQ.o;simp only at y0 y1 y4 y7 kP kJ kK kL;have Ud:=Hd hM;clear hM;go_upto_region 5 with(go_at_call 26;refine(k2.o _ ch.o).mono ?_;rintro e W2 ⟨v2,c2',a2',T2,rfl,Jr,Cn,O8,cD⟩;obtain⟨As,cs,rfl,_⟩:=O8.cU;obtain⟨e1,e2,e3⟩:=Ud.o.uniq Jr;subst e1 e2 e3)
  clear y0 y1 y2 y3 y4 y5 y6 y7 y8 y9 kU kP kJ kK kL;obtain⟨W2a,OV⟩:=aB (W2.alloc (.cells ⟨[.slice As (Tt (some (aD x.S L L.length))).length cs]⟩ 24))
  rw[<-OV];have JU:Bw Kk W2a:=by rw[OV];exact cD.alloc cD.size _
  have aaq:Bw W2 W2a:=by rw[OV];exact bA
  have bs:ao W2a W2.heap.size 24 [.slice As (Tt (some (aD x.S L L.length))).length cs]:=by rw[OV];exact ao.new _ _ _
  have aar:=Hd (O8.stay aaq);have n2:=cD.size;have n2':W2.heap.size<W2a.heap.size:=bs.lt;have df:=Hd (ch.o.trans (JU.mono ch.o.size));have iK:=Hd (ax.o.stay JU);have Po:=Hd (VQ.o.stay JU);have ZG:=Hd (RP.o.stay JU);have bq2:=Hd (bq.o.stay JU);have Ag:=Hd (k3.o (aD x.S L L.length) Ud.o);replace bs:=Hd bs;clear OV cD JU aaq O8 ax VQ RP bq ch k2 k3 Cn Jr;obtain⟨y0,y1,y2,y3,y4,y5,y6,y7,y8,y9,kU,kP,kJ,kK,kL⟩:=bj Po.o;simp only at y0 y1 y4 y7 kP kJ kK kL;go_upto_region 6 with(go_at_call 27;refine(Ag.o _ df.o).1.mono ?_;rintro e W3 ⟨v5,ok5,rfl,hn5,Tz,ig⟩)
  clear y0 y1 y2 y3 y4 y5 y6 y7 y8 y9 kU kP kJ kK kL;have l4:=Hd (df.o.trans (ig.mono df.o.size));have b2c:=Hd (Po.o.stay ig);replace⟨hn5,Tz⟩:=H2 hn5 Tz;obtain⟨y0,y1,y2,y3,y4,y5,y6,y7,y8,y9,kU,kP,kJ,kK,kL⟩:=bj b2c.o;simp only at y0 y1 y4 y7 kP kJ kK kL;go_upto_region 7 with(go_at_call 27;refine(Ag.o _ l4.o).2.mono ?_;rintro e W4 ⟨v6,ok6,rfl,Gq,TA,fI⟩)
  clear y0 y1 y2 y3 y4 y5 y6 y7 y8 y9 kU kP kJ kK kL;have JV:=ig.trans (fI.mono ig.size);have jJ:=Hd (l4.o.trans (fI.mono l4.o.size));have Bo:=Hd (b2c.o.stay fI);have b4d:=Hd (ZG.o.stay JV);have bs4:=Hd (bs.o.stay JV);have Xs:=Hd (bq2.o.stay JV);have lR:=Hd (iK.o.stay JV);have hR4:=Hd (aar.o.stay JV);have YQ:=ig.size;have hn4:=fI.size;have afH:=Hd (λh hh=>(Tz.o h hh).2.stay fI);replace⟨Gq,TA⟩:=H2 Gq TA;clear ig fI JV Po b2c ZG bs bq2 iK aar df l4 Ag;have bad:∀(w8:World),W4.grownBy w8 (some (w.heap.size+1))->(g8 x.S (aD x.S L L.length) x.held=none\/g8 x.S (aD x.S L L.length) x.kept=none)->Bt L x F w (.returned (.tuple #[.agg ⟨sm⟩,.int .i64 160,.int .i64 0])) w8:=λw8 hg wO=>
   ⟨_,_,_,none,rfl,⟨_,0,0,hA.o,.inr ⟨_,rfl,.inl ⟨wO,rfl,rfl,rfl⟩⟩⟩,λ_=>rfl,λy h=>(by cases h),jJ.o.grown hg jJ.o.size (λq hq=>by injection hq with hq;omega)⟩
  replace bad:=Hd bad;cases ok5 with
  |false=>
   have hE:g8 x.S (aD x.S L L.length) x.held=none:=by
    cases h:g8 x.S (aD x.S L L.length) x.held with
    |none=>rfl
    |some a=>have:=(Tz.o a h).1;cases this
   replace hE:=Hd hE;go_wp2_with (refine ay (.store 36 (.tmp 4) (.tmp 64)) rfl ?_;refine eU rfl 36 (.tmp 4) (.tmp 64) rfl (cs':=sm) b4d.o bZ rfl rfl rfl rfl ?_;intro w8 eX eY);exact yF rfl eX bZ rfl rfl rfl rfl (bad.o _ eY (.inl hE.o))
  |true=>
   cases ok6 with
   |false=>
    have hE:g8 x.S (aD x.S L L.length) x.kept=none:=by
     cases h:g8 x.S (aD x.S L L.length) x.kept with
     |none=>rfl
     |some a=>have:=(TA.o a h).1;cases this
    replace hE:=Hd hE;go_wp2_with (refine ay (.store 36 (.tmp 4) (.tmp 64)) rfl ?_;refine eU rfl 36 (.tmp 4) (.tmp 64) rfl (cs':=sm) b4d.o bZ rfl rfl rfl rfl ?_;intro w8 eX eY);exact yF rfl eX bZ rfl rfl rfl rfl (bad.o _ eY (.inr hE.o))
   |true=>
    obtain⟨H5,hH5⟩:∃h,g8 x.S (aD x.S L L.length) x.held=some h:=by
     cases h:g8 x.S (aD x.S L L.length) x.held with
     |none=>have:=(hn5.o h).2;cases this
     |some a=>exact⟨a,rfl⟩
    obtain⟨H6,hH6⟩:∃h,g8 x.S (aD x.S L L.length) x.kept=some h:=by
     cases h:g8 x.S (aD x.S L L.length) x.kept with
     |none=>have:=(Gq.o h).2;cases this
     |some a=>exact⟨a,rfl⟩
    have Kh:=afH.o H5 hH5;have hv6:=(TA.o H6 hH6).2;obtain⟨B5,e5,h5⟩:=Kh.form;obtain⟨B6,e6,h6⟩:=hv6.form;subst h5 h6;replace⟨Kh,hv6,hH5,hH6⟩:=H4 Kh hv6 hH5 hH6;obtain⟨y0,y1,y2,y3,y4,y5,y6,y7,y8,y9,kU,kP,kJ,kK,kL⟩:=bj Bo.o;simp only at y0 y1 y4 y7 kP kJ kK kL;have t0:=bs4.o.cell 0;have u0:=Xs.o.cell 0;have u1:=Xs.o.cell 1;have u2:=Xs.o.cell 2;have u3:=Xs.o.cell 3;have u4:=Xs.o.cell 4;have u5:=Xs.o.cell 5;have u6:=Xs.o.cell 6;simp only[zY,xA]at t0 u0 u1 u2 u3 u4 u5 u6;go_wp2_with (refine ay (.store 36 (.tmp 4) (.tmp 79)) rfl ?_;refine eU rfl 36 (.tmp 4) (.tmp 79) rfl (cs':=jP (F9 (aD x.S L L.length) x Q H5 H6) ⟨As,cs,⟨g1,Co,g2,Cp,g3,Cq⟩,B5,e5,B6,e6,a7,c7,a8,c8⟩) b4d.o bZ rfl rfl rfl rfl ?_;intro w8 eX eY);obtain⟨sq,XZ,Rq⟩:=lR.o.qr (q:=Q) (G:=λb=>W0.heap.size<=b/\b<W4.heap.size) hl.o hr.o (λb h1 h2=>⟨h1,h2⟩) (λb h=>h.2);have afI:sq=⟨g1,Co,g2,Cp,g3,Cq⟩:=by
     simp only[l8,qV,List.cons.injEq,Value.slice.injEq]at XZ;obtain⟨q1,q2,q3,q4,q5,q6⟩:=sq;simp only at XZ;obtain⟨⟨r1,_,r2⟩,_,_,⟨r3,_,r4⟩,_,_,⟨r5,_,r6⟩,_⟩:=XZ;subst r1 r2 r3 r4 r5 r6;rfl
    subst afI;have hs8:=eY.size;have R4:=R0.o.under jJ.o;have hFl:=R0.o.lt;have far:∀b,(w.heap.size+1<b\/b<w.heap.size)->some b≠some (w.heap.size+1):=λb hb e=>by injection e with e;omega
    have YV:=Kh.o.rd (G:=λb=>W2a.heap.size<=b) (λb hb _=>hb.elim) (λb h1 h2=>h1);have Cf:=hv6.o.rd (G:=λb=>W3.heap.size<=b) (λb hb _=>hb.elim) (λb h1 h2=>h1);have hst:SR w8 (λb=>F b\/w.heap.size<=b/\b<w8.heap.size) (F9 (aD x.S L L.length) x Q H5 H6) ⟨As,cs,⟨g1,Co,g2,Cp,g3,Cq⟩,B5,e5,B6,e6,a7,c7,a8,c8⟩:=
     ⟨(hR4.o.grown eY (λb hb=>far b (.inl (by have:=hb.1;omega)))).mono λb hb hl=>.inr ⟨by have:=hb.1;omega,hl⟩,
      ⟨(Rq.r1.grown eY (λb hb=>far b (.inl (by have:=hb.1;omega)))).mono λb hb hl=>.inr ⟨by have:=hb.1;omega,hl⟩,
       (Rq.r2.grown eY (λb hb=>far b (.inl (by have:=hb.1;omega)))).mono λb hb hl=>.inr ⟨by have:=hb.1;omega,hl⟩,
       (Rq.r3.grown eY (λb hb=>far b (.inl (by have:=hb.1;omega)))).mono λb hb hl=>.inr ⟨by have:=hb.1;omega,hl⟩,
       λb hb=>hb.elim (λh=>by have:=R4.lt b h;omega) (λh=>h.2)⟩,
      (YV.grown eY (λb hb=>far b (.inl oQ))).mono λb hb hl=>.inr ⟨oQ,hl⟩,
      (Cf.grown eY (λb hb=>far b (.inl oQ))).mono λb hb hl=>.inr ⟨oQ,hl⟩,
      (R4.DU.grown eY (λb hb=>far b (.inr (hFl b hb)))).mono λb hb _=>.inl hb,
      (R4.ru.grown eY (λb hb=>far b (.inr (hFl b hb)))).mono λb hb _=>.inl hb⟩
    exact yF rfl eX bZ rfl rfl rfl rfl ⟨_,_,_,some _,rfl,⟨_,0,0,hA.o,.inr ⟨_,rfl,.inr ⟨H5,H6,hH5.o,hH6.o,rfl,rfl,rfl⟩⟩⟩,λh=>(by cases h),λy hy=>(by injection hy with hy;subst hy;exact⟨_,rfl,hst⟩),jJ.o.grown eY jJ.o.size (λq hq=>by injection hq with hq;omega)⟩
end pX
section
variable {P:Program}(w:World)
def S' (d:Nat)(e n:Nat)(xs ys:Array Value):List Nat->Sem Bool
 | []=>pure true
 |i::r=>do
  let a<-part e xs (i*n)
  let b<-part e ys (i*n)
  let c<-Op.equalIn d e a b
  if(!c)=true then pure false else S' d e n xs ys r
theorem run_equalIn_array (d)(t e len n:Nat)(xs ys)(ht:P.underlying t=some (.array len e))(hn:(sizeOf e).run P w=.ok n w):
  (Op.equalIn (d+1) t (.agg xs) (.agg ys)).run P w=(S' d e n xs ys (List.range' 0 len)).run P w:=by
 simp only[Op.equalIn,Sem.run_bind,run_underlying ht,Result.andThen_ok,hn];rw[Std.Legacy.Range.forIn_eq_forIn_range'];simp only[Std.Legacy.Range.size,Nat.sub_zero,Nat.add_sub_cancel,Nat.div_one];generalize List.range' 0 len=l;clear ht hn;induction l generalizing w with
 |nil=>simp[S']
 |cons f fs ih=>
  simp only[List.forIn_cons,S',Sem.run_bind,Sem.run_ite];generalize (part e xs (f*n)).run P w=r1;cases r1 with
  |ok a w1=>
   simp only[Result.andThen_ok];generalize (part e ys (f*n)).run P w1=r2;cases r2 with
   |ok b w2=>
    simp only[Result.andThen_ok];generalize (Op.equalIn d e a b).run P w2=r3;cases r3 with
    |ok r w3=>
     cases r
     .simp only[Result.andThen_ok,Bool.not_false,if_true,Sem.run_pure]
     .simp only[Result.andThen_ok,Bool.not_true,Bool.false_eq_true,if_false,Sem.run_pure];exact ih w3
    |halt x w3=>simp[Result.andThen]
   |halt x w2=>simp[Result.andThen]
  |halt x w1=>simp[Result.andThen]
theorem jd {d e n i:Nat}{xs ys r u v c b}(h1:(part e xs (i*n)).run P w=.ok u w)(h2:(part e ys (i*n)).run P w=.ok v w)(h3:(Op.equalIn d e u v).run P w=.ok b w)(hr:(S' d e n xs ys r).run P w=.ok c w):(S' d e n xs ys (i::r)).run P w=.ok (b&&c) w:=by
 simp only[S',Sem.run_bind,h1,h2,h3,Result.andThen_ok,Sem.run_ite,hr];cases b<;>simp
end
theorem aas (w):(sizeOf 2).run prog w=.ok 1 w:=kQ
theorem aat (w d x3 x4 x5 x6 x7 x8 x9 Xt y3 y4 y5 y6 y7 y8 y9 kU):
  (Op.equalIn (d+2) 47 (.agg #[.int .i64 x3,.int .i64 x4,.int .i64 x5,.int .i64 x6,.int .i64 x7,.int .i64 x8,.int .i64 x9,.int .i64 Xt]) (.agg #[.int .i64 y3,.int .i64 y4,.int .i64 y5,.int .i64 y6,.int .i64 y7,.int .i64 y8,.int .i64 y9,.int .i64 kU])).run prog w
   =.ok (x3==y3&&(x4==y4&&(x5==y5&&(x6==y6&&(x7==y7&&(x8==y8&&(x9==y9&&(Xt==kU&&true)))))))) w:=by
 rw[run_equalIn_array w (d+1) 47 2 8 1 _ _ underlying47 (aas w)];have hp:∀(a b:Int),(Op.equalIn (d+1) 2 (.int .i64 a) (.int .i64 b)).run prog w=.ok (a==b) w:=λa b=>run_equalIn_int w d 2 .i64 .i64 a b underlying2
 refine jd w kQ kQ (hp _ _) (jd w kQ kQ (hp _ _) (jd w kQ kQ (hp _ _) (jd w kQ kQ (hp _ _)
  (jd w kQ kQ (hp _ _) (jd w kQ kQ (hp _ _) (jd w kQ kQ (hp _ _) (jd w kQ kQ (hp _ _) rfl)))))))
def ZI (x0 x1 x2 x3 x4 x5 x6 x7 x8 x9 Xt y0 y1 y2 y3 y4 y5 y6 y7 y8 y9 kU:Int):Bool:=
 x0==y0&&(x1==y1&&(x2==y2&&((x3==y3&&(x4==y4&&(x5==y5&&(x6==y6&&(x7==y7&&(x8==y8&&(x9==y9&&(Xt==kU&&true))))))))&&true)))
theorem aex (w x0 x1 x2 x3 x4 x5 x6 x7 x8 x9 Xt y0 y1 y2 y3 y4 y5 y6 y7 y8 y9 kU):
  (Op.equalIn 10000 49 (.agg #[.int .i64 x0,.int .u64 x1,.int .i64 x2,.int .i64 x3,.int .i64 x4,.int .i64 x5,.int .i64 x6,.int .i64 x7,.int .i64 x8,.int .i64 x9,.int .i64 Xt])
   (.agg #[.int .i64 y0,.int .u64 y1,.int .i64 y2,.int .i64 y3,.int .i64 y4,.int .i64 y5,.int .i64 y6,.int .i64 y7,.int .i64 y8,.int .i64 y9,.int .i64 kU])).run prog w
   =.ok (ZI x0 x1 x2 x3 x4 x5 x6 x7 x8 x9 Xt y0 y1 y2 y3 y4 y5 y6 y7 y8 y9 kU) w:=by
 rw[run_equalIn_struct w 9999 49 _ _ kQ kQ];rw[show(prog.fieldsOf 49).toList=[{name:= "Ts",type:=2,offset:=0,embedded:=false,tag:= "",pkgPath:= "",byteOffset:=0},{name:= "Id",type:=46,offset:=1,embedded:=false,tag:= "",pkgPath:= "",byteOffset:=8},
  {name:= "Type",type:=3,offset:=2,embedded:=false,tag:= "",pkgPath:= "",byteOffset:=16},{name:= "Attrs",type:=47,offset:=3,embedded:=false,tag:= "",pkgPath:= "",byteOffset:=24}] by kernel_rfl]
 exact cC w dQ kQ kQ (run_equalIn_int w _ 2 .i64 .i64 _ _ underlying2)
  (cC w dQ kQ kQ (run_equalIn_int w _ 46 .u64 .u64 _ _ underlying46)
   (cC w dQ kQ kQ (run_equalIn_int w _ 3 .i64 .i64 _ _ underlying3)
    (cC w dQ kQ kQ (aat w _ _ _ _ _ _ _ _ _ _ _ _ _ _ _ _ _) rfl)))
theorem DY:jV prog 55 4:=⟨_,underlying55,rfl,kQ⟩
structure lX (ts:List Nat)(w w':World):Prop where
 sz:w.heap.size<=w'.heap.size
 ag:∀(b:Nat)(cur:Array Value)(t:Nat),w.heap[b]? =some (Obj.cells cur t (0,0))->t∉ts->w'.heap[b]? =w.heap[b]?
section
variable {w w' W:World}{ts:List Nat}{B e size n g t:Nat}{v v1 v2 v3 v' vk vl:Value}{ds:List D}{cs:List Value}
theorem lX.below (h:Bw w w'):lX ts w w':=⟨h.size,λb _ _ hb _=>h.block b (Array.getElem?_eq_some_iff.1 hb).1⟩
theorem lX.trans (h:lX ts w w')(h2:lX ts w' W):lX ts w W:=⟨zU h.sz h2.sz,λb cur t hb ht=>(h2.ag b cur t ((h.ag b cur t hb ht).trans hb) ht).trans (h.ag b cur t hb ht)⟩
theorem lX.row (hO:OL w B bE e size v n ds)(hg:w.grownBy w' v.ownBlock)(he:e∈ts:=by decide):lX ts w w':=⟨hg.size,λb cur t hb ht=>hg.block b (Array.getElem?_eq_some_iff.1 hb).1 λh=>hO.aU (cs:=cur.toList) hb (λh=>ht (h▸he)) h.symm⟩
theorem lX.set (hb:ao w g t cs)(k:Nat)(x:Value)(ht:t∈ts:=by decide):lX ts w (w.setCell ⟨g,k,none⟩ x):=⟨(mR (w:=w) (p:=⟨g,k,none⟩) (x:=x)).size,λb cur t' h1 h2=>mR.block b (Array.getElem?_eq_some_iff.1 h1).1 λh=>by
 injection h with h;subst h;rw[hb]at h1;injection h1 with h1;injection h1 with _ h1;exact h2 (h1▸ht)⟩
theorem lX.grown (hb:ao w g t cs)(hg:w.grownBy w' (some g))(ht:t∈ts:=by decide):lX ts w w':=⟨hg.size,λb cur t' h1 h2=>hg.block b (Array.getElem?_eq_some_iff.1 h1).1 λh=>by
 injection h with h;subst h;rw[hb]at h1;injection h1 with h1;injection h1 with _ h1;exact h2 (h1▸ht)⟩
theorem lX.vM (hT:lX ts w w')(h:ao w g t cs)(ht:t∉ts:=by decide):ao w' g t cs:=(hT.ag _ _ _ h ht).trans h
theorem OL.dM (h:OL w B bE e size v n ds)(hT:lX ts w w')(he:e∉ts:=by decide):OL w' B bE e size v n ds:=by
 obtain⟨cells,⟨h1,h2⟩,h3,h4⟩:=h;refine⟨cells,⟨h1,?_⟩,h3,λk d hd=>?_⟩
 .rcases h2 with h2 |⟨g,cap,cur,e1,hB,hg,rest⟩
  .exact .inl h2
  .exact .inr ⟨g,cap,cur,e1,hB,(hT.ag _ _ _ hg he).trans hg,rest⟩
 .obtain⟨u,hu,hr⟩:=h4 k d hd;exact⟨u,hu,hr.keep λb hb=>hb.1.elim⟩
theorem sn.dM {l:List (Td×Value)}(h:sn w B v l)(hT:lX ts w w')(h1:95∉ts:=by decide)(h2:9∉ts:=by decide):sn w' B v l:=⟨h.kr.dM hT h1,λp hp=>(h.fr p hp).dM hT h2,h.ne⟩
theorem RW.dM {α:Type}{K:RK α}{l:List (α×Value)}(h:RW K w B v l)(hT:lX ts w w')(h1:K.e∉ts:=by decide)(h2:K.es∉ts:=by decide):RW K w' B v l:=⟨h.kr.dM hT h1,λp hp=>(h.fr p hp).dM hT h2,h.ne⟩
end
def ZF:List Nat:=[36,55]
section
variable {w w' W:World}{B g:Nat}{v v1 v2 v3 v5 v6 v7 v8 v' vk vl u1 u2 u3:Value}{m:List (Mt×Value×Value×Value)}
theorem OQ.dM {ts:List Nat}{l:List (It×Value)}{wh:List Nd}{rl:List (List Nd×Value)}(h:OQ w B v1 v2 v3 l wh rl)(hT:lX ts w w')(h1:KI.e∉ts:=by decide)(h2:KI.es∉ts:=by decide)(h3:KR.e∉ts:=by decide)(h4:KR.es∉ts:=by decide):OQ w' B v1 v2 v3 l wh rl:=⟨h.i.dM hT h1 h2,h.wr.dM hT h4,h.r.dM hT h3 h4,h.ne⟩
theorem DX.dM {nl au l}(h:DX w B g vk vl au nl l)(hT:lX ZF w w'):DX w' B g vk vl au nl l:=⟨h.gB,hT.vM h.bx,h.kr.dM hT,λp hp=>(h.fr p hp).dM hT,h.ne,h.lr.dM hT⟩
theorem RM.dM {ts:List Nat}(h:RM w B v m)(hT:lX ts w w')(h0:55∉ts:=by decide)(h1:51∉ts:=by decide)(h2:3∉ts:=by decide)(h3:57∉ts:=by decide):RM w' B v m:=⟨h.kr.dM hT h0,λp hp=>(h.f1 p hp).dM hT h1,λp hp=>(h.f2 p hp).dM hT h2,λp hp=>(h.f3 p hp).dM hT h3,h.ne⟩
theorem RM.nil (w B):RM w B (.slice none 0 0) []:=⟨.nil _ _ _ _ _,λp hp=>by simp at hp,λp hp=>by simp at hp,λp hp=>by simp at hp,λi j p q hp=>by simp at hp⟩
theorem RM.snoc {x}(h:RM w B v m)(hb:Bw w w')(hg:w'.grownBy W v.ownBlock)(hv:OL W B bE 55 4 v' (m.length+1) ((m.flatMap λp=>[.v (.int .i64 p.1.dec),.v p.2.1,.v p.2.2.1,.v p.2.2.2])++[.v (.int .i64 x.dec),.v u1,.v u2,.v u3]))(hB:B<=w.heap.size)(h1:OL w' w.heap.size bE 51 2 u1 x.iE.length (x.iE.flatMap qi))(h2:OL w' w.heap.size bE 3 1 u2 x.lens.length (x.lens.flatMap (jf .i64)))(h3:OL w' w.heap.size bE 57 2 u3 x.vals.length (x.vals.flatMap uh)):RM W B v' (m++[(x,u1,u2,u3)]):=by
 have hT:lX [55] w' W:=.row (h.kr.stay hb) hg;have hs:=h.stay hb;have lo:∀{e size n:Nat}{u:Value}{ds:List D}(u':Value),OL w B bE e size u n ds->(∀q,u'.ownBlock=some q->w.heap.size<=q/\q<w'.heap.size)->u.ownBlock=none\/u.ownBlock≠u'.ownBlock:=λ {_ _ _ u _} u' ho hu=>by
  cases hq:u.ownBlock with
  |none=>exact .inl rfl
  |some q=>exact .inr λe=>by have:=(ho.lt q hq).2;have:=(hu q e.symm).1;omega
 refine⟨by simpa using hv,λp hp=>?_,λp hp=>?_,λp hp=>?_,λi j p q hp hq dE=>?_⟩
 .rcases zM.1 hp with hp |hp
  .exact(hs.f1 p hp).dM hT
  .rw[xB]at hp;subst hp;exact(h1.base hB).dM hT
 .rcases zM.1 hp with hp |hp
  .exact(hs.f2 p hp).dM hT
  .rw[xB]at hp;subst hp;exact(h2.base hB).dM hT
 .rcases zM.1 hp with hp |hp
  .exact(hs.f3 p hp).dM hT
  .rw[xB]at hp;subst hp;exact(h3.base hB).dM hT
 .rcases oW hp with⟨a1,a2⟩|⟨a1,rfl⟩<;>rcases oW hq with⟨b1,b2⟩|⟨b1,rfl⟩
  .exact h.ne i j p q a2 b2 dE
  .have hm:=zA a2;exact⟨lo _ (h.f1 p hm) h1.lt,lo _ (h.f2 p hm) h2.lt,lo _ (h.f3 p hm) h3.lt⟩
  .have hm:=zA b2;exact⟨kF (lo _ (h.f1 q hm) h1.lt),kF (lo _ (h.f2 q hm) h2.lt),kF (lo _ (h.f3 q hm) h3.lt)⟩
  .omega
theorem HJ {F A c i}{t:List Mt}{x}(r:Rd w F (.slice A t.length c) (.sl t.length (t.flatMap Pk)))(hp:t[i]? =some x):∃b off A1 c1 A2 c2 A3 c3,A=some ⟨b,off,none⟩/\F b/\b<w.heap.size/\
  w.rangeAt b (off+i*4) [.int .i64 x.dec,.slice A1 x.iE.length c1,.slice A2 x.lens.length c2,.slice A3 x.vals.length c3]/\
  Rd w F (.slice A1 x.iE.length c1) (.sl x.iE.length (x.iE.flatMap qi))/\Rd w F (.slice A2 x.lens.length c2) (.sl x.lens.length (x.lens.flatMap (jf .i64)))/\Rd w F (.slice A3 x.vals.length c3) (.sl x.vals.length (x.vals.flatMap uh)):=by
 obtain⟨b,off,rfl,hF,ha,hs⟩:=r.cP (m:=4) (λ_=>rfl) hp oQ;obtain⟨A1,c1,g1,r1⟩:=hs 1 _ _ rfl;obtain⟨A2,c2,g2,r2⟩:=hs 2 _ _ rfl;obtain⟨A3,c3,g3,r3⟩:=hs 3 _ _ rfl;refine⟨b,off,A1,c1,A2,c2,A3,c3,rfl,hF,zX w _ (ha 0 _ rfl),λj v hv=>?_,r1,r2,r3⟩;match j,hv with
 |0,hv=>exact(ha 0 _ rfl).trans hv
 |1,hv=>exact g1.trans hv
 |2,hv=>exact g2.trans hv
 |3,hv=>exact g3.trans hv
 |j+4,hv=>simp at hv
end
def bV (y:tg)(v0 v1 v2 v3 v5 v6 v7 v8:Value):List Value:=v0::(l8 y.q v1 v2 v3 y.q.au++[.int .i64 y.cap,.int .i64 y.mark,.bool y.closed,v5,v6,v7,v8])
def rV:tg:=⟨[],zQ,0,0,false,[],[],[],[]⟩
structure pE (w:World)(B:Nat)(y:tg)(v0 v1 v2 v3 v5 v6 v7 v8:Value)(so:List (Td×Value))(l:List (It×Value))(rl:List (List Nd×Value))(ml:List (Mt×Value×Value×Value)):Prop where
 s:sn w B v0 so
 es:so.map (·.1)=y.S
 q:OQ w B v1 v2 v3 l y.q.wh rl
 el:l.map (·.1)=y.q.items
 er:rl.map (·.1)=y.q.ret
 h:OL w B bE 49 11 v5 y.held.length (y.held.flatMap oc)
 k:OL w B bE 49 11 v6 y.kept.length (y.kept.flatMap oc)
 m:RM w B v7 ml
 em:ml.map (·.1)=y.wait
 u:OL w B bE 51 2 v8 y.used.length (y.used.flatMap qi)
 hk:v5.ownBlock=none\/v5.ownBlock≠v6.ownBlock
 um:∀p∈ml,v8.ownBlock=none\/v8.ownBlock≠p.2.1.ownBlock
section
variable {w w' W:World}{B:Nat}{y:tg}{v0 v1 v2 v3 v5 v6 v7 v8 v':Value}{so:List (Td×Value)}{l:List (It×Value)}{rl:List (List Nd×Value)}{m m':List (Mt×Value×Value×Value)}{L:List Cg}{x:tg}{e:Ending}
theorem pE.none (w:World)(B:Nat):pE w B rV (.slice none 0 0) (.slice none 0 0) (.slice none 0 0) (.slice none 0 0) (.slice none 0 0) (.slice none 0 0) (.slice none 0 0) (.slice none 0 0) [] [] [] []:=
 ⟨.nil _ _,rfl,OQ.none _ _,rfl,rfl,.nil _ _ _ _ _,.nil _ _ _ _ _,.nil _ _,rfl,.nil _ _ _ _ _,.inl rfl,λp hp=>by cases hp⟩
theorem pE.stay (h:pE w B y v0 v1 v2 v3 v5 v6 v7 v8 so l rl m)(hb:Bw w W):pE W B y v0 v1 v2 v3 v5 v6 v7 v8 so l rl m:=⟨h.s.stay hb,h.es,h.q.stay hb,h.el,h.er,h.h.stay hb,h.k.stay hb,h.m.stay hb,h.em,h.u.stay hb,h.hk,h.um⟩
theorem pE.base {B'}(h:pE w B y v0 v1 v2 v3 v5 v6 v7 v8 so l rl m)(hB:B'<=B):pE w B' y v0 v1 v2 v3 v5 v6 v7 v8 so l rl m:=⟨h.s.base hB,h.es,h.q.base hB,h.el,h.er,h.h.base hB,h.k.base hB,⟨h.m.kr.base hB,λp hp=>(h.m.f1 p hp).base hB,λp hp=>(h.m.f2 p hp).base hB,λp hp=>(h.m.f3 p hp).base hB,h.m.ne⟩,h.em,h.u.base hB,h.hk,h.um⟩
theorem pE.wait {l'}(h:pE w B y v0 v1 v2 v3 v5 v6 v7 v8 so l rl m)(hT:lX ZF w W)(hm:RM W B v' m')(em:m'.map (·.1)=l')(um:∀p∈m',v8.ownBlock=Option.none\/v8.ownBlock≠p.2.1.ownBlock):pE W B {y with wait:=l'} v0 v1 v2 v3 v5 v6 v' v8 so l rl m':=
 ⟨h.s.dM hT,h.es,h.q.dM hT,h.el,h.er,h.h.dM hT,h.k.dM hT,hm,em,h.u.dM hT,h.hk,um⟩
theorem pE.dM (h:pE w B y v0 v1 v2 v3 v5 v6 v7 v8 so l rl m)(hT:lX [36] w W):pE W B y v0 v1 v2 v3 v5 v6 v7 v8 so l rl m:=
 have iH:lX ZF w W:=⟨hT.sz,λb cur t hb ht=>hT.ag b cur t hb λh=>ht (by rw[xB]at h;subst h;decide)⟩
 ⟨h.s.dM iH,h.es,h.q.dM iH,h.el,h.er,h.h.dM iH,h.k.dM iH,h.m.dM hT,h.em,h.u.dM iH,h.hk,h.um⟩
def tk (L:List Cg)(x:tg)(w:World)(e:Ending)(w':World):Prop:=∃code at_ R v0 v1 v2 v3 v5 v6 v7 v8 so l rl m,e=.returned (.tuple #[.agg ⟨bV (Option.getD R rV) v0 v1 v2 v3 v5 v6 v7 v8⟩,.int .i64 code,.int .i64 at_])/\xe L x R code at_/\
 pE w' w.heap.size (Option.getD R rV) v0 v1 v2 v3 v5 v6 v7 v8 so l rl m/\Bw w w'
theorem tk.bad {code at_}(h:xe L x Option.none code at_)(hb:Bw w w'):tk L x w (.returned (.tuple #[.agg ⟨sm⟩,.int .i64 code,.int .i64 at_])) w':=⟨code,at_,Option.none,_,_,_,_,_,_,_,_,_,_,_,_,rfl,h,pE.none _ _,hb⟩
theorem aau {g}(h:ao W g 36 (bV y v0 v1 v2 v3 v5 v6 v7 v8)):W.cell? ⟨g,11,none⟩=some v5/\W.cell? ⟨g,12,none⟩=some v6/\W.cell? ⟨g,13,none⟩=some v7/\W.cell? ⟨g,14,none⟩=some v8:=⟨h.cell 11,h.cell 12,h.cell 13,h.cell 14⟩
end
