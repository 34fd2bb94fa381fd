/- The document's Query. -/
import Derived.Test.YtjbcbibkhalagaaGreatDoorR6
namespace Go.Proofs.YtjbcbibkhalagaaGreatDoor
set_option maxRecDepth 100000
set_option maxHeartbeats 16000000
open Proofs.Tryz Go.RowKit Go.Deep
set_option linter.unusedVariables false
set_option linter.unusedSimpArgs false
theorem vI {S L m}:∀{k:Nat},k<=m->aD S (L.take m) k=aD S L k
 |0,_=>rfl
 |k+1,h=>by rw[aD,aD,List.getElem?_take_of_lt oQ,vI (k:=k) oQ]
theorem Nb {S L m k}(h:k<m):eH S (L.take m) k<->eH S L k:=by
 unfold eH;rw[List.getElem?_take_of_lt h,vI oQ]
theorem VF {S L j}(z:dy S=0)(hl:L.length<=32)(cK:∀i,i<L.length->eH S L i)(hj:j<L.length):fJ S (L.take (j+1)) (some (aD S L (j+1))) 0 0:=by
 have e:(L.take (j+1)).length=j+1:=by rw[zO];omega
 refine .inr (.inr (.inr ⟨z,oQ,λi hi=>(Nb oQ).2 (cK i oQ),?_,rfl,rfl⟩));rw[e,vI nR]
theorem yH {q}(hs:Cc q)(hw:q.wh.length<=1048576)(h:q.items.length<=10):(aI q).length<=33554432:=by
 unfold aI;rw[<-yG,zH,zH,zH,tf];have h1:=zU (AX q q.items.length) hs.ty;have h2:=lG q q.wh h;have h3:=vH q hs h q.ret.length;rw[zL]at h3;have h4:(if q.au=emp then([]:List py)else [⟨q.items.flatMap (·.ah),q.au⟩]).length<=1:=by split<;>simp
 omega
theorem DF {q}(hq:jE q)(hs:Cc q):∀d∈aI q,d.ah.length<=1048576:=by
 have key:∀t d,d∈aA q t->d.ah.length<=1048576:=λt d hd=>by
  obtain⟨x,_,hd⟩:=xF.1 hd;unfold kD at hd;split at hd
  .cases hd
  .obtain⟨it,hit,rfl⟩:=List.mem_map.1 hd;exact(hq.it it (List.mem_filter.1 hit).1).1.1
 intro d hd;unfold aI at hd;rcases zM.1 hd with hd |hd
 .obtain⟨it,_,hd⟩:=xF.1 hd;obtain⟨n,_,rfl⟩:=List.mem_map.1 hd;show(1:Nat)<=_
  omega
 .rcases zM.1 hd with hd |hd
  .split at hd
   .cases hd
   .rw[xB]at hd;subst hd;have h1:=zU (AX q q.items.length) hs.ty;rw[qG]at h1;exact h1
  .rcases zM.1 hd with hd |hd
   .exact key _ _ hd
   .obtain⟨t,_,hd⟩:=xF.1 hd;exact key _ _ hd
theorem nO.big {l}(h:nO l):l.length<=1048576/\∀k∈l,k.fs.length<=1048576:=⟨by have:=h.len;omega,λk hk=>by have:=h.fl k hk;omega⟩
theorem VG {w F A c m}{L:List Cg}(h:Rd w F (.slice A L.length c) (.sl L.length (L.flatMap pB)))(hm:m<=L.length):Rd w F (.slice A (L.take m).length c) (.sl (L.take m).length ((L.take m).flatMap pB)):=by
 have e:(L.take m).length=m:=by rw[zO];omega
 have e2:∀(l:List Cg) m,(l.take m).flatMap pB=(l.flatMap pB).take (m*6):=by
  intro l;induction l with
  |nil=>intro m;simp
  |cons a l ih=>
   intro m;cases m with
   |zero=>simp
   |succ m=>
    rw[List.take_succ_cons,zK,zK,ih,List.take_append];have h1:(pB a).length=6:=rfl;rw[h1,show(m+1)*6-6=m*6 by omega,show(pB a).take ((m+1)*6)=pB a from xH (by rw[h1];omega)]
 rw[e,e2];exact h.take _ hm
namespace pX
open cH dR
theorem Nc (A B ca cb F G S L q s)(hS:iI S)(hL:L.length<=1048576)(hC:∀c∈L,ED c)(hs:jE q)(mF:Cc q)(w)(hK:cW w)(hG:∀b,G b->b<w.heap.size)(r:Rd w F (.slice A S.length ca) (.sl S.length (S.flatMap fj)))(rc:Rd w G (.slice B L.length cb) (.sl L.length (L.flatMap pB)))(R:QR w F q s):
  Cl 25 #[.agg ⟨[.slice A S.length ca]⟩,.slice B L.length cb,.agg ⟨qV q s⟩] w (lF S L q w):=by
 obtain⟨W0,cg⟩:=aB (((w.alloc (.cells ⟨[.slice A S.length ca]⟩ 24)).alloc (.cells ⟨qV q s⟩ 31)).alloc (.cells ⟨lT⟩ 31))
 have h0:Q3 S A ca q s w W0:=by
  rw[cg];exact⟨(SQ.new S A ca q s w).stay bA,ao.new' sJ⟩
 obtain⟨y0,y1,y2,y3,y4,y5,y6⟩:=nU h0.sq.b1;have x0:=h0.sq.b0.cell 0;have hF:=R.lt;have bL:=h0.sq.hb;have k1:=λj (hj:j<=L.length) W (hW:Bw w W)=>di.uH A B ca cb F G S (L.take j) hS (by rw[zO];omega) (λc hc=>hC c (List.mem_of_mem_take hc)) W (hK.stay hW) (λb h=>zF (hF b h) hW.size) (λb h=>zF (hG b h) hW.size) (r.under hW hF) ((VG rc hj).under hW hG)
 have XL:=di.uH A B ca cb F G S L hS hL hC W0 (hK.stay bL) (λb h=>zF (hF b h) bL.size) (λb h=>zF (hG b h) bL.size) (r.under bL hF) (rc.under bL hG);have k2:=λW (hW:Bw w W)=>LY A ca F S q s hS hs mF W (hK.stay hW) (R.under hW) (r.under hW hF)
 have k3:=λh10 W (hW:Bw w W)=>AU q s F h10 hs mF W (R.under hW)
 have k4:=λh10 (At An:Option Addr) ct cn (T:List Kd)(hT:nO T) W (hW:Bw w W) rt rn=>Ry A At An ca ct cn F (λb=>b<W.heap.size) (λb=>b<W.heap.size) S T (aI q) hS hT.big.1 hT.big.2 (yH mF hs.wh.1 h10) (DF hs mF) W (λb h=>zF (hF b h) hW.size) (λb h=>h) (λb h=>h) (r.under hW hF) rt rn
 have k5:=λh10 (At An:Option Addr) ct cn (T:List Kd)(hT:nO T) W (hW:Bw w W) rt rn=>yZ A At An ca ct cn F (λb=>b<W.heap.size) (λb=>b<W.heap.size) S T (aI q) hS hT.big.1 hT.big.2 (yH mF hs.wh.1 h10) (DF hs mF) W (λb h=>zF (hF b h) hW.size) (λb h=>h) (λb h=>h) (r.under hW hF) rt rn
 have k6:=λhty Ah (At:Option Addr) ct (T:List Kd)(hT:nO T) W (hW:Bw w W) rt=>Ju A At ca ct F (λb=>b<W.heap.size) S T q s hS hT.big.1 hT.big.2 hs hty Ah W (λb h=>h) (r.under hW hF) rt (R.under hW)
 have PE:L.length<=cb:=by
  obtain⟨_,_,e,h1,_⟩:=rc.cU;injection e with _ e1 e2
  omega
 have uP:L≠ []->∃gB oB,B=some ⟨gB,oB,none⟩:=λhne=>by
  obtain⟨b,off,e,_⟩:=rc.cells (by
   cases L with
   |nil=>exact absurd rfl hne
   |cons a l=>simp[pB])
  exact⟨b,off,e⟩
 obtain⟨A1,c1,A2,c2,A3,c3⟩:=s;simp only[qV,lT,zY]at cg y0 y1 y2 y3 y4 y5 y6 x0 k2 k3 k6 |-;have qd:=Hd cg;replace⟨h0,k1,XL,k2,k3,k4,k5,k6,mF,hs,hS,uP⟩:=uM h0 k1 XL k2 k3 k4 k5 k6 mF hs hS uP;clear hC hK hG r rc R bL cg hL hF;go_enter func25,ntmps25;go_upto_region 1 with fail
 rw[<-qd.o];go_upto_region 2 with(go_at_call 42;refine XL.o.mono ?_;rintro e W1 ⟨v,code,at_,T,rfl,hM,hT,a9⟩;simp only)
 clear x0 y0 y1 y2 y3 y4 y5 y6;have qm:=Hd (h0.o.stay a9);cases T with
 |none=>
  have fH:=FQ hM;have f1:=cM fH;have f2:=gL fH;have ae:Hid (iY S L q none code at_):=.inl ⟨hM,rfl⟩;replace⟨fH,hM,a9⟩:=H3 fH hM a9;clear hT;go_wp2_with (refine ay (.store 31 (.tmp 6) (.tmp 27)) rfl ?_;refine eU rfl 31 (.tmp 6) (.tmp 27) rfl (cs':=lT) qm.o.b2 cB rfl rfl rfl rfl ?_;intro w8 eX eY);exact yF rfl eX cB rfl rfl rfl rfl (lF.no ae.o (qm.o.fin eY))
 |some t=>
  obtain⟨Tp,hrt⟩:=hT t rfl;obtain⟨PF,Vs,cK,Ck,rfl,rfl⟩:=Ml hM;obtain⟨At,ct,rfl,_,_⟩:=hrt.cU;clear hT;have ch:=qm.o.sq.hb;obtain⟨y0,y1,y2,y3,y4,y5,y6⟩:=nU qm.o.sq.b1;have x0:=qm.o.sq.b0.cell 0;simp only[zY]at x0 y0 y3 y6;have fS:=k2.o W1 ch;obtain⟨cc,hcc⟩:=aB (bf (dy S) S q)
  rw[<-hcc]at fS;have q1:cc≠0->iY S L q none cc 0:=λh=>.inr ⟨Ck▸hM,by rw[mK (by rw[<-hcc];exact h),<-hcc]⟩
  have q2:∀i,cc=0->i<L.length->(∀j,j<i->dp S (aD S L (j+1)) (aI q)=true)->dp S (aD S L (i+1)) (aI q)=false->iY S L q none 291 (i:Int):=λi h h1 h2 h3=>.inr ⟨Ck▸hM,by rw[Jh (by rw[<-hcc];exact h) cK h1 h2 h3]⟩
  have q3:cc=0->(∀j,j<L.length->dp S (aD S L (j+1)) (aI q)=true)->bW S t (aI q)=false->iY S L q none 291 L.length:=λh h2 h3=>.inr ⟨Ck▸hM,by rw[Dn (by rw[<-hcc];exact h) cK h2 (by rw[<-Ck];exact h3)]⟩
  have q4:cc=0->(∀j,j<L.length->dp S (aD S L (j+1)) (aI q)=true)->bW S t (aI q)=true->iY S L q (some (mG S t q)) 0 0:=λh h2 h3=>.inr ⟨Ck▸hM,by rw[Ji (by rw[<-hcc];exact h) cK h2 (by rw[<-Ck];exact h3),Ck]⟩
  have AZ:cc=0->q.items.length<=10/\O' S q:=λh=>⟨(qC (by rw[<-hcc];exact h)).2.2.1,(qC (by rw[<-hcc];exact h)).2.2.2.2⟩
  have vJ:=λj (hj:j<L.length)=>VF PF Vs cK hj
  have adM:=ch.size;have adN:=qm.o.b2.lt;replace⟨vJ,fS,q1,q2,q3,q4,AZ,Ck,hM,hcc,PF,cK⟩:=uM vJ fS q1 q2 q3 q4 AZ Ck hM hcc PF cK;replace⟨a9,hrt,Tp⟩:=H3 a9 hrt Tp;go_upto_region 5 with(go_at_call 43;refine fS.o.mono ?_;rintro e W2 ⟨fp,fi,fs,rfl,aX⟩)
  clear x0 y0 y1 y2 y3 y4 y5 y6;have ig:Bw W1 (W2.alloc (.cells ⟨[.int .i64 cc,.int .i64 fp,.int .i64 fi,.int .i64 fs]⟩ 99)):=aX.alloc aX.size _;have xd:=ao.new W2 99 [.int .i64 cc,.int .i64 fp,.int .i64 fi,.int .i64 fs];have Vt:W2.heap.size<(W2.alloc (.cells ⟨[.int .i64 cc,.int .i64 fp,.int .i64 fi,.int .i64 fs]⟩ 99)).heap.size:=xd.lt;have adO:=aX.size;obtain⟨W3,jv⟩:=aB (W2.alloc (.cells ⟨[.int .i64 cc,.int .i64 fp,.int .i64 fi,.int .i64 fs]⟩ 99))
  rw[<-jv]at ig xd Vt |-;have Hy:=Hd (qm.o.stay ig);have z0:W3.cell? ⟨W2.heap.size,0,none⟩=some (.int .i64 cc):=xd.cell 0;have EP:=ig.size;replace⟨jv,ig,xd⟩:=H3 jv ig xd;clear aX fS qm;by_cases fH:cc=0
  case neg=>
   have f1:=cM fH;have f2:=gL fH;have ae:=Hd (q1.o fH);replace fH:=Hd fH;go_upto_region 6 with fail
   have ak:W3.drew.cell? ⟨W2.heap.size,0,none⟩=some (.int .i64 cc)/\True:=⟨z0,trivial⟩;refine aC (p:=100) (S0:=λW=>W.cell? ⟨W2.heap.size,0,none⟩=some (.int .i64 cc)) (S1:=λ_=>True) kQ ?_;refine' aq 0 rfl ak ?_;refine' aq 1 rfl ak ?_;refine' aq 2 rfl ak ?_;try simp only[Act.put,aK]
   refine Gs 3 rfl λK hK=>?_
   refine bh (by rfl) 31 (.tmp 6) (.tmp 36) (by rfl) (cs':=lT) (Hy.o.b2.stay (bR).drew) cB rfl (by rfl) (by rfl) rfl ?_;intro w8 eX eY;have Zj:w8.cell? ⟨W2.heap.size,0,none⟩=some (.int .i64 cc):=((xd.o.stay (bR).drew).grown eY (λe=>by injection e with e;omega)).cell 0;refine hK.o _ _ ⟨Zj,λ_=>trivial⟩ ?_;have tD:=Hd ((Hy.o.stay (bR).drew).fin eY);have bF:w8.cell? ⟨W2.heap.size,0,none⟩=some (.int .i64 cc)/\True:=⟨Zj,trivial⟩;replace eX:=Hd eX;clear hK K ak eY;try simp only[Act.put,aK]
   refine Gs 4 rfl λK hK=>?_
   go_simp;refine hK.o _ _ ⟨bF.1,λ_=>trivial⟩ ?_;clear hK K;refine Gs 5 rfl λK hK=>?_
   go_simp;refine hK.o _ _ ⟨bF.1,λ_=>trivial⟩ ?_;clear hK K bF;refine Gd _ ?_;go_wp2;exact yF rfl eX.o cB rfl rfl rfl rfl (lF.no ae.o tD.o)
  subst fH;obtain⟨h10,Ka⟩:=AZ.o rfl;have hty:∀x∈q.items,0<x.ah.length:=λx hx=>(Ka.ah x hx).1
  have Ah:=Ka.il;obtain⟨y0,y1,y2,y3,y4,y5,y6⟩:=nU Hy.o.sq.b1;have x0:=Hy.o.sq.b0.cell 0;simp only[zY]at x0 y0 y3 y6;have Ag:=Hd (k3.o h10 W3 Hy.o.sq.hb);replace⟨hty,Ka⟩:=H2 hty Ka;clear AZ;go_upto_region 8 with(go_at_call 44;refine Ag.o.mono ?_;rintro e W5 ⟨vn,rfl,iM,nN⟩;simp only)
  clear x0 y0 y1 y2 y3 y4 y5 y6 z0;have Rr:=Hd (Hy.o.stay nN);have Zw:=iM.rd (G:=λb=>b<W5.heap.size) (λb _ h=>h) (λb _ h=>h);obtain⟨An,cn,rfl⟩:=iM.form;have iU:=Hd Zw;have hs5:=nN.size;have ad8:=Hd (((hrt.o.under ig.o (λb h=>h)).under (nN.mono ig.o.size) (λb h=>h)).mono (G:=λb=>b<W5.heap.size) λb hb _=>by omega);replace nN:=Hd nN;clear iM Zw xd;go_wp2;go_loopw [14] (λi wr=>∃j:Nat,j<=L.length/\i=.int .i64 j/\Bw W5 wr/\Hid (∀m,m<j->dp S (aD S L (m+1)) (aI q)=true)) (λi _=>L.length- (intOf i).toNat)
  .exact⟨0,zE _,rfl,bR,λm h=>by omega⟩
  obtain⟨j,hj,rfl,fy,hp⟩:=hrel;have rO:=Rr.o.stay fy;have Cw:=rO.sq.hb;have hrs:=fy.size;have x0:wr.cell? ⟨w.heap.size,0,none⟩=some (.slice A S.length ca):=rO.sq.b0.cell 0;have Jw:=(iU.o.under fy (λb h=>h)).mono (G:=λb=>b<wr.heap.size) λb hb _=>by omega
  have F8:=(ad8.o.under fy (λb h=>h)).mono (G:=λb=>b<wr.heap.size) λb hb _=>by omega
  by_cases hlt:j<L.length
  .have g0:=aH j;have g1:=aV j L.length;have g2:(L.length:Int)<=32:=oQ;obtain⟨gB,oB,eB⟩:=uP.o (λe=>by rw[e]at hlt;simp at hlt);subst eB;have elj:(L.take (j+1)).length=j+1:=by rw[zO];omega
   have eW:=k1.o (j+1) oQ wr.drew Cw.drew;rw[elj]at eW;have nw:IntKind.i64.wrap ((j:Int)+1)=(j:Int)+1:=by rw[xI];omega
   have nc:(j:Int)+1<=(cb:Int):=oQ;have nz:(0:Int)<=(j:Int)+1:=oQ;have nt:((j:Int)+1).toNat=j+1:=oQ;have hcut:∀W,(Instr.slice 37 (.slice (some ⟨gB,oB,none⟩) L.length cb) none (some (.int .i64 ((j:Int)+1))) none).run prog W=.ok (.slice (some ⟨gB,oB,none⟩) (j+1) cb) W:=λW=>by
    have:=CT (P:=prog) DG (A:=some ⟨gB,oB,none⟩) L.length cb (j+1) oQ W (.inr ⟨_,_,rfl⟩);simpa using this
   have Ym:=vJ.o j hlt;have VH:∀(W:World) v T,(∀t,T=some t->nO t/\Rd W (λb=>b<W.heap.size) v (.sl t.length (t.flatMap lW)))->∀c a,fJ S (L.take (j+1)) T c a->c=0/\a=0/\nO (aD S L (j+1))/\Rd W (λb=>b<W.heap.size) v (.sl (aD S L (j+1)).length ((aD S L (j+1)).flatMap lW)):=λW v T hT c a hm=>by
    obtain⟨e1,e2,e3⟩:=Ym.uniq hm;obtain⟨h1,h2⟩:=hT _ e1;exact⟨e2,e3,h1,h2⟩
   have kS:=λW (hW:Bw wr W)=>(rO.stay hW).sq.b0.cell 0
   have ak:=xW (kS wr.drew (bR).drew) trivial;have qf:dp S (aD S L (j+1)) (aI q)=false->iY S L q none 291 (j:Int):=λh=>q2.o j trivial hlt hp.o h
   have qt:dp S (aD S L (j+1)) (aI q)=true->∀m,m<j+1->dp S (aD S L (m+1)) (aI q)=true:=λh m hm=>by
    by_cases e:m=j
    .subst e;exact h
    .exact hp.o m oQ
   replace⟨qf,qt,eW,VH,kS,Ym,rO,Cw,fy,Jw⟩:=yX qf qt eW VH kS Ym rO Cw fy Jw;clear F8;go_upto_region 11 with fail
   clear x0;refine aC (p:=100) (S0:=λW=>W.cell? ⟨w.heap.size,0,none⟩=some (.slice A S.length ca)) (S1:=λ_=>True) kQ ?_;refine' aq 0 rfl ak ?_;refine' aq 1 rfl ak ?_;refine' aq 2 rfl ak ?_;refine' aq 3 rfl ak ?_;refine' aq 4 rfl ak ?_;try simp only[Act.put,aK]
   clear hcut;refine Gs 5 rfl λK hK=>?_
   go_simp;go_at_call 42;refine(eW.o).mono ?_;rintro e W6 ⟨v6,c6,a6,T6,rfl,hM6,Nf,Zx⟩;obtain⟨rfl,rfl,VI,Cf⟩:=VH.o W6 v6 T6 Nf c6 a6 hM6;obtain⟨A6,d6,rfl,_,_⟩:=Cf.cU;have RE:=Hd ((zB wr.heap.size wr).drew.trans Zx);refine hK.o _ _ ⟨kS.o W6 RE.o,λ_=>trivial⟩ ?_;have bF:=xW (kS.o W6 RE.o) trivial;replace⟨Cf,VI⟩:=H2 Cf VI;clear hK K ak Zx hM6 Nf;refine' aq 6 rfl bF ?_;refine' aq 7 rfl bF ?_;refine' aq 8 rfl bF ?_;refine' aq 9 rfl bF ?_;try simp only[Act.put,aK]
   refine Gs 10 rfl λK hK=>?_
   go_simp;refine hK.o _ _ ⟨bF.1,λ_=>trivial⟩ ?_;clear hK K;refine Gs 11 rfl λK hK=>?_
   go_simp;refine hK.o _ _ ⟨bF.1,λ_=>trivial⟩ ?_;clear hK K;refine Gs 12 rfl λK hK=>?_
   go_simp;refine hK.o _ _ ⟨bF.1,λ_=>trivial⟩ ?_;clear hK K;clear bF;refine Gd _ ?_;try simp only[Act.put,aK]
   have Jo:=rO.o.stay RE.o;have sX:=Jo.sq.hb;have x6:W6.cell? ⟨w.heap.size,0,none⟩=some (.slice A S.length ca):=Jo.sq.b0.cell 0;have hs6:=RE.o.size;have VJ:=(Jw.o.under RE.o (λb h=>h)).mono (G:=λb=>b<W6.heap.size) λb hb _=>by omega
   have Ca:=k4.o h10 A6 An d6 cn _ VI.o W6 sX Cf.o VJ;obtain⟨bt,wv⟩:=aB (dp S (aD S L (j+1)) (aI q))
   rw[<-wv]at Ca;have mE:=Hd (fy.o.trans (RE.o.mono fy.o.size));replace⟨Jo,sX,Ca,VJ,wv⟩:=H5 Jo sX Ca VJ wv;cases bt with
   |true=>
    have hgo:=Hd (qt.o wv.o.symm);go_wp2_with (go_at_call 45;refine Ca.o.mono ?_;rintro e W7 ⟨rfl,Db⟩;have aea:=Hd (mE.o.trans (Db.mono mE.o.size));clear Db);go_roundw
    .exact⟨j+1,oQ,gQ,aea.o,hgo.o⟩
    exact mQ
   |false=>
    have ae:=Hd (qf.o wv.o.symm);go_wp2_with (first
     |(go_at_call 45;refine Ca.o.mono ?_;rintro e W7 ⟨rfl,Db⟩;have Ng:=Hd (Jo.o.stay Db);clear Db)
     |(refine ay (.store 31 (.tmp 6) (.tmp 62)) rfl ?_;refine eU rfl 31 (.tmp 6) (.tmp 62) rfl (cs':=lT) Ng.o.b2 cB rfl rfl rfl rfl ?_;intro w8 eX eY))
    exact yF rfl eX cB rfl rfl rfl rfl (lF.no ae.o (Ng.o.fin eY))
  .obtain rfl:j=L.length:=oQ;have J3:=k5.o h10 At An ct cn t Tp.o wr Cw F8 Jw;have qf:bW S t (aI q)=false->iY S L q none 291 L.length:=λh=>q3.o trivial hp.o h
   have qt:bW S t (aI q)=true->iY S L q (some (mG S t q)) 0 0:=λh=>q4.o trivial hp.o h
   obtain⟨ba,fk⟩:=aB (bW S t (aI q))
   rw[<-fk]at J3;replace⟨qf,qt,J3,fk,Jw⟩:=H5 qf qt J3 fk Jw;cases ba with
   |false=>
    have ae:=Hd (qf.o fk.o.symm);replace⟨rO,Cw,fy,F8⟩:=H4 rO Cw fy F8;go_wp2_with (first
     |(go_at_call 46;refine J3.o.mono ?_;rintro e W7 ⟨rfl,Db⟩;have Ng:=Hd (rO.o.stay Db);clear Db)
     |(refine ay (.store 31 (.tmp 6) (.tmp 69)) rfl ?_;refine eU rfl 31 (.tmp 6) (.tmp 69) rfl (cs':=lT) Ng.o.b2 cB rfl rfl rfl rfl ?_;intro w8 eX eY))
    exact yF rfl eX cB rfl rfl rfl rfl (lF.no ae.o (Ng.o.fin eY))
   |true=>
    have ae:=Hd (qt.o fk.o.symm);obtain⟨Q',hQ'⟩:=aB (mG S t q)
    have YJ:=λW (hW:Bw wr W)=>k6.o hty.o Ah At ct t Tp.o W (Cw.trans (hW.mono Cw.size)) ((F8.under hW (λb h=>h)).mono (G:=λb=>b<W.heap.size) λb hb _=>by have:=hW.size;omega)
    rw[<-hQ']at ae;have VK:=λW (hW:Bw wr W)=>hQ'▸YJ W hW
    replace⟨VK,hQ',rO,Cw,fy,F8⟩:=H6 VK hQ' rO Cw fy F8;clear YJ;go_wp2_with (first
     |(go_at_call 46;refine J3.o.mono ?_;rintro e W7 ⟨rfl,Db⟩;have Ng:=Hd (rO.o.stay Db);have k67:=Hd (VK.o W7 Db);obtain⟨y0,y1,y2,y3,y4,y5,y6⟩:=nU Ng.o.sq.b1;have x7:W7.cell? ⟨w.heap.size,0,none⟩=some (.slice A S.length ca):=Ng.o.sq.b0.cell 0;simp only[zY]at y0 y3 y6;clear Db)
     |(go_at_call 47;refine k67.o.mono ?_;rintro e W9 ⟨v1,v2,v3,l,rl,rfl,sP,Rs,Cf,hB9⟩;obtain⟨Ai,ci,rfl⟩:=sP.i.kr.form;obtain⟨Aw,cw,rfl⟩:=sP.wr.form;obtain⟨Ar,cr,rfl⟩:=sP.r.kr.form;have hQ9:=Hd (Ng.o.stay hB9);have hq7:=Ng.o.b2.lt;simp only[l8];replace⟨Rs,Cf,sP⟩:=H3 Rs Cf sP;clear hB9)
     |(refine ay (.store 31 (.tmp 6) (.tmp 75)) rfl ?_;refine eU rfl 31 (.tmp 6) (.tmp 75) rfl (cs':=l8 Q' (.slice Ai l.length ci) (.slice Aw Q'.wh.length cw) (.slice Ar rl.length cr) Q'.au) hQ9.o.b2 cB rfl rfl rfl rfl ?_;intro w8 eX eY))
    exact yF rfl eX cB rfl rfl rfl rfl ⟨_,_,_,some Q',rfl,ae.o,λh=>(by cases h),λq2 h=>(by injection h with h;subst h;exact⟨_,_,_,l,rl,rfl,(sP.o.under eY (show w.heap.size+1+1<W7.heap.size from hq7)).base (by have:=Ng.o.sq.hb.size;omega),Rs.o,Cf.o⟩),hQ9.o.fin eY⟩
end pX
