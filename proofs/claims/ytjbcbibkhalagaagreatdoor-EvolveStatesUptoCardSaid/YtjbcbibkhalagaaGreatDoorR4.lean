/- The document's side. -/
import Derived.Test.YtjbcbibkhalagaaGreatDoorR3
namespace Go.Proofs.YtjbcbibkhalagaaGreatDoor
set_option maxRecDepth 100000
set_option maxHeartbeats 16000000
open Proofs.Tryz Go.RowKit Go.Deep
set_option linter.unusedVariables false
set_option linter.unusedSimpArgs false
def Zo (S:List Td)(T:List Kd)(d:py):Bool:=d.ah.all λn=>(aF S n d.at_ T).isSome
def VA (S:List Td)(T:List Kd)(d:py)(n:ByteArray):Bool:=decide ((aF S n d.at_ T).getD emp=(aF S (d.ah.headD emp) d.at_ T).getD emp)
def Zp (S:List Td)(T:List Kd)(d:py):Bool:=d.ah.all (VA S T d)
theorem Js (S T N):dp S T N=N.all (Zo S T):=rfl
theorem Jt (S T N):bW S T N=N.all (Zp S T):=rfl
theorem M5 (S T)(d:py):(d.ah.take 1).all (VA S T d)=true:=by
 unfold VA;cases d.ah<;>simp
theorem M6 {w F A c i}{N:List py}{d}(r:Rd w F (.slice A N.length c) (.sl N.length (N.flatMap jO)))(hd:N[i]? =some d):∃b off A2 c2,A=some ⟨b,off,none⟩/\F b/\w.cell? ⟨b,off+i*2,none⟩=some (.slice A2 d.ah.length c2)/\w.cell? ⟨b,off+i*2+1,none⟩=some (.string d.at_)/\Rd w F (.slice A2 d.ah.length c2) (.sl d.ah.length (d.ah.flatMap aG)):=by
 obtain⟨b,off,rfl,hF,ha,hb⟩:=r.cP (f:=jO) (m:=2) (λ_=>rfl) hd oQ;obtain⟨A2,c2,h1,h2⟩:=hb 0 _ _ rfl;exact⟨b,off,A2,c2,rfl,hF,h1,ha 1 _ rfl,h2⟩
namespace pX
open cH dR
theorem Ry (A A2 An c c2 cn F G H S T N)(hS:iI S)(hT:T.length<=1048576)(sj:∀k∈T,k.fs.length<=1048576)(hN:N.length<=33554432)(GY:∀d∈N,d.ah.length<=1048576)(w)(hF:∀b,F b->b<w.heap.size)(hG:∀b,G b->b<w.heap.size)(hH:∀b,H b->b<w.heap.size)(r:Rd w F (.slice A S.length c) (.sl S.length (S.flatMap fj)))(rt:Rd w G (.slice A2 T.length c2) (.sl T.length (T.flatMap lW)))(rn:Rd w H (.slice An N.length cn) (.sl N.length (N.flatMap jO))):
  Cl 45 #[.agg ⟨[.slice A S.length c]⟩,.slice A2 T.length c2,.slice An N.length cn] w λe w'=>e=.returned (.bool (dp S T N))/\Bw w w':=by
 have bL:=ao.new w 24 [.slice A S.length c];have cN:Bw w (w.alloc (.cells ⟨[.slice A S.length c]⟩ 24)):=bA;have kk:=λn a W (hW:Bw w W)=>rP A A2 c c2 F G S T n a hS hT sj W (λb h=>zF (hF b h) hW.size) (λb h=>zF (hG b h) hW.size) (r.under hW hF) (rt.under hW hG)
 have kn:=λ(i:Nat) d (hd:N[i]? =some d)=>M6 rn hd
 obtain⟨R0,ek⟩:=aB (dp S T N)
 rw[<-ek];rw[Js]at ek;replace⟨bL,cN,kk,kn,ek,GY,hH⟩:=H7 bL cN kk kn ek GY hH;clear r rt rn hS hF hG sj;go_enter func45,ntmps45;go_wp2;go_loopw [7] (λi wr=>∃j:Nat,j<=N.length/\i=.int .i64 j/\Bw w wr/\ao wr w.heap.size 24 [.slice A S.length c]/\Hid ((N.take j).all (Zo S T)=true)) (λi _=>N.length- (intOf i).toNat)
 .exact⟨0,zE _,rfl,cN.o,bL.o,rfl⟩
 clear cN bL;obtain⟨i,hi,rfl,hB,hb,hp⟩:=hrel;by_cases hlt:i<N.length
 .obtain⟨d,hd⟩:=av hlt;obtain⟨gN,oN,At,ct,rfl,Zq,n0,n1,rx⟩:=kn.o i d hd;have pC:=hH.o gN Zq;have hdl:=GY.o d (zA hd);have g0:=aH i;have g1:=aV i N.length;have kc:=λW (hW:Bw w W)=>xW ((hW.cell (p:=⟨gN,oN+i*2,none⟩) pC).trans n0) (xW ((hW.cell (p:=⟨gN,oN+i*2+1,none⟩) pC).trans n1) (rx.under hW hH.o))
  obtain⟨a0,a1,_⟩:=kc wr hB;have hno:Zo S T d=false->R0=false:=λh=>by rw[ek.o];exact ea hd h
  have kE:Zo S T d=true->Hid ((N.take (i+1)).all (Zo S T)=true):=λh=>dG hd hp.o h
  replace⟨kc,hno,kE,hd,rx⟩:=H5 kc hno kE hd rx;have Zr:=Hd hB;have Zs:=Hd hb;clear n0 n1 hB hb;obtain⟨wo,gU⟩:=aB wr
  subst gU;go_wp2;clear a0 a1;go_loopw [8] (λi wr=>∃k:Nat,k<=d.ah.length/\i=.int .i64 k/\Bw w wr/\ao wr w.heap.size 24 [.slice A S.length c]/\Hid ((d.ah.take k).all (λn=>(aF S n d.at_ T).isSome)=true)) (λi _=>d.ah.length- (intOf i).toNat)
  .exact⟨0,zE _,rfl,Zr.o,Zs.o,rfl⟩
  clear Zr Zs;obtain⟨k,hk,rfl,hB,hb,ej⟩:=hrel;obtain⟨a0,a1,rd⟩:=kc.o wr hB;by_cases s9:k<d.ah.length
  .obtain⟨n,hn⟩:=av s9;obtain⟨gT,oT,rfl,hHT,t0⟩:=dN rd hn;have HA:=hH.o gT hHT;have p0:=aH k;have p1:=aV k d.ah.length;have kS:=λW (hW:Bw wr W)=>xW ((hb.stay hW).cell 0) (xW (kc.o W (hB.trans (hW.mono hB.size))).1 (xW (kc.o W (hB.trans (hW.mono hB.size))).2.1 (((hW.mono hB.size).cell (p:=⟨gT,oT+k,none⟩) HA).trans t0)))
   have ak:=xW (kS wr.drew (bR).drew) trivial;have Be:=kk.o n d.at_ wr.drew hB.drew;have iU:(aF S n d.at_ T)=none->R0=false:=λh=>hno.o (ea hn (by rw[h];rfl))
   have Pj:∀x,(aF S n d.at_ T)=some x->Hid ((d.ah.take (k+1)).all (λn=>(aF S n d.at_ T).isSome)=true):=λx h=>dG hn ej.o (by rw[h];rfl)
   generalize aF S n d.at_ T=o at Be iU Pj;replace⟨Be,iU,Pj,kS,hn,rd,hB,hb⟩:=H8 Be iU Pj kS hn rd hB hb;go_upto_region 7 with fail
   clear a0 a1 t0;refine aC (p:=100) (S0:=λW=>W.cell? ⟨w.heap.size,0,none⟩=some (.slice A S.length c)/\W.cell? ⟨gN,oN+i*2,none⟩=some (.slice (some ⟨gT,oT,none⟩) d.ah.length ct)/\W.cell? ⟨gN,oN+i*2+1,none⟩=some (.string d.at_)/\W.cell? ⟨gT,oT+k,none⟩=some (.string n)) (S1:=λ_=>True) kQ ?_;refine' aq 0 rfl ak ?_;refine' aq 1 rfl ak ?_;refine' aq 2 rfl ak ?_;refine' aq 3 rfl ak ?_;refine' aq 4 rfl ak ?_;refine' aq 5 rfl ak ?_;refine' aq 6 rfl ak ?_;refine' aq 7 rfl ak ?_;refine' aq 8 rfl ak ?_;refine' aq 9 rfl ak ?_;refine' aq 10 rfl ak ?_;refine' aq 11 rfl ak ?_;refine' aq 12 rfl ak ?_;refine' aq 13 rfl ak ?_;refine' aq 14 rfl ak ?_;try simp only[Act.put,aK]
   refine Gs 15 rfl λK hK=>?_
   go_simp;go_at_call 86;refine(Be.o).eQ λW4 oX=>?_;have jo:=Hd ((zB wr.heap.size wr).drew.trans oX);refine hK.o _ _ ⟨kS.o W4 (jo.o),λ_=>trivial⟩ ?_;have bF:=xW (kS.o W4 (jo.o)) trivial;clear hK K ak oX;refine' aq 16 rfl bF ?_;refine' aq 17 rfl bF ?_;refine' aq 18 rfl bF ?_;try simp only[Act.put,aK]
   refine Gs 19 rfl λK hK=>?_
   go_simp;refine hK.o _ _ ⟨bF.1,λ_=>trivial⟩ ?_;clear hK K;refine Gs 20 rfl λK hK=>?_
   go_simp;refine hK.o _ _ ⟨bF.1,λ_=>trivial⟩ ?_;clear hK K;clear bF;refine Gd _ ?_;have nN:=Hd (hB.o.trans (jo.o.mono hB.o.size));have Ts:=Hd (hb.o.stay jo.o);cases o with
   |none=>
    have ae:=iU.o rfl;subst ae;go_wp2;go_ret;exact⟨rfl,nN.o⟩
   |some x=>
    have hgo:=Pj.o x rfl;go_wp2;go_roundw
    .exact⟨k+1,oQ,gQ,nN.o,Ts.o,hgo⟩
    exact mQ
  .obtain rfl:k=d.ah.length:=oQ;have hgo:=kE.o (ft ej.o);replace rd:=Hd rd;go_wp2;go_roundw
   .exact⟨i+1,oQ,gQ,hB,hb,hgo⟩
   exact mQ
 .obtain rfl:i=N.length:=oQ;have ae:R0=true:=by rw[ek.o];exact ft hp.o
  subst ae;go_wp2;go_ret;exact⟨rfl,hB⟩
theorem yZ (A A2 An c c2 cn F G H S T N)(hS:iI S)(hT:T.length<=1048576)(sj:∀k∈T,k.fs.length<=1048576)(hN:N.length<=33554432)(GY:∀d∈N,d.ah.length<=1048576)(w)(hF:∀b,F b->b<w.heap.size)(hG:∀b,G b->b<w.heap.size)(hH:∀b,H b->b<w.heap.size)(r:Rd w F (.slice A S.length c) (.sl S.length (S.flatMap fj)))(rt:Rd w G (.slice A2 T.length c2) (.sl T.length (T.flatMap lW)))(rn:Rd w H (.slice An N.length cn) (.sl N.length (N.flatMap jO))):
  Cl 46 #[.agg ⟨[.slice A S.length c]⟩,.slice A2 T.length c2,.slice An N.length cn] w λe w'=>e=.returned (.bool (bW S T N))/\Bw w w':=by
 have bL:=ao.new w 24 [.slice A S.length c];have cN:Bw w (w.alloc (.cells ⟨[.slice A S.length c]⟩ 24)):=bA;have kk:=λn a W (hW:Bw w W)=>rP A A2 c c2 F G S T n a hS hT sj W (λb h=>zF (hF b h) hW.size) (λb h=>zF (hG b h) hW.size) (r.under hW hF) (rt.under hW hG)
 have kn:=λ(i:Nat) d (hd:N[i]? =some d)=>M6 rn hd
 obtain⟨R0,ek⟩:=aB (bW S T N)
 rw[<-ek];rw[Jt]at ek;replace⟨bL,cN,kk,kn,ek,GY,hH⟩:=H7 bL cN kk kn ek GY hH;clear r rt rn hS hF hG sj;go_enter func46,ntmps46;go_wp2;go_loopw [7] (λi wr=>∃j:Nat,j<=N.length/\i=.int .i64 j/\Bw w wr/\ao wr w.heap.size 24 [.slice A S.length c]/\Hid ((N.take j).all (Zp S T)=true)) (λi _=>N.length- (intOf i).toNat)
 .exact⟨0,zE _,rfl,cN.o,bL.o,rfl⟩
 clear cN bL;obtain⟨i,hi,rfl,hB,hb,hp⟩:=hrel;by_cases hlt:i<N.length
 .obtain⟨d,hd⟩:=av hlt;obtain⟨gN,oN,At,ct,rfl,Zq,n0,n1,rx⟩:=kn.o i d hd;have pC:=hH.o gN Zq;have hdl:=GY.o d (zA hd);have g0:=aH i;have g1:=aV i N.length;have kc:=λW (hW:Bw w W)=>xW ((hW.cell (p:=⟨gN,oN+i*2,none⟩) pC).trans n0) (xW ((hW.cell (p:=⟨gN,oN+i*2+1,none⟩) pC).trans n1) (rx.under hW hH.o))
  obtain⟨a0,a1,_⟩:=kc wr hB;have hno:Zp S T d=false->R0=false:=λh=>by rw[ek.o];exact ea hd h
  have kE:Zp S T d=true->Hid ((N.take (i+1)).all (Zp S T)=true):=λh=>dG hd hp.o h
  replace⟨kc,hno,kE,hd,rx⟩:=H5 kc hno kE hd rx;have Zr:=Hd hB;have Zs:=Hd hb;clear n0 n1 hB hb;obtain⟨wo,gU⟩:=aB wr
  subst gU;go_wp2;clear a0 a1;go_loopw [8] (λi wr=>∃k:Nat,1<=k/\k<=1048577/\i=.int .i64 k/\Bw w wr/\ao wr w.heap.size 24 [.slice A S.length c]/\Hid ((d.ah.take k).all (VA S T d)=true)) (λi _=>d.ah.length- (intOf i).toNat)
  .exact⟨1,nR,oQ,rfl,Zr.o,Zs.o,M5 S T d⟩
  clear Zr Zs;obtain⟨k,fM,oY,rfl,hB,hb,ej⟩:=hrel;obtain⟨a0,a1,rd⟩:=kc.o wr hB;by_cases s9:k<d.ah.length
  .obtain⟨n,hn⟩:=av s9;obtain⟨m,hm⟩:=av (l:=d.ah) (i:=0) oQ;obtain⟨gT,oT,rfl,hHT,t0⟩:=dN rd hn;obtain⟨gT',oT',eT,_,t1⟩:=dN rd hm;injection eT with eT
   injection eT with eT1 eT2
   subst eT1 eT2;rw[Nat.add_zero]at t1;have HA:=hH.o gT hHT;have p0:=aH k;have p1:=aV k d.ah.length;have p2:0<d.ah.length:=oQ;have kS:=λW (hW:Bw wr W)=>xW ((hb.stay hW).cell 0) (xW (kc.o W (hB.trans (hW.mono hB.size))).1 (xW (kc.o W (hB.trans (hW.mono hB.size))).2.1 (xW (((hW.mono hB.size).cell (p:=⟨gT,oT,none⟩) HA).trans t1) (((hW.mono hB.size).cell (p:=⟨gT,oT+k,none⟩) HA).trans t0))))
   have ak:=xW (kS wr.drew (bR).drew) trivial;have Be:=λW (hW:Bw w W)=>kk.o n d.at_ W hW
   have kkm:=kk.o m d.at_ wr.drew hB.drew;have Kf:d.ah.headD emp=m:=by
    cases HE:d.ah with
    |nil=>rw[HE]at hm;cases hm
    |cons a r=>rw[HE]at hm;injection hm
   have iU:(aF S n d.at_ T).getD emp≠(aF S m d.at_ T).getD emp->R0=false:=λh=>hno.o (ea hn (by unfold VA;rw[Kf];exact zV h))
   have Pj:(aF S n d.at_ T).getD emp=(aF S m d.at_ T).getD emp->Hid ((d.ah.take (k+1)).all (VA S T d)=true):=λh=>dG hn ej.o (by unfold VA;rw[Kf];exact zW h)
   generalize aF S n d.at_ T=o at Be iU Pj;generalize aF S m d.at_ T=o2 at kkm iU Pj;replace⟨Be,kkm,iU,Pj,kS,hn,hm,Kf,rd,hB,hb⟩:=SI Be kkm iU Pj kS hn hm Kf rd hB hb;go_upto_region 7 with fail
   clear a0 a1 t0 t1;refine aC (p:=100) (S0:=λW=>W.cell? ⟨w.heap.size,0,none⟩=some (.slice A S.length c)/\W.cell? ⟨gN,oN+i*2,none⟩=some (.slice (some ⟨gT,oT,none⟩) d.ah.length ct)/\W.cell? ⟨gN,oN+i*2+1,none⟩=some (.string d.at_)/\W.cell? ⟨gT,oT,none⟩=some (.string m)/\W.cell? ⟨gT,oT+k,none⟩=some (.string n)) (S1:=λ_=>True) kQ ?_;refine' aq 0 rfl ak ?_;refine' aq 1 rfl ak ?_;refine' aq 2 rfl ak ?_;refine' aq 3 rfl ak ?_;refine' aq 4 rfl ak ?_;refine' aq 5 rfl ak ?_;refine' aq 6 rfl ak ?_;refine' aq 7 rfl ak ?_;refine' aq 8 rfl ak ?_;refine' aq 9 rfl ak ?_;refine' aq 10 rfl ak ?_;refine' aq 11 rfl ak ?_;refine' aq 12 rfl ak ?_;refine' aq 13 rfl ak ?_;try simp only[Act.put,aK]
   refine Gs 14 rfl λK hK=>?_
   go_simp;go_at_call 86;refine(kkm.o).eQ λW4 oX=>?_;have jo:=Hd ((zB wr.heap.size wr).drew.trans oX);refine hK.o _ _ ⟨kS.o W4 (jo.o),λ_=>trivial⟩ ?_;have bF:=xW (kS.o W4 (jo.o)) trivial;clear hK K ak oX;refine' aq 15 rfl bF ?_;refine' aq 16 rfl bF ?_;refine' aq 17 rfl bF ?_;try simp only[Act.put,aK]
   refine Gs 18 rfl λK hK=>?_
   go_simp;refine hK.o _ _ ⟨bF.1,λ_=>trivial⟩ ?_;clear hK K;refine Gs 19 rfl λK hK=>?_
   go_simp;refine hK.o _ _ ⟨bF.1,λ_=>trivial⟩ ?_;clear hK K;clear bF;refine Gd _ ?_;have fI:=Hd (hB.o.trans (jo.o.mono hB.o.size));obtain⟨b0,b1,b2,b3,b4⟩:=kS.o W4 jo.o;have Zt:=λW (hW:Bw W4 W)=>jo.o.trans (hW.mono jo.o.size)
   replace Zt:=Hd Zt;go_upto_region 8 with fail
   have EE:=xW (kS.o W4.drew (Zt.o _ (bR).drew)) trivial;clear b0 b1 b2 b3 b4;refine aC (p:=100) (S0:=λW=>W.cell? ⟨w.heap.size,0,none⟩=some (.slice A S.length c)/\W.cell? ⟨gN,oN+i*2,none⟩=some (.slice (some ⟨gT,oT,none⟩) d.ah.length ct)/\W.cell? ⟨gN,oN+i*2+1,none⟩=some (.string d.at_)/\W.cell? ⟨gT,oT,none⟩=some (.string m)/\W.cell? ⟨gT,oT+k,none⟩=some (.string n)) (S1:=λ_=>True) kQ ?_;refine' aq 0 rfl EE ?_;refine' aq 1 rfl EE ?_;refine' aq 2 rfl EE ?_;refine' aq 3 rfl EE ?_;refine' aq 4 rfl EE ?_;refine' aq 5 rfl EE ?_;refine' aq 6 rfl EE ?_;refine' aq 7 rfl EE ?_;refine' aq 8 rfl EE ?_;refine' aq 9 rfl EE ?_;refine' aq 10 rfl EE ?_;refine' aq 11 rfl EE ?_;refine' aq 12 rfl EE ?_;refine' aq 13 rfl EE ?_;refine' aq 14 rfl EE ?_;try simp only[Act.put,aK]
   refine Gs 15 rfl λK hK=>?_
   go_simp;go_at_call 86;refine(Be.o W4.drew fI.o.drew).eQ λW5 Zu=>?_;have Rz:=Hd ((zB W4.heap.size W4).drew.trans Zu);refine hK.o _ _ ⟨kS.o W5 (Zt.o _ Rz.o),λ_=>trivial⟩ ?_;have bF:=xW (kS.o W5 (Zt.o _ Rz.o)) trivial;clear hK K EE Zu;refine' aq 16 rfl bF ?_;refine' aq 17 rfl bF ?_;refine' aq 18 rfl bF ?_;try simp only[Act.put,aK]
   refine Gs 19 rfl λK hK=>?_
   go_simp;refine hK.o _ _ ⟨bF.1,λ_=>trivial⟩ ?_;clear hK K;refine Gs 20 rfl λK hK=>?_
   go_simp;refine hK.o _ _ ⟨bF.1,λ_=>trivial⟩ ?_;clear hK K;clear bF;refine Gd _ ?_;have nN:=Hd (fI.o.trans (Rz.o.mono fI.o.size));have Ts:=Hd ((hb.o.stay jo.o).stay Rz.o);by_cases heq:o.getD emp=o2.getD emp
   .have hgo:=Pj.o heq;have f1:((o2.getD emp).toList != (o.getD emp).toList)=false:=by rw[bne,ji,zW heq.symm];rfl
    have f2:((o2.getD emp).toList==(o.getD emp).toList)=true:=(by rw[ji,zW heq.symm]);replace heq:=Hd heq;go_wp2;go_roundw
    .exact⟨k+1,oQ,oQ,gQ,nN.o,Ts.o,hgo⟩
    exact mQ
   .have ae:=iU.o heq;have f1:((o2.getD emp).toList != (o.getD emp).toList)=true:=by rw[bne,ji,zV (λh=>heq h.symm)];rfl
    have f2:((o2.getD emp).toList==(o.getD emp).toList)=false:=(by rw[ji,zV (λh=>heq h.symm)]);replace heq:=Hd heq;subst ae;go_wp2;go_ret;exact⟨rfl,nN.o⟩
  .have p1:=jS k d.ah.length;have hgo:=kE.o (by have:=ej.o;rwa [xH oQ]at this);replace rd:=Hd rd;go_wp2;go_roundw
   .exact⟨i+1,oQ,gQ,hB,hb,hgo⟩
   exact mQ
 .obtain rfl:i=N.length:=oQ;have ae:R0=true:=by rw[ek.o];exact ft hp.o
  subst ae;go_wp2;go_ret;exact⟨rfl,hB⟩
end pX
structure TT (A:Option Addr)(c n:Nat)(q:Qy)(s:fV)(w wr:World)(v:Value)(L:List Nd):Prop where
 hb:Bw w wr
 b0:ao wr w.heap.size 24 [.slice A n c]
 b1:ao wr (w.heap.size+1) 31 (qV q s)
 ol:OL wr w.heap.size eL 63 6 v L.length (L.flatMap b9)
section
variable {A:Option Addr}{c n:Nat}{q:Qy}{s:fV}{w wr W w1:World}{v v':Value}{L:List Nd}
theorem TT.stay (h:TT A c n q s w wr v L)(hb:Bw wr W):TT A c n q s w W v L:=⟨h.hb.trans (hb.mono h.hb.size),h.b0.stay hb,h.b1.stay hb,h.ol.stay hb⟩
theorem TT.far {p x}(h:TT A c n q s w wr v L)(hp:w.heap.size+1<p.block)(hv:v.ownBlock≠some p.block):TT A c n q s w (wr.setCell p x) v L:=
 ⟨h.hb.setCell oQ _,h.b0.far oQ _,h.b1.far oQ _,h.ol.setCell hv (λh=>h) _⟩
theorem TT.app {x}(h:TT A c n q s w wr v L)(hg:wr.grownBy w1 v.ownBlock)(hO:OL w1 w.heap.size eL 63 6 v' (L.length+1) (L.flatMap b9++b9 x)):TT A c n q s w w1 v' (L++[x]):=by
 refine⟨h.hb.grown hg h.hb.size (λq hq=>(h.ol.lt q hq).1),h.b0.grown hg (λe=>h.ol.aU h.b0 dQ e.symm),h.b1.grown hg (λe=>h.ol.aU h.b1 dQ e.symm),?_⟩;rw[zH,xD];simpa using hO
end
theorem M7 (w G x):fB w G (cJ x) (b9 x):=⟨.v _ rfl,.v _ rfl,.v _ rfl,.v _ rfl,.v _ rfl,.v _ rfl,trivial⟩
theorem M8 {S T q x}(h:x.at_=emp\/x.at_=jk\/∀(i:Nat) y,q.items[i]? =some y->y.v≠x.v):cz S T q x=x:=by
 unfold cz;by_cases h1:x.at_=emp\/x.at_=jk
 .rw[if_pos h1]
 .rw[if_neg h1];have h2:∀(i:Nat) y,q.items[i]? =some y->y.v≠x.v:=by
   rcases h with h |h |h
   .exact absurd (.inl h) h1
   .exact absurd (.inr h) h1
   .exact h
  rw[Dp (jK λi y hy _=>zV (h2 i y hy))]
theorem M9 {S T q x k it}(h1:x.at_≠emp)(h2:x.at_≠jk)(hi:q.items[k]? =some it)(hv:it.v=x.v)(hp:∀(i:Nat) y,q.items[i]? =some y->i<k->y.v≠x.v):cz S T q x={x with at_:=(aF S (it.ah.headD emp) x.at_ T).getD emp}:=by
 unfold cz;rw[if_neg (λh=>h.elim h1 h2),Hz hi (zW hv) (λi y hy Uf=>zV (hp i y hy Uf))];rfl
namespace pX
open cH dR
theorem Bf (A At Ax c ct cx F G H S T q s)(t:List Nd)(hS:iI S)(hT:T.length<=1048576)(sj:∀k∈T,k.fs.length<=1048576)(hs:jE q)(hty:∀x∈q.items,0<x.ah.length)(hl:t.length<=1048576)(w)(hG:∀b,G b->b<w.heap.size)(hH:∀b,H b->b<w.heap.size)(r:Rd w F (.slice A S.length c) (.sl S.length (S.flatMap fj)))(rt:Rd w G (.slice At T.length ct) (.sl T.length (T.flatMap lW)))(R:QR w F q s)(rx:Rd w H (.slice Ax t.length cx) (.sl t.length (t.flatMap b9))):
  Cl 87 #[.agg ⟨[.slice A S.length c]⟩,.slice At T.length ct,.agg ⟨qV q s⟩,.slice Ax t.length cx] w (lL (t.map (cz S T q)) w):=by
 have h0:TT A c S.length q s w ((w.alloc (.cells ⟨[.slice A S.length c]⟩ 24)).alloc (.cells ⟨qV q s⟩ 31)) (.slice none 0 0) []:=⟨(bA).alloc sJ _,(ao.new _ _ _).alloc _,ao.new' sJ,.nil _ _ _ _ _⟩;have hF:=R.lt;have mP:=λ(i:Nat) it (hi:q.items[i]? =some it)=>eV R.r1 hi
 have Vw:=λ(i:Nat) x (hi:t[i]? =some x)=>dk rx hi
 have kk:=λn a W (hW:Bw w W)=>rP A At c ct F G S T n a hS hT sj W (λb h=>zF (hF b h) hW.size) (λb h=>zF (hG b h) hW.size) (r.under hW hF) (rt.under hW hG)
 have iT:=hs.il;obtain⟨R0,ek⟩:=aB (t.map (cz S T q))
 rw[<-ek];obtain⟨A1,c1,A2,c2,A3,c3⟩:=s;simp only[qV]at h0 |-;try simp only at mP
 replace⟨h0,hF,hH,mP,Vw,kk,ek,hty⟩:=H8 h0 hF hH mP Vw kk ek hty;clear R rx r rt hS sj hs hG;go_enter func87,ntmps87;go_wp2;go_loopw [9,10] (λv i wr=>∃j:Nat,j<=t.length/\i=.int .i64 j/\TT A c S.length q ⟨A1,c1,A2,c2,A3,c3⟩ w wr v ((t.take j).map (cz S T q))) (λ_ i _=>t.length- (intOf i).toNat)
 .exact⟨0,zE _,rfl,h0.o⟩
 clear h0;obtain⟨j,hj,rfl,hI⟩:=hrel;obtain⟨Ao,co,rfl⟩:=hI.ol.form;have Lt:=hI.b1.lt;by_cases hlt:j<t.length
 .obtain⟨x,hx⟩:=av hlt;obtain⟨gN,oN,rfl,Zq,n0,n1,n2,n3,n4,n5⟩:=Vw.o j x hx;have pC:=hH.o gN Zq;have a0:=(hI.hb.cell (p:=⟨gN,oN+j*6,none⟩) pC).trans n0;have a1:=(hI.hb.cell (p:=⟨gN,oN+j*6+1,none⟩) pC).trans n1;have a2:=(hI.hb.cell (p:=⟨gN,oN+j*6+2,none⟩) pC).trans n2;have a3:=(hI.hb.cell (p:=⟨gN,oN+j*6+3,none⟩) pC).trans n3;have a4:=(hI.hb.cell (p:=⟨gN,oN+j*6+4,none⟩) pC).trans n4;have a5:=(hI.hb.cell (p:=⟨gN,oN+j*6+5,none⟩) pC).trans n5;have g0:=aH j;have g1:=aV j t.length;have jR:(t.take (j+1)).map (cz S T q)=(t.take j).map (cz S T q)++[cz S T q x]:=by rw[zJ,hx,xR];rfl
  have hlen:((t.take j).map (cz S T q)).length=j:=by rw[xC,zO];omega
  have hWn:Bw wr (wr.alloc (.cells ⟨cJ x⟩ 63)):=bA;have hIn:=hI.stay hWn;have pw:=ao.new wr 63 (cJ x);have hvo:(Value.slice Ao ((t.take j).map (cz S T q)).length co).ownBlock≠some wr.heap.size:=λe=>by have:=(hI.ol.lt _ e).2;omega
  obtain⟨L0,Ra⟩:=aB ((t.take j).map (cz S T q))
  rw[<-Ra]at hIn hvo hlen jR |-;obtain⟨wo,gU⟩:=aB wr
  subst gU;obtain⟨W0,cg⟩:=aB (wo.alloc (.cells ⟨cJ x⟩ 63))
  rw[<-cg]at hIn pw;simp only[cJ]at cg;have qd:=Hd cg;have Qh:L0.length<=1048576:=oQ;replace⟨hIn,pw,hvo,Ra,jR,hlen,hx⟩:=H7 hIn pw hvo Ra jR hlen hx;clear n0 n1 n2 n3 n4 n5 hI hWn cg;go_upto_block 2 with fail
  rw[<-qd.o];clear a0 a1 a2 a3 a4 a5;go_cut [12] (λkk wx=>TT A c S.length q ⟨A1,c1,A2,c2,A3,c3⟩ w wx (.slice Ao L0.length co) L0/\ao wx wo.heap.size 63 (cJ (cz S T q x)))
  .obtain⟨be,Ew⟩:=aB (decide (x.at_=emp))
   obtain⟨bt,wv⟩:=aB (decide (x.at_=jk))
   have e1:(x.at_.toList==([]:List UInt8))=be:=(by rw[aN,Ew]);have e2:(x.at_.toList != ([]:List UInt8))= !be:=by rw[bne,e1]
   have e3:x.at_.toList.isEmpty=be:=by
    rw[<-e1];cases x.at_.toList<;>rfl
   have e4:(x.at_.toList== [116,115])=bt:=by
    rw[wv];by_cases h:x.at_=jk
    .rw[jF h,zW h]
    .rw[gK h,zV h]
   have e5:(x.at_.toList != [116,115])= !bt:=(by rw[bne,e4]);replace⟨Ew,wv⟩:=H2 Ew wv;go_wp2;go_loopw [12] (λi wr=>∃k:Nat,k<=q.items.length/\i=.int .i64 k/\TT A c S.length q ⟨A1,c1,A2,c2,A3,c3⟩ w wr (.slice Ao L0.length co) L0/\ao wr wo.heap.size 63 (cJ x)/\Hid (be=true\/bt=true\/∀(i:Nat) y,q.items[i]? =some y->i<k->y.v≠x.v)) (λi _=>q.items.length- (intOf i).toNat)
   .exact⟨0,zE _,rfl,hIn.o,pw.o,.inr (.inr λi y hy hi=>by omega)⟩
   clear hIn pw;obtain⟨k,hk,rfl,hI,hb,hp⟩:=hrel;have y0:wr.cell? ⟨w.heap.size+1,0,none⟩=some (.slice A1 q.items.length c1):=hI.b1.cell 0;have z2:wr.cell? ⟨wo.heap.size,2,none⟩=some (.string x.v):=hb.cell 2;have z3:wr.cell? ⟨wo.heap.size,3,none⟩=some (.string x.at_):=hb.cell 3;have qL:=hb.lt;by_cases s9:k<q.items.length
   .obtain⟨it,hi⟩:=av s9;have uG:=zA hi;obtain⟨gI,oI,A5,c5,eI,sg,rxi,i0,i1,i2,i3,i4⟩:=mP.o k it hi;try simp only at eI
    subst eI;have pA:=hF.o gI sg;have ki:=λW (hW:Bw w W)=>xW ((hW.cell (p:=⟨gI,oI+k*5+1,none⟩) pA).trans i1) (xW ((hW.cell (p:=⟨gI,oI+k*5+2,none⟩) pA).trans i2) (rxi.under hW hF.o))
    obtain⟨b1,b2,_⟩:=ki wr hI.hb;have p0:=aH k;have p1:=aV k q.items.length;obtain⟨bv,hbv⟩:=aB (it.v.toList==x.v.toList)
    have RA:bv=decide (it.v=x.v):=(by rw[hbv,ji]);replace hbv:=hbv.symm;have fY:(!be&&(!bt&&bv))=false->Hid (be=true\/bt=true\/∀(i:Nat) y,q.items[i]? =some y->i<k+1->y.v≠x.v):=λh=>by
     cases be with
     |true=>exact .inl rfl
     |false=>
      cases bt with
      |true=>exact .inr (.inl rfl)
      |false=>
       cases bv with
       |true=>cases h
       |false=>
        refine .inr (.inr λi y hy PV=>?_);by_cases e:i=k
        .subst e;rw[hi]at hy;injection hy with hy;subst hy;exact of_decide_eq_false RA.symm
        .rcases hp.o with h |h |h
         .cases h
         .cases h
         .exact h i y hy oQ
    have HF:(!be&&(!bt&&bv))=true->cz S T q x={x with at_:=(aF S (it.ah.headD emp) x.at_ T).getD emp}:=λh=>by
     cases be with
     |true=>cases h
     |false=>
      cases bt with
      |true=>cases h
      |false=>
       cases bv with
       |false=>cases h
       |true=>
        refine M9 (of_decide_eq_false Ew.o.symm) (of_decide_eq_false wv.o.symm) hi (of_decide_eq_true RA.symm) λi y hy PV=>?_
        rcases hp.o with h |h |h
        .cases h
        .cases h
        .exact h i y hy PV
    have Bc:Hid (TT A c S.length q ⟨some ⟨gI,oI,none⟩,c1,A2,c2,A3,c3⟩ w wr (.slice Ao L0.length co) L0/\ao wr wo.heap.size 63 (cJ x)):=⟨hI,hb⟩;replace⟨fY,HF,ki,hi,uG,rxi,RA,hp⟩:=H8 fY HF ki hi uG rxi RA hp;clear i0 i1 i2 i3 i4 hI hb;go_upto_region 9 with fail
    go_cut [50] (λv wx=>v=.bool (!be&&(!bt&&bv))/\TT A c S.length q ⟨some ⟨gI,oI,none⟩,c1,A2,c2,A3,c3⟩ w wx (.slice Ao L0.length co) L0/\ao wx wo.heap.size 63 (cJ x))
    .cases be with
     |true=>
      go_quiet (fail);go_wp2
      all_goals(go_meet;exact⟨rfl,Bc.o.1.stay (below_drewN bR _),Bc.o.2.stay (below_drewN bR _)⟩)
     |false=>
      cases bt with
      |true=>
       go_quiet (fail);go_wp2
       all_goals(go_meet;exact⟨rfl,Bc.o.1.stay (below_drewN bR _),Bc.o.2.stay (below_drewN bR _)⟩)
      |false=>
       go_quiet (fail);go_wp2
       all_goals(go_meet;exact⟨sJ,Bc.o.1.stay (below_drewN bR _),Bc.o.2.stay (below_drewN bR _)⟩)
    obtain⟨rfl,hI,hb⟩:=hcut;clear Bc y0 z2 z3 b1 b2 hbv e1 e2 e3 e4 e5 qL;generalize sH:(!be&&(!bt&&bv))=mb at*;replace sH:=Hd sH;cases mb with
    |false=>
     have hgo:=fY.o rfl;go_wp2;go_roundw
     .exact⟨k+1,oQ,gQ,hI,hb,hgo⟩
     exact mQ
    |true=>
     have Da:=HF.o rfl;have VB:=hty.o it uG.o;obtain⟨b1,b2,rxc⟩:=ki.o wc hI.hb;obtain⟨n,hn⟩:=av (l:=it.ah) (i:=0) VB;obtain⟨gT,oT,rfl,Zn,t0⟩:=dN rxc hn;rw[Nat.add_zero]at t0;have HA:=hF.o gT Zn;have IZ:=hI.hb.size;have kS:=λW (hW:Bw wc W)=>xW ((hI.b0.stay hW).cell 0) (xW ((hI.b1.stay hW).cell 0) (xW (ki.o W (hI.hb.trans (hW.mono hI.hb.size))).1 (xW ((hW.cell (p:=⟨gT,oT,none⟩) (by show gT<_;omega)).trans t0) ((hb.stay hW).cell 3))))
     have ak:=xW (kS wc.drew (bR).drew) trivial;have Be:=kk.o n x.at_ wc.drew hI.hb.drew;have Kf:it.ah.headD emp=n:=by
      cases HE:it.ah with
      |nil=>rw[HE]at hn;cases hn
      |cons a r=>rw[HE]at hn;injection hn
     rw[Kf]at Da;generalize aF S n x.at_ T=o at Be Da;replace⟨Be,Da,kS,hn,Kf,rxc,hI,hb⟩:=H8 Be Da kS hn Kf rxc hI hb;clear fY HF;go_upto_region 10 with fail
     clear b1 b2 t0;refine aC (p:=100) (S0:=λW=>W.cell? ⟨w.heap.size,0,none⟩=some (.slice A S.length c)/\W.cell? ⟨w.heap.size+1,0,none⟩=some (.slice (some ⟨gI,oI,none⟩) q.items.length c1)/\W.cell? ⟨gI,oI+k*5+1,none⟩=some (.slice (some ⟨gT,oT,none⟩) it.ah.length c5)/\W.cell? ⟨gT,oT,none⟩=some (.string n)/\W.cell? ⟨wo.heap.size,3,none⟩=some (.string x.at_)) (S1:=λ_=>True) kQ ?_;refine' aq 0 rfl ak ?_;refine' aq 1 rfl ak ?_;refine' aq 2 rfl ak ?_;refine' aq 3 rfl ak ?_;refine' aq 4 rfl ak ?_;refine' aq 5 rfl ak ?_;refine' aq 6 rfl ak ?_;refine' aq 7 rfl ak ?_;refine' aq 8 rfl ak ?_;refine' aq 9 rfl ak ?_;refine' aq 10 rfl ak ?_;refine' aq 11 rfl ak ?_;try simp only[Act.put,aK]
     refine Gs 12 rfl λK hK=>?_
     go_simp;go_at_call 86;refine(Be.o).eQ λW4 oX=>?_;have jo:=Hd ((zB wc.heap.size wc).drew.trans oX);refine hK.o _ _ ⟨kS.o W4 jo.o,λ_=>trivial⟩ ?_;have bF:=xW (kS.o W4 jo.o) trivial;clear hK K ak oX;refine' aq 13 rfl bF ?_;refine' aq 14 rfl bF ?_;refine' aq 15 rfl bF ?_;try simp only[Act.put,aK]
     refine Gs 16 rfl λK hK=>?_
     go_simp;refine hK.o _ _ ⟨bF.1,λ_=>trivial⟩ ?_;clear hK K;refine Gs 17 rfl λK hK=>?_
     go_simp;refine hK.o _ _ ⟨bF.1,λ_=>trivial⟩ ?_;clear hK K;clear bF;refine Gd _ ?_;have np:=Hd (hI.o.stay jo.o);have jJ:=Hd (hb.o.stay jo.o);have z3:W4.cell? ⟨wo.heap.size,3,none⟩=some (.string x.at_):=jJ.o.cell 3;have z4:=jJ.o.frozen 3;go_wp2
     all_goals(go_meet;exact⟨TT.far np.o (by show _<wo.heap.size;exact Lt) hvo.o,by rw[Da.o];exact jJ.o.dz 3 _⟩)
   .obtain rfl:k=q.items.length:=oQ;have Da:cz S T q x=x:=M8 (by
     rcases hp.o with h |h |h
     .exact .inl (of_decide_eq_true (by rw[<-Ew.o];exact h))
     .exact .inr (.inl (of_decide_eq_true (by rw[<-wv.o];exact h)))
     .exact .inr (.inr λi y hy=>h i y hy (zC.1 hy).1))
    rw[<-Da]at hb;replace⟨Da,hI,hb,hp⟩:=H4 Da hI hb hp;go_wp2
    all_goals(go_meet;exact⟨hI.o,hb.o⟩)
  obtain⟨hI,hb⟩:=hcut;clear hIn pw;obtain⟨y,hy⟩:=aB (cz S T q x)
  replace jR:=jR.o;rw[<-hy]at hb jR;replace⟨jR,hy⟩:=H2 jR hy;have c0:wc.cell? ⟨wo.heap.size,0,none⟩=some (.int .i64 y.op):=hb.cell 0;have Y9:wc.cell? ⟨wo.heap.size,1,none⟩=some (.int .i64 y.n):=hb.cell 1;have c2':wc.cell? ⟨wo.heap.size,2,none⟩=some (.string y.v):=hb.cell 2;have c3':wc.cell? ⟨wo.heap.size,3,none⟩=some (.string y.at_):=hb.cell 3;have c4':wc.cell? ⟨wo.heap.size,4,none⟩=some (.int .i64 y.a):=hb.cell 4;have c5':wc.cell? ⟨wo.heap.size,5,none⟩=some (.int .i64 y.b):=hb.cell 5;have HD:=Hd (hI.stay ((zB wc.heap.size wc).alloc nR (.cells ⟨cJ y⟩ 63)));have IZ:=hI.hb.size;simp only[cJ]at HD;clear hI hb;go_wp2_with (at_builtin;refine ez rfl (.tmp 69) (.tmp 71) _ rfl (m:=1) (news:=b9 y) qY HD.o.ol rfl rfl (Src.lit (M7 wc _ y)) rfl oQ oQ (by simp;omega) ?_;intro v' w1 ax aw bu;obtain⟨B3,d3,rfl⟩:=ax.form;have eE:=Hd (HD.o.app aw ax);clear ax aw bu);go_roundw
  .exact⟨j+1,oQ,gQ,by rw[jR.o];exact eE.o⟩
  exact mQ
 .obtain rfl:j=t.length:=oQ;rw[zL]at hI;have ae:Hid (t.map (cz S T q)=R0):=ek.o.symm;replace hI:=Hd hI;go_wp2;go_ret;exact⟨_,rfl,by rw[<-ae.o];simpa using hI.o.ol,hI.o.hb⟩
end pX
