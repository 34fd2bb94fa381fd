/- Items. -/
import Derived.Test.YtjbcbibkhalagaaGreatDoorC9
namespace Go.Proofs.YtjbcbibkhalagaaGreatDoor
set_option maxRecDepth 100000
set_option maxHeartbeats 16000000
open Proofs.Tryz Go.RowKit Go.Deep
set_option linter.unusedVariables false
set_option linter.unusedSimpArgs false
theorem dG {α:Type}{l:List α}{x j p}(hx:l[j]? =some x)(h:(l.take j).all p=true)(hp:p x=true):(l.take (j+1)).all p=true:=by
 rw[zJ,hx,List.all_append,h];simp[hp]
theorem ea {α:Type}{l:List α}{x}{j:Nat}{p}(hx:l[j]? =some x)(hp:p x=false):l.all p=false:=by
 rw[List.all_eq_false];exact⟨x,zA hx,by simp[hp]⟩
theorem ft {α:Type}{l:List α}{p}(h:(l.take l.length).all p=true):l.all p=true:=by rwa [zL]at h
theorem dN {w F A c i}{l:List ByteArray}{x}(r:Rd w F (.slice A l.length c) (.sl l.length (l.flatMap aG)))(hp:l[i]? =some x):∃b off,A=some ⟨b,off,none⟩/\F b/\w.cell? ⟨b,off+i,none⟩=some (.string x):=by
 obtain⟨b,off,rfl,hF,ha,_⟩:=r.cP (m:=1) (λ_=>rfl) hp oQ;exact⟨b,off,rfl,hF,by have:=ha 0 _ rfl;rwa [Nat.mul_one,Nat.add_zero]at this⟩
theorem eV {w F A c i}{l:List It}{x}(r:Rd w F (.slice A l.length c) (.sl l.length (l.flatMap SV)))(hp:l[i]? =some x):∃b off A2 c2,A=some ⟨b,off,none⟩/\F b/\
  Rd w F (.slice A2 x.ah.length c2) (.sl x.ah.length (x.ah.flatMap aG))/\
  w.cell? ⟨b,off+i*5,none⟩=some (.bool x.neg)/\w.cell? ⟨b,off+i*5+1,none⟩=some (.slice A2 x.ah.length c2)/\w.cell? ⟨b,off+i*5+2,none⟩=some (.string x.v)/\w.cell? ⟨b,off+i*5+3,none⟩=some (.int .i64 x.lo)/\
  w.cell? ⟨b,off+i*5+4,none⟩=some (.int .i64 x.hi):=by
 obtain⟨b,off,rfl,hF,ha,hb⟩:=r.cP (m:=5) (λ_=>rfl) hp oQ;obtain⟨A2,c2,h1,h2⟩:=hb 1 _ _ rfl;exact⟨b,off,A2,c2,rfl,hF,h2,ha 0 _ rfl,h1,ha 2 _ rfl,ha 3 _ rfl,ha 4 _ rfl⟩
theorem nM {w F A c i}{l:List (List Nd)}{x}(r:Rd w F (.slice A l.length c) (.sl l.length (l.flatMap Xv)))(hp:l[i]? =some x):∃b off A2 c2,A=some ⟨b,off,none⟩/\F b/\
  Rd w F (.slice A2 x.length c2) (.sl x.length (x.flatMap b9))/\w.cell? ⟨b,off+i,none⟩=some (.slice A2 x.length c2):=by
 obtain⟨b,off,rfl,hF,ha,hb⟩:=r.cP (m:=1) (λ_=>rfl) hp oQ;obtain⟨A2,c2,h1,h2⟩:=hb 0 _ _ rfl;exact⟨b,off,A2,c2,rfl,hF,h2,by rwa [Nat.mul_one,Nat.add_zero]at h1⟩
def Yn (x:It):Prop:=Xw x.ah/\x.v.size<=1048576
structure jE (q:Qy):Prop where
 il:q.items.length<=1048576
 it:∀x∈q.items,Yn x
 wh:tT q.wh
 au:q.au.size<=1048576
 rl:q.ret.length<=1048576
 re:∀x∈q.ret,tT x
noncomputable def om (l:List ByteArray):Bool:=l.all br&&decide (0<l.length)
noncomputable def me (x:It):Bool:=decide (0<x.ah.length)&&(br x.v&&(decide (0<=x.lo)&&(decide (0<=x.hi)&&(x.ah.all br&&(!x.neg||(decide (x.lo=1)&&decide (x.hi=1)))))))
noncomputable def aL (q:Qy):Bool:=
 decide (0<q.items.length)&&(decide (0<=q.mode)&&(decide (q.mode<=2)&&(decide (0<=q.after)&&(decide (q.after<=3)&&(decide (0<=q.within)&&(q.items.all me&&
  ((decide (q.wh.length=0)||aW q.wh)&&((decide (q.au=emp)||br q.au)&&q.ret.all aW))))))))
def dX (x:It)(u:Value):List Value:=[.bool x.neg,u,.string x.v,.int .i64 x.lo,.int .i64 x.hi]
def PI (x:It)(u:Value)(w wr:World):Prop:=Bw w wr/\ao wr w.heap.size 60 (dX x u)
theorem PI.stay {x u w wr W}(h:PI x u w wr)(hb:Bw wr W):PI x u w W:=⟨h.1.trans (hb.mono h.1.size),h.2.stay hb⟩
theorem PI.new (x u w):PI x u w (w.alloc (.cells ⟨dX x u⟩ 60)):=⟨bA,ao.new _ _ _⟩
namespace cH
theorem PJ (A c F l)(hl:l.length<=1048576)(w)(hK:cW w)(hF:∀b,F b->b<w.heap.size)(r:Rd w F (.slice A l.length c) (.sl l.length (l.flatMap aG))):
  Cl 124 #[.slice A l.length c] w λe w'=>e=.returned (.bool (om l))/\w'=w:=by
 have k1:=Hd k9;replace⟨r,hF,hK⟩:=H3 r hF hK;go_enter func124,ntmps124;go_wp2;go_loopw [3] (λi wr=>∃j:Nat,j<=l.length/\i=.int .i64 j/\wr=w/\Hid ((l.take j).all br=true)) (λi _=>l.length- (intOf i).toNat)
 .exact⟨0,zE _,rfl,rfl,rfl⟩
 obtain⟨j,hj,rfl,rfl,hp⟩:=hrel;by_cases hlt:j<l.length
 .obtain⟨x,hx⟩:=av hlt;obtain⟨b,off,rfl,_,a0⟩:=dN r.o hx;have g0:=aH j;have g1:=aV j l.length;replace hx:=Hd hx;cases hb:br x with
  |false=>
   have ae:=Hd (show om l=false by unfold om;rw[ea hx.o hb];rfl);replace hb:=Hd hb;go_wp2_with (go_at_call 125;refine(k1.o _ _ hK.o).aR ?_;rw[hb.o]);go_ret;exact⟨fZ ae.o.symm,rfl⟩
  |true=>
   have ej:=Hd (dG hx.o hp.o hb);replace hb:=Hd hb;go_wp2_with (go_at_call 125;refine(k1.o _ _ hK.o).aR ?_;rw[hb.o]);go_roundw
   .exact⟨j+1,oQ,gQ,(by first|exact rfl |trivial),ej⟩
   exact mQ
 .obtain rfl:j=l.length:=oQ;have ae:om l=decide (0<l.length):=by unfold om;rw[ft hp.o,xE]
  replace ae:=Hd ae;go_wp2;go_ret;exact⟨fZ ae.o.symm,rfl⟩
theorem ze (x A c F)(hs:Yn x)(w)(hK:cW w)(hF:∀b,F b->b<w.heap.size)(r:Rd w F (.slice A x.ah.length c) (.sl x.ah.length (x.ah.flatMap aG))):
  Cl 88 #[.agg ⟨dX x (.slice A x.ah.length c)⟩] w λe w'=>e=.returned (.bool (me x))/\Bw w w':=by
 have k1:=Hd qX;obtain⟨⟨eC,ia⟩,EP⟩:=hs;have h0:=PI.new x (.slice A x.ah.length c) w;obtain⟨ib,Yo⟩:=aB (me x)
 rw[<-Yo];obtain⟨neg,ah,v,lo,hi⟩:=x;simp only[dX]at h0 eC ia EP r |-;have xX:ib=(decide (0<ah.length)&&(br v&&(decide (0<=lo)&&(decide (0<=hi)&&(ah.all br&&(!neg||(decide (lo=1)&&decide (hi=1)))))))):=Yo;clear Yo;replace⟨r,hF,ia⟩:=H3 r hF ia;have T9:=Hd (hK.stay h0.1);replace h0:=Hd h0;by_cases hn:ah.length=0
 .have f0:((ah.length:Int)==0)=true:=by rw[beq_iff_eq];omega
  have ae:ib=false:=by rw[xX];simp[hn]
  replace ae:=Hd ae;clear xX;replace hn:=Hd hn;go_enter func88,ntmps88;go_wp2;go_ret;exact⟨fZ ae.o.symm,h0.o.1⟩
 have f0:((ah.length:Int)==0)=false:=by rw[xV];omega
 replace xX:ib=(br v&&(decide (0<=lo)&&(decide (0<=hi)&&(ah.all br&&(!neg||(decide (lo=1)&&decide (hi=1))))))):=by rw[xX,zW oQ,xE]
 replace hn:=Hd hn;obtain⟨nv,hnv⟩:=aB (br v)
 rw[<-hnv]at xX;replace hnv:=Hd hnv;have kv:Cl 65 #[.string v] (w.alloc (.cells ⟨[.bool neg,.slice A ah.length c,.string v,.int .i64 lo,.int .i64 hi]⟩ 60)) λe w'=>e=.returned (.bool nv)/\PI ⟨neg,ah,v,lo,hi⟩ (.slice A ah.length c) w w':=
  (k1.o v _ T9.o EP).mono λe W h=>by rw[hnv.o];exact⟨h.1,h0.o.stay h.2⟩
 replace kv:=Hd kv;cases nv with
 |false=>
  rw[Bool.false_and]at xX;replace xX:=Hd xX;go_enter func88,ntmps88;go_wp2_with (go_at_call 65;refine kv.o.mono ?_;rintro e W ⟨rfl,hW⟩;replace hW:=Hd hW);go_ret;exact⟨fZ xX.o.symm,hW.o.1⟩
 |true=>
 rw[xE]at xX;by_cases zf:lo<0
 .have ae:ib=false:=by rw[xX,zV oQ,Bool.false_and]
  replace ae:=Hd ae;clear xX;go_enter func88,ntmps88;go_wp2_with (go_at_call 65;refine kv.o.mono ?_;rintro e W ⟨rfl,hW⟩;have z3:W.cell? ⟨w.heap.size,3,none⟩=some (.int .i64 lo):=hW.2.cell 3;replace hW:=Hd hW);go_ret;exact⟨fZ ae.o.symm,hW.o.1⟩
 rw[zW (show 0<=lo by omega),xE]at xX;by_cases hhi:hi<0
 .have ae:ib=false:=by rw[xX,zV oQ,Bool.false_and]
  replace ae:=Hd ae;clear xX;go_enter func88,ntmps88;go_wp2_with (go_at_call 65;refine kv.o.mono ?_;rintro e W ⟨rfl,hW⟩;have z3:W.cell? ⟨w.heap.size,3,none⟩=some (.int .i64 lo):=hW.2.cell 3;have z4:W.cell? ⟨w.heap.size,4,none⟩=some (.int .i64 hi):=hW.2.cell 4;replace hW:=Hd hW);go_ret;exact⟨fZ ae.o.symm,hW.o.1⟩
 rw[zW (show 0<=hi by omega),xE]at xX;replace xX:=Hd xX;go_enter func88,ntmps88;go_wp2_with (go_at_call 65;refine kv.o.mono ?_;rintro e W ⟨rfl,hW⟩;have z1:W.cell? ⟨w.heap.size,1,none⟩=some (.slice A ah.length c):=hW.2.cell 1;have z3:W.cell? ⟨w.heap.size,3,none⟩=some (.int .i64 lo):=hW.2.cell 3;have z4:W.cell? ⟨w.heap.size,4,none⟩=some (.int .i64 hi):=hW.2.cell 4;replace hW:=Hd hW);clear z1 z3 z4;go_loopw [28] (λi wr=>∃j:Nat,j<=ah.length/\i=.int .i64 j/\PI ⟨neg,ah,v,lo,hi⟩ (.slice A ah.length c) w wr/\Hid ((ah.take j).all br=true)) (λi _=>ah.length- (intOf i).toNat)
 .exact⟨0,zE _,rfl,hW.o,rfl⟩
 clear hW;obtain⟨j,hj,rfl,hI,hp⟩:=hrel;by_cases hlt:j<ah.length
 .obtain⟨x,hx⟩:=av hlt;obtain⟨b,off,rfl,_,a0⟩:=dN (r.o.under hI.1 hF.o) hx;have g0:=aH j;have g1:=aV j ah.length;have wK:x.size<=1048576:=ia.o x (zA hx);have kx:=k1.o x wr ((hK.stay hI.1)) wK;replace hx:=Hd hx;cases hb:br x with
  |false=>
   have ae:ib=false:=(by rw[xX.o,ea hx.o hb];rfl);rw[hb]at kx;replace⟨kx,ae,hb,hI⟩:=H4 kx ae hb hI;go_wp2_with (go_at_call 65;refine kx.o.mono ?_;rintro e W ⟨rfl,hW⟩;replace hI:=Hd (hI.o.stay hW);clear hW);go_ret;exact⟨fZ ae.o.symm,hI.o.1⟩
  |true=>
   have ej:=Hd (dG hx.o hp.o hb);rw[hb]at kx;replace⟨kx,hb,hI⟩:=H3 kx hb hI;go_wp2_with (go_at_call 65;refine kx.o.mono ?_;rintro e W ⟨rfl,hW⟩;replace hI:=Hd (hI.o.stay hW);clear hW);go_roundw
   .exact⟨j+1,oQ,gQ,hI.o,ej⟩
   exact mQ
 .obtain rfl:j=ah.length:=oQ;have g1:¬(ah.length:Int)<ah.length:=oQ;have ER:ib=(!neg||(decide (lo=1)&&decide (hi=1))):=by rw[xX.o,ft hp.o,xE]
  have z0:wr.cell? ⟨w.heap.size,0,none⟩=some (.bool neg):=hI.2.cell 0;have z3:wr.cell? ⟨w.heap.size,3,none⟩=some (.int .i64 lo):=hI.2.cell 3;have z4:wr.cell? ⟨w.heap.size,4,none⟩=some (.int .i64 hi):=hI.2.cell 4;replace hI:=Hd hI;cases neg with
  |false=>
   replace ER:=Hd ER;go_wp2;go_ret;exact⟨fZ ER.o.symm,hI.o.1⟩
  |true=>
   by_cases h1:lo=1
   .have f1:(lo==1)=true:=(by rw[beq_iff_eq];exact h1);have ae:ib=(hi==1):=by rw[ER,zW h1];rfl
    replace ae:=Hd ae;clear ER;replace h1:=Hd h1;go_wp2;go_ret;exact⟨fZ ae.o.symm,hI.o.1⟩
   .have f1:(lo==1)=false:=(by rw[xV];exact h1);have ae:ib=false:=by rw[ER,zV h1];rfl
    replace ae:=Hd ae;clear ER;replace h1:=Hd h1;go_wp2;go_ret;exact⟨fZ ae.o.symm,hI.o.1⟩
end cH
structure fV where
 a1:Option Addr
 c1:Nat
 a2:Option Addr
 c2:Nat
 a3:Option Addr
 c3:Nat
def qV (q:Qy)(s:fV):List Value:=[.slice s.a1 q.items.length s.c1,.int .i64 q.mode,.int .i64 q.after,.slice s.a2 q.wh.length s.c2,.int .i64 q.within,.string q.au,.slice s.a3 q.ret.length s.c3]
structure QR (w:World)(F:Nat->Prop)(q:Qy)(s:fV):Prop where
 r1:Rd w F (.slice s.a1 q.items.length s.c1) (.sl q.items.length (q.items.flatMap SV))
 r2:Rd w F (.slice s.a2 q.wh.length s.c2) (.sl q.wh.length (q.wh.flatMap b9))
 r3:Rd w F (.slice s.a3 q.ret.length s.c3) (.sl q.ret.length (q.ret.flatMap Xv))
 lt:∀b,F b->b<w.heap.size
theorem QR.under {w w' F q s}(h:QR w F q s)(hb:Bw w w'):QR w' F q s:=
 ⟨h.r1.under hb h.lt,h.r2.under hb h.lt,h.r3.under hb h.lt,λb fA=>zF (h.lt b fA) hb.size⟩
def QB (q:Qy)(s:fV)(w wr:World):Prop:=Bw w wr/\ao wr w.heap.size 31 (qV q s)
theorem QB.stay {q s w wr W}(h:QB q s w wr)(hb:Bw wr W):QB q s w W:=⟨h.1.trans (hb.mono h.1.size),h.2.stay hb⟩
theorem QB.new (q s w):QB q s w (w.alloc (.cells ⟨qV q s⟩ 31)):=⟨bA,ao.new _ _ _⟩
theorem QB.cells {q s w wr}(h:QB q s w wr):wr.cell? ⟨w.heap.size,0,none⟩=some (.slice s.a1 q.items.length s.c1)/\wr.cell? ⟨w.heap.size,1,none⟩=some (.int .i64 q.mode)/\wr.cell? ⟨w.heap.size,2,none⟩=some (.int .i64 q.after)/\
  wr.cell? ⟨w.heap.size,3,none⟩=some (.slice s.a2 q.wh.length s.c2)/\wr.cell? ⟨w.heap.size,4,none⟩=some (.int .i64 q.within)/\wr.cell? ⟨w.heap.size,5,none⟩=some (.string q.au)/\wr.cell? ⟨w.heap.size,6,none⟩=some (.slice s.a3 q.ret.length s.c3):=
 ⟨h.2.cell 0,h.2.cell 1,h.2.cell 2,h.2.cell 3,h.2.cell 4,h.2.cell 5,h.2.cell 6⟩
namespace dR
open cH
theorem KW (q s F)(hs:jE q)(w)(hK:cW w)(R:QR w F q s):
  Cl 52 #[.agg ⟨qV q s⟩] w λe w'=>e=.returned (.bool (aL q))/\Bw w w':=by
 have k1:=Hd qX;have k2:=Hd ze;have k3:=Hd sx;have h0:=QB.new q s w;obtain⟨sb,kN⟩:=aB (aL q)
 rw[<-kN];unfold aL at kN;obtain⟨A1,c1,A2,c2,A3,c3⟩:=s;simp only[qV]at h0 |-;have n1:q.items.length<=1048576:=hs.il;have n2:q.wh.length<=1048576:=hs.wh.1;have n3:q.ret.length<=1048576:=hs.rl;replace⟨hs,hK,R,h0⟩:=H4 hs hK R h0;by_cases p0:q.items.length=0
 .have d:decide (0<q.items.length)=false:=zV oQ;rw[d,Bool.false_and]at kN;clear d;replace kN:=Hd kN;have f0:((q.items.length:Int)==0)=true:=by rw[beq_iff_eq];omega
  replace p0:=Hd p0;go_enter func52,ntmps52;go_wp2;go_ret;exact⟨fZ kN.o.symm,h0.o.1⟩
 have f0:((q.items.length:Int)==0)=false:=by rw[xV];omega
 rw[zW (show 0<q.items.length by omega),xE]at kN;replace p0:=Hd p0;by_cases p1:q.mode<0
 .have d:decide (0<=q.mode)=false:=zV oQ;rw[d,Bool.false_and]at kN;clear d;replace kN:=Hd kN;go_enter func52,ntmps52;go_wp2;go_ret;exact⟨fZ kN.o.symm,h0.o.1⟩
 rw[zW (show 0<=q.mode by omega),xE]at kN;by_cases p2:2<q.mode
 .have d:decide (q.mode<=2)=false:=zV oQ;rw[d,Bool.false_and]at kN;clear d;replace kN:=Hd kN;go_enter func52,ntmps52;go_wp2;go_ret;exact⟨fZ kN.o.symm,h0.o.1⟩
 rw[zW (show q.mode<=2 by omega),xE]at kN;by_cases p3:q.after<0
 .have d:decide (0<=q.after)=false:=zV oQ;rw[d,Bool.false_and]at kN;clear d;replace kN:=Hd kN;go_enter func52,ntmps52;go_wp2;go_ret;exact⟨fZ kN.o.symm,h0.o.1⟩
 rw[zW (show 0<=q.after by omega),xE]at kN;by_cases p4:3<q.after
 .have d:decide (q.after<=3)=false:=zV oQ;rw[d,Bool.false_and]at kN;clear d;replace kN:=Hd kN;go_enter func52,ntmps52;go_wp2;go_ret;exact⟨fZ kN.o.symm,h0.o.1⟩
 rw[zW (show q.after<=3 by omega),xE]at kN;by_cases p5:q.within<0
 .have d:decide (0<=q.within)=false:=zV oQ;rw[d,Bool.false_and]at kN;clear d;replace kN:=Hd kN;go_enter func52,ntmps52;go_wp2;go_ret;exact⟨fZ kN.o.symm,h0.o.1⟩
 rw[zW (show 0<=q.within by omega),xE]at kN;replace kN:=Hd kN;go_enter func52,ntmps52;go_wp2;clear p1 p2 p3 p4 p5;go_loopw [39] (λi wr=>∃j:Nat,j<=q.items.length/\i=.int .i64 j/\QB q ⟨A1,c1,A2,c2,A3,c3⟩ w wr/\Hid ((q.items.take j).all me=true)) (λi _=>q.items.length- (intOf i).toNat)
 .exact⟨0,zE _,rfl,h0.o,rfl⟩
 clear h0;obtain⟨j,hj,rfl,hI,hp⟩:=hrel;by_cases hlt:j<q.items.length
 .obtain⟨x,hx⟩:=av hlt;obtain⟨b,off,B2,d2,e,_,rx,a0,a1,a2,a3,a4⟩:=eV (R.o.under hI.1).r1 hx;simp only at e;subst e;have g0:=aH j;have g1:=aV j q.items.length;have bn:=hI.stay (bX (.cells ⟨dX x (.slice B2 x.ah.length d2)⟩ 60));have kx:=k2.o x B2 d2 F (hs.o.it x (zA hx)) _ (hK.o.stay bn.1) (R.o.under bn.1).lt (rx.alloc _);simp only[dX]at kx bn;replace⟨hx,rx,hI,bn⟩:=H4 hx rx hI bn;cases hb:me x with
  |false=>
   rw[hb]at kx;have ae:sb=false:=by rw[kN.o,ea hx.o hb];rfl
   replace⟨hb,kx,ae⟩:=H3 hb kx ae;go_wp2_with (go_at_call 88;refine kx.o.mono ?_;rintro e W ⟨rfl,hW⟩;replace hW:=Hd (bn.o.stay hW));go_ret;exact⟨fZ ae.o.symm,hW.o.1⟩
  |true=>
   rw[hb]at kx;have ej:=Hd (dG hx.o hp.o hb);replace⟨hb,kx⟩:=H2 hb kx;go_wp2_with (go_at_call 88;refine kx.o.mono ?_;rintro e W ⟨rfl,hW⟩;replace hW:=Hd (bn.o.stay hW));go_roundw
   .exact⟨j+1,oQ,gQ,hW.o,ej⟩
   exact mQ
 .obtain rfl:j=q.items.length:=oQ;have g1:¬(q.items.length:Int)<q.items.length:=oQ;have wL:sb=((decide (q.wh.length=0)||aW q.wh)&&((decide (q.au=emp)||br q.au)&&q.ret.all aW)):=by rw[kN.o,ft hp.o,xE]
  clear kN hp hlt hj;obtain⟨_,_,_,y3,_,y5,y6⟩:=hI.cells;simp only at y3 y5 y6;have kt:=k3.o A2 c2 F q.wh hs.o.wh wr (hK.o.stay hI.1) (R.o.under hI.1).lt (R.o.under hI.1).r2;obtain⟨tb,Iq⟩:=aB (aW q.wh)
  rw[<-Iq]at kt wL;replace⟨Iq,kt⟩:=H2 Iq kt;obtain⟨nb,wu⟩:=aB (br q.au)
  have kn:∀W,QB q ⟨A1,c1,A2,c2,A3,c3⟩ w W->Cl 65 #[.string q.au] W λe w'=>e=.returned (.bool nb)/\Bw W w':=λW hW=>by rw[wu];exact k1.o _ W (hK.o.stay hW.1) hs.o.au
  rw[<-wu]at wL;replace⟨wu,kn⟩:=H2 wu kn;obtain⟨ob,nY⟩:=aB ((decide (q.wh.length=0)||tb)&&(decide (q.au=emp)||nb))
  have jY:sb=(ob&&q.ret.all aW):=by rw[wL,nY,Bool.and_assoc]
  replace jY:=Hd jY;clear wL;have BT:=Hd hI;replace hI:=Hd hI;go_upto_region 9 with fail
  go_cut [67] (λs7 wx=>s7=.bool (!ob)/\QB q ⟨A1,c1,A2,c2,A3,c3⟩ w wx)
  .by_cases h3:q.wh.length=0
   .have h3i:¬0<(q.wh.length:Int):=oQ;have h3n:¬0<q.wh.length:=oQ;rw[zW h3,Bool.true_or,xE]at nY;replace h3:=Hd h3;by_cases h5:q.au=emp
    .have f5:(q.au.toList==([]:List UInt8))=true:=(by rw[aN];exact zW h5);have SW:(q.au.toList != ([]:List UInt8))=false:=by rw[bne,f5];rfl
     have ho:ob=true:=(by rw[nY,zW h5];simp);clear nY;subst ho;replace h5:=Hd h5;go_wp2_with first
      |(go_at_call 89;refine kt.o.mono ?_;rintro e W ⟨rfl,hW⟩;replace hI:=Hd (hI.o.stay hW);clear hW;obtain⟨_,_,_,_,_,y5,y6⟩:=hI.o.cells;simp only at y5 y6)
      |(go_at_call 65;refine(kn.o _ hI.o).eQ λW2 hW=>?_;replace hI:=Hd (hI.o.stay hW);clear hW)
     all_goals(go_meet;exact⟨rfl,hI.o⟩)
    .have f5:(q.au.toList==([]:List UInt8))=false:=(by rw[aN];exact zV h5);have SW:(q.au.toList != ([]:List UInt8))=true:=by rw[bne,f5];rfl
     have ho:ob=nb:=(by rw[nY,zV h5];simp);clear nY;subst ho;replace h5:=Hd h5;cases ob with
     |true=>
      go_wp2_with first
       |(go_at_call 89;refine kt.o.mono ?_;rintro e W ⟨rfl,hW⟩;replace hI:=Hd (hI.o.stay hW);clear hW;obtain⟨_,_,_,_,_,y5,y6⟩:=hI.o.cells;simp only at y5 y6)
       |(go_at_call 65;refine(kn.o _ hI.o).eQ λW2 hW=>?_;replace hI:=Hd (hI.o.stay hW);clear hW)
      all_goals(go_meet;exact⟨rfl,hI.o⟩)
     |false=>
      go_wp2_with first
       |(go_at_call 89;refine kt.o.mono ?_;rintro e W ⟨rfl,hW⟩;replace hI:=Hd (hI.o.stay hW);clear hW;obtain⟨_,_,_,_,_,y5,y6⟩:=hI.o.cells;simp only at y5 y6)
       |(go_at_call 65;refine(kn.o _ hI.o).eQ λW2 hW=>?_;replace hI:=Hd (hI.o.stay hW);clear hW)
      all_goals(go_meet;exact⟨rfl,hI.o⟩)
   .have h3i:0<(q.wh.length:Int):=oQ;have h3n:0<q.wh.length:=oQ;cases tb with
    |false=>
     have ho:ob=false:=(by rw[nY,zV h3];rfl);clear nY;subst ho;replace h3:=Hd h3;go_wp2_with first
      |(go_at_call 89;refine kt.o.mono ?_;rintro e W ⟨rfl,hW⟩;replace hI:=Hd (hI.o.stay hW);clear hW;obtain⟨_,_,_,_,_,y5,y6⟩:=hI.o.cells;simp only at y5 y6)
      |(go_at_call 65;refine(kn.o _ hI.o).eQ λW2 hW=>?_;replace hI:=Hd (hI.o.stay hW);clear hW)
     all_goals(go_meet;exact⟨rfl,hI.o⟩)
    |true=>
     rw[zV h3,Bool.false_or,xE]at nY;replace h3:=Hd h3;by_cases h5:q.au=emp
     .have f5:(q.au.toList==([]:List UInt8))=true:=(by rw[aN];exact zW h5);have SW:(q.au.toList != ([]:List UInt8))=false:=by rw[bne,f5];rfl
      have ho:ob=true:=(by rw[nY,zW h5];simp);clear nY;subst ho;replace h5:=Hd h5;go_wp2_with first
       |(go_at_call 89;refine kt.o.mono ?_;rintro e W ⟨rfl,hW⟩;replace hI:=Hd (hI.o.stay hW);clear hW;obtain⟨_,_,_,_,_,y5,y6⟩:=hI.o.cells;simp only at y5 y6)
       |(go_at_call 65;refine(kn.o _ hI.o).eQ λW2 hW=>?_;replace hI:=Hd (hI.o.stay hW);clear hW)
      all_goals(go_meet;exact⟨rfl,hI.o⟩)
     .have f5:(q.au.toList==([]:List UInt8))=false:=(by rw[aN];exact zV h5);have SW:(q.au.toList != ([]:List UInt8))=true:=by rw[bne,f5];rfl
      have ho:ob=nb:=(by rw[nY,zV h5];simp);clear nY;subst ho;replace h5:=Hd h5;cases ob with
      |true=>
       go_wp2_with first
        |(go_at_call 89;refine kt.o.mono ?_;rintro e W ⟨rfl,hW⟩;replace hI:=Hd (hI.o.stay hW);clear hW;obtain⟨_,_,_,_,_,y5,y6⟩:=hI.o.cells;simp only at y5 y6)
        |(go_at_call 65;refine(kn.o _ hI.o).eQ λW2 hW=>?_;replace hI:=Hd (hI.o.stay hW);clear hW)
       all_goals(go_meet;exact⟨rfl,hI.o⟩)
      |false=>
       go_wp2_with first
        |(go_at_call 89;refine kt.o.mono ?_;rintro e W ⟨rfl,hW⟩;replace hI:=Hd (hI.o.stay hW);clear hW;obtain⟨_,_,_,_,_,y5,y6⟩:=hI.o.cells;simp only at y5 y6)
        |(go_at_call 65;refine(kn.o _ hI.o).eQ λW2 hW=>?_;replace hI:=Hd (hI.o.stay hW);clear hW)
       all_goals(go_meet;exact⟨rfl,hI.o⟩)
  obtain⟨rfl,hI⟩:=hcut;clear y3 y5 y6 BT nY;obtain⟨_,_,_,_,_,_,y6⟩:=hI.cells;simp only at y6;cases ob with
  |false=>
   rw[Bool.false_and]at jY;replace hI:=Hd hI;go_wp2;go_ret;exact⟨fZ jY.o.symm,hI.o.1⟩
  |true=>
   rw[xE]at jY;replace hI:=Hd hI;go_wp2;clear y6;go_loopw [71] (λi wr=>∃j:Nat,j<=q.ret.length/\i=.int .i64 j/\QB q ⟨A1,c1,A2,c2,A3,c3⟩ w wr/\Hid ((q.ret.take j).all aW=true)) (λi _=>q.ret.length- (intOf i).toNat)
   .exact⟨0,zE _,rfl,hI.o,rfl⟩
   clear hI;obtain⟨j,hj,rfl,hI,hp⟩:=hrel;by_cases hlt:j<q.ret.length
   .obtain⟨x,hx⟩:=av hlt;obtain⟨b,off,B2,d2,e,_,rx,a0⟩:=nM (R.o.under hI.1).r3 hx;simp only at e;subst e;have g0:=aH j;have g1:=aV j q.ret.length;have kx:=k3.o B2 d2 F x (hs.o.re x (zA hx)) _ (hK.o.stay hI.1) (R.o.under hI.1).lt rx;replace⟨hx,rx,hI⟩:=H3 hx rx hI;cases hb:aW x with
    |false=>
     rw[hb]at kx;have ae:sb=false:=by rw[jY.o,ea hx.o hb]
     replace⟨hb,kx,ae⟩:=H3 hb kx ae;go_wp2_with (go_at_call 89;refine kx.o.mono ?_;rintro e W ⟨rfl,hW⟩;replace hW:=Hd (hI.o.stay hW));go_ret;exact⟨fZ ae.o.symm,hW.o.1⟩
    |true=>
     rw[hb]at kx;have ej:=Hd (dG hx.o hp.o hb);replace⟨hb,kx⟩:=H2 hb kx;go_wp2_with (go_at_call 89;refine kx.o.mono ?_;rintro e W ⟨rfl,hW⟩;replace hW:=Hd (hI.o.stay hW));go_roundw
     .exact⟨j+1,oQ,gQ,hW.o,ej⟩
     exact mQ
   .obtain rfl:j=q.ret.length:=oQ;have g1:¬(q.ret.length:Int)<q.ret.length:=oQ;have ae:sb=true:=by rw[jY.o,ft hp.o]
    replace⟨ae,hI⟩:=H2 ae hI;go_wp2;go_ret;exact⟨fZ ae.o.symm,hI.o.1⟩
end dR
theorem KX (x):me x=(om x.ah&&(br x.v&&(decide (0<=x.lo)&&(decide (0<=x.hi)&&(!x.neg||(decide (x.lo=1)&&decide (x.hi=1))))))):=by
 unfold me om;generalize decide (0<x.ah.length)=a;generalize x.ah.all br=b;generalize br x.v=c;generalize decide (0<=x.lo)=d;generalize decide (0<=x.hi)=e;generalize (!x.neg||(decide (x.lo=1)&&decide (x.hi=1)))=f;cases a<;>cases b<;>cases c<;>cases d<;>cases e<;>rfl
theorem ET (q):aL q=(q.items.all me&&(q.ret.all aW&&((decide (0<q.items.length)&&decide (0<=q.within))&&((decide (q.wh.length=0)||aW q.wh)&&((decide (q.au=emp)||br q.au)&&((decide (0<=q.after)&&decide (q.after<=3))&&(decide (0<=q.mode)&&decide (q.mode<=2)))))))):=by
 unfold aL;generalize decide (0<q.items.length)=a;generalize decide (0<=q.mode)=b;generalize decide (q.mode<=2)=c;generalize decide (0<=q.after)=d;generalize decide (q.after<=3)=e;generalize decide (0<=q.within)=f;generalize q.items.all me=g;generalize (decide (q.wh.length=0)||aW q.wh)=h;generalize (decide (q.au=emp)||br q.au)=i;generalize q.ret.all aW=j;cases a<;>cases b<;>cases c<;>cases d<;>cases e<;>cases f<;>cases g<;>cases h<;>cases i<;>cases j<;>rfl
theorem KY (a:Int):(decide (0<=a)&&decide (a<=3))=true<->a=0\/a=1\/a=2\/a=3:=by
 rw[xK,decide_eq_true_eq,decide_eq_true_eq];omega
namespace dR
open cH
theorem CD (q s F)(hs:jE q)(w)(hK:cW w)(R:QR w F q s):
  Cl 80 #[.agg ⟨qV q s⟩] w λe w'=>e=.returned (.bool (aL q))/\Bw w w':=by
 have k1:=Hd k9;have k2:=Hd PJ;have k3:=Hd sD;have h0:=QB.new q s w;obtain⟨sb,kN⟩:=aB (aL q)
 rw[<-kN];rw[ET]at kN;obtain⟨A1,c1,A2,c2,A3,c3⟩:=s;simp only[qV]at h0 |-;have n1:q.items.length<=1048576:=hs.il;have n2:q.wh.length<=1048576:=hs.wh.1;have n3:q.ret.length<=1048576:=hs.rl;replace⟨hs,hK,R,h0,kN⟩:=H5 hs hK R h0 kN;go_enter func80,ntmps80;go_wp2;go_loopw [3] (λi wr=>∃j:Nat,j<=q.items.length/\i=.int .i64 j/\QB q ⟨A1,c1,A2,c2,A3,c3⟩ w wr/\Hid ((q.items.take j).all me=true)) (λi _=>q.items.length- (intOf i).toNat)
 .exact⟨0,zE _,rfl,h0.o,rfl⟩
 clear h0;obtain⟨j,hj,rfl,hI,hp⟩:=hrel;by_cases hlt:j<q.items.length
 .obtain⟨x,hx⟩:=av hlt;obtain⟨y0,_,_,_,_,_,_⟩:=hI.cells;obtain⟨b,off,B2,d2,e,_,rx,a0,a1,a2,a3,a4⟩:=eV (R.o.under hI.1).r1 hx;simp only at e y0;subst e;have g0:=aH j;have g1:=aV j q.items.length;have bn:=hI.stay (bX (.cells ⟨dX x (.slice B2 x.ah.length d2)⟩ 60));have wK:=hs.o.it x (zA hx);have kx:=k2.o B2 d2 F x.ah wK.1.1 _ (hK.o.stay bn.1) (R.o.under bn.1).lt (rx.alloc _);have kv:=k1.o x.v _ (hK.o.stay bn.1);have gH:=λ(h:me x=false)=>(by rw[kN.o,ea hx h];rfl:sb=false)
  have jZ:=λ(h:me x=true)=>dG hx hp.o h
  rw[KX]at gH jZ;obtain⟨neg,ah,v,lo,hi⟩:=x;simp only[dX]at kx kv bn gH jZ a0 a1 a2 a3 a4;replace⟨hx,rx,wK,hI,bn⟩:=H5 hx rx wK hI bn;obtain⟨nb,wu⟩:=aB (om ah)
  rw[<-wu]at kx gH jZ;obtain⟨vb,PK⟩:=aB (br v)
  rw[<-PK]at kv gH jZ;clear wu PK;cases nb with
  |false=>
   have ae:=Hd (gH sJ);clear gH jZ;replace⟨kx,kv⟩:=H2 kx kv;go_wp2_with first
    |(go_at_call 124;refine kx.o.mono ?_;rintro e W ⟨rfl,hW⟩;subst W)
    |(go_at_call 125;refine kv.o.mono ?_;rintro e W ⟨rfl,hW⟩;subst W)
   go_ret;exact⟨fZ ae.o.symm,bn.o.1⟩
  |true=>
  cases vb with
  |false=>
   have ae:=Hd (gH sJ);clear gH jZ;replace⟨kx,kv⟩:=H2 kx kv;go_wp2_with first
    |(go_at_call 124;refine kx.o.mono ?_;rintro e W ⟨rfl,hW⟩;subst W)
    |(go_at_call 125;refine kv.o.mono ?_;rintro e W ⟨rfl,hW⟩;subst W)
   go_ret;exact⟨fZ ae.o.symm,bn.o.1⟩
  |true=>
  by_cases h3:lo<0
  .have ae:=Hd (gH (by rw[zV (show¬0<=lo by omega)];rfl));clear gH jZ;replace⟨kx,kv⟩:=H2 kx kv;go_wp2_with first
    |(go_at_call 124;refine kx.o.mono ?_;rintro e W ⟨rfl,hW⟩;subst W)
    |(go_at_call 125;refine kv.o.mono ?_;rintro e W ⟨rfl,hW⟩;subst W)
   go_ret;exact⟨fZ ae.o.symm,bn.o.1⟩
  by_cases h4:hi<0
  .have ae:=Hd (gH (by rw[zW (show 0<=lo by omega),zV (show¬0<=hi by omega)];rfl));clear gH jZ;replace⟨kx,kv⟩:=H2 kx kv;go_wp2_with first
    |(go_at_call 124;refine kx.o.mono ?_;rintro e W ⟨rfl,hW⟩;subst W)
    |(go_at_call 125;refine kv.o.mono ?_;rintro e W ⟨rfl,hW⟩;subst W)
   go_ret;exact⟨fZ ae.o.symm,bn.o.1⟩
  have h5:decide (0<=lo)=true:=zW oQ;have h6:decide (0<=hi)=true:=zW oQ;rw[h5,h6]at gH jZ;clear h5 h6;cases neg with
  |false=>
   have ej:=Hd (jZ (rfl));clear gH jZ;replace⟨kx,kv⟩:=H2 kx kv;go_wp2_with first
    |(go_at_call 124;refine kx.o.mono ?_;rintro e W ⟨rfl,hW⟩;subst W)
    |(go_at_call 125;refine kv.o.mono ?_;rintro e W ⟨rfl,hW⟩;subst W)
   go_roundw
   .exact⟨j+1,oQ,gQ,bn.o,ej⟩
   exact mQ
  |true=>
  by_cases h7:lo=1
  .have f7:(lo==1)=true:=(by rw[beq_iff_eq];exact h7);have f7n:(lo != 1)=false:=by rw[bne,f7];rfl
   by_cases h8:hi=1
   .have f8:(hi==1)=true:=(by rw[beq_iff_eq];exact h8);have f8n:(hi != 1)=false:=by rw[bne,f8];rfl
    have gE:(true&&(true&&(true&&(true&&(!true||(decide (lo=1)&&decide (hi=1)))))))=true:=(by rw[zW h7,zW h8];rfl);replace⟨h7,h8⟩:=H2 h7 h8;have ej:=Hd (jZ (gE));clear gH jZ;replace⟨kx,kv⟩:=H2 kx kv;go_wp2_with first
     |(go_at_call 124;refine kx.o.mono ?_;rintro e W ⟨rfl,hW⟩;subst W)
     |(go_at_call 125;refine kv.o.mono ?_;rintro e W ⟨rfl,hW⟩;subst W)
    go_roundw
    .exact⟨j+1,oQ,gQ,bn.o,ej⟩
    exact mQ
   .have f8:(hi==1)=false:=(by rw[xV];exact h8);have f8n:(hi != 1)=true:=by rw[bne,f8];rfl
    have gE:(true&&(true&&(true&&(true&&(!true||(decide (lo=1)&&decide (hi=1)))))))=false:=(by rw[zV h8];simp);replace⟨h7,h8⟩:=H2 h7 h8;have ae:=Hd (gH (gE));clear gH jZ;replace⟨kx,kv⟩:=H2 kx kv;go_wp2_with first
     |(go_at_call 124;refine kx.o.mono ?_;rintro e W ⟨rfl,hW⟩;subst W)
     |(go_at_call 125;refine kv.o.mono ?_;rintro e W ⟨rfl,hW⟩;subst W)
    go_ret;exact⟨fZ ae.o.symm,bn.o.1⟩
  .have f7:(lo==1)=false:=(by rw[xV];exact h7);have f7n:(lo != 1)=true:=by rw[bne,f7];rfl
   have gE:(true&&(true&&(true&&(true&&(!true||(decide (lo=1)&&decide (hi=1)))))))=false:=(by rw[zV h7];rfl);replace h7:=Hd h7;have ae:=Hd (gH (gE));clear gH jZ;replace⟨kx,kv⟩:=H2 kx kv;go_wp2_with first
    |(go_at_call 124;refine kx.o.mono ?_;rintro e W ⟨rfl,hW⟩;subst W)
    |(go_at_call 125;refine kv.o.mono ?_;rintro e W ⟨rfl,hW⟩;subst W)
   go_ret;exact⟨fZ ae.o.symm,bn.o.1⟩
 .obtain rfl:j=q.items.length:=oQ;have g1:¬(q.items.length:Int)<q.items.length:=oQ;have wL:sb=(q.ret.all aW&&((decide (0<q.items.length)&&decide (0<=q.within))&&((decide (q.wh.length=0)||aW q.wh)&&((decide (q.au=emp)||br q.au)&&((decide (0<=q.after)&&decide (q.after<=3))&&(decide (0<=q.mode)&&decide (q.mode<=2))))))):=by rw[kN.o,ft hp.o,xE]
  clear kN hp hlt hj;replace wL:=Hd wL;obtain⟨y0,_,_,_,_,_,_⟩:=hI.cells;simp only at y0;replace hI:=Hd hI;go_wp2;clear y0 g1;go_loopw [5] (λi wr=>∃j:Nat,j<=q.ret.length/\i=.int .i64 j/\QB q ⟨A1,c1,A2,c2,A3,c3⟩ w wr/\Hid ((q.ret.take j).all aW=true)) (λi _=>q.ret.length- (intOf i).toNat)
  .exact⟨0,zE _,rfl,hI.o,rfl⟩
  clear hI;obtain⟨j,hj,rfl,hI,hp⟩:=hrel;by_cases hlt:j<q.ret.length
  .obtain⟨x,hx⟩:=av hlt;obtain⟨_,_,_,_,_,_,y6⟩:=hI.cells;obtain⟨b,off,B2,d2,e,_,rx,a0⟩:=nM (R.o.under hI.1).r3 hx;simp only at e y6;subst e;have g0:=aH j;have g1:=aV j q.ret.length;have kx:=k3.o B2 d2 F x (hs.o.re x (zA hx)) _ (hK.o.stay hI.1) (R.o.under hI.1).lt rx;replace⟨hx,rx,hI⟩:=H3 hx rx hI;cases hb:aW x with
   |false=>
    rw[hb]at kx;have ae:sb=false:=by rw[wL.o,ea hx.o hb];rfl
    replace⟨hb,kx,ae⟩:=H3 hb kx ae;go_wp2_with (go_at_call 126;refine kx.o.mono ?_;rintro e W ⟨rfl,hW⟩;replace hW:=Hd (hI.o.stay hW));go_ret;exact⟨fZ ae.o.symm,hW.o.1⟩
   |true=>
    rw[hb]at kx;have ej:=Hd (dG hx.o hp.o hb);replace⟨hb,kx⟩:=H2 hb kx;go_wp2_with (go_at_call 126;refine kx.o.mono ?_;rintro e W ⟨rfl,hW⟩;replace hW:=Hd (hI.o.stay hW));go_roundw
    .exact⟨j+1,oQ,gQ,hW.o,ej⟩
    exact mQ
  .obtain rfl:j=q.ret.length:=oQ;have g1:¬(q.ret.length:Int)<q.ret.length:=oQ;have jY:sb=((decide (0<q.items.length)&&decide (0<=q.within))&&((decide (q.wh.length=0)||aW q.wh)&&((decide (q.au=emp)||br q.au)&&((decide (0<=q.after)&&decide (q.after<=3))&&(decide (0<=q.mode)&&decide (q.mode<=2)))))):=by rw[wL.o,ft hp.o,xE]
   clear wL hp hlt hj;obtain⟨y0,_,_,y3,y4,_,y6⟩:=hI.cells;simp only at y0 y3 y4 y6;have kt:=k3.o A2 c2 F q.wh hs.o.wh wr (hK.o.stay hI.1) (R.o.under hI.1).lt (R.o.under hI.1).r2;obtain⟨tb,Iq⟩:=aB (aW q.wh)
   rw[<-Iq]at kt jY;replace⟨Iq,kt⟩:=H2 Iq kt;obtain⟨nb,wu⟩:=aB (br q.au)
   have kn:∀W,QB q ⟨A1,c1,A2,c2,A3,c3⟩ w W->Cl 125 #[.string q.au] W λe w'=>e=.returned (.bool nb)/\w'=W:=λW hW=>by rw[wu];exact k1.o _ W (hK.o.stay hW.1)
   rw[<-wu]at jY;replace⟨wu,kn⟩:=H2 wu kn;by_cases h1:q.items.length=0
   .have f1:((q.items.length:Int)==0)=true:=(by rw[beq_iff_eq];omega);have ae:sb=false:=by rw[jY,zV oQ];rfl
    clear jY;replace⟨ae,h1,hI⟩:=H3 ae h1 hI;go_wp2;go_ret;exact⟨fZ ae.o.symm,hI.o.1⟩
   have f1:((q.items.length:Int)==0)=false:=(by rw[xV];omega);rw[zW (show 0<q.items.length by omega),xE]at jY;replace h1:=Hd h1;by_cases h2:q.within<0
   .have ae:=Hd (show sb=false by rw[jY,zV oQ];rfl);clear jY;replace hI:=Hd hI;go_wp2;go_ret;exact⟨fZ ae.o.symm,hI.o.1⟩
   rw[zW (show 0<=q.within by omega),xE]at jY;obtain⟨ob,nY⟩:=aB (decide (q.wh.length=0)||tb)
   rw[<-nY]at jY;replace jY:=Hd jY;have BT:=Hd hI;replace hI:=Hd hI;go_upto_region 16 with fail
   clear y0 y4 h2 f1;go_cut [82] (λs7 wx=>s7=.bool (!ob)/\QB q ⟨A1,c1,A2,c2,A3,c3⟩ w wx)
   .by_cases h3:q.wh.length=0
    .have h3i:¬0<(q.wh.length:Int):=oQ;have h3n:¬0<q.wh.length:=oQ;have ho:ob=true:=by rw[nY,zW h3];rfl
     clear nY;subst ho;replace h3:=Hd h3;go_wp2
     all_goals(go_meet;exact⟨rfl,hI.o⟩)
    .have h3i:0<(q.wh.length:Int):=oQ;have h3n:0<q.wh.length:=oQ;have ho:ob=tb:=by rw[nY,zV h3];rfl
     clear nY;subst ho;replace h3:=Hd h3;cases ob with
     |false=>
      go_wp2_with (go_at_call 126;refine kt.o.mono ?_;rintro e W ⟨rfl,hW⟩;replace hI:=Hd (hI.o.stay hW);clear hW)
      all_goals(go_meet;exact⟨rfl,hI.o⟩)
     |true=>
      go_wp2_with (go_at_call 126;refine kt.o.mono ?_;rintro e W ⟨rfl,hW⟩;replace hI:=Hd (hI.o.stay hW);clear hW)
      all_goals(go_meet;exact⟨rfl,hI.o⟩)
   obtain⟨rfl,hI⟩:=hcut;clear y3 y6 BT nY kt;obtain⟨_,y1,y2,_,_,y5,_⟩:=hI.cells;try simp only at y1 y2 y5
   cases ob with
   |false=>
    have ae:=Hd (show sb=false by rw[jY.o,Bool.false_and]);clear jY;replace hI:=Hd hI;go_wp2;go_ret;exact⟨fZ ae.o.symm,hI.o.1⟩
   |true=>
   have EU:sb=((decide (q.au=emp)||nb)&&((decide (0<=q.after)&&decide (q.after<=3))&&(decide (0<=q.mode)&&decide (q.mode<=2)))):=(by rw[jY.o,xE]);clear jY;obtain⟨ob,nY⟩:=aB (decide (q.au=emp)||nb)
   rw[<-nY]at EU;replace EU:=Hd EU;have kn2:=Hd (kn.o _ hI);have BT:=Hd hI;replace hI:=Hd hI;go_upto_region 18 with fail
   go_cut [91] (λs7 wx=>s7=.bool (!ob)/\QB q ⟨A1,c1,A2,c2,A3,c3⟩ w wx)
   .by_cases h5:q.au=emp
    .have f5:(q.au.toList==([]:List UInt8))=true:=(by rw[aN];exact zW h5);have SW:(q.au.toList != ([]:List UInt8))=false:=by rw[bne,f5];rfl
     have ho:ob=true:=(by rw[nY,zW h5];rfl);clear nY;subst ho;replace h5:=Hd h5;go_wp2
     all_goals(go_meet;exact⟨rfl,hI.o⟩)
    .have f5:(q.au.toList==([]:List UInt8))=false:=(by rw[aN];exact zV h5);have SW:(q.au.toList != ([]:List UInt8))=true:=by rw[bne,f5];rfl
     have ho:ob=nb:=(by rw[nY,zV h5];rfl);clear nY;subst ho;replace h5:=Hd h5;cases ob with
     |false=>
      go_wp2_with (go_at_call 125;refine kn2.o.mono ?_;rintro e W ⟨rfl,hW⟩;subst W)
      all_goals(go_meet;exact⟨rfl,hI.o⟩)
     |true=>
      go_wp2_with (go_at_call 125;refine kn2.o.mono ?_;rintro e W ⟨rfl,hW⟩;subst W)
      all_goals(go_meet;exact⟨rfl,hI.o⟩)
   obtain⟨rfl,hI⟩:=hcut;clear y1 y2 y5 BT nY kn2;obtain⟨_,y1,y2,_,_,_,_⟩:=hI.cells;try simp only at y1 y2
   cases ob with
   |false=>
    have ae:=Hd (show sb=false by rw[EU.o,Bool.false_and]);clear EU;replace hI:=Hd hI;go_wp2;go_ret;exact⟨fZ ae.o.symm,hI.o.1⟩
   |true=>
   have CG:sb=((decide (0<=q.after)&&decide (q.after<=3))&&(decide (0<=q.mode)&&decide (q.mode<=2))):=(by rw[EU.o,xE]);clear EU;obtain⟨ob,nY⟩:=aB (decide (0<=q.after)&&decide (q.after<=3))
   rw[<-nY]at CG;replace CG:=Hd CG;obtain⟨af,haf⟩:=aB q.after
   rw[<-haf]at y2 nY;obtain⟨mo,hmo⟩:=aB q.mode
   rw[<-hmo]at y1 CG;replace⟨haf,hmo,hI⟩:=H3 haf hmo hI;go_upto_region 20 with fail
   go_cut [109] (λs7 wx=>s7=.bool (!ob)/\QB q ⟨A1,c1,A2,c2,A3,c3⟩ w wx)
   .by_cases cK:af=0\/af=1\/af=2\/af=3
    .obtain rfl:ob=true:=by rw[nY];exact(KY af).2 cK
     clear nY;obtain rfl |rfl |rfl |rfl:=cK
     all_goals(go_wp2;all_goals(go_meet;exact⟨rfl,hI.o⟩))
    .obtain rfl:ob=false:=by rw[nY];cases hc:(decide (0<=af)&&decide (af<=3))with |false=>rfl |true=>exact absurd ((KY af).1 hc) cK
     have e0:(af != 0)=true:=(by rw[bne_iff_ne];omega);have e1:(af != 1)=true:=by rw[bne_iff_ne];omega
     have e2:(af != 2)=true:=(by rw[bne_iff_ne];omega);have e3:(af != 3)=true:=by rw[bne_iff_ne];omega
     have e4:(af==0)=false:=(by rw[xV];omega);have e5:(af==1)=false:=by rw[xV];omega
     have e6:(af==2)=false:=(by rw[xV];omega);have e7:(af==3)=false:=by rw[xV];omega
     clear nY;replace cK:=Hd cK;go_wp2
     all_goals(go_meet;exact⟨rfl,hI.o⟩)
   clear y1 y2 nY hI;obtain⟨rfl,hI⟩:=hcut;obtain⟨_,y1,_,_,_,_,_⟩:=hI.cells;try simp only at y1
   rw[<-hmo.o]at y1;replace hI:=Hd hI;cases ob with
   |false=>
    have ae:=Hd (show sb=false by rw[CG.o,Bool.false_and]);clear CG;go_wp2;go_ret;exact⟨fZ ae.o.symm,hI.o.1⟩
   |true=>
   have ae:sb=(decide (0<=mo)&&decide (mo<=2)):=(by rw[CG.o,xE]);clear CG;by_cases cK:mo=0\/mo=1\/mo=2
   .rw[zW (show 0<=mo by omega),zW (show mo<=2 by omega)]at ae;replace ae:=Hd ae;obtain rfl |rfl |rfl:=cK
    all_goals(go_wp2;go_ret;exact⟨fZ ae.o.symm,hI.o.1⟩)
   .have PL:sb=false:=by rw[ae];cases hc:(decide (0<=mo)&&decide (mo<=2))with |false=>rfl |true=>rw[xK,decide_eq_true_eq,decide_eq_true_eq]at hc;omega
    clear ae;replace PL:=Hd PL;have e4:(mo==0)=false:=by rw[xV];omega
    have e5:(mo==1)=false:=(by rw[xV];omega);have e6:(mo==2)=false:=by rw[xV];omega
    replace cK:=Hd cK;go_wp2;go_ret;exact⟨fZ PL.o.symm,hI.o.1⟩
end dR
def aY (l:List Td):List ByteArray:=l.map (·.name)
def bG (l:List Td)(t:Int)(s:ByteArray):Int:=if t<0 then -1 else match l[t.toNat]? with
 |none=> -1
 |some x=>if s=jk then -2 else if 0<=aj x.attrs s/\aj x.attrs s<8 then aj x.attrs s else -1
theorem xY {l t s}(h:t<0):bG l t s= -1:=if_pos h
theorem uT {l t s}(h:(l.length:Int)<=t):bG l t s= -1:=by
 unfold bG;rw[if_neg oQ,xO oQ]
theorem CH {l}{k:Nat}{s x}(h:l[k]? =some x)(hs:s=jk):bG l k s= -2:=by
 unfold bG;rw[if_neg oQ,Int.toNat_natCast,h];exact if_pos hs
theorem oo {l}{k:Nat}{s x}(h:l[k]? =some x)(hs:s≠jk):bG l k s=if 0<=aj x.attrs s/\aj x.attrs s<8 then aj x.attrs s else -1:=by
 unfold bG;rw[if_neg oQ,Int.toNat_natCast,h];exact if_neg hs
def hasB (l:List Td)(ah:List ByteArray)(a:ByteArray):Bool:=ah.all λn=>decide (bG l (aj (aY l) n) a≠ -1)
def SB (l:List Td)(A:Option Addr)(c:Nat)(w wr:World):Prop:=Bw w wr/\ao wr w.heap.size 24 [.slice A l.length c]
theorem SB.stay {l A c w wr W}(h:SB l A c w wr)(hb:Bw wr W):SB l A c w W:=⟨h.1.trans (hb.mono h.1.size),h.2.stay hb⟩
theorem SB.new (l A c w):SB l A c w (w.alloc (.cells ⟨[.slice A l.length c]⟩ 24)):=⟨bA,ao.new _ _ _⟩
theorem SB.cell {l A c w wr}(h:SB l A c w wr):wr.cell? ⟨w.heap.size,0,none⟩=some (.slice A l.length c):=h.2.cell 0
theorem KZ {w F A c i}{l:List Td}{x}(r:Rd w F (.slice A l.length c) (.sl l.length (l.flatMap fj)))(hp:l[i]? =some x):∃b off A2 c2,A=some ⟨b,off,none⟩/\F b/\
  Rd w F (.slice A2 x.attrs.length c2) (.sl x.attrs.length (x.attrs.flatMap aG))/\w.cell? ⟨b,off+i*2,none⟩=some (.string x.name)/\w.cell? ⟨b,off+i*2+1,none⟩=some (.slice A2 x.attrs.length c2):=by
 obtain⟨b,off,rfl,hF,ha,hb⟩:=r.cP (m:=2) (λ_=>rfl) hp oQ;obtain⟨A2,c2,h1,h2⟩:=hb 1 _ _ rfl;exact⟨b,off,A2,c2,rfl,hF,h2,ha 0 _ rfl,h1⟩
namespace dR
open cH
theorem sE (A c F l s)(hl:l.length<=1048576)(w)(hF:∀b,F b->b<w.heap.size)(r:Rd w F (.slice A l.length c) (.sl l.length (l.flatMap fj))):
  Cl 128 #[.agg ⟨[.slice A l.length c]⟩,.string s] w λe w'=>e=.returned (.int .i64 (aj (aY l) s))/\Bw w w':=by
 have h0:=SB.new l A c w;obtain⟨b,hc⟩:=aB (aj (aY l) s)
 rw[<-hc];replace⟨hc,r,hF,h0⟩:=H4 hc r hF h0;go_enter func128,ntmps128;go_wp2;go_loopw [5] (λi wr=>∃j:Nat,j<=l.length/\i=.int .i64 j/\SB l A c w wr/\Hid (∀(i:Nat) a,(aY l)[i]? =some a->i<j->a≠s)) (λi _=>l.length- (intOf i).toNat)
 .exact⟨0,zE _,rfl,h0.o,λi a h h3=>by omega⟩
 clear h0;obtain⟨j,hj,rfl,hI,hp⟩:=hrel;have y0:=hI.cell;by_cases hlt:j<l.length
 .obtain⟨x,hx⟩:=av hlt;obtain⟨g,off,A2,c2,rfl,_,_,a0,_⟩:=KZ (r.o.under hI.1 hF.o) hx;have g0:=aH j;have g1:=aV j l.length;have iq:(aY l)[j]? =some x.name:=by unfold aY;rw[zG,hx];rfl
  replace⟨iq,hI⟩:=H2 iq hI;clear hx;by_cases hu:x.name=s
  .have la:(x.name.toList==s.toList)=true:=(by rw[ji];exact zW hu);have ae:b=(j:Int):=by rw[hc.o];exact dC (by rw[iq.o,hu]) hp.o
   replace⟨hu,ae⟩:=H2 hu ae;go_wp2;go_ret;exact⟨hY ae.o.symm,hI.o.1⟩
  .have la:(x.name.toList==s.toList)=false:=(by rw[ji];exact zV hu);replace hu:=Hd hu;go_wp2;go_roundw
   .refine⟨j+1,oQ,gQ,hI.o,λi a h h3=>?_⟩;by_cases dE:i=j
    .subst dE;obtain rfl:x.name=a:=by have:=iq.o;rw[h]at this;exact(eO this).symm
     exact hu.o
    .exact hp.o i a h oQ
   exact mQ
 .have g1:=jS j l.length;have ae:b= -1:=by
   rw[hc.o];exact dH λi a h=>hp.o i a h (by have:=(zC.1 h).1;unfold aY at this;simp at this;omega)
  replace⟨ae,hI⟩:=H2 ae hI;go_wp2;go_ret;exact⟨hY ae.o.symm,hI.o.1⟩
theorem CK (A c F l t s)(hl:iI l)(w)(hF:∀b,F b->b<w.heap.size)(r:Rd w F (.slice A l.length c) (.sl l.length (l.flatMap fj))):
  Cl 111 #[.agg ⟨[.slice A l.length c]⟩,.int .i64 t,.string s] w λe w'=>e=.returned (.int .i64 (bG l t s))/\Bw w w':=by
 have k1:=Hd xZ;have h0:=SB.new l A c w;have qK:=hl.1;obtain⟨b,hc⟩:=aB (bG l t s)
 rw[<-hc];by_cases p0:t<0
 .have ae:b= -1:=by rw[hc];exact xY p0
  replace⟨ae,h0⟩:=H2 ae h0;clear hc;go_enter func111,ntmps111;go_wp2;go_ret;exact⟨hY ae.o.symm,h0.o.1⟩
 by_cases p1:(l.length:Int)<=t
 .have ae:b= -1:=by rw[hc];exact uT p1
  replace⟨ae,h0⟩:=H2 ae h0;clear hc;go_enter func111,ntmps111;go_wp2;go_ret;exact⟨hY ae.o.symm,h0.o.1⟩
 obtain⟨k,rfl⟩:∃k:Nat,t=k:=⟨t.toNat,oQ⟩
 have hk:k<l.length:=oQ;obtain⟨x,hx⟩:=av hk;have g0:=aH k;have g1:=aV k l.length;by_cases p2:s=jk
 .have ae:b= -2:=by rw[hc];exact CH hx p2
  have la:=jF p2;replace⟨ae,h0,p2⟩:=H3 ae h0 p2;clear hc;go_enter func111,ntmps111;go_wp2;go_ret;exact⟨hY ae.o.symm,h0.o.1⟩
 have la:=gK p2;rw[oo hx p2]at hc;obtain⟨p,hp⟩:=aB (aj x.attrs s)
 have wK:=hl.2 x (zA hx);obtain⟨g,off,A2,c2,rfl,_,rx,a0,a1⟩:=KZ (r.under h0.1 hF) hx;have kp:Cl 67 #[.slice A2 x.attrs.length c2,.string s] (w.alloc (.cells ⟨[.slice (some ⟨g,off,none⟩) l.length c]⟩ 24)) λe w'=>e=.returned (.int .i64 p)/\w'=(w.alloc (.cells ⟨[.slice (some ⟨g,off,none⟩) l.length c]⟩ 24)):=by rw[hp];exact k1.o A2 c2 F x.attrs s wK.2.1 _ rx
 rw[<-hp]at hc;have fR: -1<=p:=by rw[hp];unfold aj;split<;>omega
 replace⟨hp,kp,h0,p2,hx⟩:=H5 hp kp h0 p2 hx;by_cases p3:0<=p
 .by_cases p4:p<8
  .rw[if_pos ⟨p3,p4⟩]at hc;replace hc:=Hd hc;go_enter func111,ntmps111;go_wp2_with (go_at_call 67;refine kp.o.mono ?_;rintro e W ⟨rfl,hW⟩;subst W);go_ret;exact⟨hY hc.o.symm,h0.o.1⟩
  .rw[if_neg (λh=>p4 h.2)]at hc;replace hc:=Hd hc;go_enter func111,ntmps111;go_wp2_with (go_at_call 67;refine kp.o.mono ?_;rintro e W ⟨rfl,hW⟩;subst W);go_ret;exact⟨hY hc.o.symm,h0.o.1⟩
 .rw[if_neg (λh=>p3 h.1)]at hc;replace hc:=Hd hc;go_enter func111,ntmps111;go_wp2_with (go_at_call 67;refine kp.o.mono ?_;rintro e W ⟨rfl,hW⟩;subst W);go_ret;exact⟨hY hc.o.symm,h0.o.1⟩
theorem ya (A c F l t s)(hl:iI l)(w)(hF:∀b,F b->b<w.heap.size)(r:Rd w F (.slice A l.length c) (.sl l.length (l.flatMap fj))):
  Cl 136 #[.agg ⟨[.slice A l.length c]⟩,.int .i64 t,.string s] w λe w'=>e=.returned (.int .i64 (bG l t s))/\Bw w w':=by
 have h0:=SB.new l A c w;have qK:=hl.1;obtain⟨b,hc⟩:=aB (bG l t s)
 rw[<-hc];by_cases p0:t<0
 .have ae:b= -1:=by rw[hc];exact xY p0
  replace⟨ae,h0⟩:=H2 ae h0;clear hc;go_enter func136,ntmps136;go_wp2;go_ret;exact⟨hY ae.o.symm,h0.o.1⟩
 by_cases p1:(l.length:Int)<=t
 .have ae:b= -1:=by rw[hc];exact uT p1
  replace⟨ae,h0⟩:=H2 ae h0;clear hc;go_enter func136,ntmps136;go_wp2;go_ret;exact⟨hY ae.o.symm,h0.o.1⟩
 obtain⟨k,rfl⟩:∃k:Nat,t=k:=⟨t.toNat,oQ⟩
 have hk:k<l.length:=oQ;obtain⟨x,hx⟩:=av hk;have g0:=aH k;have g1:=aV k l.length;by_cases p2:s=jk
 .have ae:b= -2:=by rw[hc];exact CH hx p2
  have la:=jF p2;replace⟨ae,h0,p2⟩:=H3 ae h0 p2;clear hc;go_enter func136,ntmps136;go_wp2;go_ret;exact⟨hY ae.o.symm,h0.o.1⟩
 have la:=gK p2;rw[oo hx p2]at hc;have wK:=(hl.2 x (zA hx)).2.1;obtain⟨g,off,A2,c2,rfl,_,rx,a0,a1⟩:=KZ (r.under h0.1 hF) hx;obtain⟨m,hm⟩:=aB x.attrs
 rw[<-hm]at hc rx a1 wK;replace⟨hm,hc,h0,p2,hx,rx⟩:=H6 hm hc h0 p2 hx rx;go_enter func136,ntmps136;go_wp2;clear a0 a1;go_loopw [8] (λi wr=>∃j:Nat,j<=m.length/\j<=8/\i=.int .i64 j/\wr=(w.alloc (.cells ⟨[.slice (some ⟨g,off,none⟩) l.length c]⟩ 24))/\Hid (∀(i:Nat) a,m[i]? =some a->i<j->a≠s)) (λi _=>m.length- (intOf i).toNat)
 .exact⟨0,zE _,zE _,rfl,rfl,λi a h h3=>by omega⟩
 obtain⟨j,hj,hj8,rfl,hw,hp⟩:=hrel;have Xx:=h0.o;rw[<-hw]at Xx rx;clear h0;replace⟨hw,Xx⟩:=H2 hw Xx;by_cases hlt:j<m.length
 .have q1:=aV j m.length;by_cases h8:j<8
  .have q2:(j:Int)<8:=oQ;obtain⟨y,hy⟩:=av hlt;obtain⟨g2,jG,rfl,_,b0⟩:=dN rx.o hy;have q0:=aH j;replace hy:=Hd hy;by_cases hu:y=s
   .have wE:(y.toList==s.toList)=true:=(by rw[ji];exact zW hu);have ae:b=(j:Int):=by rw[hc.o,dC (by rw[hy.o,hu]) hp.o];exact if_pos ⟨oQ,oQ⟩
    replace⟨hu,ae⟩:=H2 hu ae;go_wp2;go_ret;exact⟨hY ae.o.symm,Xx.o.1⟩
   .have wE:(y.toList==s.toList)=false:=(by rw[ji];exact zV hu);replace hu:=Hd hu;go_wp2;go_roundw
    .refine⟨j+1,oQ,oQ,gQ,hw.o,λi a h h3=>?_⟩;by_cases dE:i=j
     .subst dE;obtain rfl:y=a:=by have:=hy.o;rw[h]at this;exact(eO this).symm
      exact hu.o
     .exact hp.o i a h oQ
    exact mQ
  .have q2:¬(j:Int)<8:=oQ;have ae:b= -1:=by
    rw[hc.o];refine if_neg λh=>?_
    unfold aj at h;split at h
    .rename_i i he;rw[List.findIdx?_eq_some_iff_getElem]at he;obtain⟨hi,h1,_⟩:=he;exact hp.o i _ (zI hi) oQ (by simpa using h1)
    .omega
   replace ae:=Hd ae;go_wp2;go_ret;exact⟨hY ae.o.symm,Xx.o.1⟩
 .have q1:=jS j m.length;have ae:b= -1:=by
   rw[hc.o,dH λi a h=>hp.o i a h (by have:=(zC.1 h).1;omega)];exact if_neg oQ
  replace ae:=Hd ae;go_wp2;go_ret;exact⟨hY ae.o.symm,Xx.o.1⟩
end dR
