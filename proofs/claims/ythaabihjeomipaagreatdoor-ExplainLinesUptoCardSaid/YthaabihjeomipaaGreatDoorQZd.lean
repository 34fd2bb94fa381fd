/- The law's comparisons. -/
import Derived.Test.YthaabihjeomipaaGreatDoorQZc
namespace Go.Proofs.YthaabihjeomipaaGreatDoor
set_option maxRecDepth 100000
set_option maxHeartbeats 16000000
open Go.RowKit Go.Deep
set_option linter.unusedVariables false
set_option linter.unusedSimpArgs false
section
variable {P:Program}(w:World)
theorem eqF_cons {d:Nat}{xs ys:Array Value}{f:Field}{r:List Field}{u v:Value}{c b:Bool}(hn:f.name≠ "_")(h1:(part f.type xs f.offset).run P w=.ok u w)(h2:(part f.type ys f.offset).run P w=.ok v w)
  (h3:(Op.equalIn d f.type u v).run P w=.ok b w)(hr:(Op.eqFields d xs ys r).run P w=.ok c w):(Op.eqFields d xs ys (f::r)).run P w=.ok (b&&c) w:=by
 simp only[Op.eqFields,if_pos hn,Sem.run_bind,h1,h2,h3,Result.andThen_ok,Sem.run_ite,hr];cases b<;>simp
end
theorem eqNd (w:World)(x y:Nd):(Op.equalIn 10000 96 (.agg ⟨ndV x⟩) (.agg ⟨ndV y⟩)).run Tryz.prog w=.ok (x.op==y.op&&(x.n==y.n&&(x.v.toList==y.v.toList&&(x.at_.toList==y.at_.toList&&(x.a==y.a&&(x.b==y.b&&true)))))) w:=by
 rw[run_equalIn_struct w 9999 96 _ _ kQ kQ];rw[show(Tryz.prog.fieldsOf 96).toList=[{name:= "Op",type:=94,offset:=0,embedded:=false,tag:= "",pkgPath:= "",byteOffset:=0},{name:= "N",type:=2,offset:=1,embedded:=false,tag:= "",pkgPath:= "",byteOffset:=8},
  {name:= "Var",type:=9,offset:=2,embedded:=false,tag:= "",pkgPath:= "",byteOffset:=16},{name:= "Attr",type:=9,offset:=3,embedded:=false,tag:= "",pkgPath:= "",byteOffset:=32},
  {name:= "A",type:=3,offset:=4,embedded:=false,tag:= "",pkgPath:= "",byteOffset:=48},{name:= "B",type:=3,offset:=5,embedded:=false,tag:= "",pkgPath:= "",byteOffset:=56}] by kernel_rfl]
 exact eqF_cons w dQ kQ kQ (run_equalIn_int w _ 94 .i64 .i64 _ _ Tryz.underlying94)
  (eqF_cons w dQ kQ kQ (run_equalIn_int w _ 2 .i64 .i64 _ _ Tryz.underlying2)
   (eqF_cons w dQ kQ kQ (run_equalIn_string w _ 9 _ _ Tryz.underlying9)
    (eqF_cons w dQ kQ kQ (run_equalIn_string w _ 9 _ _ Tryz.underlying9)
     (eqF_cons w dQ kQ kQ (run_equalIn_int w _ 3 .i64 .i64 _ _ Tryz.underlying3)
      (eqF_cons w dQ kQ kQ (run_equalIn_int w _ 3 .i64 .i64 _ _ Tryz.underlying3) rfl)))))
theorem neq_nd (w:World)(x:Nd):(binOp .neq 96 (.agg ⟨ndV x⟩) (.agg ⟨ndV x⟩)).run Tryz.prog w=.ok (.bool false) w:=by
 simp only[binOp];simp[Op.equal,Op.maxDepth,eqNd w x x]
namespace lawW
open nmW ckW
theorem sameTree_k (A B:Option Addr)(c d:Nat)(F G:Nat→Prop)(t:List Nd)(hl:t.length≤1048576)(w:World)(hF:∀b,F b→b<w.heap.size)(hG:∀b,G b→b<w.heap.size)(r:Rd w F (.slice A t.length c) (.sl t.length (t.flatMap ndD)))(s:Rd w G (.slice B t.length d) (.sl t.length (t.flatMap ndD))):
  Calls Tryz.prog 24 #[.slice A t.length c,.slice B t.length d] w fun e w'=>e=.returned (.bool true)∧Bw w w':=by
 replace r:=Hd r;replace s:=Hd s;replace hF:=Hd hF;replace hG:=Hd hG;go_enter Tryz.func24,Tryz.ntmps24;go_wp2;go_loopw [5] (fun x wr=>∃k:Nat,k≤t.length∧x=.int .i64 k∧Bw w wr) (fun x _=>t.length- (intOf x).toNat)
 case atStart=>exact⟨0,zE _,rfl,bR⟩
 case round=>
  obtain⟨k,hk,rfl,hB⟩:=hrel;by_cases hlt:k<t.length
  ·obtain⟨x,hx⟩:=getx hlt;obtain⟨gN,oN,rfl,hFN,n0,n1,n2,n3,n4,n5⟩:=nd_at r.out hx;obtain⟨gM,oM,rfl,hGM,m0,m1,m2,m3,m4,m5⟩:=nd_at s.out hx;have hgN:=hF.out gN hFN;have hgM:=hG.out gM hGM;have g0:(0:Int)≤(k:Int):=oQ;have g1:(k:Int)<t.length:=oQ;have a0:=(hB.cell (p:=⟨gN,oN+k*6,none⟩) hgN).trans n0;have a1:=(hB.cell (p:=⟨gN,oN+k*6+1,none⟩) hgN).trans n1;have a2:=(hB.cell (p:=⟨gN,oN+k*6+2,none⟩) hgN).trans n2;have a3:=(hB.cell (p:=⟨gN,oN+k*6+3,none⟩) hgN).trans n3;have a4:=(hB.cell (p:=⟨gN,oN+k*6+4,none⟩) hgN).trans n4;have a5:=(hB.cell (p:=⟨gN,oN+k*6+5,none⟩) hgN).trans n5;have b0:=(hB.cell (p:=⟨gM,oM+k*6,none⟩) hgM).trans m0;have b1:=(hB.cell (p:=⟨gM,oM+k*6+1,none⟩) hgM).trans m1;have b2:=(hB.cell (p:=⟨gM,oM+k*6+2,none⟩) hgM).trans m2;have b3:=(hB.cell (p:=⟨gM,oM+k*6+3,none⟩) hgM).trans m3;have b4:=(hB.cell (p:=⟨gM,oM+k*6+4,none⟩) hgM).trans m4;have b5:=(hB.cell (p:=⟨gM,oM+k*6+5,none⟩) hgM).trans m5;have hne:=fun W=>neq_nd W x
   simp only[ndV]at hne;replace hB:=Hd hB;clear hx n0 n1 n2 n3 n4 n5 m0 m1 m2 m3 m4 m5;go_wp2;go_quiet (fail);clear hne;go_wp2;go_roundw
   case rel=>exact⟨k+1,oQ,gQ,hB.out.trans ((below_drewN bR _).mono hB.out.size)⟩
   case measure=>exact mQ
  ·obtain rfl:k=t.length:=oQ;replace hB:=Hd hB;go_wp2;go_ret;exact⟨rfl,hB.out⟩
structure SQ2 (q:Qy)(s s':Sl3)(w wr:World):Prop where
 hb:Bw w wr
 b1:Blk wr w.heap.size 31 (qV q s)
 b2:Blk wr (w.heap.size+1) 31 (qV q s')
theorem SQ2.stay {q:Qy}{s s':Sl3}{w wr W:World}(h:SQ2 q s s' w wr)(hb:Bw wr W):SQ2 q s s' w W:=⟨h.hb.trans (hb.mono h.hb.size),h.b1.stay hb,h.b2.stay hb⟩
theorem sameQuery_k (F G:Nat→Prop)(q:Qy)(s s':Sl3)(hs:SzQ q)(w:World)(R:QR w F q s)(R':QR w G q s'):
  Calls Tryz.prog 13 #[.agg ⟨qV q s⟩,.agg ⟨qV q s'⟩] w fun e w'=>e=.returned (.bool true)∧Bw w w':=by
 have h0:SQ2 q s s' w ((w.alloc (.cells ⟨qV q s⟩ 31)).alloc (.cells ⟨qV q s'⟩ 31)):=⟨(bA).alloc sJ _,(Blk.new _ _ _).alloc _,Blk.new' sJ⟩;obtain⟨W0,hW0⟩:∃W0,W0=((w.alloc (.cells ⟨qV q s⟩ 31)).alloc (.cells ⟨qV q s'⟩ 31)):=⟨_,rfl⟩
 rw[←hW0]at h0;have hF:=R.lt;have hG:=R'.lt;have kit:=fun(i:Nat) it (hi:q.items[i]? =some it)=>it_at R.r1 hi
 have kre:=fun(i:Nat) t (hi:q.ret[i]? =some t)=>re_at R.r3 hi
 have kit':=fun(i:Nat) it (hi:q.items[i]? =some it)=>it_at R'.r1 hi
 have kre':=fun(i:Nat) t (hi:q.ret[i]? =some t)=>re_at R'.r3 hi
 have kt:=fun(A B:Option Addr)(c d:Nat) t (hl:t.length≤1048576)(r1:Rd w F (.slice A t.length c) (.sl t.length (t.flatMap ndD)))(r2:Rd w G (.slice B t.length d) (.sl t.length (t.flatMap ndD))) W (hW:Bw w W)=>sameTree_k A B c d F G t hl W (fun b h=>zF (hF b h) hW.size) (fun b h=>zF (hG b h) hW.size) (r1.under hW hF) (r2.under hW hG)
 have kx:=fun(A B:Option Addr)(c d:Nat)(t:List ByteArray)(hl:t.length≤1048576)(r1:Rd w F (.slice A t.length c) (.sl t.length (t.flatMap strD)))(r2:Rd w G (.slice B t.length d) (.sl t.length (t.flatMap strD))) W (hW:Bw w W)=>evW.sameTexts_q A B c d F G t hl W (r1.under hW hF) (r2.under hW hG)
 have kw:=kt s.a2 s'.a2 s.c2 s'.c2 q.wh hs.wh.1 R.r2 R'.r2;have hil:=hs.il;have hrl:=hs.rl;have hits:=hs.it;have hres:=hs.re;obtain⟨A1,c1,A2,c2,A3,c3⟩:=s;obtain⟨B1,d1,B2,d2,B3,d3⟩:=s';obtain⟨y0,y1,y2,y3,y4,y5,y6⟩:=qbc h0.b1;obtain⟨z0,z1,z2,z3,z4,z5,z6⟩:=qbc h0.b2;simp only[zY]at y0 y1 y2 y3 y4 y5 y6 z0 z1 z2 z3 z4 z5 z6;simp only[qV]at hW0 ⊢;try simp only at kit kre kit' kre' kw
 have hWW:=Hd hW0;replace hF:=Hd hF;replace hG:=Hd hG;replace kit:=Hd kit;replace kre:=Hd kre;replace kit':=Hd kit';replace kre':=Hd kre';replace kt:=Hd kt;replace kx:=Hd kx;replace kw:=Hd kw;replace hits:=Hd hits;replace hres:=Hd hres;replace h0:=Hd h0;clear R R' hs hW0;go_enter Tryz.func13,Tryz.ntmps13;go_upto_region 1 with fail
 rw[←hWW.out];go_upto_region 3 with fail
 have hQ1:=Hd h0.out;clear y0 y1 y2 y3 y4 y5 y6 z0 z1 z2 z3 z4 z5 z6 h0;go_wp2;go_loopw [5] (fun i wr=>∃j:Nat,j≤q.items.length∧i=.int .i64 j∧SQ2 q ⟨A1,c1,A2,c2,A3,c3⟩ ⟨B1,d1,B2,d2,B3,d3⟩ w wr) (fun i _=>q.items.length- (intOf i).toNat)
 case atStart=>exact⟨0,zE _,rfl,hQ1.out⟩
 case round=>
  clear hQ1;obtain⟨j,hj,rfl,hQ⟩:=hrel;have hB:=hQ.hb;have hb2:=hQ.b2.lt;have y0:wr.cell? ⟨w.heap.size,0,none⟩=some (.slice A1 q.items.length c1):=hQ.b1.cell 0;have z0:wr.cell? ⟨w.heap.size+1,0,none⟩=some (.slice B1 q.items.length d1):=hQ.b2.cell 0;by_cases hlt:j<q.items.length
  ·obtain⟨it,hi⟩:=getx hlt;have him:=zA hi;have htl:=(hits.out it him).1.1;obtain⟨gI,oI,A5,c5,eI,hFI,rx0,b0,b1,b2,b3,b4⟩:=kit.out j it hi;obtain⟨gJ,oJ,B5,d5,eJ,hGJ,ry0,e0,e1,e2,e3,e4⟩:=kit'.out j it hi;try simp only at eI
   try simp only at eJ
   subst eI;subst eJ;have hgI:=hF.out gI hFI;have hgJ:=hG.out gJ hGJ;have hws:=hB.size;have hgJr:gJ<wr.heap.size:=oQ;have hgIr:gI<wr.heap.size:=oQ;have a0:=(hB.cell (p:=⟨gI,oI+j*5,none⟩) hgI).trans b0;have a1:=(hB.cell (p:=⟨gI,oI+j*5+1,none⟩) hgI).trans b1;have a2:=(hB.cell (p:=⟨gI,oI+j*5+2,none⟩) hgI).trans b2;have a3:=(hB.cell (p:=⟨gI,oI+j*5+3,none⟩) hgI).trans b3;have a4:=(hB.cell (p:=⟨gI,oI+j*5+4,none⟩) hgI).trans b4;have f0:=(hB.cell (p:=⟨gJ,oJ+j*5,none⟩) hgJ).trans e0;have f1:=(hB.cell (p:=⟨gJ,oJ+j*5+1,none⟩) hgJ).trans e1;have f2:=(hB.cell (p:=⟨gJ,oJ+j*5+2,none⟩) hgJ).trans e2;have f3:=(hB.cell (p:=⟨gJ,oJ+j*5+3,none⟩) hgJ).trans e3;have f4:=(hB.cell (p:=⟨gJ,oJ+j*5+4,none⟩) hgJ).trans e4;clear b0 b1 b2 b3 b4 e0 e1 e2 e3 e4;have g0:(0:Int)≤(j:Int):=oQ;have g1:(j:Int)<q.items.length:=oQ;obtain⟨W2,hW2⟩:∃W2,W2=(wr.alloc (.cells ⟨itV it (.slice A5 it.tys.length c5)⟩ 53)).alloc (.cells ⟨itV it (.slice B5 it.tys.length d5)⟩ 53):=⟨_,rfl⟩
   have hB2:Bw wr W2:=by rw[hW2];exact(bA).alloc sJ _
   have h6:Blk W2 wr.heap.size 53 (itV it (.slice A5 it.tys.length c5)):=by rw[hW2];exact(Blk.new wr _ _).alloc _
   have h7:Blk W2 (wr.heap.size+1) 53 (itV it (.slice B5 it.tys.length d5)):=by rw[hW2];exact Blk.new' sJ
   have hQ2:=hQ.stay hB2;have i0:W2.cell? ⟨wr.heap.size,0,none⟩=some (.bool it.neg):=h6.cell 0;have i1:W2.cell? ⟨wr.heap.size,1,none⟩=some (.slice A5 it.tys.length c5):=h6.cell 1;have i2:W2.cell? ⟨wr.heap.size,2,none⟩=some (.string it.v):=h6.cell 2;have i3:W2.cell? ⟨wr.heap.size,3,none⟩=some (.int .i64 it.lo):=h6.cell 3;have i4:W2.cell? ⟨wr.heap.size,4,none⟩=some (.int .i64 it.hi):=h6.cell 4;have k0:W2.cell? ⟨wr.heap.size+1,0,none⟩=some (.bool it.neg):=h7.cell 0;have k1:W2.cell? ⟨wr.heap.size+1,1,none⟩=some (.slice B5 it.tys.length d5):=h7.cell 1;have k2:W2.cell? ⟨wr.heap.size+1,2,none⟩=some (.string it.v):=h7.cell 2;have k3:W2.cell? ⟨wr.heap.size+1,3,none⟩=some (.int .i64 it.lo):=h7.cell 3;have k4:W2.cell? ⟨wr.heap.size+1,4,none⟩=some (.int .i64 it.hi):=h7.cell 4;have kxx:=kx.out A5 B5 c5 d5 it.tys htl rx0 ry0 W2 hQ2.hb;simp only[itV]at hW2;have hWW2:=Hd hW2;replace kxx:=Hd kxx;replace hi:=Hd hi;replace him:=Hd him;replace rx0:=Hd rx0;replace ry0:=Hd ry0;replace hQ2:=Hd hQ2;replace hB:=Hd hB;replace hB2:=Hd hB2;replace h6:=Hd h6;replace h7:=Hd h7;clear hW2 hQ;go_upto_region 8 with fail
   rw[←hWW2.out];clear a0 a1 a2 a3 a4 f0 f1 f2 f3 f4 y0 z0;go_wp2_with (go_at_call 17;refine kxx.out.mono ?_;rintro e W3 ⟨rfl,nq,rfl⟩);go_roundw
   case rel=>exact⟨j+1,oQ,gQ,hQ2.out.stay (below_drewN bR _)⟩
   case measure=>exact mQ
  ·obtain rfl:j=q.items.length:=oQ;have hM0:=Hd hQ;clear hQ;go_wp2;clear y0 z0;go_loopw [8] (fun i wr=>∃k:Nat,k≤q.ret.length∧i=.int .i64 k∧SQ2 q ⟨A1,c1,A2,c2,A3,c3⟩ ⟨B1,d1,B2,d2,B3,d3⟩ w wr) (fun i _=>q.ret.length- (intOf i).toNat)
   case atStart=>exact⟨0,zE _,rfl,hM0.out⟩
   case round=>
    clear hM0;obtain⟨k,hk,rfl,hQ⟩:=hrel;have hBr:=hQ.hb;have hbr:=hBr.size;have y6:wr.cell? ⟨w.heap.size,6,none⟩=some (.slice A3 q.ret.length c3):=hQ.b1.cell 6;by_cases hlt3:k<q.ret.length
    ·obtain⟨t,ht⟩:=getx hlt3;have htm:=zA ht;obtain⟨gR,oR,A6,c6,eR,hFR,rt0,r0⟩:=kre.out k t ht;obtain⟨gS,oS,B6,d6,eS,hGS,rs0,s0⟩:=kre'.out k t ht;try simp only at eR
     try simp only at eS
     subst eR;subst eS;have hgR:=hF.out gR hFR;have hgS:=hG.out gS hGS;have p0:(0:Int)≤(k:Int):=oQ;have p1:(k:Int)<q.ret.length:=oQ;have ktt:=kt.out A6 B6 c6 d6 t (hres.out t htm).1 rt0 rs0 wr.drew hBr.drew;have kS:=fun W (hW:Bw wr W)=>xW ((hQ.stay hW).b1.cell 6) (xW ((hQ.stay hW).b2.cell 6) (xW ((hW.cell (p:=⟨gR,oR+k,none⟩) (by show gR<_;omega)).trans ((hBr.cell (p:=⟨gR,oR+k,none⟩) hgR).trans r0)) ((hW.cell (p:=⟨gS,oS+k,none⟩) (by show gS<_;omega)).trans ((hBr.cell (p:=⟨gS,oS+k,none⟩) hgS).trans s0))))
     have hSS:=xW (kS wr.drew (bR).drew) trivial;replace kS:=Hd kS;replace ktt:=Hd ktt;replace ht:=Hd ht;replace htm:=Hd htm;replace rt0:=Hd rt0;replace rs0:=Hd rs0;replace hQ:=Hd hQ;replace hBr:=Hd hBr;go_upto_region 13 with fail
     clear y6 r0 s0;refine G_region (p:=100) (S0:=fun W=>W.cell? ⟨w.heap.size,6,none⟩=some (.slice (some ⟨gR,oR,none⟩) q.ret.length c3)∧W.cell? ⟨w.heap.size+1,6,none⟩=some (.slice (some ⟨gS,oS,none⟩) q.ret.length d3)∧W.cell? ⟨gR,oR+k,none⟩=some (.slice A6 t.length c6)∧W.cell? ⟨gS,oS+k,none⟩=some (.slice B6 t.length d6)) (S1:=fun _=>True) kQ ?_;refine' TkA 0 rfl hSS ?_;refine' TkA 1 rfl hSS ?_;refine' TkA 2 rfl hSS ?_;refine' TkA 3 rfl hSS ?_;refine' TkA 4 rfl hSS ?_;refine' TkA 5 rfl hSS ?_;refine' TkA 6 rfl hSS ?_;refine' TkA 7 rfl hSS ?_;refine' TkA 8 rfl hSS ?_;refine' TkA 9 rfl hSS ?_;try simp only[Act.put,TkS]
     refine Gs 10 rfl fun K hK=>?_
     go_simp;go_at_call 24;refine ktt.out.mono ?_;rintro e W4 ⟨rfl,hBW4⟩;have hU4:=Hd ((zB wr.heap.size wr).drew.trans hBW4);refine hK.out _ _ ⟨kS.out W4 hU4.out,fun _=>trivial⟩ ?_;have hST:=xW (kS.out W4 hU4.out) trivial;clear hK K hSS hBW4;refine' TkA 11 rfl hST ?_;try simp only[Act.put,TkS]
     clear hST;refine Gd _ ?_;try simp only[Act.put,TkS]
     go_wp2;go_roundw
     case rel=>exact⟨k+1,oQ,gQ,hQ.out.stay hU4.out⟩
     case measure=>exact mQ
    ·obtain rfl:k=q.ret.length:=oQ;have y3:wr.cell? ⟨w.heap.size,3,none⟩=some (.slice A2 q.wh.length c2):=hQ.b1.cell 3;have z3:wr.cell? ⟨w.heap.size+1,3,none⟩=some (.slice B2 q.wh.length d2):=hQ.b2.cell 3;have kww:=Hd (kw.out wr hBr);replace hQ:=Hd hQ;replace hBr:=Hd hBr;go_wp2_with (go_at_call 24;refine kww.out.mono ?_;rintro e W9 ⟨rfl,hB9⟩);go_ret;exact⟨rfl,hBr.out.trans (hB9.mono hBr.out.size)⟩
end lawW
def ABl (w w':World)(e:Ending):Prop:=∃b:Bool,e=.returned (.bool b)∧Bw w w'
def DepL (L:List D):Prop:=∀x∈L,∃d:Int,x=.v (.int .i64 d)∧0≤d∧d≤65536
theorem DepL.snoc {L:List D}{d:Int}(h:DepL L)(h0:0≤d)(h1:d≤65536):DepL (L++[.v (.int .i64 d)]):=fun x hx=>by
 rcases zM.1 hx with hx |hx
 ·exact h x hx
 ·rw[xB]at hx;exact⟨d,hx,h0,h1⟩
namespace lawW
open nmW ckW
theorem beyond_k (A:Option Addr)(c:Nat)(F:Nat→Prop)(t:List Nd)(hl:t.length≤1048576)(w:World)(hF:∀b,F b→b<w.heap.size)(r:Rd w F (.slice A t.length c) (.sl t.length (t.flatMap ndD))):
  Calls Tryz.prog 20 #[.slice A t.length c] w fun e w'=>ABl w w' e:=by
 replace r:=Hd r;replace hF:=Hd hF;go_enter Tryz.func20,Tryz.ntmps20;go_wp2;go_loopw [3,4] (fun v x wr=>∃(j:Nat)(L:List D),j≤t.length∧x=.int .i64 j∧OL wr w.heap.size NoF 3 1 v j L∧DepL L∧Bw w wr) (fun _ x _=>t.length- (intOf x).toNat)
 case atStart=>exact⟨0,[],zE _,rfl,.nil _ _ _ _ _,fun x hx=>by simp at hx,bR⟩
 case round=>
  obtain⟨j,L,hj,rfl,hO,hD,hB⟩:=hrel;by_cases hlt:j<t.length
  ·obtain⟨⟨op,nn,vv,at_,a,b⟩,hx⟩:=getx hlt;obtain⟨gN,oN,rfl,hFN,n0,n1,n2,n3,n4,n5⟩:=nd_at r.out hx;have hgN:=hF.out gN hFN;have a4:=(hB.cell (p:=⟨gN,oN+j*6+4,none⟩) hgN).trans n4;have a5:=(hB.cell (p:=⟨gN,oN+j*6+5,none⟩) hgN).trans n5;simp only at a4 a5;clear n0 n1 n2 n3 n4 n5;have g0:(0:Int)≤(j:Int):=oQ;have g1:(j:Int)<t.length:=oQ;obtain⟨Ao,co,rfl⟩:=hO.form;have hll:=hO.len;have get:∀m:Nat,m<j→∃(g:Nat)(d:Int),Ao=some ⟨g,0,none⟩∧wr.cell? ⟨g,m,none⟩=some (.int .i64 d)∧0≤d∧d≤65536:=fun m hm=>by
    obtain⟨g,cap,e,_,_,_,hc⟩:=hO.row oQ;injection e with e _ _
    obtain⟨x,hxm⟩:=getx (l:=L) (i:=m) oQ;obtain⟨d,rfl,h0,h1⟩:=hD x (zA hxm);obtain⟨u,hu,hr⟩:=hc m _ hxm;rw[hr.v_inv]at hu;exact⟨g,d,e,hu,h0,h1⟩
   have hsz:=hB.size;have hOc:=Hd hO;replace hD:=Hd hD;replace hB:=Hd hB;clear hx hO;have hA:(a<0)∨(0≤a∧(j:Int)≤a)∨∃m:Nat,a=m∧m<j:=by
    by_cases h:a<0
    ·exact .inl h
    ·by_cases h2:(j:Int)≤a
     ·exact .inr (.inl ⟨oQ,h2⟩)
     ·exact .inr (.inr ⟨a.toNat,oQ,oQ⟩)
   have hBc:(b<0)∨(0≤b∧(j:Int)≤b)∨∃m:Nat,b=m∧m<j:=by
    by_cases h:b<0
    ·exact .inl h
    ·by_cases h2:(j:Int)≤b
     ·exact .inr (.inl ⟨oQ,h2⟩)
     ·exact .inr (.inr ⟨b.toNat,oQ,oQ⟩)
   obtain⟨g,hg⟩:∃g,0<j→Ao=some ⟨g,0,none⟩:=by
    by_cases h:0<j
    ·obtain⟨g,_,e,_⟩:=get 0 h;exact⟨g,fun _=>e⟩
    ·exact⟨0,fun h2=>absurd h2 h⟩
   replace get:∀m:Nat,m<j→∃d:Int,wr.cell? ⟨g,m,none⟩=some (.int .i64 d)∧0≤d∧d≤65536:=fun m hm=>by
    obtain⟨g2,d,e,h⟩:=get m hm;rw[hg oQ]at e;injection e with e
    injection e with e
    subst e;exact⟨d,h⟩
   rcases hA with ha |⟨ha,ha2⟩|⟨ma,rfl,hma⟩
   ·have e1:¬(0≤a):=oQ;rcases hBc with hb |⟨hb,hb2⟩|⟨mb,rfl,hmb⟩
    ·have f1:¬(0≤b):=oQ;go_wp2_with (at_builtin;refine wpa rfl (.tmp 72) (.tmp 75) _ rfl (m:=1) (news:=[D.v (.int .i64 (1))]) elInt (hOc.out.alloc _) rfl rfl (Src.lit (show RdL wr _ [.int .i64 (1)] [D.v (.int .i64 (1))]from⟨.v _ rfl,trivial⟩)) rfl oQ oQ (by simp;omega) ?_;intro v' w1 hO1 hg1 ha1;have hB1:=Hd ((hB.out.alloc hB.out.size _).grown hg1 (by simp;omega) (fun q hq=>(hOc.out.lt q hq).1)));go_roundw
     case rel=>exact⟨j+1,_,oQ,gQ,hO1,hD.out.snoc oQ oQ,hB1.out⟩
     case measure=>exact mQ
    ·have f1:¬(b<(j:Int)):=oQ;go_wp2_with (at_builtin;refine wpa rfl (.tmp 72) (.tmp 75) _ rfl (m:=1) (news:=[D.v (.int .i64 (1))]) elInt (hOc.out.alloc _) rfl rfl (Src.lit (show RdL wr _ [.int .i64 (1)] [D.v (.int .i64 (1))]from⟨.v _ rfl,trivial⟩)) rfl oQ oQ (by simp;omega) ?_;intro v' w1 hO1 hg1 ha1;have hB1:=Hd ((hB.out.alloc hB.out.size _).grown hg1 (by simp;omega) (fun q hq=>(hOc.out.lt q hq).1)));go_roundw
     case rel=>exact⟨j+1,_,oQ,gQ,hO1,hD.out.snoc oQ oQ,hB1.out⟩
     case measure=>exact mQ
    ·obtain⟨db,cb,db0,db1⟩:=get mb hmb;have eB:=hg oQ;try subst eB
     have k0:(0:Int)≤(mb:Int):=oQ;have k1:(mb:Int)<(j:Int):=oQ;by_cases hgt:0<db
     ·have hgt2:db>0:=hgt;by_cases hE:65536≤db
      ·have hE2:db≥65536:=hE;go_wp2;go_ret;exact⟨_,rfl,hB.out⟩
      ·have hE2:¬db≥65536:=hE;have nw:IntKind.i64.wrap (db+1)=db+1:=by rw[xI];omega
       go_wp2_with (at_builtin;refine wpa rfl (.tmp 72) (.tmp 75) _ rfl (m:=1) (news:=[D.v (.int .i64 (db+1))]) elInt (hOc.out.alloc _) rfl rfl (Src.lit (show RdL wr _ [.int .i64 (db+1)] [D.v (.int .i64 (db+1))]from⟨.v _ rfl,trivial⟩)) rfl oQ oQ (by simp;omega) ?_;intro v' w1 hO1 hg1 ha1;have hB1:=Hd ((hB.out.alloc hB.out.size _).grown hg1 (by simp;omega) (fun q hq=>(hOc.out.lt q hq).1)));go_roundw
       case rel=>exact⟨j+1,_,oQ,gQ,hO1,hD.out.snoc oQ oQ,hB1.out⟩
       case measure=>exact mQ
     ·have hgt2:¬db>0:=hgt;go_wp2_with (at_builtin;refine wpa rfl (.tmp 72) (.tmp 75) _ rfl (m:=1) (news:=[D.v (.int .i64 (1))]) elInt (hOc.out.alloc _) rfl rfl (Src.lit (show RdL wr _ [.int .i64 (1)] [D.v (.int .i64 (1))]from⟨.v _ rfl,trivial⟩)) rfl oQ oQ (by simp;omega) ?_;intro v' w1 hO1 hg1 ha1;have hB1:=Hd ((hB.out.alloc hB.out.size _).grown hg1 (by simp;omega) (fun q hq=>(hOc.out.lt q hq).1)));go_roundw
      case rel=>exact⟨j+1,_,oQ,gQ,hO1,hD.out.snoc oQ oQ,hB1.out⟩
      case measure=>exact mQ
   ·have e1:¬(a<(j:Int)):=oQ;rcases hBc with hb |⟨hb,hb2⟩|⟨mb,rfl,hmb⟩
    ·have f1:¬(0≤b):=oQ;go_wp2_with (at_builtin;refine wpa rfl (.tmp 72) (.tmp 75) _ rfl (m:=1) (news:=[D.v (.int .i64 (1))]) elInt (hOc.out.alloc _) rfl rfl (Src.lit (show RdL wr _ [.int .i64 (1)] [D.v (.int .i64 (1))]from⟨.v _ rfl,trivial⟩)) rfl oQ oQ (by simp;omega) ?_;intro v' w1 hO1 hg1 ha1;have hB1:=Hd ((hB.out.alloc hB.out.size _).grown hg1 (by simp;omega) (fun q hq=>(hOc.out.lt q hq).1)));go_roundw
     case rel=>exact⟨j+1,_,oQ,gQ,hO1,hD.out.snoc oQ oQ,hB1.out⟩
     case measure=>exact mQ
    ·have f1:¬(b<(j:Int)):=oQ;go_wp2_with (at_builtin;refine wpa rfl (.tmp 72) (.tmp 75) _ rfl (m:=1) (news:=[D.v (.int .i64 (1))]) elInt (hOc.out.alloc _) rfl rfl (Src.lit (show RdL wr _ [.int .i64 (1)] [D.v (.int .i64 (1))]from⟨.v _ rfl,trivial⟩)) rfl oQ oQ (by simp;omega) ?_;intro v' w1 hO1 hg1 ha1;have hB1:=Hd ((hB.out.alloc hB.out.size _).grown hg1 (by simp;omega) (fun q hq=>(hOc.out.lt q hq).1)));go_roundw
     case rel=>exact⟨j+1,_,oQ,gQ,hO1,hD.out.snoc oQ oQ,hB1.out⟩
     case measure=>exact mQ
    ·obtain⟨db,cb,db0,db1⟩:=get mb hmb;have eB:=hg oQ;try subst eB
     have k0:(0:Int)≤(mb:Int):=oQ;have k1:(mb:Int)<(j:Int):=oQ;by_cases hgt:0<db
     ·have hgt2:db>0:=hgt;by_cases hE:65536≤db
      ·have hE2:db≥65536:=hE;go_wp2;go_ret;exact⟨_,rfl,hB.out⟩
      ·have hE2:¬db≥65536:=hE;have nw:IntKind.i64.wrap (db+1)=db+1:=by rw[xI];omega
       go_wp2_with (at_builtin;refine wpa rfl (.tmp 72) (.tmp 75) _ rfl (m:=1) (news:=[D.v (.int .i64 (db+1))]) elInt (hOc.out.alloc _) rfl rfl (Src.lit (show RdL wr _ [.int .i64 (db+1)] [D.v (.int .i64 (db+1))]from⟨.v _ rfl,trivial⟩)) rfl oQ oQ (by simp;omega) ?_;intro v' w1 hO1 hg1 ha1;have hB1:=Hd ((hB.out.alloc hB.out.size _).grown hg1 (by simp;omega) (fun q hq=>(hOc.out.lt q hq).1)));go_roundw
       case rel=>exact⟨j+1,_,oQ,gQ,hO1,hD.out.snoc oQ oQ,hB1.out⟩
       case measure=>exact mQ
     ·have hgt2:¬db>0:=hgt;go_wp2_with (at_builtin;refine wpa rfl (.tmp 72) (.tmp 75) _ rfl (m:=1) (news:=[D.v (.int .i64 (1))]) elInt (hOc.out.alloc _) rfl rfl (Src.lit (show RdL wr _ [.int .i64 (1)] [D.v (.int .i64 (1))]from⟨.v _ rfl,trivial⟩)) rfl oQ oQ (by simp;omega) ?_;intro v' w1 hO1 hg1 ha1;have hB1:=Hd ((hB.out.alloc hB.out.size _).grown hg1 (by simp;omega) (fun q hq=>(hOc.out.lt q hq).1)));go_roundw
      case rel=>exact⟨j+1,_,oQ,gQ,hO1,hD.out.snoc oQ oQ,hB1.out⟩
      case measure=>exact mQ
   ·obtain⟨da,ca,da0,da1⟩:=get ma hma;have eA:=hg oQ;subst eA;have i0:(0:Int)≤(ma:Int):=oQ;have i1:(ma:Int)<(j:Int):=oQ;rcases hBc with hb |⟨hb,hb2⟩|⟨mb,rfl,hmb⟩
    ·have f1:¬(0≤b):=oQ;by_cases hE:65536≤da
     ·have hE2:da≥65536:=hE;go_wp2;go_ret;exact⟨_,rfl,hB.out⟩
     ·have hE2:¬da≥65536:=hE;have nw:IntKind.i64.wrap (da+1)=da+1:=by rw[xI];omega
      go_wp2_with (at_builtin;refine wpa rfl (.tmp 72) (.tmp 75) _ rfl (m:=1) (news:=[D.v (.int .i64 (da+1))]) elInt (hOc.out.alloc _) rfl rfl (Src.lit (show RdL wr _ [.int .i64 (da+1)] [D.v (.int .i64 (da+1))]from⟨.v _ rfl,trivial⟩)) rfl oQ oQ (by simp;omega) ?_;intro v' w1 hO1 hg1 ha1;have hB1:=Hd ((hB.out.alloc hB.out.size _).grown hg1 (by simp;omega) (fun q hq=>(hOc.out.lt q hq).1)));go_roundw
      case rel=>exact⟨j+1,_,oQ,gQ,hO1,hD.out.snoc oQ oQ,hB1.out⟩
      case measure=>exact mQ
    ·have f1:¬(b<(j:Int)):=oQ;by_cases hE:65536≤da
     ·have hE2:da≥65536:=hE;go_wp2;go_ret;exact⟨_,rfl,hB.out⟩
     ·have hE2:¬da≥65536:=hE;have nw:IntKind.i64.wrap (da+1)=da+1:=by rw[xI];omega
      go_wp2_with (at_builtin;refine wpa rfl (.tmp 72) (.tmp 75) _ rfl (m:=1) (news:=[D.v (.int .i64 (da+1))]) elInt (hOc.out.alloc _) rfl rfl (Src.lit (show RdL wr _ [.int .i64 (da+1)] [D.v (.int .i64 (da+1))]from⟨.v _ rfl,trivial⟩)) rfl oQ oQ (by simp;omega) ?_;intro v' w1 hO1 hg1 ha1;have hB1:=Hd ((hB.out.alloc hB.out.size _).grown hg1 (by simp;omega) (fun q hq=>(hOc.out.lt q hq).1)));go_roundw
      case rel=>exact⟨j+1,_,oQ,gQ,hO1,hD.out.snoc oQ oQ,hB1.out⟩
      case measure=>exact mQ
    ·obtain⟨db,cb,db0,db1⟩:=get mb hmb;have eB:=hg oQ;try subst eB
     have k0:(0:Int)≤(mb:Int):=oQ;have k1:(mb:Int)<(j:Int):=oQ;by_cases hgt:da<db
     ·have hgt2:db>da:=hgt;by_cases hE:65536≤db
      ·have hE2:db≥65536:=hE;go_wp2;go_ret;exact⟨_,rfl,hB.out⟩
      ·have hE2:¬db≥65536:=hE;have nw:IntKind.i64.wrap (db+1)=db+1:=by rw[xI];omega
       go_wp2_with (at_builtin;refine wpa rfl (.tmp 72) (.tmp 75) _ rfl (m:=1) (news:=[D.v (.int .i64 (db+1))]) elInt (hOc.out.alloc _) rfl rfl (Src.lit (show RdL wr _ [.int .i64 (db+1)] [D.v (.int .i64 (db+1))]from⟨.v _ rfl,trivial⟩)) rfl oQ oQ (by simp;omega) ?_;intro v' w1 hO1 hg1 ha1;have hB1:=Hd ((hB.out.alloc hB.out.size _).grown hg1 (by simp;omega) (fun q hq=>(hOc.out.lt q hq).1)));go_roundw
       case rel=>exact⟨j+1,_,oQ,gQ,hO1,hD.out.snoc oQ oQ,hB1.out⟩
       case measure=>exact mQ
     ·have hgt2:¬db>da:=hgt;by_cases hE:65536≤da
      ·have hE2:da≥65536:=hE;go_wp2;go_ret;exact⟨_,rfl,hB.out⟩
      ·have hE2:¬da≥65536:=hE;have nw:IntKind.i64.wrap (da+1)=da+1:=by rw[xI];omega
       go_wp2_with (at_builtin;refine wpa rfl (.tmp 72) (.tmp 75) _ rfl (m:=1) (news:=[D.v (.int .i64 (da+1))]) elInt (hOc.out.alloc _) rfl rfl (Src.lit (show RdL wr _ [.int .i64 (da+1)] [D.v (.int .i64 (da+1))]from⟨.v _ rfl,trivial⟩)) rfl oQ oQ (by simp;omega) ?_;intro v' w1 hO1 hg1 ha1;have hB1:=Hd ((hB.out.alloc hB.out.size _).grown hg1 (by simp;omega) (fun q hq=>(hOc.out.lt q hq).1)));go_roundw
       case rel=>exact⟨j+1,_,oQ,gQ,hO1,hD.out.snoc oQ oQ,hB1.out⟩
       case measure=>exact mQ
  ·obtain rfl:j=t.length:=oQ;replace hO:=Hd hO;replace hB:=Hd hB;replace hD:=Hd hD;go_wp2;go_ret;exact⟨_,rfl,hB.out⟩
theorem queryBeyond_k (F:Nat→Prop)(q:Qy)(s:Sl3)(hs:SzQ q)(w:World)(R:QR w F q s):
  Calls Tryz.prog 7 #[.agg ⟨qV q s⟩] w fun e w'=>ABl w w' e:=by
 have h0:=QB.new q s w;have hF:=R.lt;have kre:=fun(i:Nat) t (hi:q.ret[i]? =some t)=>re_at R.r3 hi
 have kb:=fun(A:Option Addr)(c:Nat) t (hl:t.length≤1048576)(r1:Rd w F (.slice A t.length c) (.sl t.length (t.flatMap ndD))) W (hW:Bw w W)=>beyond_k A c F t hl W (fun b h=>zF (hF b h) hW.size) (r1.under hW hF)
 have kw:=kb s.a2 s.c2 q.wh hs.wh.1 R.r2 _ h0.1;have hrl:=hs.rl;have hres:=hs.re;obtain⟨A1,c1,A2,c2,A3,c3⟩:=s;try simp only at kre kw
 simp only[qV]at h0 kw ⊢;replace h0:=Hd h0;replace hF:=Hd hF;replace kre:=Hd kre;replace kb:=Hd kb;replace kw:=Hd kw;replace hres:=Hd hres;clear R hs;go_enter Tryz.func7,Tryz.ntmps7;go_upto_region 2 with(go_at_call 20;refine kw.out.mono ?_;rintro e W1 ⟨b1,rfl,hB1⟩)
 have hQ1:=Hd (h0.out.stay hB1);clear hB1 kw h0;go_wp2;go_loopw [3,4] (fun v i wr=>∃(k:Nat)(b:Bool),k≤q.ret.length∧i=.int .i64 k∧v=.bool b∧QB q ⟨A1,c1,A2,c2,A3,c3⟩ w wr) (fun _ i _=>q.ret.length- (intOf i).toNat)
 case atStart=>exact⟨0,_,zE _,rfl,rfl,hQ1.out⟩
 case round=>
  clear hQ1;obtain⟨k,b,hk,rfl,rfl,hQ⟩:=hrel;have hBr:=hQ.1;have hbr:=hBr.size;have y6:wr.cell? ⟨w.heap.size,6,none⟩=some (.slice A3 q.ret.length c3):=hQ.2.cell 6;by_cases hlt3:k<q.ret.length
  ·obtain⟨t,ht⟩:=getx hlt3;have htm:=zA ht;obtain⟨gR,oR,A6,c6,eR,hFR,rt0,r0⟩:=kre.out k t ht;try simp only at eR
   subst eR;have hgR:=hF.out gR hFR;have r1:=(hBr.cell (p:=⟨gR,oR+k,none⟩) hgR).trans r0;have p0:(0:Int)≤(k:Int):=oQ;have p1:(k:Int)<q.ret.length:=oQ;have ktt:=Hd (kb.out A6 c6 t (hres.out t htm).1 rt0 wr hBr);replace ht:=Hd ht;replace htm:=Hd htm;replace rt0:=Hd rt0;replace hQ:=Hd hQ;replace hBr:=Hd hBr;clear r0;go_upto_region 6 with(go_at_call 20;refine ktt.out.mono ?_;rintro e W8 ⟨b8,rfl,hB8⟩)
   have hQ8:=Hd (hQ.out.stay hB8);clear hB8 y6 r1;cases b with
   |true=>
    go_wp2;go_roundw
    case rel=>exact⟨k+1,_,oQ,gQ,rfl,hQ8.out⟩
    case measure=>exact mQ
   |false=>
    go_wp2;go_roundw
    case rel=>exact⟨k+1,_,oQ,gQ,rfl,hQ8.out⟩
    case measure=>exact mQ
  ·obtain rfl:k=q.ret.length:=oQ;replace hQ:=Hd hQ;replace hBr:=Hd hBr;go_wp2;go_ret;exact⟨_,rfl,hBr.out⟩
end lawW
structure LT (S:List Td)(q:Qy)(w:World)(A:Option Addr)(ca:Nat)(s:Sl3)(g5 g6:Nat)(A1:Option Addr)(c1:Nat)(s2:Sl3)(W:World):Prop where
 sq:SQ S A ca q s w W
 b5:Blk W g5 24 [.slice A1 S.length c1]
 b6:Blk W g6 31 (qV q s2)
 r5:Rd W (fun b=>b<W.heap.size) (.slice A1 S.length c1) (.sl S.length (S.flatMap tdD))
 r6:QR W (fun b=>b<W.heap.size) q s2
theorem LT.stay {S:List Td}{q:Qy}{w W W':World}{A:Option Addr}{ca:Nat}{s:Sl3}{g5 g6:Nat}{A1:Option Addr}{c1:Nat}{s2:Sl3}(h:LT S q w A ca s g5 g6 A1 c1 s2 W)(hb:Bw W W'):LT S q w A ca s g5 g6 A1 c1 s2 W':=
 ⟨h.sq.stay hb,h.b5.stay hb,h.b6.stay hb,(h.r5.under hb (fun b h=>h)).mono (fun b h _=>zF h hb.size),(h.r6.under hb).mono (fun b h _=>zF h hb.size) (fun b h=>h)⟩
namespace lawW
open nmW ckW
theorem lawT_k (A:Option Addr)(ca:Nat)(F:Nat→Prop)(S:List Td)(q:Qy)(s:Sl3)(hS:SzT S)(hs:SzQ q)(hSB:SzB q)(hmw:SzM q.wh)(hmr:∀t∈q.ret,SzM t)(w:World)(hT:XT w)(hR:RT w)(hM:MT w)
  (r:Rd w F (.slice A S.length ca) (.sl S.length (S.flatMap tdD)))(R:QR w F q s):
  Calls Tryz.prog 3 #[.agg #[.slice A S.length ca],.agg ⟨qV q s⟩] w fun e w'=>e=.returned (.bool true)∧Bw w w':=by
 obtain⟨W0,hW0⟩:∃W0,W0=((w.alloc (.cells ⟨[.slice A S.length ca]⟩ 24)).alloc (.cells ⟨qV q s⟩ 31)):=⟨_,rfl⟩
 have h0:SQ S A ca q s w W0:=by rw[hW0];exact SQ.new S A ca q s w
 have hF:=R.lt;have k1:=queryBeyond_k F q s hs W0 (R.under h0.hb);have k2:=fun W (hW:Bw w W)=>evW.twinSchema_k A ca F S hS W (fun b h=>zF (hF b h) hW.size) (r.under hW hF)
 have k4:=fun W (hW:Bw w W)=>twinQuery_k F q s hs W (R.under hW)
 have k5:=fun W (hW:Bw w W)=>shW.explain_k A ca F S q s hS hs hmw hmr W (hT.stay hW) (hM.stay hW) (R.under hW) (r.under hW hF)
 have k6:=fun(g5 g6:Nat)(A':Option Addr)(c':Nat)(s':Sl3)(W:World)(h:LT S q w A ca s g5 g6 A' c' s' W)=>shR.rexplain_k A' c' (fun b=>b<W.heap.size) S q s' hS hs hSB hmw hmr W (hT.stay h.sq.hb) (hR.stay h.sq.hb) h.r6 h.r5
 have k7:=fun(g5 g6:Nat)(A':Option Addr)(c':Nat)(s':Sl3)(W:World)(h:LT S q w A ca s g5 g6 A' c' s' W)=>evW.sameSchema_k A A' ca c' F (fun b=>b<W.heap.size) S hS.1 (fun t ht=>(hS.2 t ht).2.1) W (R.under h.sq.hb).lt (fun b h=>h) (r.under h.sq.hb hF) h.r5
 have k8:=fun(g5 g6:Nat)(A':Option Addr)(c':Nat)(s':Sl3)(W:World)(h:LT S q w A ca s g5 g6 A' c' s' W)=>sameQuery_k F (fun b=>b<W.heap.size) q s s' hs W (R.under h.sq.hb) h.r6
 have hz1:∀(W1:World),Bw W0 W1→SQ S A ca q s w W1:=fun W1 h=>h0.stay h
 obtain⟨y0,y1,y2,y3,y4,y5,y6⟩:=qbc h0.b1;have x0:=h0.b0.cell 0;obtain⟨a1,ac1,a2,ac2,a3,ac3⟩:=s;simp only[qV,zY]at hW0 x0 y0 y1 y2 y3 y4 y5 y6 k1 k4 k5 k6 k8 ⊢;have hWW:=Hd hW0;replace h0:=Hd h0;replace k1:=Hd k1;replace k2:=Hd k2;replace k4:=Hd k4;replace k5:=Hd k5;replace k6:=Hd k6;replace k7:=Hd k7;replace k8:=Hd k8;replace hz1:=Hd hz1;clear hSB r R hF hW0 hS hs hmw hmr hT hR hM;go_enter Tryz.func3,Tryz.ntmps3;go_upto_region 1 with fail
 rw[←hWW.out];go_upto_region 3 with(go_at_call 7;refine k1.out.mono ?_;rintro e W1 ⟨b,rfl,hB1⟩)
 ·go_ret;exact⟨rfl,(hz1.out W1 hB1).hb⟩
 clear x0 y0 y1 y2 y3 y4 y5 y6;have hS1:=Hd (hz1.out W1 hB1);clear hB1 k1 h0 hz1 hWW;obtain⟨y0,y1,y2,y3,y4,y5,y6⟩:=qbc hS1.out.b1;have x0:=hS1.out.b0.cell 0;simp only[zY]at x0 y0 y1 y2 y3 y4 y5 y6;go_upto_region 4 with(go_at_call 8;refine(k2.out _ hS1.out.hb).mono ?_;rintro e W2 ⟨v1,rfl,hO1,hB2⟩;obtain⟨A1,c1,rfl⟩:=hO1.form)
 clear x0 y0 y1 y2 y3 y4 y5 y6;obtain⟨W2a,hW2a⟩:∃W',W'=W2.alloc (.cells ⟨[.slice A1 S.length c1]⟩ 24):=⟨_,rfl⟩
 rw[←hW2a];have hS2:=Hd (hS1.out.stay (show Bw W1 W2a by rw[hW2a];exact hB2.alloc hB2.size _));have m7:Blk W2a W2.heap.size 24 [.slice A1 S.length c1]:=by rw[hW2a];exact Blk.new _ _ _
 have p2:Rd W2a (fun b=>b<W2a.heap.size) (.slice A1 S.length c1) (.sl S.length (S.flatMap tdD)):=by
  rw[hW2a];exact((hO1.rd (G:=fun b=>b<W2.heap.size) (fun b _ h=>h) (fun b _ h=>h)).alloc _).mono fun b h _=>by simp;omega
 obtain⟨g5,hg5⟩:∃g,g=W2.heap.size:=⟨_,rfl⟩
 rw[←hg5]at m7 ⊢;replace m7:=Hd m7;replace p2:=Hd p2;clear hW2a hO1 hB2 hS1 k2 hg5;obtain⟨y0,y1,y2,y3,y4,y5,y6⟩:=qbc hS2.out.b1;have x0:=hS2.out.b0.cell 0;simp only[zY]at x0 y0 y1 y2 y3 y4 y5 y6;go_upto_region 5 with(go_at_call 9;refine(k4.out _ hS2.out.hb).mono ?_;rintro e W4 ⟨t1,t2,t3,lt,rt,rfl,hOt,hlt,hrt,hB4⟩;obtain⟨s2,es2,R2⟩:=hOt.part hlt hrt bR (P:=fun b=>b<W4.heap.size) (fun b _ h=>h) (fun b h=>h);obtain⟨b1,bc1,b2,bc2,b3,bc3⟩:=s2;simp only[es2,qV])
 clear x0 y0 y1 y2 y3 y4 y5 y6;obtain⟨W4a,hW4a⟩:∃W',W'=W4.alloc (.cells ⟨[.slice b1 q.items.length bc1,.int .i64 q.mode,.int .i64 q.after,.slice b2 q.wh.length bc2,.int .i64 q.within,.string q.by_,.slice b3 q.ret.length bc3]⟩ 31):=⟨_,rfl⟩
 rw[←hW4a];have hB4a:Bw W2a W4a:=by rw[hW4a];exact hB4.alloc hB4.size _
 have hB4b:Bw W4 W4a:=by rw[hW4a];exact bA
 have hL4:LT S q w A ca ⟨a1,ac1,a2,ac2,a3,ac3⟩ g5 W4.heap.size A1 c1 ⟨b1,bc1,b2,bc2,b3,bc3⟩ W4a:=
  ⟨hS2.out.stay hB4a,m7.out.stay hB4a,by rw[hW4a];exact Blk.new _ _ _,(p2.out.under hB4a (fun b h=>h)).mono (fun b h _=>zF h hB4a.size),(R2.under hB4b).mono (fun b h _=>zF h hB4b.size) (fun b h=>h)⟩
 obtain⟨g6,hg6⟩:∃g,g=W4.heap.size:=⟨_,rfl⟩
 rw[←hg6]at hL4 ⊢;have k9:=Hd (k6.out g5 g6 A1 c1 _ W4a hL4);obtain⟨y0,y1,y2,y3,y4,y5,y6⟩:=qbc hL4.b6;have x0:=hL4.b5.cell 0;simp only[zY]at x0 y0 y1 y2 y3 y4 y5 y6;replace hL4:=Hd hL4;clear hW4a hOt hlt hrt hB4 hB4a hB4b es2 R2 hS2 m7 p2 k4 lt rt hg6 k6;go_upto_region 6 with(go_at_call 10;refine k9.out.mono ?_;rintro e W5 ⟨rfl,hB5⟩)
 clear x0 y0 y1 y2 y3 y4 y5 y6;have hL5:=hL4.out.stay hB5;have k10:=Hd (k5.out W5 hL5.sq.hb);obtain⟨y0,y1,y2,y3,y4,y5,y6⟩:=qbc hL5.sq.b1;have x0:=hL5.sq.b0.cell 0;simp only[zY]at x0 y0 y1 y2 y3 y4 y5 y6;replace hL5:=Hd hL5;clear hB5 hL4 k9 k5;go_upto_region 7 with(go_at_call 11;refine k10.out.mono ?_;rintro e W6 ⟨rfl,hB6⟩)
 clear x0 y0 y1 y2 y3 y4 y5 y6;have hL6:=hL5.out.stay hB6;have k11:=Hd (k7.out g5 g6 A1 c1 _ W6 hL6);have x0:=hL6.sq.b0.cell 0;have z0:=hL6.b5.cell 0;simp only[zY]at x0 z0;have k12:=fun W (hB:Bw W6 W)=>k8.out g5 g6 A1 c1 _ W (hL6.stay hB)
 simp only at k12;replace k12:=Hd k12;have cc:=fun W (hB:Bw W6 W)=>xW (qbc (hL6.stay hB).sq.b1) (qbc (hL6.stay hB).b6)
 replace cc:=Hd cc;have e1:(linC S q==linC S q)=true:=beqT rfl;have e2:((txC S q).toList==(txC S q).toList)=true:=by rw[bqb];simp
 replace hL6:=Hd hL6;clear hB6 hL5 k10 k7 k8;generalize linC S q=ec at*;generalize txC S q=et at*;go_wp2_with (first
  |(go_at_call 12;refine k11.out.mono ?_;rintro e W7 ⟨rfl,hB7⟩;have k13:=Hd (k12.out W7 hB7);obtain⟨⟨y0,y1,y2,y3,y4,y5,y6⟩,z0,z1,z2,z3,z4,z5,z6⟩:=cc.out W7 hB7;simp only at y0 y3 y6 z0 z3 z6;replace hB7:=Hd hB7)
  |(go_at_call 13;refine k13.out.mono ?_;rintro e W8 ⟨rfl,hB8⟩))
 go_ret;exact⟨rfl,hL6.out.sq.hb.trans ((hB7.out.and1 nR hB8).mono hL6.out.sq.hb.size)⟩
end lawW
end Go.Proofs.YthaabihjeomipaaGreatDoor
