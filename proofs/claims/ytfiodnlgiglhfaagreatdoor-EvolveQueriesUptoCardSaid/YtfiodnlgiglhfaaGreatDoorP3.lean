/- The first loss that concerns the query. -/
import Derived.Test.YtfiodnlgiglhfaaGreatDoorK7
namespace Go.Proofs.YtfiodnlgiglhfaaGreatDoor
set_option maxRecDepth 100000
set_option maxHeartbeats 16000000
open Go.RowKit Go.Deep
set_option linter.unusedVariables false
set_option linter.unusedSimpArgs false
def hitB (S:List Td)(q:Qy)(x:Ls)(it:It):Bool:=it.tys.any (fun m=>decide (m=tyNm S x.ty))&&(decide (x.at_= -2)||ndsA q it.v (atNm S x.ty x.at_))
theorem conc_hit {S:List Td}{q:Qy}{x:Ls}(h0:0≤x.ty)(h1:x.at_≠ -1):concB S q x=q.items.any (hitB S q x):=by
 unfold concB;rw[zW h0,zW h1,xE,xE];rfl
theorem conc_no0 {S:List Td}{q:Qy}{x:Ls}(h0:x.ty<0):concB S q x=false:=by unfold concB;rw[zV (by omega)];rfl
theorem conc_no1 {S:List Td}{q:Qy}{x:Ls}(h1:x.at_= -1):concB S q x=false:=by unfold concB;simp[h1]
theorem lost_at {S:List Td}{q:Qy}{nl:List Ls}{j:Nat}{x:Ls}(hx:nl[j]? =some x)(hc:concB S q x=true)(hp:∀(i:Nat) y,nl[i]? =some y→i<j→concB S q y=false):lostO S q nl=some x.by_:=by
 unfold lostO;obtain⟨y,hy,_,hf⟩:=fi_get (fi_at hx hc hp);rw[hx]at hy;injection hy with hy;subst hy
 rw[hf];rfl
theorem lost_no {S:List Td}{q:Qy}{nl:List Ls}(hp:∀(i:Nat) y,nl[i]? =some y→i<nl.length→concB S q y=false):lostO S q nl=none:=by
 unfold lostO;rw[fi_no (fi_none hp)];rfl
structure LX (w0 w:World)(B gt g:Nat)(F:Nat→Prop)(A:Option Addr)(c:Nat)(S:List Td)(T:List Kd)(nl:List Ls)(q:Qy)(s:Sl3)(gl gd:Nat)(x:Ls)(t:Td)(At:Option Addr)(ct:Nat):Prop where
 tx:TX w B gt g F A c S T nl q s
 hb:Bw w0 w
 bl:Blk w gl 104 (lsV x.ty x.at_ x.by_)
 bd:Blk w gd 47 [.string t.name,.slice At t.attrs.length ct]
 ra:Rd w F (.slice At t.attrs.length ct) (.sl t.attrs.length (t.attrs.flatMap strD))
theorem LX.stay {w0 w W:World}{B gt g:Nat}{F:Nat→Prop}{A:Option Addr}{c:Nat}{S:List Td}{T:List Kd}{nl:List Ls}{q:Qy}{s:Sl3}{gl gd:Nat}{x:Ls}{t:Td}{At:Option Addr}{ct:Nat}(h:LX w0 w B gt g F A c S T nl q s gl gd x t At ct)(hb:Bw w W):LX w0 W B gt g F A c S T nl q s gl gd x t At ct:=
 ⟨h.tx.stay hb,h.hb.trans (hb.mono h.hb.size),h.bl.stay hb,h.bd.stay hb,h.ra.under hb h.tx.qr.lt⟩
def LPost (o:Option Int)(w:World)(e:Ending)(w':World):Prop:=e=.returned (.tuple #[.int .i64 (o.getD 0),.bool o.isSome])∧Bw w w'
namespace evW
open nmW
theorem lost_k {w:World}{B gt g:Nat}{F:Nat→Prop}{A:Option Addr}{c:Nat}{S:List Td}{T:List Kd}{nl:List Ls}{q:Qy}{s:Sl3}(h:TX w B gt g F A c S T nl q s)(hs:SzQ q)(hS:SzT S)(hnl:nl.length≤1048576)
  (hls:∀x∈nl,∀a:Nat,x.ty=a→∃t,S[a]? =some t∧(∀b:Nat,x.at_=b→b<t.attrs.length))(hge:∀x∈nl,-2≤x.at_):
  Calls Tryz.prog 19 #[.pointer (some ⟨gt,0,none⟩)] w (LPost (lostO S q nl) w):=by
 have hTX:=h;obtain⟨x0,x1,x2,x3,x4,x5,x6,x7,x8⟩:=h.cells;have hgt:=h.bt.lt;obtain⟨vk,vl,by_,l,hD,hlT⟩:=h.ds;have d1:=hD.c1;have hgg:=hD.bx.lt;obtain⟨A4,c4,rfl⟩:=hD.lr.form;have hlr:=hD.lr;have kl:∀W (j:Nat) x,Bw w W→nl[j]? =some x→∃ga,A4=some ⟨ga,0,none⟩∧W.cell? ⟨ga,j*3,none⟩=some (.int .i64 x.ty)∧W.cell? ⟨ga,j*3+1,none⟩=some (.int .i64 x.at_)∧W.cell? ⟨ga,j*3+2,none⟩=some (.int .i64 x.by_):=fun W j x hW hx=>by
  obtain⟨ga,cap,e,_,_,_,h6⟩:=(hlr.stay hW).row (by have:=(zC.1 hx).1;omega);injection e with e1 e2 e3
  have key:∀(k:Nat)(y:Value),(lsDD x)[k]? =some (.v y)→W.cell? ⟨ga,j*3+k,none⟩=some y:=fun k y hk=>by
   obtain⟨u,hu,hr⟩:=h6 (j*3+k) _ (fmg (f:=lsDD) (m:=3) (fun _=>rfl) hx hk);rw[hr.v_inv]at hu;exact hu
  exact⟨ga,e1,key 0 _ rfl,key 1 _ rfl,key 2 _ rfl⟩
 obtain⟨o,ho⟩:∃o,o=lostO S q nl:=⟨_,rfl⟩
 rw[←ho];have hfin:∀(j:Nat) x,nl[j]? =some x→concB S q x=true→(∀(i:Nat) y,nl[i]? =some y→i<j→concB S q y=false)→o=some x.by_:=fun j x h1 h2 h3=>by rw[ho];exact lost_at h1 h2 h3
 have hend:(∀(i:Nat) y,nl[i]? =some y→i<nl.length→concB S q y=false)→o=none:=fun h1=>by rw[ho];exact lost_no h1
 have kn:∀W (it:It)(A2:Option Addr)(c2:Nat)(a:ByteArray),TX W B gt g F A c S T nl q s→Calls Tryz.prog 43 #[.pointer (some ⟨gt,0,none⟩),.agg #[.bool it.neg,.slice A2 it.tys.length c2,.string it.v,.int .i64 it.lo,.int .i64 it.hi],.string a] W fun e w'=>e=.returned (.bool (ndsA q it.v a))∧Bw W w':=fun W it A2 c2 a hX=>needs_k hX hs it (.slice A2 it.tys.length c2) rfl a
 have hit:=hs.it;have hil:=hs.il;have hS1:=hS.1;obtain⟨A1,c1,A2,c2,A3,c3⟩:=s;simp only at x0 x2 hTX kn;replace hTX:=Hd hTX;replace kl:=Hd kl;replace hfin:=Hd hfin;replace hend:=Hd hend;replace kn:=Hd kn;replace hls:=Hd hls;replace hge:=Hd hge;replace hit:=Hd hit;clear h hD hlT hlr hs hS ho x3 x4 x5 x6 x7 x8;go_enter Tryz.func19,Tryz.ntmps19;go_wp2;go_loopw [17] (fun i wr=>∃j:Nat,j≤nl.length∧i=.int .i64 j∧Bw w wr∧Hid (∀(i:Nat) y,nl[i]? =some y→i<j→concB S q y=false)) (fun i _=>nl.length- (intOf i).toNat)
 case atStart=>exact⟨0,zE _,rfl,bR,fun i y hy hi=>by omega⟩
 case round=>
  obtain⟨j,hj,rfl,hB,hp⟩:=hrel;clear x0 x1 x2 d1;by_cases hlt:j<nl.length
  ·obtain⟨x,hx⟩:=getx hlt;have hxm:=zA hx;obtain⟨ga,rfl,a0,a1,a2⟩:=kl.out wr j x hB hx;have g0:(0:Int)≤(j:Int):=by omega
   have g1:(j:Int)<nl.length:=by omega
   have hpx:concB S q x=false→Hid (∀(i:Nat) y,nl[i]? =some y→i<j+1→concB S q y=false):=fun hc i y hy hi=>by
    by_cases e:i=j
    ·subst e;rw[hx]at hy;injection hy with hy;subst hy;exact hc
    ·exact hp.out i y hy (by omega)
   have hBl:=Hd (hB.alloc hB.size (.cells ⟨lsV x.ty x.at_ x.by_⟩ 104));have hlsx:=hls.out x hxm;have hgex:=hge.out x hxm;have hfx:=fun h=>hfin.out j x hx h hp.out
   replace hpx:=Hd hpx;replace hlsx:=Hd hlsx;replace hfx:=Hd hfx;replace hx:=Hd hx;replace hxm:=Hd hxm;obtain⟨wo,hwo⟩:∃wo:World,wo=wr:=⟨_,rfl⟩
   subst hwo;have hwsz:=hB.size;by_cases hn0:x.ty<0
   ·have hno:=Hd (hpx.out (conc_no0 hn0));go_wp2;go_roundw
    case rel=>exact⟨j+1,by omega,by go_num,hBl.out,hno.out⟩
    case measure=>simp[intOf];omega
   have hn0':¬x.ty<0:=hn0;by_cases hn1:x.at_= -1
   ·have hno:=Hd (hpx.out (conc_no1 hn1));have f1:(x.at_== -1)=true:=beqT hn1;replace hn1:=Hd hn1;go_wp2;go_roundw
    case rel=>exact⟨j+1,by omega,by go_num,hBl.out,hno.out⟩
    case measure=>simp[intOf];omega
   have f1:(x.at_== -1)=false:=beqF hn1;obtain⟨a,ha⟩:∃a:Nat,x.ty=a:=⟨x.ty.toNat,by omega⟩
   obtain⟨t,ht,hbt⟩:=hlsx.out a ha;have htm:tyNm S x.ty=t.name:=by rw[ha];exact nm_at ht
   have hal:a<S.length:=(zC.1 ht).1;have hTo:=hTX.out.stay hB;obtain⟨bS,oS,hAS,hFS,hv,hsl⟩:=hTo.rs.rowv (m:=2) (fun _=>rfl) ht (by omega);subst hAS;obtain⟨At,ct,u1,rt⟩:=hsl 1 _ _ rfl;have u0:wo.cell? ⟨bS,oS+a*2,none⟩=some (.string t.name):=hv 0 _ rfl;have hbS:=hTo.qr.lt bS hFS;obtain⟨y0,y1,y2,_,_,_,_,_,_⟩:=hTo.cells;simp only at y2;obtain⟨W1,hW1⟩:∃W1,W1=wo.alloc (.cells ⟨lsV x.ty x.at_ x.by_⟩ 104):=⟨_,rfl⟩
   have hBW1:Bw wo W1:=by rw[hW1];exact bA
   have hb1:Blk W1 wo.heap.size 104 (lsV x.ty x.at_ x.by_):=by rw[hW1];exact Blk.new _ _ _
   have hs1:W1.heap.size=wo.heap.size+1:=by rw[hW1];simp
   have hLX:∀w2,Bw W1 w2→LX w (w2.alloc (.cells ⟨[.string t.name,.slice At t.attrs.length ct]⟩ 47)) B gt g F (some ⟨bS,oS,none⟩) c S T nl q ⟨A1,c1,A2,c2,A3,c3⟩ wo.heap.size w2.heap.size x t At ct:=fun w2 hw2=>by
    have h1:Bw wo w2:=hBW1.trans (hw2.mono hBW1.size);have h2:Bw wo (w2.alloc (.cells ⟨[.string t.name,.slice At t.attrs.length ct]⟩ 47)):=h1.alloc h1.size _;exact⟨hTo.stay h2,hB.trans (h2.mono hB.size),(hb1.stay hw2).alloc _,Blk.new _ _ _,rt.under h2 hTo.qr.lt⟩
   replace hLX:=Hd hLX;have k1:∀W,Bw wo W→W.cell? ⟨gt,0,none⟩=some (.slice (some ⟨bS,oS,none⟩) S.length c)∧W.cell? ⟨bS,oS+a*2,none⟩=some (.string t.name)∧W.cell? ⟨bS,oS+a*2+1,none⟩=some (.slice At t.attrs.length ct):=fun W hW=>
    ⟨(hW.cell (p:=⟨gt,0,none⟩) (by show gt<_;omega)).trans y0,(hW.cell (p:=⟨bS,oS+a*2,none⟩) hbS).trans u0,(hW.cell (p:=⟨bS,oS+a*2+1,none⟩) hbS).trans u1⟩
   have hc1:W1.cell? ⟨wo.heap.size,0,none⟩=some (.int .i64 x.ty):=hb1.cell 0;obtain⟨k10,k11,k12⟩:=k1 W1 hBW1;have kit:∀W,LX w W B gt g F (some ⟨bS,oS,none⟩) c S T nl q ⟨A1,c1,A2,c2,A3,c3⟩ wo.heap.size W1.heap.size x t At ct→True:=fun _ _=>trivial
   have g2:(0:Int)≤x.ty:=by omega
   have g3:x.ty<(S.length:Int):=by omega
   have g4:x.ty.toNat=a:=by omega
   have hit2:∀it:It,hitB S q x it=(it.tys.any (fun m=>decide (m=t.name))&&((x.at_== -2)||ndsA q it.v (atNm S x.ty x.at_))):=fun it=>by
    unfold hitB;rw[htm];congr 2
   have hcx:=conc_hit (S:=S) (q:=q) (x:=x) (by omega) hn1;rw[hcx]at hfx hpx;have hatn:∀k:Nat,x.at_=k→∃z,t.attrs[k]? =some z∧atNm S x.ty x.at_=z:=fun k hk=>by
    obtain⟨z,hz⟩:=getx (hbt k hk);exact⟨z,hz,by rw[ha,hk];exact atNm_at ht hz⟩
   replace hit2:=Hd hit2;replace hatn:=Hd hatn;have hWW1:=Hd hW1;replace hBW1:=Hd hBW1;replace hb1:=Hd hb1;replace hs1:=Hd hs1;replace htm:=Hd htm;replace ht:=Hd ht;replace ha:=Hd ha;replace hbt:=Hd hbt;replace hn1:=Hd hn1;replace hTo:=Hd hTo;replace rt:=Hd rt;clear hv hsl y0 y1 y2 u0 u1 hcx k1 kit hlsx hW1;simp only[lsV]at hWW1;go_upto_region 5 with fail
   rw[←hWW1.out];clear a0 a1 a2;have kS:=fun W (hW:Bw W1 W)=>xW ((hW.cell (p:=⟨gt,0,none⟩) (by show gt<_;have:=hs1.out;omega)).trans k10) (xW ((hW.cell (p:=⟨bS,oS+a*2,none⟩) (by show bS<_;have:=hs1.out;omega)).trans k11) (xW ((hW.cell (p:=⟨bS,oS+a*2+1,none⟩) (by show bS<_;have:=hs1.out;omega)).trans k12) ((hW.cell (p:=⟨wo.heap.size,0,none⟩) (by show wo.heap.size<_;have:=hs1.out;omega)).trans hc1)))
   have hSS:=xW (kS W1.drew (bR).drew) trivial;replace kS:=Hd kS;refine G_region (p:=100) (S0:=fun W=>W.cell? ⟨gt,0,none⟩=some (.slice (some ⟨bS,oS,none⟩) S.length c)∧W.cell? ⟨bS,oS+a*2,none⟩=some (.string t.name)∧W.cell? ⟨bS,oS+a*2+1,none⟩=some (.slice At t.attrs.length ct)∧W.cell? ⟨wo.heap.size,0,none⟩=some (.int .i64 x.ty)) (S1:=fun _=>True) (by kernel_rfl) ?_;refine' TkA 0 rfl hSS ?_;refine' TkA 1 rfl hSS ?_;refine' TkA 2 rfl hSS ?_;refine' TkA 3 rfl hSS ?_;refine' TkA 4 rfl hSS ?_;refine' TkA 5 rfl hSS ?_;refine' TkA 6 rfl hSS ?_;refine' TkA 7 rfl hSS ?_;refine' TkA 8 rfl hSS ?_;try simp only[Act.put,TkS]
   refine Gs 9 rfl fun K hK=>?_
   go_simp;refine hK.out _ _ ⟨kS.out _ (by first|exact(bR).drew.alloc (by simp) _ |exact(bA).drew),fun _=>trivial⟩ ?_;clear hK K;refine Gs 10 rfl fun K hK=>?_
   go_simp;refine hK.out _ _ ⟨kS.out _ (bA).drew,fun _=>trivial⟩ ?_;clear hK K;refine Gd _ ?_;try simp only[Act.put,TkS]
   have hL0:=(hLX.out W1 bR).stay (bR).drew;generalize (W1.alloc (.cells ⟨[.string t.name,.slice At t.attrs.length ct]⟩ 47)).drew=W2 at*;obtain⟨y0,y1,y2,_,_,_,_,_,_⟩:=hL0.tx.cells;simp only at y2;replace hL0:=Hd hL0;clear hSS hLX kS k10 k11 k12 hc1;go_wp2;go_loopw [44] (fun i wr=>∃k:Nat,k≤q.items.length∧i=.int .i64 k∧LX w wr B gt g F (some ⟨bS,oS,none⟩) c S T nl q ⟨A1,c1,A2,c2,A3,c3⟩ wo.heap.size W1.heap.size x t At ct∧Hid (∀(i:Nat) y,q.items[i]? =some y→i<k→hitB S q x y=false)) (fun i _=>q.items.length- (intOf i).toNat)
   case atStart=>exact⟨0,zE _,rfl,hL0.out,fun i y hy hi=>by omega⟩
   case round=>
    clear hL0 y0 y1 y2;obtain⟨k,hk,rfl,hX,hp2⟩:=hrel;by_cases hlt2:k<q.items.length
    ·obtain⟨it,hi⟩:=getx hlt2;have him:=zA hi;have hsz:=(hit.out it him).1.1;obtain⟨gA,oA,A5,c5,e5,_,rx,a0,a1,a2,a3,a4⟩:=it_at hX.tx.qr.r1 hi;simp only at e5;subst e5;have p0:(0:Int)≤(k:Int):=by omega
     have p1:(k:Int)<q.items.length:=(by omega);have hbw:=hX.hb.size;have hW3:=Hd (show Bw wr (wr.alloc (.cells ⟨itV it (.slice A5 it.tys.length c5)⟩ 54))from bA);have hX3:=hX.stay hW3.out;have hb3:Blk (wr.alloc (.cells ⟨itV it (.slice A5 it.tys.length c5)⟩ 54)) wr.heap.size 54 (itV it (.slice A5 it.tys.length c5)):=Blk.new _ _ _;have kcn:=fun W (hW:Bw wr W)=>contains_k A5 c5 F it.tys t.name hsz W (rx.under hW (fun b hb=>hX.tx.qr.lt b hb))
     have kS:=fun W (hW:Below (wr.alloc (.cells ⟨itV it (.slice A5 it.tys.length c5)⟩ 54)).heap.size (wr.alloc (.cells ⟨itV it (.slice A5 it.tys.length c5)⟩ 54)) W)=>xW ((hb3.stay hW).cell 0) (xW ((hb3.stay hW).cell 1) (xW ((hb3.stay hW).cell 2) (xW ((hb3.stay hW).cell 3) (xW ((hb3.stay hW).cell 4) (xW ((hX3.stay hW).bd.cell 0) (xW ((hX3.stay hW).bd.cell 1) ((hX3.stay hW).bl.cell 1)))))))
     have kX:=fun W (hW:Below (wr.alloc (.cells ⟨itV it (.slice A5 it.tys.length c5)⟩ 54)).heap.size (wr.alloc (.cells ⟨itV it (.slice A5 it.tys.length c5)⟩ 54)) W)=>hX3.stay hW
     have knn:=fun W (hW:Below (wr.alloc (.cells ⟨itV it (.slice A5 it.tys.length c5)⟩ 54)).heap.size (wr.alloc (.cells ⟨itV it (.slice A5 it.tys.length c5)⟩ 54)) W) a=>kn.out W it A5 c5 a (hX3.stay hW).tx
     have hh:=hit2.out it;have hpk:hitB S q x it=false→Hid (∀(i:Nat) y,q.items[i]? =some y→i<k+1→hitB S q x y=false):=fun hc i y hy hi2=>by
      by_cases e:i=k
      ·subst e;rw[hi]at hy;injection hy with hy;subst hy;exact hc
      ·exact hp2.out i y hy (by omega)
     have hyes:hitB S q x it=true→o=some x.by_:=fun hc=>hfx.out (xM.2 ⟨it,him,hc⟩)
     obtain⟨W3,hW3e⟩:∃W3,W3=wr.alloc (.cells ⟨itV it (.slice A5 it.tys.length c5)⟩ 54):=⟨_,rfl⟩
     rw[←hW3e]at kS kX knn hX3 hb3 hW3;generalize it.tys.any (fun m=>decide (m=t.name))=cb at hh kcn;simp only[itV]at hW3e kS hb3;have hWW3:=Hd hW3e;replace kcn:=Hd (kcn W3.drew (hW3.out.drew));replace hh:=Hd hh;replace hpk:=Hd hpk;replace hyes:=Hd hyes;replace kX:=Hd kX;replace knn:=Hd knn;replace hX3:=Hd hX3;replace hX:=Hd hX;replace hi:=Hd hi;replace him:=Hd him;replace hb3:=Hd hb3;have hSS:=xW (kS W3.drew (bR).drew) trivial;replace kS:=Hd kS;clear rx hW3e;go_upto_region 9 with fail
     rw[←hWW3.out];clear a0 a1 a2 a3 a4;by_cases hwl:x.at_= -2
     ·have f2:(x.at_== -2)=true:=beqT hwl;replace hwl:=Hd hwl;refine G_region (p:=100) (S0:=fun W=>W.cell? ⟨wr.heap.size,0,none⟩=some (.bool it.neg)∧W.cell? ⟨wr.heap.size,1,none⟩=some (.slice A5 it.tys.length c5)∧W.cell? ⟨wr.heap.size,2,none⟩=some (.string it.v)∧W.cell? ⟨wr.heap.size,3,none⟩=some (.int .i64 it.lo)∧W.cell? ⟨wr.heap.size,4,none⟩=some (.int .i64 it.hi)∧W.cell? ⟨W1.heap.size,0,none⟩=some (.string t.name)∧W.cell? ⟨W1.heap.size,1,none⟩=some (.slice At t.attrs.length ct)∧W.cell? ⟨wo.heap.size,1,none⟩=some (.int .i64 x.at_)) (S1:=fun _=>True) (by kernel_rfl) ?_;refine' TkA 0 rfl hSS ?_;refine' TkA 1 rfl hSS ?_;refine' TkA 2 rfl hSS ?_;refine' TkA 3 rfl hSS ?_;try simp only[Act.put,TkS]
      refine Gs 4 rfl fun K hK=>?_
      go_simp;go_at_call 42;refine kcn.out.mono ?_;rintro e W' ⟨rfl,rfl⟩;refine hK.out _ _ ⟨kS.out _ (bR).drew,fun _=>trivial⟩ ?_;clear hK K;try simp only[Act.put,TkS]
      cases cb with
      |true=>
       refine' TkA 5 rfl hSS ?_;refine' TkA 6 rfl hSS ?_;refine' TkA 7 rfl hSS ?_;refine' TkA 8 rfl hSS ?_;refine' TkA 9 rfl hSS ?_;refine' TkC 10 rfl hSS ?_;refine' TkC 11 rfl hSS ?_;refine' TkC 12 rfl hSS ?_;refine' TkC 13 rfl hSS ?_;refine' TkC 14 rfl hSS ?_;refine' TkC 15 rfl hSS ?_;refine' TkC 16 rfl hSS ?_;refine' TkC 17 rfl hSS ?_;refine' TkC 18 rfl hSS ?_;refine' TkA 19 rfl hSS ?_;try simp only[Act.put,TkS]
       refine Gs 20 rfl fun K hK=>?_
       go_simp;refine hK.out _ _ ⟨hSS.1,fun _=>trivial⟩ ?_;clear hK K;refine Gd _ ?_;try simp only[Act.put,TkS]
       have hy:=hyes.out (by rw[hh.out,f2];rfl);clear hSS;have hc2:W3.drew.cell? ⟨wo.heap.size,2,none⟩=some (.int .i64 x.by_):=(kX.out _ (bR).drew).bl.cell 2;subst hy;go_wp2;go_ret2;exact⟨rfl,(kX.out _ (bR).drew).hb⟩
      |false=>
       refine' TkA 5 rfl hSS ?_;refine' TkC 6 rfl hSS ?_;refine' TkC 7 rfl hSS ?_;refine' TkC 8 rfl hSS ?_;refine' TkC 9 rfl hSS ?_;refine' TkC 10 rfl hSS ?_;refine' TkC 11 rfl hSS ?_;refine' TkC 12 rfl hSS ?_;refine' TkC 13 rfl hSS ?_;refine' TkC 14 rfl hSS ?_;refine' TkC 15 rfl hSS ?_;refine' TkC 16 rfl hSS ?_;refine' TkC 17 rfl hSS ?_;refine' TkC 18 rfl hSS ?_;refine' TkC 19 rfl hSS ?_;try simp only[Act.put,TkS]
       refine Gs 20 rfl fun K hK=>?_
       go_simp;refine hK.out _ _ ⟨hSS.1,fun _=>trivial⟩ ?_;clear hK K;refine Gd _ ?_;try simp only[Act.put,TkS]
       have hno:=Hd (hpk.out (by rw[hh.out];rfl));clear hSS;go_wp2;go_roundw
       case rel=>exact⟨k+1,by omega,by go_num,kX.out _ (bR).drew,hno.out⟩
       case measure=>simp[intOf];omega
     ·have f2:(x.at_== -2)=false:=beqF hwl;obtain⟨m,hm⟩:∃m:Nat,x.at_=m:=⟨x.at_.toNat,by have:=hn1.out;omega⟩
      obtain⟨z,hz,hza⟩:=hatn.out m hm;have hml:m<t.attrs.length:=(zC.1 hz).1;have r0:(0:Int)≤x.at_:=by omega
      have r1:x.at_<(t.attrs.length:Int):=(by omega);have r2:x.at_.toNat=m:=by omega
      obtain⟨ba,oa,hAt,hFa,hzc⟩:=str_at hX3.out.ra hz;subst hAt;have hbal:=hX3.out.tx.qr.lt ba hFa;have kZ:=fun W (hW:Bw W3 W)=>(hW.cell (p:=⟨ba,oa+m,none⟩) hbal).trans hzc
      rw[hza]at hh;have hSZ:=xW (xW (kZ W3.drew (bR).drew) hSS.1) trivial;replace kZ:=Hd kZ;replace hwl:=Hd hwl;replace hm:=Hd hm;replace hz:=Hd hz;replace hza:=Hd hza;clear hSS hzc;refine G_region (p:=100) (S0:=fun W=>W.cell? ⟨ba,oa+m,none⟩=some (.string z)∧W.cell? ⟨wr.heap.size,0,none⟩=some (.bool it.neg)∧W.cell? ⟨wr.heap.size,1,none⟩=some (.slice A5 it.tys.length c5)∧W.cell? ⟨wr.heap.size,2,none⟩=some (.string it.v)∧W.cell? ⟨wr.heap.size,3,none⟩=some (.int .i64 it.lo)∧W.cell? ⟨wr.heap.size,4,none⟩=some (.int .i64 it.hi)∧W.cell? ⟨W1.heap.size,0,none⟩=some (.string t.name)∧W.cell? ⟨W1.heap.size,1,none⟩=some (.slice (some ⟨ba,oa,none⟩) t.attrs.length ct)∧W.cell? ⟨wo.heap.size,1,none⟩=some (.int .i64 x.at_)) (S1:=fun _=>True) (by kernel_rfl) ?_;refine' TkA 0 rfl hSZ ?_;refine' TkA 1 rfl hSZ ?_;refine' TkA 2 rfl hSZ ?_;refine' TkA 3 rfl hSZ ?_;try simp only[Act.put,TkS]
      refine Gs 4 rfl fun K hK=>?_
      go_simp;go_at_call 42;refine kcn.out.mono ?_;rintro e W' ⟨rfl,rfl⟩;refine hK.out _ _ ⟨⟨kZ.out _ (bR).drew,kS.out _ (bR).drew⟩,fun _=>trivial⟩ ?_;clear hK K;try simp only[Act.put,TkS]
      cases cb with
      |false=>
       refine' TkA 5 rfl hSZ ?_;refine' TkC 6 rfl hSZ ?_;refine' TkC 7 rfl hSZ ?_;refine' TkC 8 rfl hSZ ?_;refine' TkC 9 rfl hSZ ?_;refine' TkC 10 rfl hSZ ?_;refine' TkC 11 rfl hSZ ?_;refine' TkC 12 rfl hSZ ?_;refine' TkC 13 rfl hSZ ?_;refine' TkC 14 rfl hSZ ?_;refine' TkC 15 rfl hSZ ?_;refine' TkC 16 rfl hSZ ?_;refine' TkC 17 rfl hSZ ?_;refine' TkC 18 rfl hSZ ?_;refine' TkC 19 rfl hSZ ?_;try simp only[Act.put,TkS]
       refine Gs 20 rfl fun K hK=>?_
       go_simp;refine hK.out _ _ ⟨hSZ.1,fun _=>trivial⟩ ?_;clear hK K;refine Gd _ ?_;try simp only[Act.put,TkS]
       have hno:=Hd (hpk.out (by rw[hh.out];rfl));clear hSZ;go_wp2;go_roundw
       case rel=>exact⟨k+1,by omega,by go_num,kX.out _ (bR).drew,hno.out⟩
       case measure=>simp[intOf];omega
      |true=>
       refine' TkA 5 rfl hSZ ?_;refine' TkA 6 rfl hSZ ?_;refine' TkA 7 rfl hSZ ?_;refine' TkA 8 rfl hSZ ?_;refine' TkA 9 rfl hSZ ?_;refine' TkA 10 rfl hSZ ?_;refine' TkA 11 rfl hSZ ?_;refine' TkA 12 rfl hSZ ?_;refine' TkA 13 rfl hSZ ?_;refine' TkA 14 rfl hSZ ?_;refine' TkA 15 rfl hSZ ?_;refine' TkA 16 rfl hSZ ?_;refine' TkA 17 rfl hSZ ?_;try simp only[Act.put,TkS]
       refine Gs 18 rfl fun K hK=>?_
       go_simp;go_at_call 43;refine(knn.out W3.drew (bR).drew z).mono ?_;rintro e W4 ⟨rfl,hB4⟩;have hW4:=Hd ((zB W3.heap.size W3).drew.trans hB4);refine hK.out _ _ ⟨⟨kZ.out _ hW4.out,kS.out _ hW4.out⟩,fun _=>trivial⟩ ?_;have hSU:=xW (xW (kZ.out _ hW4.out) (kS.out _ hW4.out)) trivial;clear hK K hSZ hB4;rw[f2,Bool.false_or,xE]at hh;generalize ndsA q it.v z=nb at hh ⊢;refine' TkA 19 rfl hSU ?_;try simp only[Act.put,TkS]
       refine Gs 20 rfl fun K hK=>?_
       go_simp;refine hK.out _ _ ⟨hSU.1,fun _=>trivial⟩ ?_;clear hK K;refine Gd _ ?_;try simp only[Act.put,TkS]
       clear hSU;cases nb with
       |true=>
        have hy:=hyes.out hh.out;have hc2:W4.cell? ⟨wo.heap.size,2,none⟩=some (.int .i64 x.by_):=(kX.out _ hW4.out).bl.cell 2;subst hy;go_wp2;go_ret2;exact⟨rfl,(kX.out _ hW4.out).hb⟩
       |false=>
        have hno:=Hd (hpk.out hh.out);go_wp2;go_roundw
        case rel=>exact⟨k+1,by omega,by go_num,kX.out _ hW4.out,hno.out⟩
        case measure=>simp[intOf];omega
    ·obtain rfl:k=q.items.length:=by omega
     have hno:=Hd (hpx.out (by
      rw[List.any_eq_false];intro y hy;obtain⟨i,hi⟩:=zN hy;rw[hp2.out i y hi (zC.1 hi).1];simp))
     replace hX:=Hd hX;go_wp2;go_roundw
     case rel=>exact⟨j+1,by omega,by go_num,hX.out.hb,hno.out⟩
     case measure=>simp[intOf];omega
  ·obtain rfl:j=nl.length:=by omega
   have ho:=hend.out hp.out;subst ho;go_wp2;go_ret2;exact⟨rfl,hB⟩
end evW
theorem int_beq (a b:Int):(a==b)=decide (a=b):=by
 by_cases h:a=b
 ·rw[zW h,h];simp
 ·rw[zV h];simpa using h
def APost (o:Option ByteArray)(w:World)(e:Ending)(w':World):Prop:=e=.returned (.tuple #[.string (o.getD emp),.bool o.isSome])∧Bw w w'
theorem APost.no {o:Option ByteArray}{w w':World}(h:o=none)(hb:Bw w w'):APost o w (.returned (.tuple #[.string emp,.bool false])) w':=by subst h;exact⟨rfl,hb⟩
theorem APost.yes {o:Option ByteArray}{s:ByteArray}{w w':World}(h:o=some s)(hb:Bw w w'):APost o w (.returned (.tuple #[.string s,.bool true])) w':=by subst h;exact⟨rfl,hb⟩
theorem anK_ne {ty fr:Int}{k:Kd}{r:List Kd}{out:ByteArray}(h:k.fr≠ty):anK ty fr (k::r) out=anK ty fr r out:=by rw[anK,if_pos h]
theorem anK_no {ty fr:Int}{k:Kd}{r:List Kd}{out:ByteArray}(h:k.fr=ty)(hf:k.fs.find? (fun f=>decide (f.fr=fr))=none):anK ty fr (k::r) out=none:=by rw[anK,if_neg (fun h2=>h2 h),hf]
theorem anK_bad {ty fr:Int}{k:Kd}{r:List Kd}{out:ByteArray}{f:Fd}(h:k.fr=ty)(hf:k.fs.find? (fun f=>decide (f.fr=fr))=some f)(h2:out≠emp)(h3:f.nm≠out):anK ty fr (k::r) out=none:=by rw[anK,if_neg (fun h2=>h2 h),hf];exact if_pos ⟨h2,h3⟩
theorem anK_go {ty fr:Int}{k:Kd}{r:List Kd}{out:ByteArray}{f:Fd}(h:k.fr=ty)(hf:k.fs.find? (fun f=>decide (f.fr=fr))=some f)(h2:out=emp∨f.nm=out):anK ty fr (k::r) out=anK ty fr r f.nm:=by
 rw[anK,if_neg (fun h2=>h2 h),hf];exact if_neg fun h3=>h2.elim h3.1 h3.2
theorem drop_at {α:Type}{l:List α}{i:Nat}{x:α}(h:l[i]? =some x):l.drop i=x::l.drop (i+1):=by
 obtain⟨hi,e⟩:=zC.1 h;rw[List.drop_eq_getElem_cons hi,e]
namespace evW
open nmW
theorem fromK_k (nm:ByteArray)(fr ty:Int)(v:Value)(q:Nat)(W:World)(hq:W.cell? ⟨q,0,none⟩=some (.int .i64 ty)):
  Calls Tryz.prog 89 #[.agg #[.string nm,.int .i64 fr,v],.pointer (some ⟨q,0,none⟩)] W fun e w'=>e=.returned (.bool (decide (fr=ty)))∧Bw W w':=by
 rw[←int_beq];have hb:=Hd ((zB W.heap.size W).alloc nR (.cells ⟨[.string nm,.int .i64 fr,v]⟩ 90));have hq2:q<W.heap.size:=zX W _ hq;have hne:q≠W.heap.size:=by omega
 go_enter Tryz.func89,Tryz.ntmps89;go_wp2;go_ret;exact⟨rfl,hb.out⟩
theorem fromF_k (nm:ByteArray)(fr fl ty:Int)(q:Nat)(W:World)(hq:W.cell? ⟨q,0,none⟩=some (.int .i64 ty)):
  Calls Tryz.prog 95 #[.agg #[.string nm,.int .i64 fr,.int .i64 fl],.pointer (some ⟨q,0,none⟩)] W fun e w'=>e=.returned (.bool (decide (fr=ty)))∧Bw W w':=by
 rw[←int_beq];have hb:=Hd ((zB W.heap.size W).alloc nR (.cells ⟨[.string nm,.int .i64 fr,.int .i64 fl]⟩ 92));have hq2:q<W.heap.size:=zX W _ hq;have hne:q≠W.heap.size:=by omega
 go_enter Tryz.func95,Tryz.ntmps95;go_wp2;go_ret;exact⟨rfl,hb.out⟩
theorem typeName_k {w:World}{B gt g:Nat}{F:Nat→Prop}{A:Option Addr}{c:Nat}{S:List Td}{T:List Kd}{nl:List Ls}{q:Qy}{s:Sl3}(h:TX w B gt g F A c S T nl q s)(hS:SzT S)(hT:T.length≤1048576)(n:ByteArray):
  Calls Tryz.prog 44 #[.pointer (some ⟨gt,0,none⟩),.string n] w fun e w'=>e=.returned (.string (typeNm S T n))∧Bw w w':=by
 obtain⟨x0,x1,_,_,_,_,_,_,_⟩:=h.cells;have hgt:=h.bt.lt;obtain⟨vk,vl,by_,l,hD,hlT⟩:=h.ds;have hgg:=hD.bx.lt;obtain⟨Ak,ck,rfl⟩:=hD.kr.form;have hll:l.length≤1048576:=by rw[←hlT]at hT;simpa using hT
 have d0:=hD.c0;have k1:=typeOf_k A c F S n hS.1 w h.qr.lt h.rs;have kx:=fun W (hW:Bw w W)=>xW ((h.stay hW).cells.2.1) ((hD.stay hW).c0)
 obtain⟨ty,hty⟩:∃ty,ty=placeI (nmsT S) n:=⟨_,rfl⟩
 have k2:∀W,Bw w W→Calls Tryz.prog 88 #[.slice Ak l.length ck,.func (.func 89) #[] #[.pointer (some ⟨W.heap.size,0,none⟩)]] (W.alloc (.cells ⟨[.int .i64 ty]⟩ 3)) fun e w'=>e=.returned (.int .i64 (optI (l.findIdx? fun x=>decide (x.1.fr=ty))))∧Below (W.alloc (.cells ⟨[.int .i64 ty]⟩ 3)).heap.size (W.alloc (.cells ⟨[.int .i64 ty]⟩ 3)) w':=fun W hW=>by
  have hDW:=(hD.stay hW).stay (bX (.cells ⟨[.int .i64 ty]⟩ 3));refine idxKf_k Ak ck (fun b=>b<(W.alloc (.cells ⟨[.int .i64 ty]⟩ 3)).heap.size) l (fun x=>decide (x.1.fr=ty)) W.heap.size hll _ (fun b h=>h) (hDW.kr.rd (fun b hb _=>hb.elim) (fun b _ hb=>hb)) fun W2 hW2 x _=>fromK_k x.1.nm x.1.fr ty x.2 W.heap.size W2 ?_
  exact((Blk.new W 3 [.int .i64 ty]).stay hW2).cell 0
 have hnm:typeNm S T n=match l.findIdx? (fun x=>decide (x.1.fr=ty))with |some i=>(match l[i]? with |some p=>p.1.nm |none=>emp)|none=>emp:=by
  unfold typeNm;rw[←hlT,←hty];have e:=fi_map (l:=l) (f:=fun x:Kd×Value=>x.1) (p:=fun k=>decide (k.fr=ty));cases hf:l.findIdx? (fun x=>decide (x.1.fr=ty))with
  |none=>rw[hf]at e;rw[fi_no e]
  |some i=>
   rw[hf]at e;obtain⟨k,h1,_,h3⟩:=fi_get e;rw[h3];rw[zG]at h1;obtain⟨p,hp,rfl⟩:=xG.1 h1;simp only[hp]
 rw[hnm];rw[show placeI (S.map (·.name)) n=placeI (nmsT S) n from rfl,←hty]at k1;have kd:=fun W (hW:Bw w W) i p (hp:l[i]? =some p)=>(hD.stay hW).at_ hp
 clear hD hnm hty h;have hmf:∀(fn:Fn) (first cap:Array Value) (w:World),(Instr.makeFunc fn first cap).run Tryz.prog w=.ok (.func fn first cap) w:=fun _ _ _ _=>rfl
 cases hf:l.findIdx? (fun x=>decide (x.1.fr=ty))with
 |none=>
  rw[hf]at k2;replace k2:=Hd k2;replace k1:=Hd k1;replace kx:=Hd kx;clear hf kd;go_enter Tryz.func44,Tryz.ntmps44;go_wp2_with (first
   |(go_at_call 60;refine k1.out.mono ?_;rintro e W1 ⟨rfl,hW1⟩;obtain⟨y1,y2⟩:=kx.out W1 hW1;have hs1:=hW1.size;have hz1:=zF hgt hW1.size;have hz2:=zF hgg hW1.size;replace hW1:=Hd hW1)
   |(go_at_call 88;refine(k2.out W1 hW1.out).mono ?_;rintro e W2 ⟨rfl,hW2⟩;replace hW2:=Hd hW2;simp only[optI]))
  go_ret;exact⟨rfl,(hW1.out.alloc hs1 _).trans (hW2.out.mono (by simp;omega))⟩
 |some i=>
  obtain⟨p,hp,_,_⟩:=fi_get hf;have hil:=(zC.1 hp).1;rw[hf]at k2;simp only[hp];have kd':=fun W (hW:Bw w W)=>kd W hW i p hp
  obtain⟨gk,cap,eA,_,hgk,_⟩:=kd' w bR;injection eA with e1 e2 e3
  subst e1 e3;have kd2:∀W,Bw w W→W.cell? ⟨gt,1,none⟩=some (.pointer (some ⟨g,0,none⟩))∧W.cell? ⟨g,0,none⟩=some (.slice (some ⟨gk,0,none⟩) l.length ck)∧W.cell? ⟨gk,i*3,none⟩=some (.string p.1.nm):=fun W hW=>by
   obtain⟨gk',cap',e,_,_,_,v0,_,_⟩:=kd' W hW;injection e with e1 _ _
   injection e1 with e1
   injection e1 with e1
   subst e1;obtain⟨z1,z2⟩:=kx W hW;exact⟨z1,z2,v0⟩
  have g0:(0:Int)≤(i:Int):=by omega
  have g1:(i:Int)<l.length:=by omega
  replace k2:=Hd k2;replace k1:=Hd k1;replace kx:=Hd kx;replace kd2:=Hd kd2;clear hf kd kd' hp e2;go_enter Tryz.func44,Tryz.ntmps44;go_wp2_with (first
   |(go_at_call 60;refine k1.out.mono ?_;rintro e W1 ⟨rfl,hW1⟩;obtain⟨y1,y2⟩:=kx.out W1 hW1;have hs1:=hW1.size;have hz1:=zF hgt hW1.size;have hz2:=zF hgg hW1.size;replace hW1:=Hd hW1)
   |(go_at_call 88;refine(k2.out W1 hW1.out).mono ?_;rintro e W2 ⟨rfl,hW2⟩;have hBB:=Hd ((hW1.out.alloc hs1 (.cells ⟨[.int .i64 ty]⟩ 3)).trans (hW2.mono (by simp;omega)));clear hW2;obtain⟨z1,z2,z3⟩:=kd2.out W2 hBB.out;simp only[optI]))
  go_ret;exact⟨rfl,hBB.out⟩
end evW
end Go.Proofs.YtfiodnlgiglhfaaGreatDoor
