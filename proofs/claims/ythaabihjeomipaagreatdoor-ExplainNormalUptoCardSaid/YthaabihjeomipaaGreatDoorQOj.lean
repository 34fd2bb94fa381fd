/- The law's other form. -/
import Derived.Test.YthaabihjeomipaaGreatDoorQZc
namespace Go.Proofs.YthaabihjeomipaaGreatDoor
set_option maxRecDepth 100000
set_option maxHeartbeats 16000000
open Go.RowKit Go.Deep
set_option linter.unusedVariables false
set_option linter.unusedSimpArgs false
theorem add_wrap {a:Int}{n m:Nat}(h1:0≤a)(h2:a<(m:Int))(h3:n≤1048576)(h4:m≤1048576):IntKind.i64.wrap (a+(n:Int))=a+(n:Int):=by rw[xI];omega
theorem OL.ren {W:World}{B ga n cap j:Nat}{L:List Nd}{y:Nd}(s:ByteArray)(h:OL W B NoF 96 6 (.slice (some ⟨ga,0,none⟩) n cap) n (L.flatMap ndD))(hy:L[j]? =some y):
  OL (W.setCell ⟨ga,j*6+2,none⟩ (.string s)) B NoF 96 6 (.slice (some ⟨ga,0,none⟩) n cap) n ((L.set j {y with v:=s}).flatMap ndD)∧B≤ga∧W.frozen? ⟨ga,j*6+2,none⟩=false∧∃u,W.cell? ⟨ga,j*6+2,none⟩=some u:=by
 have hos:=h.set (j:=j*6+2) (u:=.string s) (d:=.v (.string s)) (.v _ rfl);rw[flat_set (f:=ndD) (m:=6) (c:=2) (d:=.v (.string s)) (y:={y with v:=s}) (fun _=>rfl) hy rfl oQ]at hos;have hlen:=h.len;rw[ndLn]at hlen;have hj:=(zC.1 hy).1;obtain⟨cs,hB1,hbk,_,_,hcl,_,_⟩:=h.blk;obtain⟨u,hu⟩:=getx (l:=cs) (i:=j*6+2) oQ;exact⟨hos,hB1,hbk.frozen _,u,(hbk.cell _).trans hu⟩
theorem QB.put {q:Qy}{s:Sl3}{w wr:World}(h:QB q s w wr){ga k:Nat}(h1:w.heap.size≤ga)(h2:ga≠w.heap.size)(x:Value):QB q s w (wr.setCell ⟨ga,k,none⟩ x):=⟨h.1.setCell h1 _,h.2.far (fun e=>h2 e.symm) _⟩
namespace lawW
open nmW ckW
theorem conjF_k (A:Option Addr)(c:Nat)(F:Nat→Prop)(t:List Nd)(hs:SzN t)(ht:treeB t=false)(w:World)(hK:KwIs w)(hF:∀b,F b→b<w.heap.size)(r:Rd w F (.slice A t.length c) (.sl t.length (t.flatMap ndD))):
  Calls Tryz.prog 26 #[.slice A t.length c] w (IlPost [] w):=by
 have k0:=refTree_k A c F t hs w hK hF r;rw[ht]at k0;replace k0:=Hd k0;clear r hF hK hs ht;go_enter Tryz.func26,Tryz.ntmps26;go_wp2_with (go_at_call 58;refine k0.out.mono ?_;rintro e W ⟨rfl,hX⟩;replace hX:=Hd hX);go_ret;exact IlPost.mk (OL.nil _ _ _ _ _) hX.out
theorem called_k (i:Nat)(hi:i≤1048576)(w:World)(hP:PwT w):Calls Tryz.prog 46 #[.int .i64 (i:Nat)] w (StP (nmW i) w):=by
 have k0:Calls Tryz.prog 33 #[.int .i64 (i:Nat)] w (StP (itoaB (i:Nat)) w):=by
  refine(Tryz.strconv_Itoa (i:Nat) oQ oQ w hP).mono ?_;rintro e w' ⟨rfl,k,os,rfl⟩;exact⟨rfl,below_grown w k os⟩
 have zI:=itoaB_size (i:Nat) oQ oQ;have s1:(⟨#[119,95]⟩:ByteArray).size+(itoaB (i:Nat)).size≤9223372036854775807:=by show 2+_≤_;omega
 have hn:nmW i=(⟨#[119,95]⟩:ByteArray)++itoaB (i:Nat):=rfl;rw[hn];generalize itoaB (i:Nat)=bs at*;replace k0:=Hd k0;clear hP hn zI;go_enter Tryz.func46,Tryz.ntmps46;go_wp2_with (go_at_call 33;refine k0.out.mono ?_;rintro e W1 ⟨rfl,hX1⟩);go_ret;exact⟨rfl,hX1⟩
theorem renamed_k (A:Option Addr)(c:Nat)(F:Nat→Prop)(q:Qy)(s:Sl3)(t:List Nd)(hil:q.items.length≤1048576)(ht:t.length≤1048576)(w:World)(hP:PwT w)(R:QR w F q s)(r:Rd w F (.slice A t.length c) (.sl t.length (t.flatMap ndD))):
  Calls Tryz.prog 47 #[.agg ⟨qV q s⟩,.slice A t.length c] w (TrPost (t.map (rnW q)) w):=by
 have hF:=R.lt;have k0:=fun W (hW:Bw w W)=>twinTree_k A c F t ht W (fun b h=>zF (hF b h) hW.size) (r.under hW hF)
 have k1:=fun(m:Nat)(hm:m≤1048576) W (hW:Bw w W)=>called_k m hm W (hP.stay hW)
 have kit:=fun(i:Nat) it (hi:q.items[i]? =some it) W (hW:Bw w W)=>it_at (R.under hW).r1 hi
 have h0:=QB.new q s w;obtain⟨W0,hW0⟩:∃W0,W0=w.alloc (.cells ⟨qV q s⟩ 31):=⟨_,rfl⟩
 rw[←hW0]at h0;have kq:=fun W (h:QB q s w W)=>h.cells.1
 have nw:IntKind.i64.wrap ((q.items.length:Int) -1)=(q.items.length:Int) -1:=by rw[xI];omega
 obtain⟨A1,c1,A2,c2,A3,c3⟩:=s;simp only[qV]at hW0 ⊢;try simp only at kit kq
 have hWW:=Hd hW0;replace hF:=Hd hF;replace r:=Hd r;replace k0:=Hd k0;replace k1:=Hd k1;replace kit:=Hd kit;replace kq:=Hd kq;replace h0:=Hd h0;clear R hW0 hP;go_enter Tryz.func47,Tryz.ntmps47;go_upto_region 1 with fail
 rw[←hWW.out];clear hWW;go_upto_region 2 with(go_at_call 22;refine(k0.out W0 h0.out.1).mono ?_;rintro e W1 ⟨v1,rfl,hO1,hB1⟩;obtain⟨Al,cl,rfl⟩:=hO1.form)
 have hQ1:=h0.out.stay hB1;have hN1:OL W1 w.heap.size NoF 96 6 (.slice Al t.length cl) t.length ((mpR (rnW q) t 0).flatMap ndD):=by
  rw[mpR_zero];exact hO1.base h0.out.1.size
 replace hQ1:=Hd hQ1;replace hN1:=Hd hN1;clear hO1 hB1 h0 k0;go_wp2;go_loopw [6] (fun i wr=>∃j:Nat,j≤t.length∧i=.int .i64 j∧QB q ⟨A1,c1,A2,c2,A3,c3⟩ w wr∧OL wr w.heap.size NoF 96 6 (.slice Al t.length cl) t.length ((mpR (rnW q) t j).flatMap ndD)) (fun i _=>t.length- (intOf i).toNat)
 case atStart=>exact⟨0,zE _,rfl,hQ1.out,hN1.out⟩
 case round=>
 clear hQ1 hN1;obtain⟨j,hj,rfl,hQ,hN⟩:=hrel;by_cases hlt:j<t.length
 ·obtain⟨x,hx⟩:=getx hlt;obtain⟨h1,h2⟩:=mpR_get (f:=rnW q) hx;have hbw:=hQ.1.size;have y0:=kq.out wr hQ;have g0:(0:Int)≤(j:Int):=oQ;have g1:(j:Int)<t.length:=oQ;have hN0:OL wr w.heap.size NoF 96 6 (.slice Al t.length cl) t.length (((mpR (rnW q) t j).set j (rnK q q.items.length x)).flatMap ndD):=by
   rw[rnK_end x nR];obtain⟨h3,h4⟩:=zC.1 h1;have e:(mpR (rnW q) t j).set j x=mpR (rnW q) t j:=by rw[←h4];exact List.set_getElem_self h3
   rw[e];exact hN
  have hml:=mpR_len (rnW q) t j;obtain⟨wo,hwo⟩:∃wo:World,wo=wr:=⟨_,rfl⟩
  subst hwo;have hQo:=Hd hQ;replace hN0:=Hd hN0;replace hx:=Hd hx;replace h1:=Hd h1;replace h2:=Hd h2;replace hml:=Hd hml;clear hN hQ;go_wp2;clear y0;go_loopw [7] (fun k wr=>∃m:Nat,m≤q.items.length∧k=.int .i64 ((m:Int) -1)∧QB q ⟨A1,c1,A2,c2,A3,c3⟩ w wr∧OL wr w.heap.size NoF 96 6 (.slice Al t.length cl) t.length (((mpR (rnW q) t j).set j (rnK q m x)).flatMap ndD)) (fun k _=>(intOf k+1).toNat)
  case atStart=>exact⟨q.items.length,nR,rfl,hQo.out,hN0.out⟩
  case round=>
  clear hN0 hQo;obtain⟨m,hm,hi,hQ,hN⟩:=hrel;by_cases hm0:m=0
  ·subst hm0;obtain rfl:=(hi.trans rfl:_=Value.int .i64 (-1));clear hi;rw[rnK_0,h2.out]at hN;replace hN:=Hd hN;replace hQ:=Hd hQ;go_wp2;go_roundw
   case rel=>exact⟨j+1,oQ,gQ,hQ.out,hN.out⟩
   case measure=>exact mQ
  obtain⟨k,rfl⟩:∃k,m=k+1:=⟨m-1,oQ⟩
  obtain rfl:=(hi.trans (by congr 1;omega):_=Value.int .i64 (k:Int));clear hi hm0;obtain⟨it,hit⟩:=getx (l:=q.items) (i:=k) oQ;obtain⟨gI,oI,A5,c5,eI,hFI,rx0,b0,b1,b2,b3,b4⟩:=kit.out k it hit wr hQ.1;obtain⟨gN,oN,eN,hFN,n0,n1,n2,n3,n4,n5⟩:=nd_at (r.out.under hQ.1 hF.out) hx.out;try simp only at eI
  subst eI eN;have hgI:=hF.out gI hFI;have hgN:=hF.out gN hFN;have y0:=kq.out wr hQ;have q0:(0:Int)≤(k:Int):=oQ;have q1:(k:Int)<q.items.length:=oQ;clear b0 b1 b3 b4 n0 n1 n3 n4 n5 rx0;have hyes:=fun(h1:x.v≠emp)(h2:it.v=x.v)=>rnK_yes (x:=x) hit h1 h2
  have hno:=fun h1=>rnK_no (x:=x) hit h1
  have hst:(rnK q (k+1) x).v=(rnK q (k+1) x).v:=rfl;obtain⟨xv,hxv⟩:∃v,v=x.v:=⟨_,rfl⟩
  rw[←hxv]at n2 hyes hno;replace hxv:=Hd hxv;replace hyes:=Hd hyes;replace hno:=Hd hno;replace hit:=Hd hit;clear hst;by_cases he:xv=emp
  ·obtain⟨f1,f2,f3,f4⟩:=emp_t he;rw[←hno.out (fun h=>h.1 he)]at hN;replace he:=Hd he;replace hQ:=Hd hQ;replace hN:=Hd hN;go_upto_region 8 with fail
   go_quiet (fail);have hBn:=below_drewN (zB wr.heap.size wr) nq;have hQ2:=Hd (hQ.out.stay hBn);have hN2:=Hd (hN.out.stay hBn);go_wp2;go_roundw
   case rel=>exact⟨k,oQ,gQ,hQ2.out,hN2.out⟩
   case measure=>simp[intOf]
  obtain⟨f1,f2,f3,f4⟩:=emp_f he;by_cases hv:it.v=xv
  ·have u1:(it.v.toList==xv.toList)=true:=by rw[bqb];exact zW hv
   have hy:=Hd (hyes.out he hv);have hk1:=Hd (fun W (hW:Bw wr W)=>k1.out k oQ W (hQ.1.trans (hW.mono hQ.1.size)));replace he:=Hd he;replace hv:=Hd hv;replace hQ:=Hd hQ;replace hN:=Hd hN;go_upto_region 8 with fail
   go_quiet (fail);have hBn:=below_drewN (zB wr.heap.size wr) nq;have hQ2:=Hd (hQ.out.stay hBn);have hN2:=Hd (hN.out.stay hBn);have hk2:=Hd (hk1.out _ hBn);clear hBn;obtain⟨wd,hwd⟩:∃wd,wd=wr.drewN nq:=⟨_,rfl⟩
   rw[←hwd]at hQ2 hN2 hk2 ⊢;clear hwd b2 n2 y0;obtain⟨ga,cap,e,_⟩:=hN2.out.row oQ;injection e with e1 e2 e3
   subst e1 e3;have hLj:((mpR (rnW q) t j).set j (rnK q (k+1) x))[j]? =some (rnK q (k+1) x):=by
    rw[xL,if_pos rfl,if_pos (by rw[hml.out];exact hlt)]
   have hren:=fun W (h:OL W w.heap.size NoF 96 6 (.slice (some ⟨ga,0,none⟩) t.length cl) t.length (((mpR (rnW q) t j).set j (rnK q (k+1) x)).flatMap ndD))=>OL.ren (nmW k) h hLj
   rw[List.set_set,rnK_set,←hy.out]at hren;have hgne:ga≠w.heap.size:=fun e=>hN2.out.neBlk hQ2.out.2 dQ (by rw[←e];rfl)
   replace hren:=Hd hren;replace hLj:=Hd hLj;replace hgne:=Hd hgne;go_wp2_with (go_at_call 46;refine hk2.out.mono ?_;rintro e W2 ⟨rfl,hB2⟩;have hQ3:=hQ2.out.stay hB2;have hN3:=hN2.out.stay hB2;obtain⟨h5,h6,h7,u,h8⟩:=hren.out W2 hN3;have hQ4:=Hd (hQ3.put (k:=j*6+2) h6 hgne.out (.string (nmW k)));replace h5:=Hd h5;clear hQ3 hN3 hB2);go_roundw
   case rel=>exact⟨k,oQ,gQ,hQ4.out,h5.out⟩
   case measure=>simp[intOf]
  ·have u1:(it.v.toList==xv.toList)=false:=by rw[bqb];exact zV hv
   rw[←hno.out (fun h=>hv h.2)]at hN;replace he:=Hd he;replace hv:=Hd hv;replace hQ:=Hd hQ;replace hN:=Hd hN;go_upto_region 8 with fail
   go_quiet (fail);have hBn:=below_drewN (zB wr.heap.size wr) nq;have hQ2:=Hd (hQ.out.stay hBn);have hN2:=Hd (hN.out.stay hBn);go_wp2;go_roundw
   case rel=>exact⟨k,oQ,gQ,hQ2.out,hN2.out⟩
   case measure=>simp[intOf]
 ·have g1:¬(j:Int)<t.length:=oQ;obtain rfl:j=t.length:=oQ;rw[mpR_end]at hN;replace hN:=Hd hN;replace hQ:=Hd hQ;go_wp2;go_ret;exact⟨_,rfl,by rw[xC];exact hN.out,hQ.out.1⟩
theorem conjoined_k (A1 A2:Option Addr)(c1 c2:Nat)(F:Nat→Prop)(a b:List Nd)(hl:a.length+b.length+1≤1048576)(hk:∀x∈b,x.a<(b.length:Int)∧x.b<(b.length:Int))(w:World)(hF:∀b,F b→b<w.heap.size)(r1:Rd w F (.slice A1 a.length c1) (.sl a.length (a.flatMap ndD)))(r2:Rd w F (.slice A2 b.length c2) (.sl b.length (b.flatMap ndD))):
  Calls Tryz.prog 48 #[.slice A1 a.length c1,.slice A2 b.length c2] w (TrPost (cjn a b) w):=by
 have k0:=twinTree_k A1 c1 F a oQ w hF r1;have hcj:(a++b.map (upN a.length)).flatMap ndD++ndD (andN a.length b.length)=(cjn a b).flatMap ndD:=by unfold cjn;simp
 have hcl:=Hd (show (cjn a b).length=a.length+b.length+1 from cjn_len a b);replace k0:=Hd k0;replace r2:=Hd r2;replace hF:=Hd hF;replace hk:=Hd hk;replace hcj:=Hd hcj;clear r1;go_enter Tryz.func48,Tryz.ntmps48;go_upto_region 2 with(go_at_call 22;refine k0.out.mono ?_;rintro e W1 ⟨v1,rfl,hO1,hB1⟩)
 replace hO1:=Hd hO1;replace hB1:=Hd hB1;clear k0;go_wp2;go_loopw [5,6] (fun v i wr=>∃(j:Nat)(L:List Nd),j≤b.length∧i=.int .i64 j∧Hid (L=a++(b.take j).map (upN a.length))∧Bw w wr∧OL wr w.heap.size NoF 96 6 v L.length (L.flatMap ndD)) (fun _ i _=>b.length- (intOf i).toNat)
 case atStart=>exact⟨0,a,zE _,rfl,(by show a=_;simp),hB1.out,hO1.out⟩
 case round=>
 clear hO1 hB1;obtain⟨j,L,hj,rfl,hL,hB,hO⟩:=hrel;have hLn:L.length≤1048576:=by
  rw[hL.out,zH,xC,zO];omega
 obtain⟨A4,c4,rfl⟩:=hO.form;have hbw:=hB.size;by_cases hlt:j<b.length
 ·have g1:(0:Int)≤(j:Int):=oQ;have g2:(j:Int)<b.length:=oQ;obtain⟨x,hx⟩:=getx hlt;obtain⟨g,off,rfl,_,z0,z1,z2,z3,z4,z5⟩:=nd_at (r2.out.under hB hF.out) hx;obtain⟨xa,xb⟩:=hk.out x (zA hx);have hup:∀(y:Nd) v' w1 (o:Obj),((wr.alloc o).alloc (.cells ⟨ndV y⟩ 96)).grownBy w1 (Value.slice A4 L.length c4).ownBlock→OL w1 w.heap.size NoF 96 6 v' (L.length+1) (L.flatMap ndD++ndD y)→Bw w w1∧OL w1 w.heap.size NoF 96 6 v' (L++[y]).length ((L++[y]).flatMap ndD):=fun y v' w1 o hg hO1=>
   ⟨((hB.alloc hbw _).alloc (by simp;omega) _).grown hg (by simp;omega) (fun q hq=>(hO.lt q hq).1),by rw[zH,xD];simpa using hO1⟩
  have hnx:Hid (L++[upN a.length x]=a++(b.take (j+1)).map (upN a.length)):=by
   show _=_
   rw[zJ,hx,xR,hL.out];simp
  have hsx:upN a.length x={x with a:=if 0≤x.a then x.a+a.length else x.a,b:=if 0≤x.b then x.b+a.length else x.b}:=rfl;have haa:(a.length:Int)≤1048576:=oQ;have hbb:(b.length:Int)≤1048576:=oQ;have ha0:(0:Int)≤(a.length:Int):=oQ;replace hup:=Hd hup;replace hB:=Hd hB;replace hO:=Hd hO;replace hx:=Hd hx;obtain⟨op,nn,v,at_,xA,xB⟩:=x;simp only at hsx z0 z1 z2 z3 z4 z5 xa xb;obtain⟨a',ha'⟩:∃a',a'=if 0≤xA then xA+(a.length:Int)else xA:=⟨_,rfl⟩
  obtain⟨b',hb'⟩:∃b',b'=if 0≤xB then xB+(a.length:Int)else xB:=⟨_,rfl⟩
  rw[←ha',←hb']at hsx;rw[hsx]at hnx;replace hsx:=Hd hsx;by_cases pa:0≤xA
  ·obtain rfl:a'=xA+(a.length:Int):=by rw[ha'];exact if_pos pa
   replace ha':=Hd ha';by_cases pb:0≤xB
   ·obtain rfl:b'=xB+(a.length:Int):=by rw[hb'];exact if_pos pb
    replace hb':=Hd hb';go_wp2_with (at_builtin;refine wpa rfl (.tmp 38) (.tmp 40) _ rfl (m:=1) (news:=ndD ⟨op,nn,v,at_,xA+(a.length:Int),xB+(a.length:Int)⟩) elNd ((hO.out.alloc _).alloc _) rfl rfl (SrcLit sJ (rdlNd ⟨op,nn,v,at_,xA+(a.length:Int),xB+(a.length:Int)⟩)) rfl oQ oQ (by simp;omega) ?_;intro v' w1 hO1 hg1 ha1;obtain⟨B3,d3,rfl⟩:=hO1.form;have hI3:=Hd (hup.out ⟨op,nn,v,at_,xA+(a.length:Int),xB+(a.length:Int)⟩ _ _ _ hg1 hO1);clear hO1 hg1 ha1);go_roundw
    case rel=>exact⟨j+1,_,oQ,gQ,hnx,hI3.out.1,hI3.out.2⟩
    case measure=>exact mQ
   ·obtain rfl:b'=xB:=by rw[hb'];exact if_neg pb
    replace hb':=Hd hb';go_wp2_with (at_builtin;refine wpa rfl (.tmp 38) (.tmp 40) _ rfl (m:=1) (news:=ndD ⟨op,nn,v,at_,xA+(a.length:Int),b'⟩) elNd ((hO.out.alloc _).alloc _) rfl rfl (SrcLit sJ (rdlNd ⟨op,nn,v,at_,xA+(a.length:Int),b'⟩)) rfl oQ oQ (by simp;omega) ?_;intro v' w1 hO1 hg1 ha1;obtain⟨B3,d3,rfl⟩:=hO1.form;have hI3:=Hd (hup.out ⟨op,nn,v,at_,xA+(a.length:Int),b'⟩ _ _ _ hg1 hO1);clear hO1 hg1 ha1);go_roundw
    case rel=>exact⟨j+1,_,oQ,gQ,hnx,hI3.out.1,hI3.out.2⟩
    case measure=>exact mQ
  ·obtain rfl:a'=xA:=by rw[ha'];exact if_neg pa
   replace ha':=Hd ha';by_cases pb:0≤xB
   ·obtain rfl:b'=xB+(a.length:Int):=by rw[hb'];exact if_pos pb
    replace hb':=Hd hb';go_wp2_with (at_builtin;refine wpa rfl (.tmp 38) (.tmp 40) _ rfl (m:=1) (news:=ndD ⟨op,nn,v,at_,a',xB+(a.length:Int)⟩) elNd ((hO.out.alloc _).alloc _) rfl rfl (SrcLit sJ (rdlNd ⟨op,nn,v,at_,a',xB+(a.length:Int)⟩)) rfl oQ oQ (by simp;omega) ?_;intro v' w1 hO1 hg1 ha1;obtain⟨B3,d3,rfl⟩:=hO1.form;have hI3:=Hd (hup.out ⟨op,nn,v,at_,a',xB+(a.length:Int)⟩ _ _ _ hg1 hO1);clear hO1 hg1 ha1);go_roundw
    case rel=>exact⟨j+1,_,oQ,gQ,hnx,hI3.out.1,hI3.out.2⟩
    case measure=>exact mQ
   ·obtain rfl:b'=xB:=by rw[hb'];exact if_neg pb
    replace hb':=Hd hb';go_wp2_with (at_builtin;refine wpa rfl (.tmp 38) (.tmp 40) _ rfl (m:=1) (news:=ndD ⟨op,nn,v,at_,a',b'⟩) elNd ((hO.out.alloc _).alloc _) rfl rfl (SrcLit sJ (rdlNd ⟨op,nn,v,at_,a',b'⟩)) rfl oQ oQ (by simp;omega) ?_;intro v' w1 hO1 hg1 ha1;obtain⟨B3,d3,rfl⟩:=hO1.form;have hI3:=Hd (hup.out ⟨op,nn,v,at_,a',b'⟩ _ _ _ hg1 hO1);clear hO1 hg1 ha1);go_roundw
    case rel=>exact⟨j+1,_,oQ,gQ,hnx,hI3.out.1,hI3.out.2⟩
    case measure=>exact mQ
 ·have g1:¬(j:Int)<b.length:=oQ;obtain rfl:j=b.length:=oQ;have hLL:L=a++b.map (upN a.length):=by rw[hL.out,zL]
  have hLe:L.length=a.length+b.length:=by rw[hLL,zH,xC]
  have hcj2:=hcj.out;rw[←hLL]at hcj2;have haa:(a.length:Int)+b.length≤1048576:=oQ;have ha0:(0:Int)≤(a.length:Int):=oQ;have hb0:(0:Int)≤(b.length:Int):=oQ;replace hLL:=Hd hLL;replace hLe:=Hd hLe;replace hcj2:=Hd hcj2;replace hB:=Hd hB;replace hO:=Hd hO;go_wp2_with (at_builtin;refine wpa rfl (.tmp 42) (.tmp 53) _ rfl (m:=1) (news:=ndD (andN a.length b.length)) elNd (hO.out.alloc _) rfl rfl (Src.lit (nd_rdl wr _ (andN a.length b.length))) rfl oQ oQ (by simp;omega) ?_;intro v' w1 hO1 hg1 ha1);go_ret;refine⟨_,rfl,?_,(hB.out.alloc hbw _).grown hg1 (by simp;omega) (fun q hq=>(hO.out.lt q hq).1)⟩;rw[hcl.out,←hcj2.out,←hLe.out];exact hO1
end lawW
end Go.Proofs.YthaabihjeomipaaGreatDoor
