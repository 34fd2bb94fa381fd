/- The query with the names in the end. -/
import Derived.Test.YtfiodnlgiglhfaaGreatDoorP7
namespace Go.Proofs.YtfiodnlgiglhfaaGreatDoor
set_option maxRecDepth 100000
set_option maxHeartbeats 16000000
open Go.RowKit Go.Deep
set_option linter.unusedVariables false
set_option linter.unusedSimpArgs false
theorem to1 {S:List Td}{T:List Kd}{q:Qy}(h:treeO S T q q.wh=none):turnedO S T q=none:=by unfold turnedO;rw[h]
theorem to2 {S:List Td}{T:List Kd}{q:Qy}{wh:List Nd}(h:treeO S T q q.wh=some wh)(h2:retO S T q q.ret=none):turnedO S T q=none:=by unfold turnedO;rw[h];simp only[h2]
theorem to3 {S:List Td}{T:List Kd}{q:Qy}{wh:List Nd}{rt:List (List Nd)}(h:treeO S T q q.wh=some wh)(h2:retO S T q q.ret=some rt)(h3:q.by_=emp):turnedO S T q=some {q with items:=q.items.map (itT S T),wh:=wh,ret:=rt}:=by unfold turnedO;rw[h];simp only[h2];rw[if_pos h3]
theorem to4 {S:List Td}{T:List Kd}{q:Qy}{wh:List Nd}{rt:List (List Nd)}(h:treeO S T q q.wh=some wh)(h2:retO S T q q.ret=some rt)(h3:q.by_≠emp)(h4:attrNmO S T (allT q) q.by_=none):turnedO S T q=none:=by unfold turnedO;rw[h];simp only[h2];rw[if_neg h3,h4]
theorem to5 {S:List Td}{T:List Kd}{q:Qy}{wh:List Nd}{rt:List (List Nd)}{b:ByteArray}(h:treeO S T q q.wh=some wh)(h2:retO S T q q.ret=some rt)(h3:q.by_≠emp)(h4:attrNmO S T (allT q) q.by_=some b):turnedO S T q=some {q with items:=q.items.map (itT S T),wh:=wh,ret:=rt,by_:=b}:=by unfold turnedO;rw[h];simp only[h2];rw[if_neg h3,h4]
namespace evW
open nmW ckW
theorem turned_k {w:World}{B gt g:Nat}{F:Nat→Prop}{A:Option Addr}{c:Nat}{S:List Td}{T:List Kd}{nl:List Ls}{q:Qy}{s:Sl3}(h:TX w B gt g F A c S T nl q s)(hs:SzQ q)(hSB:SzB q)(hS:SzT S)(hT:T.length≤1048576)(hTf:∀k∈T,k.fs.length≤1048576)
  (hit:∀t,t=q.wh∨t∈q.ret→∀x∈t,x.at_=emp∨∃it∈q.items,it.v=x.v):
  Calls Tryz.prog 20 #[.pointer (some ⟨gt,0,none⟩)] w (TQPost (turnedO S T q) w):=by
 have hTX:=h;obtain⟨x0,x1,x2,x3,x4,x5,x6,x7,x8⟩:=h.cells;have hgt:=h.bt.lt;have hil:=hs.il;have hrl:=hs.rl;have hits:=hs.it;have hFlt:=h.qr.lt;have hsum:=fun j=>zU (AT_len q j) hSB.ty
 have kx:=fun W (hW:Bw w W)=>xW ((h.stay hW).cells.2.2.1) (xW ((h.stay hW).cells.2.2.2.2.2.1) ((h.stay hW).cells.2.2.2.2.2.2.2.2))
 have kn:=fun W (hW:Bw w W) n=>typeName_k (h.stay hW) hS hT n
 have ka:=fun W (hW:Bw w W)(A5:Option Addr)(c5:Nat) tys a (h1:tys.length≤1048576) r=>attrName_k (h.stay hW) hS hT hTf A5 c5 (fun b=>b<W.heap.size) tys a h1 (fun b hb=>hb) r
 have kw:=fun W (hW:Bw w W)=>tree_k (h.stay hW) hs hS hT hTf s.a2 s.c2 F q.wh hs.wh.1 (h.stay hW).qr.r2 (hit q.wh (.inl rfl))
 have kt:=fun W (hW:Bw w W)(A5:Option Addr)(c5:Nat) t (ht:t∈q.ret) r=>tree_k (h.stay hW) hs hS hT hTf A5 c5 F t (hs.re t ht).1 r (hit t (.inr ht))
 have kit:=fun W (hW:Bw w W)(i:Nat) it (hi:q.items[i]? =some it)=>it_at (h.stay hW).qr.r1 hi
 have kre:=fun W (hW:Bw w W)(i:Nat) t (hi:q.ret[i]? =some t)=>re_at (h.stay hW).qr.r3 hi
 obtain⟨R0,hR0⟩:∃R,R=turnedO S T q:=⟨_,rfl⟩
 rw[←hR0];have e1:treeO S T q q.wh=none→R0=none:=fun h=>by rw[hR0];exact to1 h
 have e2:∀wh,treeO S T q q.wh=some wh→retO S T q q.ret=none→R0=none:=fun wh h h2=>by rw[hR0];exact to2 h h2
 have e3:∀wh rt,treeO S T q q.wh=some wh→retO S T q q.ret=some rt→q.by_=emp→R0=some {q with items:=q.items.map (itT S T),wh:=wh,ret:=rt}:=fun wh rt h h2 h3=>by rw[hR0];exact to3 h h2 h3
 have e4:∀wh rt,treeO S T q q.wh=some wh→retO S T q q.ret=some rt→q.by_≠emp→attrNmO S T (allT q) q.by_=none→R0=none:=fun wh rt h h2 h3 h4=>by rw[hR0];exact to4 h h2 h3 h4
 have e5:∀wh rt b,treeO S T q q.wh=some wh→retO S T q q.ret=some rt→q.by_≠emp→attrNmO S T (allT q) q.by_=some b→R0=some {q with items:=q.items.map (itT S T),wh:=wh,ret:=rt,by_:=b}:=fun wh rt b h h2 h3 h4=>by rw[hR0];exact to5 h h2 h3 h4
 clear hR0;obtain⟨A1,c1,A2,c2,A3,c3⟩:=s;simp only at x2 x5 x8 kx kw;have hst:L1 w ((w.alloc (.cells ⟨zqV⟩ 32)).alloc (.cells ⟨quV q (.slice none 0 0) (.slice A2 q.wh.length c2) (.slice none 0 0) q.by_⟩ 32)) S T q (.slice A2 q.wh.length c2) 0 (.slice none 0 0) (.slice none 0 0) []:=
  ⟨⟨(bA).alloc (by simp) _,(Blk.new _ _ _).alloc _,Blk.new' (by simp)⟩,RW.nil _ _ _,.nil _ _ _ _ _,fun p hp=>by simp at hp,rfl⟩
 simp only[zqV,quV]at hst;replace hTX:=Hd hTX;replace hits:=Hd hits;replace hFlt:=Hd hFlt;replace hsum:=Hd hsum;replace kx:=Hd kx;replace kn:=Hd kn;replace ka:=Hd ka;replace kw:=Hd kw;replace kt:=Hd kt;replace kit:=Hd kit;replace kre:=Hd kre;replace e1:=Hd e1;replace e2:=Hd e2;replace e3:=Hd e3;replace e4:=Hd e4;replace e5:=Hd e5;replace hst:=Hd hst;clear h hs hS hT hTf hSB hit;go_enter Tryz.func20,Tryz.ntmps20;go_wp2;clear x0 x1 x2 x3 x4 x5 x6 x7 x8;go_loopw [5,28] (fun a i wr=>∃(j:Nat)(v1:Value)(l:List (It×Value)),j≤q.items.length∧i=.int .i64 j∧L1 w wr S T q (.slice A2 q.wh.length c2) j a v1 l) (fun _ i _=>q.items.length- (intOf i).toNat)
 case atStart=>exact⟨0,.slice none 0 0,[],zE _,rfl,hst.out⟩
 case round=>
  clear hst;obtain⟨j,v1,l,hj,rfl,hL⟩:=hrel;obtain⟨Aa,ca,rfl⟩:=hL.al.form;obtain⟨Ai,ci,rfl⟩:=hL.it.kr.form;have hB:=hL.qs.hb;have hbw:=hB.size;have hll:l.length≤q.items.length:=by
   have:=congrArg List.length hL.eq;rw[xC,xC,zO]at this;omega
  by_cases hlt:j<q.items.length
  ·obtain⟨it,hi⟩:=getx hlt;have him:=zA hi;have htl:=(hits.out it him).1.1;obtain⟨gI,oI,A5,c5,eI,hFI,rx0,b0,b1,b2,b3,b4⟩:=kit.out w bR j it hi;try simp only at eI
   subst eI;have hgI:=hFlt.out gI hFI;have a0:=(hB.cell (p:=⟨gI,oI+j*5,none⟩) hgI).trans b0;have a1:=(hB.cell (p:=⟨gI,oI+j*5+1,none⟩) hgI).trans b1;have a2:=(hB.cell (p:=⟨gI,oI+j*5+2,none⟩) hgI).trans b2;have a3:=(hB.cell (p:=⟨gI,oI+j*5+3,none⟩) hgI).trans b3;have a4:=(hB.cell (p:=⟨gI,oI+j*5+4,none⟩) hgI).trans b4;have rx:=rx0.under hB hFlt.out;replace rx0:=Hd rx0;clear b0 b1 b2 b3 b4;have g0:(0:Int)≤(j:Int):=by omega
   have g1:(j:Int)<q.items.length:=by omega
   have hsm:=hsum.out (j+1);rw[AT_next hi,zH]at hsm;have hBI:Bw wr (wr.alloc (.cells ⟨itV it (.slice A5 it.tys.length c5)⟩ 54)):=bA;have hLa:=hL.stay hBI;have hbi:=Blk.new wr 54 (itV it (.slice A5 it.tys.length c5));have rxa:=rx.under hBI (fun b hb=>zF (hFlt.out b hb) hB.size);have hpost:∀w1 v',(wr.alloc (.cells ⟨itV it (.slice A5 it.tys.length c5)⟩ 54)).grownBy w1 (Value.slice Aa (AT q j).length ca).ownBlock→OL w1 (w.heap.size+1+1) NoB 9 1 v' ((AT q j).length+it.tys.length) ((AT q j).flatMap strD++it.tys.flatMap strD)→(v'.ownBlock=(Value.slice Aa (AT q j).length ca).ownBlock∨v'.ownBlock=some (wr.alloc (.cells ⟨itV it (.slice A5 it.tys.length c5)⟩ 54)).heap.size)→
     w1.cell? ⟨wr.heap.size,1,none⟩=some (.slice A5 it.tys.length c5)∧w1.frozen? ⟨wr.heap.size,1,none⟩=false∧wr.heap.size<w1.heap.size∧QB2 w (w1.setCell ⟨wr.heap.size,1,none⟩ (.slice none 0 0)) (quV q (.slice Ai l.length ci) (.slice A2 q.wh.length c2) (.slice none 0 0) q.by_)∧RW KI (w1.setCell ⟨wr.heap.size,1,none⟩ (.slice none 0 0)) (w.heap.size+1+1) (.slice Ai l.length ci) l∧
     OL (w1.setCell ⟨wr.heap.size,1,none⟩ (.slice none 0 0)) (w.heap.size+1+1) NoB 9 1 v' (AT q (j+1)).length ((AT q (j+1)).flatMap strD)∧(∀p∈l,p.2.ownBlock=none∨p.2.ownBlock≠v'.ownBlock)∧Blk (w1.setCell ⟨wr.heap.size,1,none⟩ (.slice none 0 0)) wr.heap.size 54 [.bool it.neg,.slice none 0 0,.string it.v,.int .i64 it.lo,.int .i64 it.hi]:=fun w1 v' hg hO ha=>by
    obtain⟨p1,p2,p3,p4⟩:=hLa.all hi hg hO ha;have hne:some wr.heap.size≠(Value.slice Aa (AT q j).length ca).ownBlock:=fun e=>by have:=(hL.al.lt _ e.symm).2;omega
    have hb1:=hbi.grown hg hne;have hb2:=hL.qs.b4.lt;have hnei:∀{e size n:Nat}{v:Value}{ds:List D},OL wr (w.heap.size+1+1) NoB e size v n ds→v.ownBlock≠some wr.heap.size:=fun ho e=>by have:=(ho.lt _ e).2;omega
    have hv':v'.ownBlock≠some wr.heap.size:=fun e=>by
     rcases ha with e2 |e2
     ·rw[e2]at e;exact hne e.symm
     ·rw[e2]at e;injection e with e;simp at e
    have hgs:w1.grownBy (w1.setCell ⟨wr.heap.size,1,none⟩ (.slice none 0 0)) (some wr.heap.size):=grown_set;refine⟨hb1.cell 1,hb1.frozen 1,hb1.lt,p1.grown hgs (fun q hq=>by injection hq with hq;omega),p2.kept hgs (.inr (hnei hL.it.kr)) (fun p hp=>.inr (hnei (hL.it.fr p hp))),p3.kept hgs (.inr hv') (fun _ hb=>hb.elim),p4,?_⟩;have:=hb1.set_ 1 (.slice none 0 0);simpa[itV] using this
   have hal:=Hd hLa.al;replace hpost:=Hd hpost;replace rxa:=Hd rxa;have hs0:=hL.qs.b4.lt;replace him:=Hd him;replace hLa:=Hd hLa;have hLs:=Hd hL;clear hL hbi;simp only[itV]at rxa hpost hal;obtain⟨wo,hwo⟩:∃wo:World,wo=wr:=⟨_,rfl⟩
   subst hwo;go_upto_region 10 with(at_builtin;refine wpa rfl (.tmp 32) (.tmp 34) _ rfl (m:=it.tys.length) (news:=it.tys.flatMap strD) elStr hal.out rfl rfl (Rd.srcq (PlainL.flatMap strD_pl it.tys) rxa.out) (strD_len it.tys) (by omega) (by omega) (by simp;omega) ?_;intro v' w1 hO1 hg1 ha1;obtain⟨B3,d3,rfl⟩:=hO1.form;obtain⟨z1,z2,z5,z3⟩:=hpost.out _ _ hg1 hO1 ha1;replace z3:=Hd z3;clear hO1 hg1 ha1)
   obtain⟨W2,hW2e⟩:∃W2,W2=w1.setCell ⟨wo.heap.size,1,none⟩ (.slice none 0 0):=⟨_,rfl⟩
   rw[←hW2e]at z3 ⊢;have hs2:w1.heap.size=W2.heap.size:=by rw[hW2e];simp[World.setCell]
   have hIN0:Hid (IN W2 W2 wo.heap.size it 0 (it.tys.map (typeNm S T)) (.slice none 0 0)):=⟨World.grownBy.refl _ _,z3.out.2.2.2.2,.nil _ _ _ _ _,by omega⟩;have hlt2:wo.heap.size<W2.heap.size:=by omega
   clear z1 z2 a0 a1 a2 a3 a4 hal;replace hW2e:=Hd hW2e;replace hs2:=Hd hs2;go_wp2;go_loopw [41] (fun i wr=>∃(k:Nat)(u:Value),k≤it.tys.length∧i=.int .i64 k∧IN W2 wr wo.heap.size it k (it.tys.map (typeNm S T)) u) (fun i _=>it.tys.length- (intOf i).toNat)
   case atStart=>exact⟨0,.slice none 0 0,zE _,rfl,hIN0.out⟩
   case round=>
    clear hIN0;obtain⟨k,u,hk,rfl,hI⟩:=hrel;obtain⟨Au,cu,rfl⟩:=hI.ou.form;have hQr:=z3.out.1.grown hI.hg (fun q hq=>by injection hq with hq;omega);have hBr:=hQr.hb;have hwl:=hI.bi.lt;have hws:=hI.hg.size;by_cases hltk:k<it.tys.length
    ·obtain⟨n,hn⟩:=getx hltk;obtain⟨b5,o5,rfl,_,n0⟩:=str_at (rx0.out.under hBr hFlt.out) hn;have p0:(0:Int)≤(k:Int):=by omega
     have p1:(k:Int)<it.tys.length:=(by omega);have hTk:(it.tys.map (typeNm S T))[k]? =some (typeNm S T n):=by rw[zG,hn];rfl
     have c1':wr.cell? ⟨wo.heap.size,1,none⟩=some (.slice Au k cu):=hI.bi.cell 1;have knn:=kn.out wr.drew hBr.drew n;generalize typeNm S T n=nm at knn hTk;replace knn:=Hd knn;replace hTk:=Hd hTk;replace hn:=Hd hn;replace hI:=Hd hI;replace hQr:=Hd hQr;replace hBr:=Hd hBr;go_upto_region 13 with fail
     clear n0;have hSS:True∧wr.drew.cell? ⟨wo.heap.size,1,none⟩=some (.slice Au k cu):=⟨trivial,c1'⟩;refine G_region (p:=6) (S0:=fun _=>True) (S1:=fun W=>W.cell? ⟨wo.heap.size,1,none⟩=some (.slice Au k cu)) (by kernel_rfl) ?_;refine' TkA 0 rfl hSS ?_;try simp only[Act.put,TkS]
     refine' G_take1 (i:=1) (v:=_) rfl (by decide) (by kernel_rfl) (by kernel_rfl) (by kernel_rfl) rfl (by kernel_rfl) (by kernel_rfl) (fun _ _ _ h=>h) hSS (.inl ⟨by first|(with_reducible rfl)|go_simp,?hya1⟩) ?resta1
     case hya1=>(intro W hW;(try dsimp only at hW);go_simp<;>with_reducible rfl)
     refine' TkA 2 rfl hSS ?_;refine' TkA 3 rfl hSS ?_;try simp only[Act.put,TkS]
     refine Gs 4 rfl fun K hK=>?_
     go_simp;go_at_call 44;refine knn.out.mono ?_;rintro e W4 ⟨rfl,hB4⟩;have hI4:=Hd ((hI.out.stay (bR).drew).stay hB4);have hc4:W4.cell? ⟨wo.heap.size,1,none⟩=some (.slice Au k cu):=hI4.out.bi.cell 1;have hwl4:=hI4.out.bi.lt;have hws4:=hI4.out.hg.size;refine hK.out _ _ ⟨trivial,fun _=>hc4⟩ ?_;clear hK K hSS hB4;refine Gs 5 rfl fun K hK=>?_
     go_simp;refine hK.out _ _ ⟨trivial,fun _=>(hI4.out.stay bA).bi.cell 1⟩ ?_;clear hK K;refine Gs 6 rfl fun K hK=>?_
     refine step_app (by rfl) (.tmp 46) (.tmp 50) _ (by rfl) (m:=1) (news:=strD nm) elStr (by exact hI4.out.ou.alloc _) (by rfl) (by rfl) (by exact Src.lit (show RdL W4 _ [.string nm] (strD nm)from⟨.v _ rfl,trivial⟩)) rfl (by omega) (by omega) (by simp;omega) ?_;intro v5 w5 hO5 hg5 ha5;obtain⟨B5,d5,rfl⟩:=hO5.form;obtain⟨t1,t2,t3⟩:=hI4.out.put hTk.out hg5 hO5;replace t3:=Hd t3;refine hK.out _ _ ⟨trivial,fun _=>t1⟩ ?_;have hSX:True∧w5.cell? ⟨wo.heap.size,1,none⟩=some (.slice Au k cu):=⟨trivial,t1⟩;clear hK K hO5 hg5 ha5;refine' TkA 7 rfl hSX ?_;try simp only[Act.put,TkS]
     refine Gs 8 rfl fun K hK=>?_
     go_simp;refine hK.out _ _ ⟨trivial,fun h=>absurd (h.symm.trans (by kernel_rfl:_=true)) (by simp)⟩ ?_;clear hK K;refine Gd _ ?_;try simp only[Act.put,TkS]
     go_wp2;go_roundw
     case rel=>exact⟨k+1,_,by omega,by go_num,t3.out⟩
     case measure=>simp[intOf];omega
    ·obtain rfl:k=it.tys.length:=by omega
     have hou:=hI.ou;rw[xH (by simp)]at hou;have j0:wr.cell? ⟨wo.heap.size,0,none⟩=some (.bool it.neg):=hI.bi.cell 0;have j1:wr.cell? ⟨wo.heap.size,1,none⟩=some (.slice Au it.tys.length cu):=hI.bi.cell 1;have j2:wr.cell? ⟨wo.heap.size,2,none⟩=some (.string it.v):=hI.bi.cell 2;have j3:wr.cell? ⟨wo.heap.size,3,none⟩=some (.int .i64 it.lo):=hI.bi.cell 3;have j4:wr.cell? ⟨wo.heap.size,4,none⟩=some (.int .i64 it.hi):=hI.bi.cell 4;have q0:wr.cell? ⟨w.heap.size+1,0,none⟩=some (.slice Ai l.length ci):=hQr.b4.cell 0;have q0l:=hQr.b4.lt;obtain⟨_,m1,m2,m3,m4⟩:=z3.out;have hnei:∀{e size n:Nat}{v:Value}{ds:List D},OL wo (w.heap.size+1+1) NoB e size v n ds→v.ownBlock=none∨v.ownBlock≠some wo.heap.size:=fun ho=>.inr fun e=>by have:=(ho.lt _ e).2;omega
     have hIr:RW KI wr (w.heap.size+1+1) (.slice Ai l.length ci) l:=m1.kept hI.hg (hnei hLs.out.it.kr) (fun p hp=>hnei (hLs.out.it.fr p hp));have hAr:=m2.kept hI.hg (.inr (m2.neBlk m4 (by decide))) (fun _ hb=>hb.elim);have hu:OL wr (w.heap.size+1+1) NoB 9 1 (.slice Au it.tys.length cu) it.tys.length ((it.tys.map (typeNm S T)).flatMap strD):=hou.base (by omega);have hud:∀qq,(Value.slice Au it.tys.length cu).ownBlock=some qq→(∀p∈l,p.2.ownBlock≠some qq)∧(Value.slice B3 ((AT q j).length+it.tys.length) d3).ownBlock≠some qq:=fun qq hq=>by
      have h1:=(hou.lt qq hq).1;exact⟨fun p hp e=>by have:=((m1.fr p hp).lt qq e).2;omega,fun e=>by have:=(m2.lt qq e).2;omega⟩
     have hpost2:=fun w1 v' (hg:(wr.alloc (.cells ⟨[.bool it.neg,.slice Au it.tys.length cu,.string it.v,.int .i64 it.lo,.int .i64 it.hi]⟩ 54)).grownBy w1 (Value.slice Ai l.length ci).ownBlock)(hO:OL w1 (w.heap.size+1+1) NoB 54 5 v' (l.length+1) (l.flatMap icD++icD (itT S T it,.slice Au it.tys.length cu)))=>L1.item hQr hIr hAr m3 hLs.out.eq hi hu hud hg hO
     have hkr:=Hd (hIr.kr.alloc (.cells ⟨[.bool it.neg,.slice Au it.tys.length cu,.string it.v,.int .i64 it.lo,.int .i64 it.hi]⟩ 54));replace hpost2:=Hd hpost2;clear hou m1 m2 m3 m4 hIr hAr hu hud hI hQr;go_wp2_with (at_builtin;refine wpa rfl (.tmp 55) (.tmp 57) _ rfl (m:=1) (news:=icD (itT S T it,.slice Au it.tys.length cu)) elIt hkr.out rfl rfl (Src.lit (ic_rd wr _ (itT S T it) Au it.tys.length cu)) rfl (by omega) (by omega) (by simp;omega) ?_;intro v' w7 hO7 hg7 ha7;obtain⟨B7,d7,rfl⟩:=hO7.form;obtain⟨t1,t2,t3⟩:=hpost2.out _ _ hg7 hO7;replace t3:=Hd t3;clear hO7 hg7 ha7);go_roundw
     case rel=>exact⟨j+1,_,_,by omega,by go_num,t3.out⟩
     case measure=>simp[intOf];omega
  ·obtain rfl:j=q.items.length:=by omega
   rw[AT_all]at hL ⊢;obtain⟨y2,y5,y8⟩:=kx.out wr hB;have kww:=kw.out wr hB;have hleq:=hL.eq;rw[zL]at hleq;replace hleq:=Hd hleq;have hAl:=hsum.out q.items.length;rw[AT_all]at hAl;replace hL:=Hd hL;cases hA:treeO S T q q.wh with
   |none=>
    have hR:=Hd (e1.out hA);rw[hA]at kww;replace hA:=Hd hA;replace kww:=Hd kww;go_wp2_with (first
     |(go_at_call 45;refine kww.out.mono ?_;rintro e W6 ⟨v6,rfl,_,⟨A6,n6,c6,rfl⟩,hB6⟩;simp only[Option.isSome_none];have hq6:=hL.out.qs.stay hB6;have s3:W6.cell? ⟨w.heap.size+1,3,none⟩=some (.slice A2 q.wh.length c2):=hq6.b4.cell 3;have s4:=hq6.b4.frozen 3;replace hq6:=Hd (hq6.put 3 (.slice A6 n6 c6));clear hB6)
     |(refine at_op (.store 32 (.tmp 2) (.tmp 74)) rfl ?_;refine wsb rfl 32 (.tmp 2) (.tmp 74) rfl (cs':=zqV) hq6.out.b2 aggQu rfl rfl rfl rfl ?_;intro w8 hz8 hg8))
    exact bpb rfl hz8 aggQu rfl rfl rfl (TQPost.no hR.out (hq6.out.hb.grown hg8 hq6.out.hb.size (fun qq hq=>by injection hq with hq;omega)))
   |some wh'=>
    rw[hA]at kww;replace kww:=Hd kww;go_upto_region 21 with(go_at_call 45;refine kww.out.mono ?_;rintro e W6 ⟨v6,rfl,hO6,⟨A6,n6,c6,rfl⟩,hB6⟩;simp only[Option.isSome_some];have hq6:=hL.out.qs.stay hB6;have s3:W6.cell? ⟨w.heap.size+1,3,none⟩=some (.slice A2 q.wh.length c2):=hq6.b4.cell 3;have s4:=hq6.b4.frozen 3;have hM0:=L2.of hL.out hB6 (hO6 wh' rfl);clear hq6 hO6)
    have hA':=Hd hA;obtain⟨W7,hW7⟩:∃W7,W7=W6.setCell ⟨w.heap.size+1,3,none⟩ (.slice A6 n6 c6):=⟨_,rfl⟩
    rw[←hW7]at hM0 ⊢;clear y2 y5 y8 s3 s4 hB6 hA;obtain⟨y2,y5,y8⟩:=kx.out W7 hM0.qs.hb;replace hW7:=Hd hW7;replace hM0:=Hd hM0;go_wp2;go_loopw [81] (fun i wr=>∃(kj:Nat)(v3:Value)(rl:List (List Nd×Value)),kj≤q.ret.length∧rl.length=kj∧i=.int .i64 kj∧L2 w wr q (.slice Aa (allT q).length ca) (.slice Ai l.length ci) (.slice A6 n6 c6) v3 l wh' rl∧Hid (retO S T q q.ret=(retO S T q (q.ret.drop kj)).map (rl.map (·.1)++ ·))) (fun i _=>q.ret.length- (intOf i).toNat)
    case atStart=>exact⟨0,.slice none 0 0,[],zE _,rfl,rfl,hM0.out,by show _=_;simp⟩
    case round=>
     clear hM0 y2 y5 y8;obtain⟨kj,v3,rl,hkj,hrll,rfl,hM,hp3⟩:=hrel;obtain⟨Ar,cr,rfl⟩:=hM.oq.r.kr.form;have hBr:=hM.qs.hb;have hbr:=hBr.size;by_cases hlt3:kj<q.ret.length
     ·obtain⟨t,ht⟩:=getx hlt3;have htm:=zA ht;obtain⟨gR,oR,At,ct,eR,_,rt,r0⟩:=kre.out wr hBr kj t ht;try simp only at eR
      subst eR;have p0:(0:Int)≤(kj:Int):=by omega
      have p1:(kj:Int)<q.ret.length:=(by omega);have ktt:=kt.out wr hBr At ct t htm rt;replace hrll:=Hd hrll;cases hA3:treeO S T q t with
      |none=>
       rw[hA3]at ktt;have hR:=Hd (e2.out wh' hA'.out (ret_stop ht hA3 hp3.out));replace ktt:=Hd ktt;replace hA3:=Hd hA3;replace ht:=Hd ht;replace htm:=Hd htm;replace rt:=Hd rt;replace hM:=Hd hM;go_wp2_with (first
        |(go_at_call 45;refine ktt.out.mono ?_;rintro e W8 ⟨v8,rfl,_,⟨A8,n8,c8,rfl⟩,hB8⟩;simp only[Option.isSome_none];have hq6:=Hd (hM.out.qs.stay hB8);clear hB8)
        |(refine at_op (.store 32 (.tmp 2) (.tmp 93)) rfl ?_;refine wsb rfl 32 (.tmp 2) (.tmp 93) rfl (cs':=zqV) hq6.out.b2 aggQu rfl rfl rfl rfl ?_;intro w8 hz8 hg8))
       exact bpb rfl hz8 aggQu rfl rfl rfl (TQPost.no hR.out (hq6.out.hb.grown hg8 hq6.out.hb.size (fun qq hq=>by injection hq with hq;omega)))
      |some t'=>
       rw[hA3]at ktt;have hst:=Hd (ret_step ht hA3 hp3.out);replace ktt:=Hd ktt;replace hA3:=Hd hA3;replace ht:=Hd ht;replace htm:=Hd htm;replace rt:=Hd rt;replace hM:=Hd hM;go_wp2_with (first
        |(go_at_call 45;refine ktt.out.mono ?_;rintro e W8 ⟨v8,rfl,hO8,⟨A8,n8,c8,rfl⟩,hB8⟩;simp only[Option.isSome_some];have hM8:=hM.out.stay hB8;have q6:W8.cell? ⟨w.heap.size+1,6,none⟩=some (.slice Ar rl.length cr):=hM8.qs.b4.cell 6;have q6l:=hM8.qs.b4.lt;have hO9:=hO8 t' rfl;have hz8:=hM8.qs.hb.size;have hpost3:=fun w1 v' (hg:(W8.alloc (.cells ⟨[.slice A8 n8 c8]⟩ 29)).grownBy w1 (Value.slice Ar rl.length cr).ownBlock) hO=>L2.put (t:=t') (u:=.slice A8 n8 c8) (b:=wr.heap.size) (v3':=v') hM8 (hO9.alloc (.cells ⟨[.slice A8 n8 c8]⟩ 29)) (fun qq hq=>⟨fun p hp e=>(by have h1:=(hO9.lt qq hq).1;have h2:=((hM.out.oq.r.fr p hp).lt qq e).2;omega),fun e=>(by have h1:=(hO9.lt qq hq).1;have h2:=(hM.out.oq.wr.lt qq e).2;omega)⟩) (by have:=hM.out.qs.b4.lt;omega) hg hO;have hkr:=Hd (hM8.oq.r.kr.alloc (.cells ⟨[.slice A8 n8 c8]⟩ 29));replace hpost3:=Hd hpost3;clear hB8 hM8 hO8 hO9)
        |(at_builtin;refine wpa rfl (.tmp 95) (.tmp 97) _ rfl (m:=1) (news:=rcD (t',.slice A8 n8 c8)) elRe hkr.out rfl rfl (Src.lit (rc_rd W8 _ t' A8 n8 c8)) rfl (by have:=hrll.out;omega) (by omega) (by simp;omega) ?_;intro v' w9 hO9 hg9 ha9;obtain⟨B9,d9,rfl⟩:=hO9.form;obtain⟨t1,t2,t3⟩:=hpost3.out _ _ hg9 hO9;replace t3:=Hd t3;clear hO9 hg9 ha9))
       go_roundw
       case rel=>exact⟨kj+1,_,rl++[(t',.slice A8 n8 c8)],by omega,by rw[zH,hrll.out];rfl,by go_num,t3.out,by show _=_;rw[hst.out];simp⟩
       case measure=>simp[intOf];omega
     ·obtain rfl:kj=q.ret.length:=by omega
      have hret:retO S T q q.ret=some (rl.map (·.1)):=(by rw[hp3.out,List.drop_length];simp[retO]);have b0:wr.cell? ⟨w.heap.size+1,0,none⟩=some (.slice Ai l.length ci):=hM.qs.b4.cell 0;have b1:wr.cell? ⟨w.heap.size+1,1,none⟩=some (.int .i64 q.mode):=hM.qs.b4.cell 1;have b2:wr.cell? ⟨w.heap.size+1,2,none⟩=some (.int .i64 q.after):=hM.qs.b4.cell 2;have b3:wr.cell? ⟨w.heap.size+1,3,none⟩=some (.slice A6 n6 c6):=hM.qs.b4.cell 3;have b4:wr.cell? ⟨w.heap.size+1,4,none⟩=some (.int .i64 q.within):=hM.qs.b4.cell 4;have b5:wr.cell? ⟨w.heap.size+1,5,none⟩=some (.string q.by_):=hM.qs.b4.cell 5;have b6:wr.cell? ⟨w.heap.size+1,6,none⟩=some (.slice Ar rl.length cr):=hM.qs.b4.cell 6;by_cases hby:q.by_=emp
      ·have f1:(q.by_.toList==([]:List UInt8))=true:=(by rw[emp_eq];exact zW hby);have f2:(q.by_.toList != ([]:List UInt8))=false:=by rw[bne,f1];rfl
       have f3:q.by_.toList.isEmpty=true:=(by rw[hby,show emp.toList=[] by rw[ByteArray.toList_eq];rfl];rfl);have hR:=Hd (e3.out wh' _ hA'.out hret hby);replace hby:=Hd hby;replace hret:=Hd hret;replace hrll:=Hd hrll;replace hM:=Hd hM;go_wp2_with (refine at_op (.store 32 (.tmp 2) (.tmp 116)) rfl ?_;refine wsb rfl 32 (.tmp 2) (.tmp 116) rfl (cs':=quV q (.slice Ai l.length ci) (.slice A6 n6 c6) (.slice Ar rl.length cr) q.by_) hM.out.qs.b2 aggQu rfl rfl rfl rfl ?_;intro w8 hz8 hg8);exact bpb rfl hz8 aggQu rfl rfl rfl (TQPost.yes (q:={q with items:=q.items.map (itT S T),wh:=wh',ret:=rl.map (·.1)}) hR.out ((hM.out.oq.under hg8 (show w.heap.size<w.heap.size+1+1 by omega)).base (by omega)) hleq.out rfl (hM.out.qs.hb.grown hg8 hM.out.qs.hb.size (fun qq hq=>by injection hq with hq;omega)))
      ·have f1:(q.by_.toList==([]:List UInt8))=false:=(by rw[emp_eq];exact zV hby);have f2:(q.by_.toList != ([]:List UInt8))=true:=by rw[bne,f1];rfl
       have f3:q.by_.toList.isEmpty=false:=by
        cases ho:q.by_.toList with
        |nil=>rw[ho]at f1;simp at f1
        |cons=>rfl
       have kaa:=ka.out wr hBr Aa ca (allT q) q.by_ (by omega) (hM.al.rd (fun b hb _=>hb.elim) (fun b _ hb=>hb));cases hA4:attrNmO S T (allT q) q.by_ with
       |none=>
        rw[hA4]at kaa;have hR:=Hd (e4.out wh' _ hA'.out hret hby hA4);replace kaa:=Hd kaa;replace hA4:=Hd hA4;replace hby:=Hd hby;replace hret:=Hd hret;replace hrll:=Hd hrll;replace hM:=Hd hM;go_wp2_with (first
         |(go_at_call 46;refine kaa.out.mono ?_;rintro e W8 ⟨rfl,hB8⟩;simp only[Option.isSome_none,Option.getD_none];have hq6:=hM.out.qs.stay hB8;have s3:W8.cell? ⟨w.heap.size+1,5,none⟩=some (.string q.by_):=hq6.b4.cell 5;have s4:=hq6.b4.frozen 5;replace hq6:=Hd (hq6.put 5 (.string emp));clear hB8 b0 b1 b2 b3 b4 b5 b6)
         |(refine at_op (.store 32 (.tmp 2) (.tmp 115)) rfl ?_;refine wsb rfl 32 (.tmp 2) (.tmp 115) rfl (cs':=zqV) hq6.out.b2 aggQu rfl rfl rfl rfl ?_;intro w8 hz8 hg8))
        exact bpb rfl hz8 aggQu rfl rfl rfl (TQPost.no hR.out (hq6.out.hb.grown hg8 hq6.out.hb.size (fun qq hq=>by injection hq with hq;omega)))
       |some b=>
        rw[hA4]at kaa;have hR:=Hd (e5.out wh' _ b hA'.out hret hby hA4);replace kaa:=Hd kaa;replace hA4:=Hd hA4;replace hby:=Hd hby;replace hret:=Hd hret;replace hrll:=Hd hrll;replace hM:=Hd hM;go_wp2_with (first
         |(go_at_call 46;refine kaa.out.mono ?_;rintro e W8 ⟨rfl,hB8⟩;simp only[Option.isSome_some,Option.getD_some];have hq6:=hM.out.qs.stay hB8;have hoq:=Hd (OQ.far (x:=.string b) (p:=⟨w.heap.size+1,5,none⟩) (hM.out.stay hB8).oq (by show w.heap.size+1<_;omega));clear b0 b1 b2 b3 b4 b5 b6;have s5:W8.cell? ⟨w.heap.size+1,5,none⟩=some (.string q.by_):=hq6.b4.cell 5;have s4:=hq6.b4.frozen 5;have b0:W8.cell? ⟨w.heap.size+1,0,none⟩=some (.slice Ai l.length ci):=hq6.b4.cell 0;have b1:W8.cell? ⟨w.heap.size+1,1,none⟩=some (.int .i64 q.mode):=hq6.b4.cell 1;have b2:W8.cell? ⟨w.heap.size+1,2,none⟩=some (.int .i64 q.after):=hq6.b4.cell 2;have b3:W8.cell? ⟨w.heap.size+1,3,none⟩=some (.slice A6 n6 c6):=hq6.b4.cell 3;have b4:W8.cell? ⟨w.heap.size+1,4,none⟩=some (.int .i64 q.within):=hq6.b4.cell 4;have b6:W8.cell? ⟨w.heap.size+1,6,none⟩=some (.slice Ar rl.length cr):=hq6.b4.cell 6;replace hq6:=Hd (hq6.put 5 (.string b));clear hB8)
         |(refine at_op (.store 32 (.tmp 2) (.tmp 116)) rfl ?_;refine wsb rfl 32 (.tmp 2) (.tmp 116) rfl (cs':=quV q (.slice Ai l.length ci) (.slice A6 n6 c6) (.slice Ar rl.length cr) b) hq6.out.b2 aggQu rfl rfl rfl rfl ?_;intro w8 hz8 hg8))
        exact bpb rfl hz8 aggQu rfl rfl rfl (TQPost.yes (q:={q with items:=q.items.map (itT S T),wh:=wh',ret:=rl.map (·.1),by_:=b}) hR.out ((hoq.out.under hg8 (show w.heap.size<w.heap.size+1+1 by omega)).base (by omega)) hleq.out rfl (hq6.out.hb.grown hg8 hq6.out.hb.size (fun qq hq=>by injection hq with hq;omega)))
end evW
end Go.Proofs.YtfiodnlgiglhfaaGreatDoor
