/- The document's Uses. -/
import Derived.Test.YthaabihjeomipaaGreatDoorQGg
namespace Go.Proofs.YthaabihjeomipaaGreatDoor
set_option maxRecDepth 100000
set_option maxHeartbeats 16000000
open Go.RowKit Go.Deep Go.Maps
set_option linter.unusedVariables false
set_option linter.unusedSimpArgs false
structure U3 (B:Nat)(W:World)(v1 v2 v3:Value)(L1 L2 L3:List Nat):Prop where
 o1:OL W B NoF 3 1 v1 L1.length (L1.map cjD)
 o2:OL W B NoF 3 1 v2 L2.length (L2.map cjD)
 o3:OL W B NoF 3 1 v3 L3.length (L3.map cjD)
 n12:∀k,v1.ownBlock=some k→v2.ownBlock≠some k
 n13:∀k,v1.ownBlock=some k→v3.ownBlock≠some k
 n23:∀k,v2.ownBlock=some k→v3.ownBlock≠some k
section
variable {B:Nat}{W W' w1:World}{v1 v2 v3 v':Value}{L1 L2 L3:List Nat}
theorem U3.stay (h:U3 B W v1 v2 v3 L1 L2 L3)(hb:Bw W W'):U3 B W' v1 v2 v3 L1 L2 L3:=⟨h.o1.stay hb,h.o2.stay hb,h.o3.stay hb,h.n12,h.n13,h.n23⟩
theorem U3.swap (h:U3 B W v1 v2 v3 L1 L2 L3):U3 B W v2 v1 v3 L2 L1 L3:=⟨h.o2,h.o1,h.o3,fun k a b=>h.n12 k b a,h.n23,h.n13⟩
theorem U3.rot (h:U3 B W v1 v2 v3 L1 L2 L3):U3 B W v3 v2 v1 L3 L2 L1:=⟨h.o3,h.o2,h.o1,fun k a b=>h.n23 k b a,fun k a b=>h.n13 k b a,fun k a b=>h.n12 k b a⟩
theorem U3.set {g t:Nat}{cs:List Value}(h:U3 B W v1 v2 v3 L1 L2 L3)(hb:Blk W g t cs)(ht:3≠t)(i:Nat)(u:Value):U3 B (W.setCell ⟨g,i,none⟩ u) v1 v2 v3 L1 L2 L3:=
 ⟨h.o1.setCell (p:=⟨g,i,none⟩) (h.o1.neBlk hb ht) (fun h=>h) u,h.o2.setCell (p:=⟨g,i,none⟩) (h.o2.neBlk hb ht) (fun h=>h) u,h.o3.setCell (p:=⟨g,i,none⟩) (h.o3.neBlk hb ht) (fun h=>h) u,h.n12,h.n13,h.n23⟩
theorem U3.app1 {o:Obj}{i:Nat}(h:U3 B W v1 v2 v3 L1 L2 L3)(hg:(W.alloc o).grownBy w1 v1.ownBlock)(hO:OL w1 B NoF 3 1 v' (L1.length+1) (L1.map cjD++[cjD i]))(ha:v'.ownBlock=v1.ownBlock∨v'.ownBlock=some (W.alloc o).heap.size):U3 B w1 v' v2 v3 (L1++[i]) L2 L3:=by
 have ne:∀{v:Value}{L:List Nat},OL W B NoF 3 1 v L.length (L.map cjD)→(∀k,v1.ownBlock=some k→v.ownBlock≠some k)→∀k,v'.ownBlock=some k→v.ownBlock≠some k:=fun ho hn k hk hv=>by
  rcases ha with e |e
  ·exact hn k (by rw[←e];exact hk) hv
  ·have:=(ho.lt k hv).2;rw[hk]at e;injection e with e
   simp at e;omega
 have nn:∀{v:Value},(∀k,v1.ownBlock=some k→v.ownBlock≠some k)→v.ownBlock=none∨v.ownBlock≠v1.ownBlock:=fun {v} hn=>by
  cases hv:v.ownBlock with
  |none=>exact .inl rfl
  |some k=>exact .inr fun e=>hn k e.symm hv
 refine⟨by rw[zH,xR];exact hO,(h.o2.alloc o).kept hg (nn h.n12) (fun _ h=>h.elim),(h.o3.alloc o).kept hg (nn h.n13) (fun _ h=>h.elim),ne h.o2 h.n12,ne h.o3 h.n13,h.n23⟩
end
structure UV (q:Qy)(s:Sl3)(w wr:World)(v1 v2 v3:Value)(L1 L2 L3:List Nat):Prop where
 hb:Bw w wr
 b0:Blk wr w.heap.size 31 (qV q s)
 b1:Blk wr (w.heap.size+1) 82 [.slice none 0 0,.slice none 0 0,.slice none 0 0]
 b2:Blk wr (w.heap.size+1+1) 82 [v1,v2,v3]
 u3:U3 w.heap.size wr v1 v2 v3 L1 L2 L3
section
variable {q:Qy}{s:Sl3}{w wr W w1:World}{v1 v2 v3 v':Value}{L1 L2 L3:List Nat}
theorem UV.stay (h:UV q s w wr v1 v2 v3 L1 L2 L3)(hb:Bw wr W):UV q s w W v1 v2 v3 L1 L2 L3:=⟨h.hb.trans (hb.mono h.hb.size),h.b0.stay hb,h.b1.stay hb,h.b2.stay hb,h.u3.stay hb⟩
theorem UV.new (q:Qy)(s:Sl3)(w:World):UV q s w (((w.alloc (.cells ⟨qV q s⟩ 31)).alloc (.cells ⟨[.slice none 0 0,.slice none 0 0,.slice none 0 0]⟩ 82)).alloc (.cells ⟨[.slice none 0 0,.slice none 0 0,.slice none 0 0]⟩ 82)) (.slice none 0 0) (.slice none 0 0) (.slice none 0 0) [] [] []:=
 ⟨((bA).alloc sJ _).alloc (by simp;omega) _,(((Blk.new w _ _).alloc _).alloc _),((Blk.new' sJ).alloc _),(Blk.new' sJ),⟨OL.nil _ _ _ _ _,OL.nil _ _ _ _ _,OL.nil _ _ _ _ _,fun k h=>by simp[Value.ownBlock]at h,fun k h=>by simp[Value.ownBlock]at h,fun k h=>by simp[Value.ownBlock]at h⟩⟩
theorem UV.up {o:Obj}{row:Option Nat}{k:Nat}{v:Value}{u1 u2 u3:Value}{M1 M2 M3:List Nat}(h:UV q s w wr v1 v2 v3 L1 L2 L3)(hg:(wr.alloc o).grownBy w1 row)(hr:∀g t cs,Blk wr g t cs→3≠t→some g≠row)(hl:∀k,row=some k→w.heap.size≤k)
  (hU:U3 w.heap.size w1 u1 u2 u3 M1 M2 M3)(he:[v1,v2,v3].set k v=[u1,u2,u3]):UV q s w (w1.setCell ⟨w.heap.size+1+1,k,none⟩ v) u1 u2 u3 M1 M2 M3∧Blk w1 (w.heap.size+1+1) 82 [v1,v2,v3]:=by
 have hs:=h.hb.size;have b2:=(h.b2.alloc o).grown hg (hr _ _ _ h.b2 dQ);have b0:=(h.b0.alloc o).grown hg (hr _ _ _ h.b0 dQ);have b1:=(h.b1.alloc o).grown hg (hr _ _ _ h.b1 dQ);refine⟨⟨((h.hb.alloc hs o).grown hg (by simp;omega) (fun q hq=>hl q hq)).setCell (p:=⟨w.heap.size+1+1,k,none⟩) (by simp only;omega) _,b0.far (by simp only;omega) _,b1.far (by simp only;omega) _,?_,hU.set b2 dQ _ _⟩,b2⟩;have:=b2.set_ k v;rw[he]at this;exact this
end
def anB (q:Qy)(t:List Nd)(P:Nd→Bool)(i j:Nat):Bool:=(t.take j).any fun x=>decide (itemI q x.v=(i:Int))&&P x
theorem anB_next {q:Qy}{t:List Nd}{P:Nd→Bool}{i j:Nat}{x:Nd}(h:t[j]? =some x):anB q t P i (j+1)=(anB q t P i j||(decide (itemI q x.v=(i:Int))&&P x)):=anyNd_take _ h
def usL (q:Qy)(t:List Nd)(P:Nd→Bool)(n:Nat):List Nat:=(List.range n).filter fun i=>t.any fun x=>decide (itemI q x.v=(i:Int))&&P x
theorem usL_next {q:Qy}{t:List Nd}{P:Nd→Bool}(n:Nat):usL q t P (n+1)=usL q t P n++if anB q t P n t.length=true then [n]else []:=by
 unfold usL anB;rw[filt_next,zL]
def URel2 (q:Qy)(s:Sl3)(t:List Nd)(w:World)(i:Value)(wr:World):Prop:=∃(n:Nat)(v1 v2 v3:Value),n≤q.items.length∧i=.int .i64 n∧UV q s w wr v1 v2 v3 (usL q t (fun x=>bareO x.op) n) (usL q t is11 n) (usL q t (fun x=>aggO x.op) n)
theorem URel2.mk {q:Qy}{s:Sl3}{t:List Nd}{w wr:World}{i:Value}{v1 v2 v3:Value}{L1 L2 L3:List Nat}(n:Nat)(h1:n≤q.items.length)(h2:i=.int .i64 n)(h:UV q s w wr v1 v2 v3 L1 L2 L3)(e1:L1=usL q t (fun x=>bareO x.op) n)(e2:L2=usL q t is11 n)(e3:L3=usL q t (fun x=>aggO x.op) n):URel2 q s t w i wr:=⟨n,v1,v2,v3,h1,h2,e1▸e2▸e3▸h⟩
namespace ckW
open nmW
theorem rUses_k (q:Qy)(s:Sl3)(A:Option Addr)(c:Nat)(F G:Nat→Prop)(t:List Nd)(hs:SzQ q)(ht:SzN t)(w:World)(R:QR w G q s)(hF:∀b,F b→b<w.heap.size)(r:Rd w F (.slice A t.length c) (.sl t.length (t.flatMap ndD))):
  Calls Tryz.prog 100 #[.agg ⟨qV q s⟩,.slice A t.length c] w (UsPost q t w):=by
 have h0:=UV.new q s w;have ki:∀(v:ByteArray) W,Bw w W→Calls Tryz.prog 97 #[.agg ⟨qV q s⟩,.string v] W fun e w'=>e=.returned (.int .i64 (itemI q v))∧Bw W w':=fun v W hW=>itemOf_k q s G v hs.il W (R.under hW).lt (R.under hW).r1
 have hil:=hs.il;have hl:=ht.1;have cc:∀{W v1 v2 v3 L1 L2 L3},UV q s w W v1 v2 v3 L1 L2 L3→_:=fun {W v1 v2 v3 L1 L2 L3} (h:UV q s w W v1 v2 v3 L1 L2 L3)=>qbc h.b0
 obtain⟨x0,x1,x2,x3,x4,x5,x6⟩:=qbc h0.b0;have hbar:bares q t=usL q t (fun x=>bareO x.op) q.items.length:=rfl;obtain⟨A1,c1,A2,c2,A3,c3⟩:=s;simp only[qV]at h0 ki x0 x3 x6 ⊢;replace r:=Hd r;replace hF:=Hd hF;replace ki:=Hd ki;replace h0:=Hd h0;replace hbar:=Hd hbar;clear hs ht R;go_enter Tryz.func100,Tryz.ntmps100;go_wp2;clear x0 x1 x2 x3 x4 x5 x6;go_loopw [6] (fun i wr=>URel2 q ⟨A1,c1,A2,c2,A3,c3⟩ t w i wr) (fun i _=>q.items.length- (intOf i).toNat)
 case atStart=>exact⟨0,_,_,_,zE _,rfl,h0.out⟩
 case round=>
  clear h0;obtain⟨n,v1,v2,v3,hn,rfl,hI⟩:=hrel;have hn1:=usL_next (q:=q) (t:=t) (P:=fun x=>bareO x.op) n;have hn2:=usL_next (q:=q) (t:=t) (P:=is11) n;have hn3:=usL_next (q:=q) (t:=t) (P:=fun x=>aggO x.op) n;have hl1:(usL q t (fun x=>bareO x.op) n).length≤1048576:=zU (filt_len n) oQ;have hl2:(usL q t is11 n).length≤1048576:=zU (filt_len n) oQ;have hl3:(usL q t (fun x=>aggO x.op) n).length≤1048576:=zU (filt_len n) oQ;obtain⟨x0,x1,x2,x3,x4,x5,x6⟩:=cc hI;try simp only at x0 x3 x6
  by_cases hlt:n<q.items.length
  ·have g1:(0:Int)≤(n:Int):=oQ;have g2:(n:Int)<q.items.length:=oQ;generalize usL q t (fun x=>bareO x.op) n=L1 at*;generalize usL q t is11 n=L2 at*;generalize usL q t (fun x=>aggO x.op) n=L3 at*;obtain⟨wo,hwo⟩:∃wo:World,wo=wr:=⟨_,rfl⟩
   subst hwo;have hbo:=hI.hb.size;replace hn1:=Hd hn1;replace hn2:=Hd hn2;replace hn3:=Hd hn3;replace hI:=Hd hI;go_wp2;go_loopw [7,8,9,10] (fun b1 b2 b3 i wr=>∃j:Nat,j≤t.length∧i=.int .i64 j∧b1=.bool (anB q t (fun x=>bareO x.op) n j)∧b2=.bool (anB q t is11 n j)∧b3=.bool (anB q t (fun x=>aggO x.op) n j)∧Bw wo wr) (fun _ _ _ i _=>t.length- (intOf i).toNat)
   case atStart=>exact⟨0,zE _,rfl,rfl,rfl,rfl,bR⟩
   case round=>
    obtain⟨j,hj,rfl,rfl,rfl,rfl,hB⟩:=hrel;by_cases hlt2:j<t.length
    ·obtain⟨x,hx⟩:=getx hlt2;have hJ:=hI.out.stay hB;have hm1:=anB_next (q:=q) (P:=fun x=>bareO x.op) (i:=n) hx;have hm2:=anB_next (q:=q) (P:=is11) (i:=n) hx;have hm3:=anB_next (q:=q) (P:=fun x=>aggO x.op) (i:=n) hx;have hm11:is11 x=decide (x.op=11):=rfl;obtain⟨g,off,rfl,_,z0,z1,z2,z3,z4,z5⟩:=nd_at (r.out.under hJ.hb hF.out) hx;have zz:∀W,Bw wr W→W.cell? ⟨g,off+j*6,none⟩=some (.int .i64 x.op):=fun W hW=>by
      obtain⟨_,_,e,_,q0,_⟩:=nd_at (r.out.under (hJ.hb.trans (hW.mono hJ.hb.size)) hF.out) hx;injection e with e
      injection e with e1 e2
      subst e1 e2;exact q0
     have g3:(0:Int)≤(j:Int):=oQ;have g4:(j:Int)<t.length:=oQ;have kii:=ki.out x.v;obtain⟨kv,hkv⟩:∃k,k=itemI q x.v:=⟨_,rfl⟩
     rw[←hkv]at kii hm1 hm2 hm3;have ccx:∀W,Bw wr W→_:=fun W hW=>cc (hJ.stay hW)
     obtain⟨y0,y1,y2,y3,y4,y5,y6⟩:=cc hJ;try simp only at y0 y3 y6 ccx
     generalize anB q t (fun x=>bareO x.op) n j=b1 at*;generalize anB q t is11 n j=b2 at*;generalize anB q t (fun x=>aggO x.op) n j=b3 at*;have hBs:=hB.size;replace kii:=Hd kii;replace hkv:=Hd hkv;replace hm1:=Hd hm1;replace hm2:=Hd hm2;replace hm3:=Hd hm3;replace zz:=Hd zz;replace ccx:=Hd ccx;replace hJ:=Hd hJ;replace hx:=Hd hx;replace hB:=Hd hB;clear x0 x1 x2 x3 x4 x5 x6;go_upto_region 9 with fail
     go_cut [11] (fun s wx=>s=.int .i64 kv∧Bw wr wx)
     case first=>
      go_region_law ((go_simp;(go_at_call 97;refine(kii.out _ (by first|exact hJ.out.hb |exact hJ.out.hb.drew |exact(hJ.out.stay (below_drewN bR _)).hb)).mono ?_;rintro e W ⟨rfl,hW⟩;have hZ1:Bw wr W:=(by first|exact hW |exact(bR).drew.trans hW |exact(below_drewN bR _).trans hW);obtain⟨u0,u1,u2,u3,u4,u5,u6⟩:=ccx.out W hZ1;replace hZ1:=Hd hZ1;clear hW)))
      all_goals(go_wp2;all_goals(go_meet;exact⟨rfl,hZ1.out⟩))
     case rest=>
     obtain⟨rfl,hZ⟩:=hcut;have zc:=zz.out _ hZ;have hZ2:=Hd (hB.out.trans (hZ.mono hBs));have hK:=Hd (hJ.out.stay hZ);replace hZ:=Hd hZ;clear y0 y1 y2 y3 y4 y5 y6 z0 z1 z2 z3 z4 z5;by_cases hke:kv=(n:Int)
     case neg=>
      have f1:=bneT hke;have f2:=beqF hke;have hd:decide (kv=(n:Int))=false:=zV hke;have r1:Hid (b1=anB q t (fun x=>bareO x.op) n (j+1)):=by show _=_;rw[hm1.out,hd];simp
      have r2:Hid (b2=anB q t is11 n (j+1)):=by show _=_;rw[hm2.out,hd];simp
      have r3:Hid (b3=anB q t (fun x=>aggO x.op) n (j+1)):=by show _=_;rw[hm3.out,hd];simp
      replace hke:=Hd hke;replace hd:=Hd hd;go_wp2;go_roundw
      case rel=>exact⟨j+1,oQ,gQ,by rw[←r1.out],by rw[←r2.out],by rw[←r3.out],hZ2.out⟩
      case measure=>exact mQ
     have f1:=bneF hke;have hd:decide (kv=(n:Int))=true:=zW hke;have r1:Hid ((b1||bareO x.op)=anB q t (fun x=>bareO x.op) n (j+1)):=by show _=_;rw[hm1.out,hd];simp
     have r2:Hid ((b2||decide (x.op=11))=anB q t is11 n (j+1)):=by show _=_;rw[hm2.out,hd,hm11];simp
     have r3:Hid ((b3||aggO x.op)=anB q t (fun x=>aggO x.op) n (j+1)):=by show _=_;rw[hm3.out,hd];simp
     replace hke:=Hd hke;replace hd:=Hd hd;replace hm11:=Hd hm11;obtain⟨ba,hba⟩:∃b,b=bareO x.op:=⟨_,rfl⟩
     obtain⟨ag,hag⟩:∃b,b=aggO x.op:=⟨_,rfl⟩
     have kb:∀W,Calls Tryz.prog 142 #[.int .i64 x.op] W fun e w'=>e=.returned (.bool ba)∧w'=W:=fun W=>by rw[hba];exact barely_k x.op W
     have ka:∀W,Calls Tryz.prog 143 #[.int .i64 x.op] W fun e w'=>e=.returned (.bool ag)∧w'=W:=fun W=>by rw[hag];exact aggregate_k x.op W
     have r1':Hid ((b1||ba)=anB q t (fun x=>bareO x.op) n (j+1)):=(by rw[hba];exact r1);have r3':Hid ((b3||ag)=anB q t (fun x=>aggO x.op) n (j+1)):=by rw[hag];exact r3
     replace hba:=Hd hba;replace hag:=Hd hag;replace kb:=Hd kb;replace ka:=Hd ka;clear r1 r3;obtain⟨wy,hwy⟩:∃wy:World,wy=wc:=⟨_,rfl⟩
     subst hwy;go_upto_region 11 with fail
     go_cut [7] (fun s wx=>s=.bool (b1||ba)∧wx=wy)
     case first=>
      cases b1 with
      |true=>
       go_wp2
       all_goals(go_meet;exact⟨rfl,rfl⟩)
      |false=>
       go_wp2_with (go_at_call 142;refine(kb.out _).mono ?_;rintro e W ⟨rfl,hW⟩;subst W)
       all_goals(go_meet;exact⟨rfl,rfl⟩)
     case rest=>
     obtain⟨rfl,hwx⟩:=hcut;obtain rfl:=hwx.symm;clear hwx;go_upto_region 12 with fail
     go_cut [8] (fun s wx=>s=.bool (b2||decide (x.op=11))∧wx=wy)
     case first=>
      cases b2 with
      |true=>
       go_wp2
       all_goals(go_meet;exact⟨rfl,rfl⟩)
      |false=>
       by_cases h11:x.op=11
       ·have e:decide (x.op=11)=true:=zW h11;have f11:=beqT h11;replace h11:=Hd h11;go_wp2
        all_goals(go_meet;exact⟨by rw[e];rfl,rfl⟩)
       ·have e:decide (x.op=11)=false:=zV h11;have f11:=beqF h11;replace h11:=Hd h11;go_wp2
        all_goals(go_meet;exact⟨by rw[e];rfl,rfl⟩)
     case rest=>
     obtain⟨rfl,hwx⟩:=hcut;obtain rfl:=hwx.symm;clear hwx;generalize hv1:(b1||ba)=n1 at r1';generalize hv2:(b2||decide (x.op=11))=n2 at r2;replace hv1:=Hd hv1;replace hv2:=Hd hv2;cases b3 with
     |true=>
      have r3t:Hid (true=anB q t (fun x=>aggO x.op) n (j+1)):=r3';go_wp2;go_roundw
      case rel=>exact⟨j+1,oQ,gQ,by rw[←r1'.out,←hv1.out],by rw[←r2.out,←hv2.out],by rw[←r3t.out],hZ2.out⟩
      case measure=>exact mQ
     |false=>
      have r3t:Hid (ag=anB q t (fun x=>aggO x.op) n (j+1)):=r3';go_wp2_with (go_at_call 143;refine(ka.out _).mono ?_;rintro e W ⟨rfl,hW⟩;subst W);go_roundw
      case rel=>exact⟨j+1,oQ,gQ,by rw[←r1'.out,←hv1.out],by rw[←r2.out,←hv2.out],by rw[←r3t.out],hZ2.out⟩
      case measure=>exact mQ
    ·have g3:¬(j:Int)<t.length:=oQ;obtain rfl:j=t.length:=oQ;have hJ:=hI.out.stay hB;generalize anB q t (fun x=>bareO x.op) n t.length=b1 at*;generalize anB q t is11 n t.length=b2 at*;generalize anB q t (fun x=>aggO x.op) n t.length=b3 at*;replace hJ:=Hd hJ;replace hB:=Hd hB;clear x0 x1 x2 x3 x4 x5 x6;obtain⟨E1,e1,rfl⟩:=hJ.out.u3.o1.form;go_upto_if 62 with fail
     go_cut [6] (fun s wx=>s=.int .i64 n∧∃u1 M1,Hid (M1=L1++if b1=true then [n]else [])∧UV q ⟨A1,c1,A2,c2,A3,c3⟩ w wx u1 v2 v3 M1 L2 L3)
     case first=>
      cases b1 with
      |true=>
       have hq:=hJ.out;have c0:=hq.b2.cell 0;simp only[zY,xA]at c0;have hown:=Hd (hq.u3.o1.alloc (.cells ⟨[.int .i64 (n:Nat)]⟩ 3));have hhs:=hq.hb.size;have hwn:=hq.b2.lt;have hup:∀v' w1,((_:World).alloc (.cells ⟨[.int .i64 (n:Nat)]⟩ 3)).grownBy w1 (Value.slice E1 L1.length e1).ownBlock→OL w1 w.heap.size NoF 3 1 v' (L1.length+1) (L1.map cjD++[cjD n])→(v'.ownBlock=(Value.slice E1 L1.length e1).ownBlock∨v'.ownBlock=some ((_:World).alloc (.cells ⟨[.int .i64 (n:Nat)]⟩ 3)).heap.size)→_:=fun v' w1 hg1 hO1 ha1=>hq.up (k:=0) (v:=v') hg1 (fun g t cs hb ht=>fun e=>hq.u3.o1.neBlk hb ht e.symm) (fun k hk=>(hq.u3.o1.lt k hk).1) (hq.u3.app1 hg1 hO1 ha1) rfl
       replace hup:=Hd hup;clear hq;go_wp2_with (at_builtin;refine wpa rfl (.tmp 64) (.tmp 66) _ rfl (m:=1) (news:=[cjD n]) elInt hown.out rfl rfl (Src.lit (show RdL _ _ [.int .i64 n] [cjD n]from⟨.v _ rfl,trivial⟩)) rfl oQ oQ (by simp;omega) ?_;intro v' w1 hO1 hg1 ha1;obtain⟨B3,d3,rfl⟩:=hO1.form;obtain⟨hp1,hp2⟩:=hup.out _ _ hg1 hO1 ha1;have q1:=hp2.cell 0;have q2:=hp2.frozen 0;simp only[zY,xA]at q1;replace hp1:=Hd hp1;clear hO1 hg1 ha1 hp2)
       all_goals(go_meet;exact⟨rfl,_,_,rfl,hp1.out⟩)
      |false=>
       go_wp2
       all_goals(go_meet;exact⟨rfl,_,_,(zT L1).symm,hJ.out⟩)
     case rest=>
     obtain⟨rfl,u1,M1,M1e,hI1⟩:=hcut;replace hI1:=Hd hI1;obtain⟨E2,e2,rfl⟩:=hI1.out.u3.o2.form;go_upto_if 69 with fail
     go_cut [6] (fun s wx=>s=.int .i64 n∧∃u2 M2,Hid (M2=L2++if b2=true then [n]else [])∧UV q ⟨A1,c1,A2,c2,A3,c3⟩ w wx u1 u2 v3 M1 M2 L3)
     case first=>
      cases b2 with
      |true=>
       have hq:=hI1.out;have c0:=hq.b2.cell 1;simp only[zY,xA]at c0;have hown:=Hd (hq.u3.o2.alloc (.cells ⟨[.int .i64 (n:Nat)]⟩ 3));have hhs:=hq.hb.size;have hwn:=hq.b2.lt;have hup:∀v' w1,((_:World).alloc (.cells ⟨[.int .i64 (n:Nat)]⟩ 3)).grownBy w1 (Value.slice E2 L2.length e2).ownBlock→OL w1 w.heap.size NoF 3 1 v' (L2.length+1) (L2.map cjD++[cjD n])→(v'.ownBlock=(Value.slice E2 L2.length e2).ownBlock∨v'.ownBlock=some ((_:World).alloc (.cells ⟨[.int .i64 (n:Nat)]⟩ 3)).heap.size)→_:=fun v' w1 hg1 hO1 ha1=>hq.up (k:=1) (v:=v') hg1 (fun g t cs hb ht=>fun e=>hq.u3.o2.neBlk hb ht e.symm) (fun k hk=>(hq.u3.o2.lt k hk).1) ((hq.u3.swap.app1 hg1 hO1 ha1).swap) rfl
       replace hup:=Hd hup;clear hq;go_wp2_with (at_builtin;refine wpa rfl (.tmp 71) (.tmp 73) _ rfl (m:=1) (news:=[cjD n]) elInt hown.out rfl rfl (Src.lit (show RdL _ _ [.int .i64 n] [cjD n]from⟨.v _ rfl,trivial⟩)) rfl oQ oQ (by simp;omega) ?_;intro v' w1 hO1 hg1 ha1;obtain⟨B3,d3,rfl⟩:=hO1.form;obtain⟨hp1,hp2⟩:=hup.out _ _ hg1 hO1 ha1;have q1:=hp2.cell 1;have q2:=hp2.frozen 1;simp only[zY,xA]at q1;replace hp1:=Hd hp1;clear hO1 hg1 ha1 hp2)
       all_goals(go_meet;exact⟨rfl,_,_,rfl,hp1.out⟩)
      |false=>
       go_wp2
       all_goals(go_meet;exact⟨rfl,_,_,(zT L2).symm,hI1.out⟩)
     case rest=>
     obtain⟨rfl,u2,M2,M2e,hI2⟩:=hcut;replace hI2:=Hd hI2;obtain⟨E3,e3,rfl⟩:=hI2.out.u3.o3.form;go_upto_if 76 with fail
     cases b3 with
     |true=>
      have hq:=hI2.out;have c0:=hq.b2.cell 2;simp only[zY,xA]at c0;have hown:=Hd (hq.u3.o3.alloc (.cells ⟨[.int .i64 (n:Nat)]⟩ 3));have hhs:=hq.hb.size;have hwn:=hq.b2.lt;have hup:∀v' w1,((_:World).alloc (.cells ⟨[.int .i64 (n:Nat)]⟩ 3)).grownBy w1 (Value.slice E3 L3.length e3).ownBlock→OL w1 w.heap.size NoF 3 1 v' (L3.length+1) (L3.map cjD++[cjD n])→(v'.ownBlock=(Value.slice E3 L3.length e3).ownBlock∨v'.ownBlock=some ((_:World).alloc (.cells ⟨[.int .i64 (n:Nat)]⟩ 3)).heap.size)→_:=fun v' w1 hg1 hO1 ha1=>hq.up (k:=2) (v:=v') hg1 (fun g t cs hb ht=>fun e=>hq.u3.o3.neBlk hb ht e.symm) (fun k hk=>(hq.u3.o3.lt k hk).1) ((hq.u3.rot.app1 hg1 hO1 ha1).rot) rfl
      replace hup:=Hd hup;clear hq;go_wp2_with (at_builtin;refine wpa rfl (.tmp 78) (.tmp 80) _ rfl (m:=1) (news:=[cjD n]) elInt hown.out rfl rfl (Src.lit (show RdL _ _ [.int .i64 n] [cjD n]from⟨.v _ rfl,trivial⟩)) rfl oQ oQ (by simp;omega) ?_;intro v' w1 hO1 hg1 ha1;obtain⟨B3,d3,rfl⟩:=hO1.form;obtain⟨hp1,hp2⟩:=hup.out _ _ hg1 hO1 ha1;have q1:=hp2.cell 2;have q2:=hp2.frozen 2;simp only[zY,xA]at q1;replace hp1:=Hd hp1;clear hO1 hg1 ha1 hp2);go_roundw
      case rel=>exact URel2.mk (n+1) oQ gQ hp1.out (M1e.out.trans hn1.out.symm) (M2e.out.trans hn2.out.symm) hn3.out.symm
      case measure=>exact mQ
     |false=>
      go_wp2;go_roundw
      case rel=>exact URel2.mk (n+1) oQ gQ hI2.out (M1e.out.trans hn1.out.symm) (M2e.out.trans hn2.out.symm) ((zT L3).symm.trans hn3.out.symm)
      case measure=>exact mQ
  ·have g1:¬(n:Int)<q.items.length:=oQ;obtain rfl:n=q.items.length:=oQ;obtain⟨D1,d1,rfl⟩:=hI.u3.o1.form;obtain⟨D2,d2,rfl⟩:=hI.u3.o2.form;obtain⟨D3,d3,rfl⟩:=hI.u3.o3.form;have w0:=hI.b2.cell 0;have w1:=hI.b2.cell 1;have w2:=hI.b2.cell 2;simp only[zY,xA]at w0 w1 w2;generalize hM1:usL q t (fun x=>bareO x.op) q.items.length=M1 at hI w0;generalize usL q t is11 q.items.length=M2 at*;replace hM1:=Hd hM1;generalize usL q t (fun x=>aggO x.op) q.items.length=M3 at*;have hne:∀{v:Value}{n:Nat}{ds:List D},OL wr w.heap.size NoF 3 1 v n ds→v.ownBlock=none∨v.ownBlock≠some (w.heap.size+1):=fun h=>.inr (h.neBlk hI.b1 dQ)
   replace hI:=Hd hI;go_wp2_with (refine at_op (.store 82 (.tmp 4) (.tmp 83)) rfl ?_;refine wsb rfl 82 (.tmp 4) (.tmp 83) rfl (cs':=[.slice D1 M1.length d1,.slice D2 M2.length d2,.slice D3 M3.length d3]) hI.out.b1 aggUse rfl rfl rfl rfl ?_;intro w1 hz1 hg1);refine bpa rfl hz1 aggUse rfl rfl (UsPost.mk (show M1=bares q t from hM1.out.symm) (hI.out.u3.o1.kept hg1 (hne hI.out.u3.o1) (fun b h=>h.elim)) (hI.out.u3.o2.kept hg1 (hne hI.out.u3.o2) (fun b h=>h.elim)) (hI.out.u3.o3.kept hg1 (hne hI.out.u3.o3) (fun b h=>h.elim)) ?_);exact hI.out.hb.grown hg1 hI.out.hb.size (fun q hq=>by injection hq with hq;omega)
end ckW
theorem aggErr:AggT Tryz.prog 140 5:=⟨_,Tryz.underlying140,rfl,kQ⟩
def erV (a1 a2 a3 a4:Int):List Value:=[.int .i64 0,.int .i64 a1,.int .i64 a2,.int .i64 a3,.int .i64 a4]
def NdPost (e:List Int)(w:World)(x:Ending)(w':World):Prop:=∃a1 a2 a3 a4,e=[a1,a2,a3,a4]∧x=.returned (.agg #[.int .i64 0,.int .i64 a1,.int .i64 a2,.int .i64 a3,.int .i64 a4])∧Bw w w'
theorem NdPost.mk {e:List Int}{w w':World}{a1 a2 a3 a4:Int}(h:e=[a1,a2,a3,a4])(hb:Bw w w'):NdPost e w (.returned (.agg ⟨erV a1 a2 a3 a4⟩)) w':=⟨a1,a2,a3,a4,h,rfl,hb⟩
structure NS (l:List Td)(A:Option Addr)(c:Nat)(q:Qy)(s:Sl3)(x:Nd)(w wr:World)(a1 a2 a3 a4:Int):Prop where
 sq:SQ l A c q s w wr
 b2:Blk wr (w.heap.size+1+1) 140 (erV 0 0 0 0)
 b3:Blk wr (w.heap.size+1+1+1) 140 (erV a1 a2 a3 a4)
 b4:Blk wr (w.heap.size+1+1+1+1) 96 (ndV x)
section
variable {l:List Td}{A:Option Addr}{c:Nat}{q:Qy}{s:Sl3}{x:Nd}{w wr W w1:World}{a1 a2 a3 a4:Int}
theorem NS.stay (h:NS l A c q s x w wr a1 a2 a3 a4)(hb:Bw wr W):NS l A c q s x w W a1 a2 a3 a4:=⟨h.sq.stay hb,h.b2.stay hb,h.b3.stay hb,h.b4.stay hb⟩
theorem NS.new (l:List Td)(A:Option Addr)(c:Nat)(q:Qy)(s:Sl3)(x:Nd)(w:World):NS l A c q s x w (((((w.alloc (.cells ⟨[.slice A l.length c]⟩ 24)).alloc (.cells ⟨qV q s⟩ 31)).alloc (.cells ⟨erV 0 0 0 0⟩ 140)).alloc (.cells ⟨erV 0 0 0 0⟩ 140)).alloc (.cells ⟨ndV x⟩ 96)) 0 0 0 0:=by
 have h3:∀W:World,Bw W (((W.alloc (.cells ⟨erV 0 0 0 0⟩ 140)).alloc (.cells ⟨erV 0 0 0 0⟩ 140)).alloc (.cells ⟨ndV x⟩ 96)):=fun W=>((bA).alloc sJ _).alloc (by simp;omega) _
 exact⟨(SQ.new l A c q s w).stay (h3 _),(((Blk.new' sJ).alloc _).alloc _),((Blk.new' sJ).alloc _),Blk.new' sJ⟩
theorem NS.cells (h:NS l A c q s x w wr a1 a2 a3 a4):(wr.cell? ⟨w.heap.size,0,none⟩=some (.slice A l.length c))∧(wr.cell? ⟨w.heap.size+1+1+1+1,0,none⟩=some (.int .i64 x.op)∧wr.cell? ⟨w.heap.size+1+1+1+1,2,none⟩=some (.string x.v)∧wr.cell? ⟨w.heap.size+1+1+1+1,3,none⟩=some (.string x.at_)∧wr.cell? ⟨w.heap.size+1+1+1+1,4,none⟩=some (.int .i64 x.a)∧wr.cell? ⟨w.heap.size+1+1+1+1,5,none⟩=some (.int .i64 x.b))∧
  (wr.cell? ⟨w.heap.size+1+1+1,0,none⟩=some (.int .i64 0)∧wr.cell? ⟨w.heap.size+1+1+1,1,none⟩=some (.int .i64 a1)∧wr.cell? ⟨w.heap.size+1+1+1,2,none⟩=some (.int .i64 a2)∧wr.cell? ⟨w.heap.size+1+1+1,3,none⟩=some (.int .i64 a3)∧wr.cell? ⟨w.heap.size+1+1+1,4,none⟩=some (.int .i64 a4)):=
 ⟨h.sq.b0.cell 0,⟨h.b4.cell 0,h.b4.cell 2,h.b4.cell 3,h.b4.cell 4,h.b4.cell 5⟩,h.b3.cell 0,h.b3.cell 1,h.b3.cell 2,h.b3.cell 3,h.b3.cell 4⟩
theorem NS.hb (h:NS l A c q s x w wr a1 a2 a3 a4):Bw w wr:=h.sq.hb
theorem NS.fin (h:NS l A c q s x w wr a1 a2 a3 a4)(hg:wr.grownBy w1 (some (w.heap.size+1+1))):Bw w w1:=h.hb.grown hg h.hb.size (fun q hq=>by injection hq with hq;omega)
theorem NS.set {i:Nat}{v:Int}{e1 e2 e3 e4:Int}(h:NS l A c q s x w wr a1 a2 a3 a4)(he:(erV a1 a2 a3 a4).set i (.int .i64 v)=erV e1 e2 e3 e4):NS l A c q s x w (wr.setCell ⟨w.heap.size+1+1+1,i,none⟩ (.int .i64 v)) e1 e2 e3 e4:=by
 have hb:=h.hb.setCell (p:=⟨w.heap.size+1+1+1,i,none⟩) (by show w.heap.size≤w.heap.size+1+1+1;omega) (.int .i64 v);refine⟨⟨hb,h.sq.b0.far (by show w.heap.size≠w.heap.size+1+1+1;omega) _,h.sq.b1.far (by show w.heap.size+1≠w.heap.size+1+1+1;omega) _⟩,h.b2.far (by show w.heap.size+1+1≠w.heap.size+1+1+1;omega) _,?_,h.b4.far (by show w.heap.size+1+1+1+1≠w.heap.size+1+1+1;omega) _⟩;have:=h.b3.set_ i (.int .i64 v);rw[he]at this;exact this
end
theorem bx_eq {a b:Bool}(h:a=b):((!a)==b)=false:=by cases a<;>cases b<;>first|rfl |cases h
theorem bx_ne {a b:Bool}(h:¬a=b):((!a)==b)=true:=by cases a<;>cases b<;>first|rfl |exact absurd rfl h
namespace ckW
open nmW
theorem ofNode_n (A:Option Addr)(c:Nat)(F:Nat→Prop)(l:List Td)(q:Qy)(s:Sl3)(A5:Option Addr)(c5:Nat)(t:List Nd)(i:Nat)(x:Nd)(res:Bool)(hl:SzT l)(hs:SzQ q)(ht:SzN t)(hx:t[i]? =some x)(hxa:x.a<t.length)(hxb:x.b<t.length)(w:World)(hF:∀b,F b→b<w.heap.size)(r:Rd w F (.slice A l.length c) (.sl l.length (l.flatMap tdD)))(R:QR w F q s)
  (rt:Rd w F (.slice A5 t.length c5) (.sl t.length (t.flatMap ndD)))(hcase:bareO x.op=false∧aggO x.op=false):
  Calls Tryz.prog 98 #[.agg ⟨[.slice A l.length c]⟩,.agg ⟨qV q s⟩,.slice A5 t.length c5,.int .i64 i,.bool res] w (NdPost (errs l q t res x) w):=by
 have h0:=NS.new l A c q s x w;have ki:∀W,Bw w W→Calls Tryz.prog 97 #[.agg ⟨qV q s⟩,.string x.v] W fun e w'=>e=.returned (.int .i64 (itemI q x.v))∧Bw W w':=fun W hW=>itemOf_k q s F x.v hs.il W (R.under hW).lt (R.under hW).r1
 have ke:∀(it:It) A2 c2 W,it∈q.items→Bw w W→Rd W F (.slice A2 it.tys.length c2) (.sl it.tys.length (it.tys.flatMap strD))→Calls Tryz.prog 101 #[.agg ⟨[.slice A l.length c]⟩,.agg ⟨itV it (.slice A2 it.tys.length c2)⟩,.string x.at_] W fun e w'=>e=.returned (.bool (hasB l it.tys x.at_))∧Bw W w':=fun it A2 c2 W hx hW rx=>every_k A c F l it A2 c2 x.at_ hl (hs.it it hx).1.1 W (fun b h=>zF (hF b h) hW.size) (r.under hW hF) rx
 have hb4:Bw w ((((w.alloc (.cells ⟨[.slice A l.length c]⟩ 24)).alloc (.cells ⟨qV q s⟩ 31)).alloc (.cells ⟨erV 0 0 0 0⟩ 140)).alloc (.cells ⟨erV 0 0 0 0⟩ 140)):=(((bA).alloc sJ _).alloc (by simp;omega) _).alloc (by simp;omega) _;obtain⟨gt,offt,rfl,hgt,z0,z1,z2,z3,z4,z5⟩:=nd_at (rt.under hb4 hF) hx;have hgl:=hF gt hgt;have hop:∀(j:Nat) W,j<t.length→Bw w W→W.cell? ⟨gt,offt+j*6,none⟩=some (.int .i64 (opAt t j)):=fun j W hj hW=>by
  obtain⟨y,hy⟩:=getx hj;obtain⟨_,_,e,_,q0,_⟩:=nd_at (rt.under hW hF) hy;injection e with e
  injection e with e1 e2
  subst e1 e2;rw[opAt_of hy];exact q0
 have hil:=hs.il;have htl:=ht.1;have hR1:=R.r1;have hit':=(zC.1 hx).1;obtain⟨E,hE⟩:∃E,E=errs l q t res x:=⟨_,rfl⟩
 rw[←hE];unfold errs at hE;obtain⟨ba,hba⟩:∃b,b=bareO x.op:=⟨_,rfl⟩
 obtain⟨ag,hag⟩:∃b,b=aggO x.op:=⟨_,rfl⟩
 rw[←hba,←hag]at hE;have hnn:Hid (ba=false∧ag=false):=by show _∧_;rw[hba,hag];exact hcase
 clear hcase;have kb:∀W,Calls Tryz.prog 142 #[.int .i64 x.op] W fun e w'=>e=.returned (.bool ba)∧w'=W:=fun W=>by rw[hba];exact barely_k x.op W
 have ka:∀W,Calls Tryz.prog 143 #[.int .i64 x.op] W fun e w'=>e=.returned (.bool ag)∧w'=W:=fun W=>by rw[hag];exact aggregate_k x.op W
 have kt:∀(o:Int) W,Calls Tryz.prog 99 #[.int .i64 o] W fun e w'=>e=.returned (.bool (truthO o))∧w'=W:=fun o W=>rtruth_k o W
 have hub0:∀it,useBad x it res↔((ag=true∧it.neg=true)∨(x.op=11∧manyB it=false)∨(res=true∧ba=true∧(it.neg=true∨manyB it=true))):=fun it=>by rw[hba,hag];exact Iff.rfl
 have hwt0:∃b,b=wantO x.op:=⟨_,rfl⟩
 have hkx:kindsB t x=(okK t (wantO x.op) x.a&&okK t (wantO x.op) x.b):=rfl;have cc:∀{W a1 a2 a3 a4},NS l A c q s x w W a1 a2 a3 a4→_:=fun {W a1 a2 a3 a4} (h:NS l A c q s x w W a1 a2 a3 a4)=>qbc h.sq.b1
 obtain⟨op,n,v,at_,a,bb⟩:=x;obtain⟨A1,c1,A2,c2,A3,c3⟩:=s;simp only[qV,ndV,erV]at h0 ki ke hub0 hwt0 hkx kb ka hba hag hxa hxb z0 z1 z2 z3 z4 z5 hE ⊢;obtain⟨wt,hwt⟩:=hwt0;rw[←hwt]at hkx;have hg0:(0:Int)≤(i:Int):=oQ;have hg1:(i:Int)<t.length:=oQ;replace h0:=Hd h0;replace kb:=Hd kb;replace ka:=Hd ka;replace ki:=Hd ki;replace ke:=Hd ke;replace kt:=Hd kt;replace hR1:=Hd hR1;replace hF:=Hd hF;replace hop:=Hd hop;replace hE:=Hd hE;replace hba:=Hd hba;replace hag:=Hd hag;replace hub0:=Hd hub0;replace hwt:=Hd hwt;replace hkx:=Hd hkx;replace hx:=Hd hx;clear hs R r rt ht hb4;go_enter Tryz.func98,Tryz.ntmps98;go_upto_region 3 with fail
 clear z0 z1 z2 z3 z4 z5;obtain⟨x0,⟨y0,y2,y3,y4,y5⟩,_⟩:=h0.out.cells;simp only at y0 y2 y3 y4 y5;go_cut [29] (fun s wx=>s=.bool (ba||ag)∧NS l A c q ⟨A1,c1,A2,c2,A3,c3⟩ ⟨op,n,v,at_,a,bb⟩ w wx 0 0 0 0)
 case first=>
  cases ba with
  |true=>
   go_wp2_with (go_at_call 142;refine(kb.out _).mono ?_;rintro e W ⟨rfl,hW⟩;subst W)
   all_goals(go_meet;exact⟨rfl,h0.out⟩)
  |false=>
   go_wp2_with (first
    |(go_at_call 142;refine(kb.out _).mono ?_;rintro e W ⟨rfl,hW⟩;subst W)
    |(go_at_call 143;refine(ka.out _).mono ?_;rintro e W ⟨rfl,hW⟩;subst W))
   all_goals(go_meet;exact⟨rfl,h0.out⟩)
 case rest=>
 obtain⟨hs29,hI⟩:=hcut;clear x0 y0 y2 y3 y4 y5 h0;obtain⟨x0,⟨y0,y2,y3,y4,y5⟩,e0,e1,e2,e3,e4⟩:=hI.cells;obtain⟨q0,q1,q2,q3,q4,q5,q6⟩:=cc hI;simp only at y0 y2 y3 y4 y5;try simp only at q0 q3 q6
 have hIs:=hI.hb.size;have hfz:=hI.b3.frozen;have hlt4:=hI.b4.lt;obtain⟨rfl,rfl⟩:=hnn.out;have hE2:E=[0,0,0,if kindsB t ⟨op,n,v,at_,a,bb⟩=true then 0 else 75]:=by rw[hE.out];exact if_pos ⟨rfl,rfl⟩
 rw[hkx.out]at hE2;subst hs29;have kbH:=hI.hb;have zo:∀j:Nat,j<t.length→wc.cell? ⟨gt,offt+j*6,none⟩=some (.int .i64 (opAt t j)):=fun j hj=>hop.out j wc hj kbH
 have hf4:=hfz 4;replace hI:=Hd hI;replace zo:=Hd zo;replace hE2:=Hd hE2;replace kbH:=Hd kbH;clear hfz q0 q1 q2 q3 q4 q5 q6 x0 y2 y3;go_upto_region 16 with fail
 go_cut [17] (fun s wx=>s=.bool wt∧wx=wc)
 case first=>
  by_cases h1:op=13
  ·have f1:=beqT h1;obtain rfl:wt=true:=by rw[hwt.out];unfold wantO;rw[zW h1];rfl
   replace h1:=Hd h1;go_wp2
   all_goals(go_meet;exact⟨rfl,rfl⟩)
  ·have f1:=beqF h1;by_cases h2:op=25
   ·have f2:=beqT h2;obtain rfl:wt=true:=by rw[hwt.out];unfold wantO;rw[zW h2];simp
    replace h1:=Hd h1;replace h2:=Hd h2;go_wp2
    all_goals(go_meet;exact⟨rfl,rfl⟩)
   ·have f2:=beqF h2;have hw3:wt=(op==26):=by rw[hwt.out];unfold wantO;rw[zV h1,zV h2];by_cases h:op=26<;>simp[h]
    have hw4:=Hd hw3;clear hw3;replace h1:=Hd h1;replace h2:=Hd h2;go_wp2
    all_goals(go_meet;exact⟨by rw[hw4.out],rfl⟩)
 case rest=>
 obtain⟨rfl,hwx⟩:=hcut;obtain rfl:=hwx.symm;clear hwx;obtain⟨kk,hkk⟩:∃b,b=(okK t wt a&&okK t wt bb):=⟨_,rfl⟩
 rw[←hkk]at hE2;go_upto_region 17 with fail
 go_cut [133] (fun s wx=>s=.bool (!kk)∧NS l A c q ⟨A1,c1,A2,c2,A3,c3⟩ ⟨op,n,v,at_,a,bb⟩ w wx 0 0 0 0)
 case first=>
  by_cases pa:a<0
  ·have oka:okK t wt a=true:=by unfold okK;rw[zW pa];rfl
   by_cases pb:bb<0
   ·have okb:okK t wt bb=true:=(by unfold okK;rw[zW pb];rfl);obtain rfl:kk=true:=by rw[hkk,oka,okb];rfl
    replace okb:=Hd okb;replace oka:=Hd oka;replace hkk:=Hd hkk;go_wp2_with (go_at_call 99;refine(kt.out _ _).mono ?_;rintro e W ⟨rfl,hW⟩;subst W)
    all_goals(go_meet;exact⟨(by first|rfl |rw[tbH.out]|rw[taH.out]),hI.out⟩)
   obtain⟨mb,hmb⟩:∃m:Nat,bb=m:=⟨bb.toNat,oQ⟩
   subst hmb;have zb:=zo.out mb oQ;have pb1:(0:Int)≤(mb:Int):=oQ;have pb2:(mb:Int)<t.length:=oQ;have okb:okK t wt (mb:Int)=(truthO (opAt t mb)==wt):=by unfold okK;rw[zV oQ,Bool.false_or,Int.toNat_natCast]
   generalize opAt t mb=ob at*;by_cases tb:truthO ob=wt
   ·have tb2:(truthO ob != wt)=false:=(by rw[tb];cases wt<;>rfl);obtain rfl:kk=true:=by rw[hkk,oka,okb,tb];simp
    have tbH:Hid ((truthO ob==wt)=true):=by show _=_;simpa using tb
    replace tb:=Hd tb;replace okb:=Hd okb;replace oka:=Hd oka;replace hkk:=Hd hkk;go_wp2_with (go_at_call 99;refine(kt.out _ _).mono ?_;rintro e W ⟨rfl,hW⟩;subst W)
    all_goals(go_meet;exact⟨(by first|rfl |rw[tbH.out]|rw[taH.out]),hI.out⟩)
   ·have tb2:(truthO ob != wt)=true:=(by simpa using tb);obtain rfl:kk=false:=by rw[hkk,oka,okb];simpa using tb
    have tbH:Hid ((truthO ob==wt)=false):=by show _=_;simpa using tb
    replace tb:=Hd tb;replace okb:=Hd okb;replace oka:=Hd oka;replace hkk:=Hd hkk;go_wp2_with (go_at_call 99;refine(kt.out _ _).mono ?_;rintro e W ⟨rfl,hW⟩;subst W)
    all_goals(go_meet;exact⟨(by first|rfl |rw[tbH.out]|rw[taH.out]),hI.out⟩)
  obtain⟨ma,hma⟩:∃m:Nat,a=m:=⟨a.toNat,oQ⟩
  subst hma;have za:=zo.out ma oQ;have pa1:(0:Int)≤(ma:Int):=oQ;have pa2:(ma:Int)<t.length:=oQ;have oka0:okK t wt (ma:Int)=(truthO (opAt t ma)==wt):=by unfold okK;rw[zV oQ,Bool.false_or,Int.toNat_natCast]
  generalize hoa:opAt t ma=oa at za oka0;replace hoa:=Hd hoa;by_cases ta:truthO oa=wt
  ·have ta2:(truthO oa != wt)=false:=by rw[ta];cases wt<;>rfl
   have oka:okK t wt (ma:Int)=true:=by rw[oka0,ta];simp
   replace ta:=Hd ta;replace oka0:=Hd oka0;by_cases pb:bb<0
   ·have okb:okK t wt bb=true:=(by unfold okK;rw[zW pb];rfl);obtain rfl:kk=true:=by rw[hkk,oka,okb];rfl
    replace okb:=Hd okb;replace oka:=Hd oka;replace hkk:=Hd hkk;go_wp2_with (go_at_call 99;refine(kt.out _ _).mono ?_;rintro e W ⟨rfl,hW⟩;subst W)
    all_goals(go_meet;exact⟨(by first|rfl |rw[tbH.out]|rw[taH.out]),hI.out⟩)
   obtain⟨mb,hmb⟩:∃m:Nat,bb=m:=⟨bb.toNat,oQ⟩
   subst hmb;have zb:=zo.out mb oQ;have pb1:(0:Int)≤(mb:Int):=oQ;have pb2:(mb:Int)<t.length:=oQ;have okb:okK t wt (mb:Int)=(truthO (opAt t mb)==wt):=by unfold okK;rw[zV oQ,Bool.false_or,Int.toNat_natCast]
   generalize opAt t mb=ob at*;by_cases tb:truthO ob=wt
   ·have tb2:(truthO ob != wt)=false:=(by rw[tb];cases wt<;>rfl);obtain rfl:kk=true:=by rw[hkk,oka,okb,tb];simp
    have tbH:Hid ((truthO ob==wt)=true):=by show _=_;simpa using tb
    replace tb:=Hd tb;replace okb:=Hd okb;replace oka:=Hd oka;replace hkk:=Hd hkk;go_wp2_with (go_at_call 99;refine(kt.out _ _).mono ?_;rintro e W ⟨rfl,hW⟩;subst W)
    all_goals(go_meet;exact⟨(by first|rfl |rw[tbH.out]|rw[taH.out]),hI.out⟩)
   ·have tb2:(truthO ob != wt)=true:=(by simpa using tb);obtain rfl:kk=false:=by rw[hkk,oka,okb];simpa using tb
    have tbH:Hid ((truthO ob==wt)=false):=by show _=_;simpa using tb
    replace tb:=Hd tb;replace okb:=Hd okb;replace oka:=Hd oka;replace hkk:=Hd hkk;go_wp2_with (go_at_call 99;refine(kt.out _ _).mono ?_;rintro e W ⟨rfl,hW⟩;subst W)
    all_goals(go_meet;exact⟨(by first|rfl |rw[tbH.out]|rw[taH.out]),hI.out⟩)
  ·have ta2:(truthO oa != wt)=true:=by simpa using ta
   have oka:okK t wt (ma:Int)=false:=by rw[oka0];simpa using ta
   obtain rfl:kk=false:=by rw[hkk,oka];rfl
   have taH:Hid ((truthO oa==wt)=false):=by show _=_;simpa using ta
   replace ta:=Hd ta;replace oka0:=Hd oka0;replace oka:=Hd oka;replace hkk:=Hd hkk;go_wp2_with (go_at_call 99;refine(kt.out _ _).mono ?_;rintro e W ⟨rfl,hW⟩;subst W)
   all_goals(go_meet;exact⟨(by first|rfl |rw[tbH.out]|rw[taH.out]),hI.out⟩)
 case rest=>
 obtain⟨rfl,hJ⟩:=hcut;clear e0 e1 e2 e3 e4 y0 y4 y5 hf4 hI;obtain⟨x0,⟨y0,y2,y3,y4,y5⟩,e0,e1,e2,e3,e4⟩:=hJ.cells;have hf4:=hJ.b3.frozen 4;have hJ4:=Hd (hJ.set (i:=4) (v:=75) (e1:=0) (e2:=0) (e3:=0) (e4:=75) rfl);replace hJ:=Hd hJ;replace hkk:=Hd hkk;cases kk with
 |true=>
  go_wp2_with (refine at_op (.store 140 (.tmp 10) (.tmp 135)) rfl ?_;refine wsb rfl 140 (.tmp 10) (.tmp 135) rfl (cs':=erV 0 0 0 0) hJ.out.b2 aggErr rfl rfl rfl rfl ?_;intro w1 hz1 hg1);exact bpa rfl hz1 aggErr rfl rfl (NdPost.mk hE2.out (hJ.out.fin hg1))
 |false=>
  go_wp2_with (refine at_op (.store 140 (.tmp 10) (.tmp 135)) rfl ?_;refine wsb rfl 140 (.tmp 10) (.tmp 135) rfl (cs':=erV 0 0 0 75) hJ4.out.b2 aggErr rfl rfl rfl rfl ?_;intro w1 hz1 hg1);exact bpa rfl hz1 aggErr rfl rfl (NdPost.mk hE2.out (hJ4.out.fin hg1))
end ckW
end Go.Proofs.YthaabihjeomipaaGreatDoor
