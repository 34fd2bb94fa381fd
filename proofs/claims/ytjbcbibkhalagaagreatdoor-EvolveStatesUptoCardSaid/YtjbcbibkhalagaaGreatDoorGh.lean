/- The document's Uses. -/
import Derived.Test.YtjbcbibkhalagaaGreatDoorGg
import Derived.Test.YtjbcbibkhalagaaGreatDoorGe
namespace Go.Proofs.YtjbcbibkhalagaaGreatDoor
set_option maxRecDepth 100000
set_option maxHeartbeats 16000000
open Proofs.Tryz Go.RowKit Go.Deep Go.Maps
set_option linter.unusedVariables false
set_option linter.unusedSimpArgs false
structure U3 (B:Nat)(W:World)(v1 v2 v3:Value)(L1 L2 L3:List Nat):Prop where
 o1:OL W B eL 3 1 v1 L1.length (L1.map iJ)
 o2:OL W B eL 3 1 v2 L2.length (L2.map iJ)
 o3:OL W B eL 3 1 v3 L3.length (L3.map iJ)
 XF:∀k,v1.ownBlock=some k->v2.ownBlock≠some k
 XG:∀k,v1.ownBlock=some k->v3.ownBlock≠some k
 YO:∀k,v2.ownBlock=some k->v3.ownBlock≠some k
section
variable {B:Nat}{W W' w1:World}{v1 v2 v3 v':Value}{L1 L2 L3:List Nat}
theorem U3.stay (h:U3 B W v1 v2 v3 L1 L2 L3)(hb:Bw W W'):U3 B W' v1 v2 v3 L1 L2 L3:=⟨h.o1.stay hb,h.o2.stay hb,h.o3.stay hb,h.XF,h.XG,h.YO⟩
theorem U3.swap (h:U3 B W v1 v2 v3 L1 L2 L3):U3 B W v2 v1 v3 L2 L1 L3:=⟨h.o2,h.o1,h.o3,λk a b=>h.XF k b a,h.YO,h.XG⟩
theorem U3.rot (h:U3 B W v1 v2 v3 L1 L2 L3):U3 B W v3 v2 v1 L3 L2 L1:=⟨h.o3,h.o2,h.o1,λk a b=>h.YO k b a,λk a b=>h.XG k b a,λk a b=>h.XF k b a⟩
theorem U3.set {g t cs}(h:U3 B W v1 v2 v3 L1 L2 L3)(hb:ao W g t cs)(ht:3≠t)(i u):U3 B (W.setCell ⟨g,i,none⟩ u) v1 v2 v3 L1 L2 L3:=
 ⟨h.o1.setCell (p:=⟨g,i,none⟩) (h.o1.aU hb ht) (λh=>h) u,h.o2.setCell (p:=⟨g,i,none⟩) (h.o2.aU hb ht) (λh=>h) u,h.o3.setCell (p:=⟨g,i,none⟩) (h.o3.aU hb ht) (λh=>h) u,h.XF,h.XG,h.YO⟩
theorem U3.UK {o i}(h:U3 B W v1 v2 v3 L1 L2 L3)(hg:(W.alloc o).grownBy w1 v1.ownBlock)(hO:OL w1 B eL 3 1 v' (L1.length+1) (L1.map iJ++[iJ i]))(ha:v'.ownBlock=v1.ownBlock\/v'.ownBlock=some (W.alloc o).heap.size):U3 B w1 v' v2 v3 (L1++[i]) L2 L3:=by
 have ne:∀{v:Value}{L:List Nat},OL W B eL 3 1 v L.length (L.map iJ)->(∀k,v1.ownBlock=some k->v.ownBlock≠some k)->∀k,v'.ownBlock=some k->v.ownBlock≠some k:=λho hn k hk hv=>by
  rcases ha with e |e
  .exact hn k (by rw[<-e];exact hk) hv
  .have:=(ho.lt k hv).2;rw[hk]at e;injection e with e
   simp at e;omega
 have nn:∀{v:Value},(∀k,v1.ownBlock=some k->v.ownBlock≠some k)->v.ownBlock=none\/v.ownBlock≠v1.ownBlock:=λ {v} hn=>by
  cases hv:v.ownBlock with
  |none=>exact .inl rfl
  |some k=>exact .inr λe=>hn k e.symm hv
 refine⟨by rw[zH,xR];exact hO,(h.o2.alloc o).kept hg (nn h.XF) (λ_ h=>h.elim),(h.o3.alloc o).kept hg (nn h.XG) (λ_ h=>h.elim),ne h.o2 h.XF,ne h.o3 h.XG,h.YO⟩
end
structure UV (q:Qy)(s:fV)(w wr:World)(v1 v2 v3:Value)(L1 L2 L3:List Nat):Prop where
 hb:Bw w wr
 b0:ao wr w.heap.size 31 (qV q s)
 b1:ao wr (w.heap.size+1) 184 [.slice none 0 0,.slice none 0 0,.slice none 0 0]
 b2:ao wr (w.heap.size+1+1) 184 [v1,v2,v3]
 u3:U3 w.heap.size wr v1 v2 v3 L1 L2 L3
section
variable {q:Qy}{s:fV}{w wr W w1:World}{v1 v2 v3 v':Value}{L1 L2 L3:List Nat}
theorem UV.stay (h:UV q s w wr v1 v2 v3 L1 L2 L3)(hb:Bw wr W):UV q s w W v1 v2 v3 L1 L2 L3:=⟨h.hb.trans (hb.mono h.hb.size),h.b0.stay hb,h.b1.stay hb,h.b2.stay hb,h.u3.stay hb⟩
theorem UV.new (q s w):UV q s w (((w.alloc (.cells ⟨qV q s⟩ 31)).alloc (.cells ⟨[.slice none 0 0,.slice none 0 0,.slice none 0 0]⟩ 184)).alloc (.cells ⟨[.slice none 0 0,.slice none 0 0,.slice none 0 0]⟩ 184)) (.slice none 0 0) (.slice none 0 0) (.slice none 0 0) [] [] []:=
 ⟨((bA).alloc sJ _).alloc (by simp;omega) _,(((ao.new w _ _).alloc _).alloc _),((ao.new' sJ).alloc _),(ao.new' sJ),⟨OL.nil _ _ _ _ _,OL.nil _ _ _ _ _,OL.nil _ _ _ _ _,λk h=>by simp[Value.ownBlock]at h,λk h=>by simp[Value.ownBlock]at h,λk h=>by simp[Value.ownBlock]at h⟩⟩
theorem UV.up {o row k v u1 u2 u3 M1 M2 M3}(h:UV q s w wr v1 v2 v3 L1 L2 L3)(hg:(wr.alloc o).grownBy w1 row)(hr:∀g t cs,ao wr g t cs->3≠t->some g≠row)(hl:∀k,row=some k->w.heap.size<=k)(hU:U3 w.heap.size w1 u1 u2 u3 M1 M2 M3)(he:[v1,v2,v3].set k v=[u1,u2,u3]):UV q s w (w1.setCell ⟨w.heap.size+1+1,k,none⟩ v) u1 u2 u3 M1 M2 M3/\ao w1 (w.heap.size+1+1) 184 [v1,v2,v3]:=by
 have hs:=h.hb.size;have b2:=(h.b2.alloc o).grown hg (hr _ _ _ h.b2 dQ);have b0:=(h.b0.alloc o).grown hg (hr _ _ _ h.b0 dQ);have b1:=(h.b1.alloc o).grown hg (hr _ _ _ h.b1 dQ);refine⟨⟨((h.hb.alloc hs o).grown hg (by simp;omega) (λq hq=>hl q hq)).setCell (p:=⟨w.heap.size+1+1,k,none⟩) (by simp only;omega) _,b0.far (by simp only;omega) _,b1.far (by simp only;omega) _,?_,hU.set b2 dQ _ _⟩,b2⟩;have:=b2.dz k v;rw[he]at this;exact this
end
def vf (q:Qy)(t:List Nd)(P:Nd->Bool)(i j:Nat):Bool:=(t.take j).any λx=>decide (aM q x.v=(i:Int))&&P x
theorem vg {q t P i j x}(h:t[j]? =some x):vf q t P i (j+1)=(vf q t P i j||(decide (aM q x.v=(i:Int))&&P x)):=qv _ h
def Ay (q:Qy)(t:List Nd)(P:Nd->Bool)(n:Nat):List Nat:=(List.range n).filter λi=>t.any λx=>decide (aM q x.v=(i:Int))&&P x
theorem vh {q t P}(n):Ay q t P (n+1)=Ay q t P n++if vf q t P n t.length=true then [n]else []:=by
 unfold Ay vf;rw[sM,zL]
def C6 (q:Qy)(s:fV)(t:List Nd)(w:World)(i:Value)(wr:World):Prop:=∃(n:Nat)(v1 v2 v3:Value),n<=q.items.length/\i=.int .i64 n/\UV q s w wr v1 v2 v3 (Ay q t (λx=>bC x.op) n) (Ay q t lM n) (Ay q t (λx=>dm x.op) n)
theorem C6.mk {q s t w wr i v1 v2 v3 L1 L2 L3}(n)(h1:n<=q.items.length)(h2:i=.int .i64 n)(h:UV q s w wr v1 v2 v3 L1 L2 L3)(e1:L1=Ay q t (λx=>bC x.op) n)(e2:L2=Ay q t lM n)(e3:L3=Ay q t (λx=>dm x.op) n):C6 q s t w i wr:=⟨n,v1,v2,v3,h1,h2,e1▸e2▸e3▸h⟩
namespace dR
open cH
theorem Qw (q s A c F G t)(hs:jE q)(ht:tT t)(w)(R:QR w G q s)(hF:∀b,F b->b<w.heap.size)(r:Rd w F (.slice A t.length c) (.sl t.length (t.flatMap b9))):
  Cl 134 #[.agg ⟨qV q s⟩,.slice A t.length c] w (oG q t w):=by
 have h0:=UV.new q s w;have ki:∀(v:ByteArray) W,Bw w W->Cl 129 #[.agg ⟨qV q s⟩,.string v] W λe w'=>e=.returned (.int .i64 (aM q v))/\Bw W w':=λv W hW=>ox q s G v hs.il W (R.under hW).lt (R.under hW).r1
 have iT:=hs.il;have hl:=ht.1;have cc:∀{W v1 v2 v3 L1 L2 L3},UV q s w W v1 v2 v3 L1 L2 L3->_:=λ {W v1 v2 v3 L1 L2 L3} (h:UV q s w W v1 v2 v3 L1 L2 L3)=>nU h.b0
 obtain⟨x0,x1,x2,x3,x4,x5,x6⟩:=nU h0.b0;have YP:dn q t=Ay q t (λx=>bC x.op) q.items.length:=rfl;obtain⟨A1,c1,A2,c2,A3,c3⟩:=s;simp only[qV]at h0 ki x0 x3 x6 |-;replace⟨r,hF,ki,h0,YP⟩:=H5 r hF ki h0 YP;clear hs ht R;go_enter func134,ntmps134;go_wp2;clear x0 x1 x2 x3 x4 x5 x6;go_loopw [6] (λi wr=>C6 q ⟨A1,c1,A2,c2,A3,c3⟩ t w i wr) (λi _=>q.items.length- (intOf i).toNat)
 .exact⟨0,_,_,_,zE _,rfl,h0.o⟩
 clear h0;obtain⟨n,v1,v2,v3,hn,rfl,hI⟩:=hrel;have uz:=vh (q:=q) (t:=t) (P:=λx=>bC x.op) n;have wm:=vh (q:=q) (t:=t) (P:=lM) n;have YQ:=vh (q:=q) (t:=t) (P:=λx=>dm x.op) n;have qK:(Ay q t (λx=>bC x.op) n).length<=1048576:=zU (ky n) oQ;have lp:(Ay q t lM n).length<=1048576:=zU (ky n) oQ;have Qx:(Ay q t (λx=>dm x.op) n).length<=1048576:=zU (ky n) oQ;obtain⟨x0,x1,x2,x3,x4,x5,x6⟩:=cc hI;try simp only at x0 x3 x6
 by_cases hlt:n<q.items.length
 .have g1:=aH n;have g2:=aV n q.items.length;generalize Ay q t (λx=>bC x.op) n=L1 at*;generalize Ay q t lM n=L2 at*;generalize Ay q t (λx=>dm x.op) n=L3 at*;obtain⟨wo,gU⟩:=aB wr
  subst gU;have hbo:=hI.hb.size;replace⟨uz,wm,YQ,hI⟩:=H4 uz wm YQ hI;go_wp2;go_loopw [7,8,9,10] (λb1 b2 b3 i wr=>∃j:Nat,j<=t.length/\i=.int .i64 j/\b1=.bool (vf q t (λx=>bC x.op) n j)/\b2=.bool (vf q t lM n j)/\b3=.bool (vf q t (λx=>dm x.op) n j)/\Bw wo wr) (λ_ _ _ i _=>t.length- (intOf i).toNat)
  .exact⟨0,zE _,rfl,rfl,rfl,rfl,bR⟩
  obtain⟨j,hj,rfl,rfl,rfl,rfl,hB⟩:=hrel;by_cases oK:j<t.length
  .obtain⟨x,hx⟩:=av oK;have hJ:=hI.o.stay hB;have uv:=vg (q:=q) (P:=λx=>bC x.op) (i:=n) hx;have J5:=vg (q:=q) (P:=lM) (i:=n) hx;have zy:=vg (q:=q) (P:=λx=>dm x.op) (i:=n) hx;have UL:lM x=decide (x.op=11):=rfl;obtain⟨g,off,rfl,_,z0,z1,z2,z3,z4,z5⟩:=dk (r.o.under hJ.hb hF.o) hx;have zz:∀W,Bw wr W->W.cell? ⟨g,off+j*6,none⟩=some (.int .i64 x.op):=λW hW=>by
    obtain⟨_,_,e,_,q0,_⟩:=dk (r.o.under (hJ.hb.trans (hW.mono hJ.hb.size)) hF.o) hx;injection e with e
    injection e with e1 e2
    subst e1 e2;exact q0
   have g3:=aH j;have g4:=aV j t.length;have Qz:=ki.o x.v;obtain⟨kv,hkv⟩:=aB (aM q x.v)
   rw[<-hkv]at Qz uv J5 zy;have ccx:∀W,Bw wr W->_:=λW hW=>cc (hJ.stay hW)
   obtain⟨y0,y1,y2,y3,y4,y5,y6⟩:=cc hJ;try simp only at y0 y3 y6 ccx
   generalize vf q t (λx=>bC x.op) n j=b1 at*;generalize vf q t lM n j=b2 at*;generalize vf q t (λx=>dm x.op) n j=b3 at*;have hBs:=hB.size;replace⟨Qz,hkv,uv,J5,zy,zz,ccx,hJ,hx,hB⟩:=yX Qz hkv uv J5 zy zz ccx hJ hx hB;clear x0 x1 x2 x3 x4 x5 x6;go_upto_region 9 with fail
   go_cut [11] (λs wx=>s=.int .i64 kv/\Bw wr wx)
   .go_region_law ((go_simp;(go_at_call 129;refine(Qz.o _ (by first|exact hJ.o.hb |exact hJ.o.hb.drew |exact(hJ.o.stay (below_drewN bR _)).hb)).eQ λW hW=>?_;have Lh:Bw wr W:=(by first|exact hW |exact(bR).drew.trans hW |exact(below_drewN bR _).trans hW);obtain⟨u0,u1,u2,u3,u4,u5,u6⟩:=ccx.o W Lh;replace Lh:=Hd Lh;clear hW)))
    all_goals(go_wp2;all_goals(go_meet;exact⟨rfl,Lh.o⟩))
   obtain⟨rfl,hZ⟩:=hcut;have zc:=zz.o _ hZ;have O4:=Hd (hB.o.trans (hZ.mono hBs));have hK:=Hd (hJ.o.stay hZ);replace hZ:=Hd hZ;clear y0 y1 y2 y3 y4 y5 y6 z0 z1 z2 z3 z4 z5;by_cases QA:kv=(n:Int)
   case neg=>
    have f1:=gL QA;have f2:=cM QA;have hd:decide (kv=(n:Int))=false:=zV QA;have r1:Hid (b1=vf q t (λx=>bC x.op) n (j+1)):=by show _=_;rw[uv.o,hd];simp
    have r2:Hid (b2=vf q t lM n (j+1)):=by show _=_;rw[J5.o,hd];simp
    have r3:Hid (b3=vf q t (λx=>dm x.op) n (j+1)):=by show _=_;rw[zy.o,hd];simp
    replace⟨QA,hd⟩:=H2 QA hd;go_wp2;go_roundw
    .exact⟨j+1,oQ,gQ,by rw[<-r1.o],by rw[<-r2.o],by rw[<-r3.o],O4.o⟩
    exact mQ
   have f1:=Ua QA;have hd:decide (kv=(n:Int))=true:=zW QA;have r1:Hid ((b1||bC x.op)=vf q t (λx=>bC x.op) n (j+1)):=by show _=_;rw[uv.o,hd];simp
   have r2:Hid ((b2||decide (x.op=11))=vf q t lM n (j+1)):=by show _=_;rw[J5.o,hd,UL];simp
   have r3:Hid ((b3||dm x.op)=vf q t (λx=>dm x.op) n (j+1)):=by show _=_;rw[zy.o,hd];simp
   replace⟨QA,hd,UL⟩:=H3 QA hd UL;obtain⟨ba,fk⟩:=aB (bC x.op)
   obtain⟨ag,et⟩:=aB (dm x.op)
   have kb:∀W,Cl 158 #[.int .i64 x.op] W λe w'=>e=.returned (.bool ba)/\w'=W:=λW=>by rw[fk];exact rf x.op W
   have ka:∀W,Cl 159 #[.int .i64 x.op] W λe w'=>e=.returned (.bool ag)/\w'=W:=λW=>by rw[et];exact lh x.op W
   have r1':Hid ((b1||ba)=vf q t (λx=>bC x.op) n (j+1)):=(by rw[fk];exact r1);have r3':Hid ((b3||ag)=vf q t (λx=>dm x.op) n (j+1)):=by rw[et];exact r3
   replace⟨fk,et,kb,ka⟩:=H4 fk et kb ka;clear r1 r3;obtain⟨wy,hwy⟩:=aB wc
   subst hwy;go_upto_region 11 with fail
   go_cut [7] (λs wx=>s=.bool (b1||ba)/\wx=wy)
   .cases b1 with
    |true=>
     go_wp2
     all_goals(go_meet;exact⟨rfl,rfl⟩)
    |false=>
     go_wp2_with (go_at_call 158;refine(kb.o _).aR ?_)
     all_goals(go_meet;exact⟨rfl,rfl⟩)
   obtain⟨rfl,tW⟩:=hcut;obtain rfl:=tW.symm;clear tW;go_upto_region 12 with fail
   go_cut [8] (λs wx=>s=.bool (b2||decide (x.op=11))/\wx=wy)
   .cases b2 with
    |true=>
     go_wp2
     all_goals(go_meet;exact⟨rfl,rfl⟩)
    |false=>
     by_cases h11:x.op=11
     .have e:decide (x.op=11)=true:=zW h11;have f11:=mf h11;replace h11:=Hd h11;go_wp2
      all_goals(go_meet;exact⟨by rw[e];rfl,rfl⟩)
     .have e:decide (x.op=11)=false:=zV h11;have f11:=cM h11;replace h11:=Hd h11;go_wp2
      all_goals(go_meet;exact⟨by rw[e];rfl,rfl⟩)
   obtain⟨rfl,tW⟩:=hcut;obtain rfl:=tW.symm;clear tW;generalize UM:(b1||ba)=n1 at r1';generalize pT:(b2||decide (x.op=11))=n2 at r2;replace⟨UM,pT⟩:=H2 UM pT;cases b3 with
   |true=>
    have r3t:Hid (true=vf q t (λx=>dm x.op) n (j+1)):=r3';go_wp2;go_roundw
    .exact⟨j+1,oQ,gQ,by rw[<-r1'.o,<-UM.o],by rw[<-r2.o,<-pT.o],by rw[<-r3t.o],O4.o⟩
    exact mQ
   |false=>
    have r3t:Hid (ag=vf q t (λx=>dm x.op) n (j+1)):=r3';go_wp2_with (go_at_call 159;refine(ka.o _).aR ?_);go_roundw
    .exact⟨j+1,oQ,gQ,by rw[<-r1'.o,<-UM.o],by rw[<-r2.o,<-pT.o],by rw[<-r3t.o],O4.o⟩
    exact mQ
  .have g3:=jS j t.length;obtain rfl:j=t.length:=oQ;have hJ:=hI.o.stay hB;generalize vf q t (λx=>bC x.op) n t.length=b1 at*;generalize vf q t lM n t.length=b2 at*;generalize vf q t (λx=>dm x.op) n t.length=b3 at*;replace⟨hJ,hB⟩:=H2 hJ hB;clear x0 x1 x2 x3 x4 x5 x6;obtain⟨E1,e1,rfl⟩:=hJ.o.u3.o1.form;go_upto_if 62 with fail
   go_cut [6] (λs wx=>s=.int .i64 n/\∃u1 M1,Hid (M1=L1++if b1=true then [n]else [])/\UV q ⟨A1,c1,A2,c2,A3,c3⟩ w wx u1 v2 v3 M1 L2 L3)
   .cases b1 with
    |true=>
     have hq:=hJ.o;have c0:=hq.b2.cell 0;simp only[zY,xA]at c0;have dv:=Hd (hq.u3.o1.alloc (.cells ⟨[.int .i64 (n:Nat)]⟩ 3));have hhs:=hq.hb.size;have XE:=hq.b2.lt;have cY:∀v' w1,((_:World).alloc (.cells ⟨[.int .i64 (n:Nat)]⟩ 3)).grownBy w1 (Value.slice E1 L1.length e1).ownBlock->OL w1 w.heap.size eL 3 1 v' (L1.length+1) (L1.map iJ++[iJ n])->(v'.ownBlock=(Value.slice E1 L1.length e1).ownBlock\/v'.ownBlock=some ((_:World).alloc (.cells ⟨[.int .i64 (n:Nat)]⟩ 3)).heap.size)->_:=λv' w1 aw ax bu=>hq.up (k:=0) (v:=v') aw (λg t cs hb ht=>λe=>hq.u3.o1.aU hb ht e.symm) (λk hk=>(hq.u3.o1.lt k hk).1) (hq.u3.UK aw ax bu) rfl
     replace cY:=Hd cY;clear hq;go_wp2_with (at_builtin;refine ez rfl (.tmp 64) (.tmp 66) _ rfl (m:=1) (news:=[iJ n]) dS dv.o rfl rfl (Src.lit (show fB _ _ [.int .i64 n] [iJ n]from⟨.v _ rfl,trivial⟩)) rfl oQ oQ (by simp;omega) ?_;intro v' w1 ax aw bu;obtain⟨B3,d3,rfl⟩:=ax.form;obtain⟨fR,ej⟩:=cY.o _ _ aw ax bu;have q1:=ej.cell 0;have q2:=ej.frozen 0;simp only[zY,xA]at q1;replace fR:=Hd fR;clear ax aw bu ej)
     all_goals(go_meet;exact⟨rfl,_,_,rfl,fR.o⟩)
    |false=>
     go_wp2
     all_goals(go_meet;exact⟨rfl,_,_,(zT L1).symm,hJ.o⟩)
   obtain⟨rfl,u1,M1,M1e,eE⟩:=hcut;replace eE:=Hd eE;obtain⟨E2,e2,rfl⟩:=eE.o.u3.o2.form;go_upto_if 69 with fail
   go_cut [6] (λs wx=>s=.int .i64 n/\∃u2 M2,Hid (M2=L2++if b2=true then [n]else [])/\UV q ⟨A1,c1,A2,c2,A3,c3⟩ w wx u1 u2 v3 M1 M2 L3)
   .cases b2 with
    |true=>
     have hq:=eE.o;have c0:=hq.b2.cell 1;simp only[zY,xA]at c0;have dv:=Hd (hq.u3.o2.alloc (.cells ⟨[.int .i64 (n:Nat)]⟩ 3));have hhs:=hq.hb.size;have XE:=hq.b2.lt;have cY:∀v' w1,((_:World).alloc (.cells ⟨[.int .i64 (n:Nat)]⟩ 3)).grownBy w1 (Value.slice E2 L2.length e2).ownBlock->OL w1 w.heap.size eL 3 1 v' (L2.length+1) (L2.map iJ++[iJ n])->(v'.ownBlock=(Value.slice E2 L2.length e2).ownBlock\/v'.ownBlock=some ((_:World).alloc (.cells ⟨[.int .i64 (n:Nat)]⟩ 3)).heap.size)->_:=λv' w1 aw ax bu=>hq.up (k:=1) (v:=v') aw (λg t cs hb ht=>λe=>hq.u3.o2.aU hb ht e.symm) (λk hk=>(hq.u3.o2.lt k hk).1) ((hq.u3.swap.UK aw ax bu).swap) rfl
     replace cY:=Hd cY;clear hq;go_wp2_with (at_builtin;refine ez rfl (.tmp 71) (.tmp 73) _ rfl (m:=1) (news:=[iJ n]) dS dv.o rfl rfl (Src.lit (show fB _ _ [.int .i64 n] [iJ n]from⟨.v _ rfl,trivial⟩)) rfl oQ oQ (by simp;omega) ?_;intro v' w1 ax aw bu;obtain⟨B3,d3,rfl⟩:=ax.form;obtain⟨fR,ej⟩:=cY.o _ _ aw ax bu;have q1:=ej.cell 1;have q2:=ej.frozen 1;simp only[zY,xA]at q1;replace fR:=Hd fR;clear ax aw bu ej)
     all_goals(go_meet;exact⟨rfl,_,_,rfl,fR.o⟩)
    |false=>
     go_wp2
     all_goals(go_meet;exact⟨rfl,_,_,(zT L2).symm,eE.o⟩)
   obtain⟨rfl,u2,M2,M2e,bn⟩:=hcut;replace bn:=Hd bn;obtain⟨E3,e3,rfl⟩:=bn.o.u3.o3.form;go_upto_if 76 with fail
   cases b3 with
   |true=>
    have hq:=bn.o;have c0:=hq.b2.cell 2;simp only[zY,xA]at c0;have dv:=Hd (hq.u3.o3.alloc (.cells ⟨[.int .i64 (n:Nat)]⟩ 3));have hhs:=hq.hb.size;have XE:=hq.b2.lt;have cY:∀v' w1,((_:World).alloc (.cells ⟨[.int .i64 (n:Nat)]⟩ 3)).grownBy w1 (Value.slice E3 L3.length e3).ownBlock->OL w1 w.heap.size eL 3 1 v' (L3.length+1) (L3.map iJ++[iJ n])->(v'.ownBlock=(Value.slice E3 L3.length e3).ownBlock\/v'.ownBlock=some ((_:World).alloc (.cells ⟨[.int .i64 (n:Nat)]⟩ 3)).heap.size)->_:=λv' w1 aw ax bu=>hq.up (k:=2) (v:=v') aw (λg t cs hb ht=>λe=>hq.u3.o3.aU hb ht e.symm) (λk hk=>(hq.u3.o3.lt k hk).1) ((hq.u3.rot.UK aw ax bu).rot) rfl
    replace cY:=Hd cY;clear hq;go_wp2_with (at_builtin;refine ez rfl (.tmp 78) (.tmp 80) _ rfl (m:=1) (news:=[iJ n]) dS dv.o rfl rfl (Src.lit (show fB _ _ [.int .i64 n] [iJ n]from⟨.v _ rfl,trivial⟩)) rfl oQ oQ (by simp;omega) ?_;intro v' w1 ax aw bu;obtain⟨B3,d3,rfl⟩:=ax.form;obtain⟨fR,ej⟩:=cY.o _ _ aw ax bu;have q1:=ej.cell 2;have q2:=ej.frozen 2;simp only[zY,xA]at q1;replace fR:=Hd fR;clear ax aw bu ej);go_roundw
    .exact C6.mk (n+1) oQ gQ fR.o (M1e.o.trans uz.o.symm) (M2e.o.trans wm.o.symm) YQ.o.symm
    exact mQ
   |false=>
    go_wp2;go_roundw
    .exact C6.mk (n+1) oQ gQ bn.o (M1e.o.trans uz.o.symm) (M2e.o.trans wm.o.symm) ((zT L3).symm.trans YQ.o.symm)
    exact mQ
 .have g1:=jS n q.items.length;obtain rfl:n=q.items.length:=oQ;obtain⟨D1,d1,rfl⟩:=hI.u3.o1.form;obtain⟨D2,d2,rfl⟩:=hI.u3.o2.form;obtain⟨D3,d3,rfl⟩:=hI.u3.o3.form;have w0:=hI.b2.cell 0;have w1:=hI.b2.cell 1;have w2:=hI.b2.cell 2;simp only[zY,xA]at w0 w1 w2;generalize E5:Ay q t (λx=>bC x.op) q.items.length=M1 at hI w0;generalize Ay q t lM q.items.length=M2 at*;replace E5:=Hd E5;generalize Ay q t (λx=>dm x.op) q.items.length=M3 at*;have hne:∀{v:Value}{n:Nat}{ds:List D},OL wr w.heap.size eL 3 1 v n ds->v.ownBlock=none\/v.ownBlock≠some (w.heap.size+1):=λh=>.inr (h.aU hI.b1 dQ)
  replace hI:=Hd hI;go_wp2_with (refine ay (.store 184 (.tmp 4) (.tmp 83)) rfl ?_;refine eU rfl 184 (.tmp 4) (.tmp 83) rfl (cs':=[.slice D1 M1.length d1,.slice D2 M2.length d2,.slice D3 M3.length d3]) hI.o.b1 zx rfl rfl rfl rfl ?_;intro w1 cL aw);refine l5 rfl cL zx rfl rfl (oG.mk (show M1=dn q t from E5.o.symm) (hI.o.u3.o1.kept aw (hne hI.o.u3.o1) (λb h=>h.elim)) (hI.o.u3.o2.kept aw (hne hI.o.u3.o2) (λb h=>h.elim)) (hI.o.u3.o3.kept aw (hne hI.o.u3.o3) (λb h=>h.elim)) ?_);exact hI.o.hb.grown aw hI.o.hb.size (λq hq=>by injection hq with hq;omega)
end dR
theorem lP:jV prog 209 5:=⟨_,underlying209,rfl,kQ⟩
def rM (a1 a2 a3 a4:Int):List Value:=[.int .i64 0,.int .i64 a1,.int .i64 a2,.int .i64 a3,.int .i64 a4]
def gV (e:List Int)(w:World)(x:Ending)(w':World):Prop:=∃a1 a2 a3 a4,e=[a1,a2,a3,a4]/\x=.returned (.agg #[.int .i64 0,.int .i64 a1,.int .i64 a2,.int .i64 a3,.int .i64 a4])/\Bw w w'
theorem gV.mk {e w w' a1 a2 a3 a4}(h:e=[a1,a2,a3,a4])(hb:Bw w w'):gV e w (.returned (.agg ⟨rM a1 a2 a3 a4⟩)) w':=⟨a1,a2,a3,a4,h,rfl,hb⟩
structure NS (l:List Td)(A:Option Addr)(c:Nat)(q:Qy)(s:fV)(x:Nd)(w wr:World)(a1 a2 a3 a4:Int):Prop where
 sq:SQ l A c q s w wr
 b2:ao wr (w.heap.size+1+1) 209 (rM 0 0 0 0)
 b3:ao wr (w.heap.size+1+1+1) 209 (rM a1 a2 a3 a4)
 b4:ao wr (w.heap.size+1+1+1+1) 63 (cJ x)
section
variable {l:List Td}{A:Option Addr}{c:Nat}{q:Qy}{s:fV}{x:Nd}{w wr W w1:World}{a1 a2 a3 a4:Int}
theorem NS.stay (h:NS l A c q s x w wr a1 a2 a3 a4)(hb:Bw wr W):NS l A c q s x w W a1 a2 a3 a4:=⟨h.sq.stay hb,h.b2.stay hb,h.b3.stay hb,h.b4.stay hb⟩
theorem NS.new (l A c q s x w):NS l A c q s x w (((((w.alloc (.cells ⟨[.slice A l.length c]⟩ 24)).alloc (.cells ⟨qV q s⟩ 31)).alloc (.cells ⟨rM 0 0 0 0⟩ 209)).alloc (.cells ⟨rM 0 0 0 0⟩ 209)).alloc (.cells ⟨cJ x⟩ 63)) 0 0 0 0:=by
 have h3:∀W:World,Bw W (((W.alloc (.cells ⟨rM 0 0 0 0⟩ 209)).alloc (.cells ⟨rM 0 0 0 0⟩ 209)).alloc (.cells ⟨cJ x⟩ 63)):=λW=>((bA).alloc sJ _).alloc (by simp;omega) _
 exact⟨(SQ.new l A c q s w).stay (h3 _),(((ao.new' sJ).alloc _).alloc _),((ao.new' sJ).alloc _),ao.new' sJ⟩
theorem NS.cells (h:NS l A c q s x w wr a1 a2 a3 a4):(wr.cell? ⟨w.heap.size,0,none⟩=some (.slice A l.length c))/\(wr.cell? ⟨w.heap.size+1+1+1+1,0,none⟩=some (.int .i64 x.op)/\wr.cell? ⟨w.heap.size+1+1+1+1,2,none⟩=some (.string x.v)/\wr.cell? ⟨w.heap.size+1+1+1+1,3,none⟩=some (.string x.at_)/\wr.cell? ⟨w.heap.size+1+1+1+1,4,none⟩=some (.int .i64 x.a)/\wr.cell? ⟨w.heap.size+1+1+1+1,5,none⟩=some (.int .i64 x.b))/\
  (wr.cell? ⟨w.heap.size+1+1+1,0,none⟩=some (.int .i64 0)/\wr.cell? ⟨w.heap.size+1+1+1,1,none⟩=some (.int .i64 a1)/\wr.cell? ⟨w.heap.size+1+1+1,2,none⟩=some (.int .i64 a2)/\wr.cell? ⟨w.heap.size+1+1+1,3,none⟩=some (.int .i64 a3)/\wr.cell? ⟨w.heap.size+1+1+1,4,none⟩=some (.int .i64 a4)):=
 ⟨h.sq.b0.cell 0,⟨h.b4.cell 0,h.b4.cell 2,h.b4.cell 3,h.b4.cell 4,h.b4.cell 5⟩,h.b3.cell 0,h.b3.cell 1,h.b3.cell 2,h.b3.cell 3,h.b3.cell 4⟩
theorem NS.hb (h:NS l A c q s x w wr a1 a2 a3 a4):Bw w wr:=h.sq.hb
theorem NS.fin (h:NS l A c q s x w wr a1 a2 a3 a4)(hg:wr.grownBy w1 (some (w.heap.size+1+1))):Bw w w1:=h.hb.grown hg h.hb.size (λq hq=>by injection hq with hq;omega)
theorem NS.set {i v e1 e2 e3 e4}(h:NS l A c q s x w wr a1 a2 a3 a4)(he:(rM a1 a2 a3 a4).set i (.int .i64 v)=rM e1 e2 e3 e4):NS l A c q s x w (wr.setCell ⟨w.heap.size+1+1+1,i,none⟩ (.int .i64 v)) e1 e2 e3 e4:=by
 have hb:=h.hb.setCell (p:=⟨w.heap.size+1+1+1,i,none⟩) (by show w.heap.size<=w.heap.size+1+1+1;omega) (.int .i64 v);refine⟨⟨hb,h.sq.b0.far (by show w.heap.size≠w.heap.size+1+1+1;omega) _,h.sq.b1.far (by show w.heap.size+1≠w.heap.size+1+1+1;omega) _⟩,h.b2.far (by show w.heap.size+1+1≠w.heap.size+1+1+1;omega) _,?_,h.b4.far (by show w.heap.size+1+1+1+1≠w.heap.size+1+1+1;omega) _⟩;have:=h.b3.dz i (.int .i64 v);rw[he]at this;exact this
end
theorem aga {a b}(h:a=b):((!a)==b)=false:=by cases a<;>cases b<;>first|rfl |cases h
theorem agb {a b}(h:¬a=b):((!a)==b)=true:=by cases a<;>cases b<;>first|rfl |exact absurd rfl h
namespace dR
open cH
theorem LC (A c F l q s A5 c5 t)(i:Nat)(x res)(hl:iI l)(hs:jE q)(ht:tT t)(hx:t[i]? =some x)(BP:x.a<t.length)(bQ:x.b<t.length)(w)(hF:∀b,F b->b<w.heap.size)(r:Rd w F (.slice A l.length c) (.sl l.length (l.flatMap fj)))(R:QR w F q s)(rt:Rd w F (.slice A5 t.length c5) (.sl t.length (t.flatMap b9)))(qg:bC x.op=false/\dm x.op=false):
  Cl 130 #[.agg ⟨[.slice A l.length c]⟩,.agg ⟨qV q s⟩,.slice A5 t.length c5,.int .i64 i,.bool res] w (gV (dA l q t res x) w):=by
 have h0:=NS.new l A c q s x w;have ki:∀W,Bw w W->Cl 129 #[.agg ⟨qV q s⟩,.string x.v] W λe w'=>e=.returned (.int .i64 (aM q x.v))/\Bw W w':=λW hW=>ox q s F x.v hs.il W (R.under hW).lt (R.under hW).r1
 have ke:∀(it:It) A2 c2 W,it∈q.items->Bw w W->Rd W F (.slice A2 it.ah.length c2) (.sl it.ah.length (it.ah.flatMap aG))->Cl 135 #[.agg ⟨[.slice A l.length c]⟩,.agg ⟨dX it (.slice A2 it.ah.length c2)⟩,.string x.at_] W λe w'=>e=.returned (.bool (hasB l it.ah x.at_))/\Bw W w':=λit A2 c2 W hx hW rx=>ur A c F l it A2 c2 x.at_ hl (hs.it it hx).1.1 W (λb h=>zF (hF b h) hW.size) (r.under hW hF) rx
 have jJ:Bw w ((((w.alloc (.cells ⟨[.slice A l.length c]⟩ 24)).alloc (.cells ⟨qV q s⟩ 31)).alloc (.cells ⟨rM 0 0 0 0⟩ 209)).alloc (.cells ⟨rM 0 0 0 0⟩ 209)):=(((bA).alloc sJ _).alloc (by simp;omega) _).alloc (by simp;omega) _;obtain⟨gt,I4,rfl,qe,z0,z1,z2,z3,z4,z5⟩:=dk (rt.under jJ hF) hx;have tC:=hF gt qe;have hop:∀(j:Nat) W,j<t.length->Bw w W->W.cell? ⟨gt,I4+j*6,none⟩=some (.int .i64 (opAt t j)):=λj W hj hW=>by
  obtain⟨y,hy⟩:=av hj;obtain⟨_,_,e,_,q0,_⟩:=dk (rt.under hW hF) hy;injection e with e
  injection e with e1 e2
  subst e1 e2;rw[dY hy];exact q0
 have iT:=hs.il;have BZ:=ht.1;have j7:=R.r1;have YR:=(zC.1 hx).1;obtain⟨E,hE⟩:=aB (dA l q t res x)
 rw[<-hE];unfold dA at hE;obtain⟨ba,fk⟩:=aB (bC x.op)
 obtain⟨ag,et⟩:=aB (dm x.op)
 rw[<-fk,<-et]at hE;have zq:Hid (ba=false/\ag=false):=by show _/\_;rw[fk,et];exact qg
 clear qg;have kb:∀W,Cl 158 #[.int .i64 x.op] W λe w'=>e=.returned (.bool ba)/\w'=W:=λW=>by rw[fk];exact rf x.op W
 have ka:∀W,Cl 159 #[.int .i64 x.op] W λe w'=>e=.returned (.bool ag)/\w'=W:=λW=>by rw[et];exact lh x.op W
 have kt:∀(o:Int) W,Cl 131 #[.int .i64 o] W λe w'=>e=.returned (.bool (aQ o))/\w'=W:=λo W=>ow o W
 have ua:∀it,fG x it res<->((ag=true/\it.neg=true)\/(x.op=11/\ld it=false)\/(res=true/\ba=true/\(it.neg=true\/ld it=true))):=λit=>by rw[fk,et];exact Iff.rfl
 have tV:∃b,b=ie x.op:=⟨_,rfl⟩
 have Fz:cF t x=(mU t (ie x.op) x.a&&mU t (ie x.op) x.b):=rfl;have cc:∀{W a1 a2 a3 a4},NS l A c q s x w W a1 a2 a3 a4->_:=λ {W a1 a2 a3 a4} (h:NS l A c q s x w W a1 a2 a3 a4)=>nU h.sq.b1
 obtain⟨op,n,v,at_,a,bb⟩:=x;obtain⟨A1,c1,A2,c2,A3,c3⟩:=s;simp only[qV,cJ,rM]at h0 ki ke ua tV Fz kb ka fk et BP bQ z0 z1 z2 z3 z4 z5 hE |-;obtain⟨wt,tU⟩:=tV;rw[<-tU]at Fz;have hg0:=aH i;have aw:=aV i t.length;replace⟨h0,kb,ka,ki,ke,kt,j7,hF,hop,hE,fk,et⟩:=uM h0 kb ka ki ke kt j7 hF hop hE fk et;replace⟨ua,tU,Fz,hx⟩:=H4 ua tU Fz hx;clear hs R r rt ht jJ;go_enter func130,ntmps130;go_upto_region 3 with fail
 clear z0 z1 z2 z3 z4 z5;obtain⟨x0,⟨y0,y2,y3,y4,y5⟩,_⟩:=h0.o.cells;simp only at y0 y2 y3 y4 y5;go_cut [29] (λs wx=>s=.bool (ba||ag)/\NS l A c q ⟨A1,c1,A2,c2,A3,c3⟩ ⟨op,n,v,at_,a,bb⟩ w wx 0 0 0 0)
 .cases ba with
  |true=>
   go_wp2_with (go_at_call 158;refine(kb.o _).aR ?_)
   all_goals(go_meet;exact⟨rfl,h0.o⟩)
  |false=>
   go_wp2_with (first
    |(go_at_call 158;refine(kb.o _).aR ?_)
    |(go_at_call 159;refine(ka.o _).aR ?_))
   all_goals(go_meet;exact⟨rfl,h0.o⟩)
 obtain⟨FC,hI⟩:=hcut;clear x0 y0 y2 y3 y4 y5 h0;obtain⟨x0,⟨y0,y2,y3,y4,y5⟩,e0,e1,e2,e3,e4⟩:=hI.cells;obtain⟨q0,q1,q2,q3,q4,q5,q6⟩:=cc hI;simp only at y0 y2 y3 y4 y5;try simp only at q0 q3 q6
 have hIs:=hI.hb.size;have O6:=hI.b3.frozen;have QC:=hI.b4.lt;obtain⟨rfl,rfl⟩:=zq.o;have Ce:E=[0,0,0,if cF t ⟨op,n,v,at_,a,bb⟩=true then 0 else 75]:=by rw[hE.o];exact if_pos ⟨rfl,rfl⟩
 rw[Fz.o]at Ce;subst FC;have kbH:=hI.hb;have zo:∀j:Nat,j<t.length->wc.cell? ⟨gt,I4+j*6,none⟩=some (.int .i64 (opAt t j)):=λj hj=>hop.o j wc hj kbH
 have hf4:=O6 4;replace⟨hI,zo,Ce,kbH⟩:=H4 hI zo Ce kbH;clear O6 q0 q1 q2 q3 q4 q5 q6 x0 y2 y3;go_upto_region 16 with fail
 go_cut [17] (λs wx=>s=.bool wt/\wx=wc)
 .by_cases h1:op=13
  .have f1:=mf h1;obtain rfl:wt=true:=by rw[tU.o];unfold ie;rw[zW h1];rfl
   replace h1:=Hd h1;go_wp2
   all_goals(go_meet;exact⟨rfl,rfl⟩)
  .have f1:=cM h1;by_cases h2:op=25
   .have f2:=mf h2;obtain rfl:wt=true:=by rw[tU.o];unfold ie;rw[zW h2];simp
    replace⟨h1,h2⟩:=H2 h1 h2;go_wp2
    all_goals(go_meet;exact⟨rfl,rfl⟩)
   .have f2:=cM h2;have Xy:wt=(op==26):=by rw[tU.o];unfold ie;rw[zV h1,zV h2];by_cases h:op=26<;>simp[h]
    have hw4:=Hd Xy;clear Xy;replace⟨h1,h2⟩:=H2 h1 h2;go_wp2
    all_goals(go_meet;exact⟨by rw[hw4.o],rfl⟩)
 obtain⟨rfl,tW⟩:=hcut;obtain rfl:=tW.symm;clear tW;obtain⟨kk,pv⟩:=aB (mU t wt a&&mU t wt bb)
 rw[<-pv]at Ce;go_upto_region 17 with fail
 go_cut [133] (λs wx=>s=.bool (!kk)/\NS l A c q ⟨A1,c1,A2,c2,A3,c3⟩ ⟨op,n,v,at_,a,bb⟩ w wx 0 0 0 0)
 .by_cases pa:a<0
  .have vj:mU t wt a=true:=by unfold mU;rw[zW pa];rfl
   by_cases pb:bb<0
   .have wT:mU t wt bb=true:=(by unfold mU;rw[zW pb];rfl);obtain rfl:kk=true:=by rw[pv,vj,wT];rfl
    replace⟨wT,vj,pv⟩:=H3 wT vj pv;go_wp2_with (go_at_call 131;refine(kt.o _ _).aR ?_)
    all_goals(go_meet;exact⟨(by first|rfl |rw[O7.o]|rw[UN.o]),hI.o⟩)
   obtain⟨mb,sH⟩:∃m:Nat,bb=m:=⟨bb.toNat,oQ⟩
   subst sH;have zb:=zo.o mb oQ;have pb1:=aH mb;have pb2:=aV mb t.length;have wT:mU t wt (mb:Int)=(aQ (opAt t mb)==wt):=by unfold mU;rw[zV oQ,Bool.false_or,Int.toNat_natCast]
   generalize opAt t mb=ob at*;by_cases tb:aQ ob=wt
   .have tb2:(aQ ob != wt)=false:=(by rw[tb];cases wt<;>rfl);obtain rfl:kk=true:=by rw[pv,vj,wT,tb];simp
    have O7:Hid ((aQ ob==wt)=true):=by show _=_;simpa using tb
    replace⟨tb,wT,vj,pv⟩:=H4 tb wT vj pv;go_wp2_with (go_at_call 131;refine(kt.o _ _).aR ?_)
    all_goals(go_meet;exact⟨(by first|rfl |rw[O7.o]|rw[UN.o]),hI.o⟩)
   .have tb2:(aQ ob != wt)=true:=(by simpa using tb);obtain rfl:kk=false:=by rw[pv,vj,wT];simpa using tb
    have O7:Hid ((aQ ob==wt)=false):=by show _=_;simpa using tb
    replace⟨tb,wT,vj,pv⟩:=H4 tb wT vj pv;go_wp2_with (go_at_call 131;refine(kt.o _ _).aR ?_)
    all_goals(go_meet;exact⟨(by first|rfl |rw[O7.o]|rw[UN.o]),hI.o⟩)
  obtain⟨ma,hma⟩:∃m:Nat,a=m:=⟨a.toNat,oQ⟩
  subst hma;have za:=zo.o ma oQ;have pa1:=aH ma;have pa2:=aV ma t.length;have FD:mU t wt (ma:Int)=(aQ (opAt t ma)==wt):=by unfold mU;rw[zV oQ,Bool.false_or,Int.toNat_natCast]
  generalize Yy:opAt t ma=oa at za FD;replace Yy:=Hd Yy;by_cases ta:aQ oa=wt
  .have ta2:(aQ oa != wt)=false:=by rw[ta];cases wt<;>rfl
   have vj:mU t wt (ma:Int)=true:=by rw[FD,ta];simp
   replace⟨ta,FD⟩:=H2 ta FD;by_cases pb:bb<0
   .have wT:mU t wt bb=true:=(by unfold mU;rw[zW pb];rfl);obtain rfl:kk=true:=by rw[pv,vj,wT];rfl
    replace⟨wT,vj,pv⟩:=H3 wT vj pv;go_wp2_with (go_at_call 131;refine(kt.o _ _).aR ?_)
    all_goals(go_meet;exact⟨(by first|rfl |rw[O7.o]|rw[UN.o]),hI.o⟩)
   obtain⟨mb,sH⟩:∃m:Nat,bb=m:=⟨bb.toNat,oQ⟩
   subst sH;have zb:=zo.o mb oQ;have pb1:=aH mb;have pb2:=aV mb t.length;have wT:mU t wt (mb:Int)=(aQ (opAt t mb)==wt):=by unfold mU;rw[zV oQ,Bool.false_or,Int.toNat_natCast]
   generalize opAt t mb=ob at*;by_cases tb:aQ ob=wt
   .have tb2:(aQ ob != wt)=false:=(by rw[tb];cases wt<;>rfl);obtain rfl:kk=true:=by rw[pv,vj,wT,tb];simp
    have O7:Hid ((aQ ob==wt)=true):=by show _=_;simpa using tb
    replace⟨tb,wT,vj,pv⟩:=H4 tb wT vj pv;go_wp2_with (go_at_call 131;refine(kt.o _ _).aR ?_)
    all_goals(go_meet;exact⟨(by first|rfl |rw[O7.o]|rw[UN.o]),hI.o⟩)
   .have tb2:(aQ ob != wt)=true:=(by simpa using tb);obtain rfl:kk=false:=by rw[pv,vj,wT];simpa using tb
    have O7:Hid ((aQ ob==wt)=false):=by show _=_;simpa using tb
    replace⟨tb,wT,vj,pv⟩:=H4 tb wT vj pv;go_wp2_with (go_at_call 131;refine(kt.o _ _).aR ?_)
    all_goals(go_meet;exact⟨(by first|rfl |rw[O7.o]|rw[UN.o]),hI.o⟩)
  .have ta2:(aQ oa != wt)=true:=by simpa using ta
   have vj:mU t wt (ma:Int)=false:=by rw[FD];simpa using ta
   obtain rfl:kk=false:=by rw[pv,vj];rfl
   have UN:Hid ((aQ oa==wt)=false):=by show _=_;simpa using ta
   replace⟨ta,FD,vj,pv⟩:=H4 ta FD vj pv;go_wp2_with (go_at_call 131;refine(kt.o _ _).aR ?_)
   all_goals(go_meet;exact⟨(by first|rfl |rw[O7.o]|rw[UN.o]),hI.o⟩)
 obtain⟨rfl,hJ⟩:=hcut;clear e0 e1 e2 e3 e4 y0 y4 y5 hf4 hI;obtain⟨x0,⟨y0,y2,y3,y4,y5⟩,e0,e1,e2,e3,e4⟩:=hJ.cells;have hf4:=hJ.b3.frozen 4;have hJ4:=Hd (hJ.set (i:=4) (v:=75) (e1:=0) (e2:=0) (e3:=0) (e4:=75) rfl);replace⟨hJ,pv⟩:=H2 hJ pv;cases kk with
 |true=>
  go_wp2_with (refine ay (.store 209 (.tmp 10) (.tmp 135)) rfl ?_;refine eU rfl 209 (.tmp 10) (.tmp 135) rfl (cs':=rM 0 0 0 0) hJ.o.b2 lP rfl rfl rfl rfl ?_;intro w1 cL aw);exact l5 rfl cL lP rfl rfl (gV.mk Ce.o (hJ.o.fin aw))
 |false=>
  go_wp2_with (refine ay (.store 209 (.tmp 10) (.tmp 135)) rfl ?_;refine eU rfl 209 (.tmp 10) (.tmp 135) rfl (cs':=rM 0 0 0 75) hJ4.o.b2 lP rfl rfl rfl rfl ?_;intro w1 cL aw);exact l5 rfl cL lP rfl rfl (gV.mk Ce.o (hJ4.o.fin aw))
end dR
