/- The document's side. -/
import Derived.Test.YtjbcbibkhalagaaGreatDoorPa
namespace Go.Proofs.YtjbcbibkhalagaaGreatDoor
set_option maxRecDepth 100000
set_option maxHeartbeats 16000000
open Proofs.Tryz Go.RowKit Go.Deep
set_option linter.unusedVariables false
set_option linter.unusedSimpArgs false
def FA (F:Nat->Prop)(B:Nat)(va:Value)(b:Nat):Prop:=F b\/(B<=b/\some b≠va.ownBlock)
def FB (F:Nat->Prop)(B:Nat)(b:Nat):Prop:=F b\/B<=b
structure Cm (q:Qy)(s:fV)(FX:Nat->Prop)(w wr:World)(vo:Value)(N:List py)(va:Value)(M:List ByteArray):Prop where
 hb:Bw w wr
 b0:ao wr w.heap.size 31 (qV q s)
 o:OL wr w.heap.size FX 165 2 vo N.length (N.flatMap jO)
 all:OL wr w.heap.size bE 9 1 va M.length (M.flatMap aG)
section
variable {q:Qy}{s:fV}{F FX:Nat->Prop}{w wr W w1:World}{vo Vy va J9:Value}{N:List py}{M:List ByteArray}
theorem Cm.stay (h:Cm q s FX w wr vo N va M)(hb:Bw wr W):Cm q s FX w W vo N va M:=⟨h.hb.trans (hb.mono h.hb.size),h.b0.stay hb,h.o.stay hb,h.all.stay hb⟩
theorem Cm.mono {FY}(h:Cm q s FX w wr vo N va M)(hk:∀b,FX b->b<wr.heap.size->FY b):Cm q s FY w wr vo N va M:=⟨h.hb,h.b0,h.o.Ks hk,h.all⟩
theorem Cm.app {d}(h:Cm q s FX w wr vo N va M)(hg:wr.grownBy w1 vo.ownBlock)(hO:OL w1 w.heap.size FX 165 2 Vy (N.length+1) (N.flatMap jO++jO d)):Cm q s FX w w1 Vy (N++[d]) va M:=by
 have hs:=h.hb.size;refine⟨h.hb.grown hg hs (λq hq=>(h.o.lt q hq).1),h.b0.grown hg (λe=>h.o.aU h.b0 dQ e.symm),?_,h.all.kept hg (h.all.ne h.o dQ) (λ_ hb=>hb.elim)⟩;rw[zH,xD];simpa using hO
theorem Cm.adS {n}(hF:∀b,F b->b<w.heap.size)(h:Cm q s (FA F w.heap.size va) w wr vo N va M)(hg:wr.grownBy w1 va.ownBlock)(hO:OL w1 w.heap.size bE 9 1 J9 (M.length+1) (M.flatMap aG++aG n))(ha:J9.ownBlock=va.ownBlock\/J9.ownBlock=some wr.heap.size):Cm q s (FA F w.heap.size J9) w w1 vo N J9 (M++[n]):=by
 have hs:=h.hb.size;have hlt:∀b,FA F w.heap.size va b->some b≠va.ownBlock:=λb hb e=>by
  rcases hb with hb |hb
  .have h1:=hF b hb;have h2:=(h.all.lt b e.symm).1;omega
  .exact hb.2 e
 refine⟨h.hb.grown hg hs (λq hq=>(h.all.lt q hq).1),h.b0.grown hg (λe=>h.all.aU h.b0 dQ e.symm),?_,?_⟩
 .refine((h.o.Ks (G:=λb=>FA F w.heap.size va b/\FA F w.heap.size J9 b) λb hb hlb=>⟨hb,?_⟩).kept hg (h.o.ne h.all dQ) (λb hb=>hlt b hb.1)).mono λb hb=>hb.2
  rcases hb with hb |hb
  .exact .inl hb
  .refine .inr ⟨hb.1,?_⟩;rcases ha with e |e
   .rw[e];exact hb.2
   .rw[e];intro e2;injection e2 with e2;omega
 .rw[zH,xD];simpa using hO
end
theorem Vz (w:World)(n)(t:Nat):Rd (w.alloc (.cells ⟨[.string n]⟩ t)) (λb=>b=w.heap.size) (.slice (some ⟨w.heap.size,0,none⟩) 1 1) (.sl 1 (aG n)):=by
 refine .sl _ 1 1 w.heap.size 0 _ (λ_=>.string n) nR (by unfold maxLen;omega) (λ_=>⟨rfl,rfl⟩) (λk d hd=>?_) (λk d hd=>?_)
 .match k,hd with
  |0,hd=>exact(ao.new w t [.string n]).cell 0
  |k+1,hd=>simp[aG]at hd
 .match k,hd with
  |0,hd=>
   have:d=.v (.string n):=by simpa[aG] using hd.symm
   subst this;exact .v _ rfl
  |k+1,hd=>simp[aG]at hd
def jy (q:Qy)(j:Nat):List py:=(q.items.take j).flatMap λit=>it.ah.map λn=>⟨[n],emp⟩
theorem F5 {q j it}(h:q.items[j]? =some it):jy q (j+1)=jy q j++it.ah.map λn=>⟨[n],emp⟩:=by
 unfold jy;rw[zJ,h,xD];simp
theorem tf (q j):(jy q j).length=(AT q j).length:=by
 unfold jy AT;rw[List.length_flatMap,List.length_flatMap];simp
theorem yG (q):jy q q.items.length=q.items.flatMap λit=>it.ah.map λn=>⟨[n],emp⟩:=by unfold jy;rw[zL]
theorem vH (q)(hs:Cc q)(h:q.items.length<=10)(j):((q.ret.take j).flatMap (aA q)).length<=10485760:=by
 have h1:∀l:List (List Nd),(l.flatMap (aA q)).length<=(l.map List.length).sum*10:=λl=>by
  induction l with
  |nil=>simp
  |cons a l ih=>
   rw[zK,zH,List.map_cons,List.sum_cons];have:=lG q a h;omega
 have h2:=h1 (q.ret.take j);have h3:=uZ List.length q.ret j;have h4:(q.ret.map List.length).sum<=1048576:=hs.rt;omega
structure Jq (q:Qy)(s:fV)(F:Nat->Prop)(w wr:World)(vo:Value)(N:List py)(va:Value)(M:List ByteArray)(v7:Value)(L:List py):Prop where
 nd:Cm q s (FB F w.heap.size) w wr vo N va M
 l7:OL wr w.heap.size F 165 2 v7 L.length (L.flatMap jO)
 ne:v7.ownBlock=none\/v7.ownBlock≠vo.ownBlock
section
variable {q:Qy}{s:fV}{F:Nat->Prop}{w wr W w1:World}{vo Vy va v7:Value}{N L:List py}{M:List ByteArray}
theorem Jq.stay (h:Jq q s F w wr vo N va M v7 L)(hb:Bw wr W):Jq q s F w W vo N va M v7 L:=⟨h.nd.stay hb,h.l7.stay hb,h.ne⟩
theorem Jq.app {d}(hF:∀b,F b->b<w.heap.size)(h:Jq q s F w wr vo N va M v7 L)(hg:wr.grownBy w1 vo.ownBlock)(hO:OL w1 w.heap.size (FB F w.heap.size) 165 2 Vy (N.length+1) (N.flatMap jO++jO d))(ha:Vy.ownBlock=vo.ownBlock\/Vy.ownBlock=some wr.heap.size):Jq q s F w w1 Vy (N++[d]) va M v7 L:=by
 refine⟨h.nd.app hg hO,h.l7.kept hg h.ne (λb hb e=>by have h1:=hF b hb;have h2:=(h.nd.o.lt b e.symm).1;omega),?_⟩;rcases ha with e |e
 .rw[e];exact h.ne
 .rw[e];cases hq:v7.ownBlock with
  |none=>exact .inl rfl
  |some b=>exact .inr λe2=>by injection e2 with e2;have:=(h.l7.lt b hq).2;omega
theorem Jq.get {i d}(hF:∀b,F b->b<w.heap.size)(h:Jq q s F w wr vo N va M v7 L)(hd:L[i]? =some d):∃g cap A c,v7=.slice (some ⟨g,0,none⟩) L.length cap/\wr.cell? ⟨g,i*2,none⟩=some (.slice A d.ah.length c)/\wr.cell? ⟨g,i*2+1,none⟩=some (.string d.at_)/\
  Rd wr (λb=>FB F w.heap.size b/\some b≠vo.ownBlock) (.slice A d.ah.length c) (.sl d.ah.length (d.ah.flatMap aG)):=by
 obtain⟨g,cap,e,_,_,_,hc⟩:=h.l7.row (by have:=(zC.1 hd).1;omega);obtain⟨u0,Ey,JZ⟩:=hc (i*2+0) _ (po (f:=jO) (m:=2) (λ_=>rfl) hd rfl);obtain⟨u1,F2,MJ⟩:=hc (i*2+1) _ (po (f:=jO) (m:=2) (λ_=>rfl) hd rfl);rw[MJ.bH]at F2;obtain⟨A,c,rfl,_,_⟩:=JZ.cU;exact⟨g,cap,A,c,e,Ey,F2,JZ.mono λb hb _=>⟨.inl hb.1,λe=>by have h1:=hF b hb.1;have h2:=(h.nd.o.lt b e.symm).1;omega⟩⟩
end
namespace pX
open cH dR
theorem AU (q s F)(iT:q.items.length<=10)(hs:jE q)(mF:Cc q)(w)(R:QR w F q s):
  Cl 44 #[.agg ⟨qV q s⟩] w (td (aI q) (FB F w.heap.size) w):=by
 have h0:Cm q s (FA F w.heap.size (.slice none 0 0)) w (w.alloc (.cells ⟨qV q s⟩ 31)) (.slice none 0 0) [] (.slice none 0 0) []:=⟨bA,ao.new _ _ _,.nil _ _ _ _ _,.nil _ _ _ _ _⟩;have hF:=R.lt;have hits:=hs.it;have BQ:=hs.rl;have wZ:=λj=>zU (AX q j) mF.ty
 have S5:=vH q mF iT;have mP:=λ(i:Nat) it (hi:q.items[i]? =some it)=>eV R.r1 hi
 have sk:=λ(i:Nat) t (hi:q.ret[i]? =some t)=>nM R.r3 hi
 have kw:=λW (hW:Bw w W)=>DA q s s.a2 s.c2 F q.wh iT hs.wh.1 W (R.under hW) (R.under hW).r2
 have kt:=λW (hW:Bw w W)(A5:Option Addr)(c5:Nat) t (ht:t∈q.ret)(r:Rd w F (.slice A5 t.length c5) (.sl t.length (t.flatMap b9)))=>DA q s A5 c5 F t iT (hs.re t ht).1 W (R.under hW) (r.under hW R.lt)
 have XE:=lG q q.wh iT;have Pb:=hs.wh.1;obtain⟨R0,ek⟩:=aB (aI q)
 rw[<-ek];unfold aI at ek;rw[<-yG]at ek;obtain⟨A1,c1,A2,c2,A3,c3⟩:=s;simp only[qV]at h0 kw kt |-;try simp only at mP
 try simp only at sk
 replace⟨h0,hF,mP,sk,kw,kt,hits,wZ,S5,ek⟩:=yX h0 hF mP sk kw kt hits wZ S5 ek;clear R hs mF;go_enter func44,ntmps44;go_wp2;go_loopw [3,4,5] (λvo va i wr=>∃(j:Nat),j<=q.items.length/\i=.int .i64 j/\Cm q ⟨A1,c1,A2,c2,A3,c3⟩ (FA F w.heap.size va) w wr vo (jy q j) va (AT q j)) (λ_ _ i _=>q.items.length- (intOf i).toNat)
 .exact⟨0,zE _,rfl,h0.o⟩
 clear h0;obtain⟨j,hj,rfl,hI⟩:=hrel;obtain⟨Ao,co,rfl⟩:=hI.o.form;obtain⟨Aa,ca,rfl⟩:=hI.all.form;have Lt:=hI.hb.size;have y0:wr.cell? ⟨w.heap.size,0,none⟩=some (.slice A1 q.items.length c1):=hI.b0.cell 0;by_cases hlt:j<q.items.length
 .obtain⟨it,hi⟩:=av hlt;obtain⟨gI,oI,A5,c5,eI,sg,rx,i0,i1,i2,i3,i4⟩:=mP.o j it hi;try simp only at eI
  subst eI;have pA:=hF.o gI sg;have ki:=λW (hW:Bw w W)=>xW ((hW.cell (p:=⟨gI,oI+j*5+1,none⟩) pA).trans i1) (rx.under hW hF.o)
  have bz:=F5 hi;have hax:=AW hi;have hsm:=wZ.o (j+1);have uz:=tf q j;rw[hax,zH]at hsm;have g0:=aH j;have g1:=aV j q.items.length;replace⟨ki,hi,rx,bz,hax⟩:=H5 ki hi rx bz hax;have IX:=Hd hI;obtain⟨N0,E'⟩:=aB (jy q j)
  obtain⟨M0,vE⟩:=aB (AT q j)
  rw[<-E']at IX uz |-;rw[<-vE]at IX uz hsm |-;replace⟨E',vE⟩:=H2 E' vE;clear i0 i1 i2 i3 i4 hI;obtain⟨wo,gU⟩:=aB wr
  subst gU;go_wp2;clear y0;go_loopw [3,4,6] (λvo va i wr=>∃(k:Nat),k<=it.ah.length/\i=.int .i64 k/\Cm q ⟨some ⟨gI,oI,none⟩,c1,A2,c2,A3,c3⟩ (FA F w.heap.size va) w wr vo (N0++(it.ah.take k).map λn=>⟨[n],emp⟩) va (M0++it.ah.take k)) (λ_ _ i _=>it.ah.length- (intOf i).toNat)
  .exact⟨0,zE _,rfl,by simpa using IX.o⟩
  clear IX;obtain⟨k,hk,rfl,hI⟩:=hrel;obtain⟨Ap,cp,rfl⟩:=hI.o.form;obtain⟨Ab,cb,rfl⟩:=hI.all.form;have I7:=hI.hb.size;have y0:wr.cell? ⟨w.heap.size,0,none⟩=some (.slice (some ⟨gI,oI,none⟩) q.items.length c1):=hI.b0.cell 0;obtain⟨b1,Tr⟩:=ki.o wr hI.hb;by_cases s9:k<it.ah.length
  .obtain⟨n,hn⟩:=av s9;obtain⟨gT,oT,rfl,Zn,t0⟩:=dN Tr hn;have HA:=hF.o gT Zn;have p0:=aH k;have p1:=aV k it.ah.length;have etn:(it.ah.take (k+1))=it.ah.take k++[n]:=by rw[zJ,hn];rfl
   obtain⟨N2,p9⟩:=aB (N0++(it.ah.take k).map λn=>(⟨[n],emp⟩:py))
   obtain⟨M2,Jr⟩:=aB (M0++it.ah.take k)
   have Zl:N2.length<=1048576:=(by rw[p9];simp;omega);have ai7:M2.length<=1048576:=by rw[Jr];simp;omega
   have eN:N0++(it.ah.take (k+1)).map (λn=>(⟨[n],emp⟩:py))=N2++[⟨[n],emp⟩]:=(by rw[p9,etn];simp);have eM:M0++it.ah.take (k+1)=M2++[n]:=by rw[Jr,etn];simp
   rw[<-p9]at hI |-;rw[<-Jr]at hI |-;have ik:Src ((wr.alloc (.cells ⟨[.string n]⟩ 9)).alloc (.cells ⟨[.slice (some ⟨wr.heap.size,0,none⟩) 1 1,.string ⟨#[]⟩]⟩ 165)) (some ⟨wr.heap.size+1,0,none⟩) (jO ⟨[n],emp⟩) (λb=>FA F w.heap.size (.slice Ab M2.length cb) b/\some b≠(Value.slice Ap N2.length cp).ownBlock):=
    Src.F6 sJ (vG (d:=⟨[n],emp⟩) (A:=some ⟨wr.heap.size,0,none⟩) (c:=1) (by
     have:=(Vz wr n 9).mono (G:=λb=>FA F w.heap.size (.slice Ab M2.length cb) b/\some b≠(Value.slice Ap N2.length cp).ownBlock) λb hb _=>by
      subst hb;exact⟨.inr ⟨I7,λe=>by have:=(hI.all.lt _ e.symm).2;omega⟩,λe=>by have:=(hI.o.lt _ e.symm).2;omega⟩
     simpa using this))
   have Bc:=hI.stay ((bX (.cells ⟨[.string n]⟩ 9)).alloc sJ (.cells ⟨[.slice (some ⟨wr.heap.size,0,none⟩) 1 1,.string ⟨#[]⟩]⟩ 165));have kz:=λW (hW:Bw w W)=>xW ((ki.o W hW).1) ((hW.cell (p:=⟨gT,oT+k,none⟩) HA).trans ((hI.hb.cell (p:=⟨gT,oT+k,none⟩) HA).symm.trans t0))
   replace⟨ik,Bc,kz,eN,eM,p9,Jr,etn,hn,Tr⟩:=yX ik Bc kz eN eM p9 Jr etn hn Tr;clear hI;go_wp2_with (first
    |(at_builtin;refine ez rfl (.tmp 29) (.tmp 41) _ rfl (m:=1) (news:=jO ⟨[n],emp⟩) MY Bc.o.o rfl rfl ik.o rfl oQ oQ Bc.o.hb.size ?_;intro v' w1 ax aw bu;obtain⟨B3,d3,rfl⟩:=ax.form;have eE:=Bc.o.app aw ax;have HD:=eE.stay (bX (.cells ⟨[.string n]⟩ 9));clear y0 b1 t0;have y0:w1.cell? ⟨w.heap.size,0,none⟩=some (.slice (some ⟨gI,oI,none⟩) q.items.length c1):=eE.b0.cell 0;obtain⟨b1,t0⟩:=kz.o w1 eE.hb;replace HD:=Hd HD;clear ax aw bu eE)
    |(at_builtin;refine ez rfl (.tmp 43) (.tmp 53) _ rfl (m:=1) (news:=aG n) rm HD.o.all rfl rfl (Src.lit (show fB w1 _ [.string n] (aG n)from⟨.v _ rfl,trivial⟩)) rfl oQ oQ HD.o.hb.size ?_;intro v' w2 iK mc n7;obtain⟨B4,d4,rfl⟩:=iK.form;have bn:=Hd (HD.o.adS hF.o mc iK n7);clear iK mc n7))
   go_roundw
   .exact⟨k+1,oQ,gQ,by rw[eN.o,eM.o];exact bn.o⟩
   exact mQ
  .obtain rfl:k=it.ah.length:=oQ;rw[zL,E'.o,vE.o,<-bz.o,<-hax.o]at hI |-;replace⟨hI,Tr⟩:=H2 hI Tr;go_wp2;go_roundw
   .exact⟨j+1,oQ,gQ,hI.o⟩
   exact mQ
 .obtain rfl:j=q.items.length:=oQ;rw[qG]at hI |-;have E5:(dP q).length<=1048576:=by have:=wZ.o q.items.length;rwa [qG]at this
  have hN1:(jy q q.items.length).length<=1048576:=by rw[tf,qG];exact E5
  have Bc:=hI.mono (FY:=FB F w.heap.size) λb hb _=>hb.imp id λh=>h.1
  have y5:wr.cell? ⟨w.heap.size,5,none⟩=some (.string q.au):=hI.b0.cell 5;have Rv:Rd wr (λb=>FB F w.heap.size b/\some b≠(Value.slice Ao (jy q q.items.length).length co).ownBlock) (.slice Aa (dP q).length ca) (.sl (dP q).length ((dP q).flatMap aG)):=hI.all.Kr (λb hb _=>hb.elim) (λb hb Ug _=>⟨.inr Ug,λe=>by
   rcases hI.all.ne hI.o dQ with e2 |e2
   .rw[hb]at e2;cases e2
   .exact e2 (by rw[hb,e])⟩)
  have HD:=Hd (Bc.stay (bX (.cells ⟨[.slice Aa (dP q).length ca,.string q.au]⟩ 165)));replace⟨Rv,Bc⟩:=H2 Rv Bc;clear hI;obtain⟨pe,uw⟩:=aB (decide (q.au=emp))
  have f1:(q.au.toList==([]:List UInt8))=pe:=by rw[aN,uw]
  have f2:(q.au.toList != ([]:List UInt8))= !pe:=by rw[bne,f1]
  have f3:q.au.toList.isEmpty=pe:=by
   rw[<-f1];cases q.au.toList<;>rfl
  replace uw:=Hd uw;go_upto_if 57 with fail
  go_cut [3] (λv wx=>∃N2,Hid (N2=jy q q.items.length++if q.au=emp then []else [⟨dP q,q.au⟩])/\Cm q ⟨A1,c1,A2,c2,A3,c3⟩ (FB F w.heap.size) w wx v N2 (.slice Aa (dP q).length ca) (dP q))
  .cases pe with
   |true=>
    have ju:q.au=emp:=of_decide_eq_true uw.o.symm;have p9:Hid (jy q q.items.length=jy q q.items.length++if q.au=emp then []else [⟨dP q,q.au⟩]):=by show _=_;rw[if_pos ju,zT]
    replace ju:=Hd ju;go_wp2
    all_goals(go_meet;exact⟨_,p9,Bc.o⟩)
   |false=>
    have ju:¬q.au=emp:=of_decide_eq_false uw.o.symm;have p9:Hid (jy q q.items.length++[⟨dP q,q.au⟩]=jy q q.items.length++if q.au=emp then []else [⟨dP q,q.au⟩]):=by show _=_;rw[if_neg ju]
    replace ju:=Hd ju;go_wp2_with (at_builtin;refine ez rfl (.tmp 58) (.tmp 63) _ rfl (m:=1) (news:=jO ⟨dP q,q.au⟩) MY HD.o.o rfl rfl (Src.lit (vG (d:=⟨dP q,q.au⟩) Rv.o)) rfl oQ oQ HD.o.hb.size ?_;intro v' w1 ax aw bu;obtain⟨B3,d3,rfl⟩:=ax.form;have eE:=Hd (HD.o.app aw ax);clear ax aw bu)
    all_goals(go_meet;exact⟨_,p9,eE.o⟩)
  obtain⟨N2,p9,hI⟩:=hcut;have Zl:N2.length<=1048577:=by
   rw[p9.o,zH];split
   .simp;omega
   .simp;omega
  have j7:Hid (R0=N2++(aA q q.wh++q.ret.flatMap (aA q))):=by show _=_;rw[ek.o,p9.o,zR];rfl
  obtain⟨A4,c4,rfl⟩:=hI.o.form;clear y0 y5 Bc HD Rv p9;obtain⟨y0,y1,y2,y3,y4,y5,y6⟩:=nU hI.b0;simp only[zY]at y0 y3 y6;have xc:=Hd (kw.o _ hI.hb);replace hI:=Hd hI;go_wp2_with (go_at_call 85;refine xc.o.mono ?_;rintro e W1 ⟨v7,rfl,vD,a9⟩;obtain⟨A7,c7,rfl⟩:=vD.form;have hL7:=Hd (Jq.mk (hI.o.stay a9) (vD.base hI.o.hb.size) (by
   cases hq:(Value.slice A7 (aA q q.wh).length c7).ownBlock with
   |none=>exact .inl rfl
   |some b=>exact .inr λe=>(by have h1:=(vD.lt b hq).1;have h2:=(hI.o.o.lt b e.symm).2;omega)):Jq q ⟨A1,c1,A2,c2,A3,c3⟩ F w W1 (.slice A4 N2.length c4) N2 (.slice Aa (dP q).length ca) (dP q) (.slice A7 (aA q q.wh).length c7) (aA q q.wh));clear a9 vD)
  clear y0 y1 y2 y3 y4 y5 y6;generalize hLw:aA q q.wh=L7 at*;replace hLw:=Hd hLw;go_loopw [3,8] (λv i wr=>∃(k:Nat)(N3:List py),k<=L7.length/\i=.int .i64 k/\Hid (N3=N2++L7.take k)/\Jq q ⟨A1,c1,A2,c2,A3,c3⟩ F w wr v N3 (.slice Aa (dP q).length ca) (dP q) (.slice A7 L7.length c7) L7) (λ_ i _=>L7.length- (intOf i).toNat)
  .exact⟨0,N2,zE _,rfl,(by show N2=_;simp),hL7.o⟩
  clear hL7;obtain⟨k,N3,hk,rfl,Ru,xa⟩:=hrel;obtain⟨A8,c8,rfl⟩:=xa.nd.o.form;have Lt:=xa.nd.hb.size;have ai8:N3.length<=11534337:=by rw[Ru.o,zH,zO];omega
  by_cases hlt:k<L7.length
  .obtain⟨d,hd⟩:=av hlt;obtain⟨g7,LP,Ad,cd,e7,d0,d1,rd⟩:=xa.get hF.o hd;injection e7 with e71 e72 e73
   subst e71 e73;clear e72;have p0:=aH k;have p1:=aV k L7.length;have hN4:Hid (N3++[d]=N2++L7.take (k+1)):=by show _=_;rw[zJ,hd,Ru.o,zR];rfl
   have J':=Hd (xa.stay (bX (.cells ⟨[.slice Ad d.ah.length cd,.string d.at_]⟩ 165)));replace⟨rd,hd,xa⟩:=H3 rd hd xa;go_wp2_with (at_builtin;refine ez rfl (.tmp 75) (.tmp 80) _ rfl (m:=1) (news:=jO d) MY J'.o.nd.o rfl rfl (Src.lit (vG rd.o)) rfl oQ oQ J'.o.nd.hb.size ?_;intro v' w1 ax aw bu;obtain⟨B3,d3,rfl⟩:=ax.form;have eE:=Hd (J'.o.app hF.o aw ax bu);clear ax aw bu);go_roundw
   .exact⟨k+1,_,oQ,gQ,hN4,eE.o⟩
   exact mQ
  .obtain rfl:k=L7.length:=oQ;have O8:Hid (R0=N3++q.ret.flatMap (aA q)):=by show _=_;rw[j7.o,Ru.o,zL,zR]
   have dB:=Hd xa.nd;clear xa;go_wp2;go_loopw [3,9] (λv i wr=>∃(kj:Nat)(N5:List py),kj<=q.ret.length/\i=.int .i64 kj/\Hid (N5=N3++(q.ret.take kj).flatMap (aA q))/\Cm q ⟨A1,c1,A2,c2,A3,c3⟩ (FB F w.heap.size) w wr v N5 (.slice Aa (dP q).length ca) (dP q)) (λ_ i _=>q.ret.length- (intOf i).toNat)
   .exact⟨0,N3,zE _,rfl,(by show N3=_;simp),dB.o⟩
   clear dB;obtain⟨kj,N5,hkj,rfl,hN5,hI⟩:=hrel;obtain⟨A9,c9,rfl⟩:=hI.o.form;have Lt:=hI.hb.size;obtain⟨y0,y1,y2,y3,y4,y5,y6⟩:=nU hI.b0;simp only[zY]at y0 y3 y6;by_cases adX:kj<q.ret.length
   .obtain⟨t,ht⟩:=av adX;have nj:=zA ht;obtain⟨gR,oR,At,ct,eR,Rw,rt,r0⟩:=sk.o kj t ht;try simp only at eR
    subst eR;have Rx:=hF.o gR Rw;have p0:=aH kj;have p1:=aV kj q.ret.length;have XI:=S5.o (kj+1);have ert:(q.ret.take (kj+1)).flatMap (aA q)=(q.ret.take kj).flatMap (aA q)++aA q t:=by rw[zJ,ht,xD];simp
    rw[ert,zH]at XI;have aja:N5.length+(aA q t).length<=22020097:=by rw[hN5.o,zH];omega
    have kS:=λW (hW:Bw wr W)=>xW (show W.cell? ⟨w.heap.size,0,none⟩=some (.slice A1 q.items.length c1)from(hI.b0.stay hW).cell 0) (xW (show W.cell? ⟨w.heap.size,1,none⟩=some (.int .i64 q.mode)from(hI.b0.stay hW).cell 1) (xW (show W.cell? ⟨w.heap.size,2,none⟩=some (.int .i64 q.after)from(hI.b0.stay hW).cell 2) (xW (show W.cell? ⟨w.heap.size,3,none⟩=some (.slice A2 q.wh.length c2)from(hI.b0.stay hW).cell 3) (xW (show W.cell? ⟨w.heap.size,4,none⟩=some (.int .i64 q.within)from(hI.b0.stay hW).cell 4) (xW (show W.cell? ⟨w.heap.size,5,none⟩=some (.string q.au)from(hI.b0.stay hW).cell 5) (xW (show W.cell? ⟨w.heap.size,6,none⟩=some (.slice (some ⟨gR,oR,none⟩) q.ret.length c3)from(hI.b0.stay hW).cell 6) (((hI.hb.trans (hW.mono hI.hb.size)).cell (p:=⟨gR,oR+kj,none⟩) Rx).trans r0)))))))
    have ak:=xW (kS wr.drew (bR).drew) trivial;have rE:=Hd (kt.o wr.drew hI.hb.drew At ct t nj rt);replace⟨kS,hI,ht,nj,rt,ert⟩:=H6 kS hI ht nj rt ert;go_upto_region 21 with fail
    clear y0 y1 y2 y3 y4 y5 y6 r0;refine aC (p:=100) (S0:=λW=>W.cell? ⟨w.heap.size,0,none⟩=some (.slice A1 q.items.length c1)/\W.cell? ⟨w.heap.size,1,none⟩=some (.int .i64 q.mode)/\W.cell? ⟨w.heap.size,2,none⟩=some (.int .i64 q.after)/\W.cell? ⟨w.heap.size,3,none⟩=some (.slice A2 q.wh.length c2)/\W.cell? ⟨w.heap.size,4,none⟩=some (.int .i64 q.within)/\W.cell? ⟨w.heap.size,5,none⟩=some (.string q.au)/\W.cell? ⟨w.heap.size,6,none⟩=some (.slice (some ⟨gR,oR,none⟩) q.ret.length c3)/\W.cell? ⟨gR,oR+kj,none⟩=some (.slice At t.length ct)) (S1:=λ_=>True) kQ ?_;refine' aq 0 rfl ak ?_;refine' aq 1 rfl ak ?_;refine' aq 2 rfl ak ?_;refine' aq 3 rfl ak ?_;refine' aq 4 rfl ak ?_;refine' aq 5 rfl ak ?_;try simp only[Act.put,aK]
    refine Gs 6 rfl λK hK=>?_
    go_simp;go_at_call 85;refine rE.o.mono ?_;rintro e W2 ⟨v8,rfl,Jn,aX⟩;obtain⟨A8',c8',rfl⟩:=Jn.form;have cO:=(zB wr.heap.size wr).drew.trans aX;have Cn:=xW (kS.o W2 cO) trivial;have hL8:Jq q ⟨A1,c1,A2,c2,some ⟨gR,oR,none⟩,c3⟩ F w W2 (.slice A9 N5.length c9) N5 (.slice Aa (dP q).length ca) (dP q) (.slice A8' (aA q t).length c8') (aA q t):=⟨hI.o.stay cO,Jn.base (by have:=hI.o.hb.size;simpa using this),by
     cases hq:(Value.slice A8' (aA q t).length c8').ownBlock with
     |none=>exact .inl rfl
     |some b=>exact .inr λe=>(by have h1:=(Jn.lt b hq).1;have h2:=(hI.o.o.lt b e.symm).2;simp at h1;omega)⟩
    replace hL8:=Hd hL8;refine hK.o _ _ ⟨Cn.1,λ_=>trivial⟩ ?_;clear hK K ak aX Jn cO;try simp only[Act.put,aK]
    refine Gs 7 rfl λK hK=>?_
    go_simp;refine hK.o _ _ ⟨Cn.1,λ_=>trivial⟩ ?_;clear hK K Cn;refine Gd _ ?_;generalize hLt:aA q t=L8 at*;replace hLt:=Hd hLt;obtain⟨wo,gU⟩:=aB wr
    subst gU;go_wp2;go_loopw [3,10] (λv i wr=>∃(m:Nat)(N6:List py),m<=L8.length/\i=.int .i64 m/\Hid (N6=N5++L8.take m)/\Jq q ⟨A1,c1,A2,c2,some ⟨gR,oR,none⟩,c3⟩ F w wr v N6 (.slice Aa (dP q).length ca) (dP q) (.slice A8' L8.length c8') L8) (λ_ i _=>L8.length- (intOf i).toNat)
    .exact⟨0,N5,zE _,rfl,(by show N5=_;simp),hL8.o⟩
    clear hL8;obtain⟨m,N6,hm,rfl,hN6,xa⟩:=hrel;obtain⟨Ax,cx,rfl⟩:=xa.nd.o.form;have ac8:=xa.nd.hb.size;have ajb:N6.length<=22020097:=by rw[hN6.o,zH,zO];omega
    by_cases Vv:m<L8.length
    .obtain⟨d,hd⟩:=av Vv;obtain⟨g7,LP,Ad,cd,e7,d0,d1,rd⟩:=xa.get hF.o hd;injection e7 with e71 e72 e73
     subst e71 e73;clear e72;have p2:=aH m;have p3:=aV m L8.length;have hN7:Hid (N6++[d]=N5++L8.take (m+1)):=by show _=_;rw[zJ,hd,hN6.o,zR];rfl
     have J':=Hd (xa.stay (bX (.cells ⟨[.slice Ad d.ah.length cd,.string d.at_]⟩ 165)));replace⟨rd,hd,xa⟩:=H3 rd hd xa;go_wp2_with (at_builtin;refine ez rfl (.tmp 102) (.tmp 107) _ rfl (m:=1) (news:=jO d) MY J'.o.nd.o rfl rfl (Src.lit (vG rd.o)) rfl oQ oQ J'.o.nd.hb.size ?_;intro v' w1 ax aw bu;obtain⟨B3,d3,rfl⟩:=ax.form;have eE:=Hd (J'.o.app hF.o aw ax bu);clear ax aw bu);go_roundw
     .exact⟨m+1,_,oQ,gQ,hN7,eE.o⟩
     exact mQ
    .obtain rfl:m=L8.length:=oQ;have hN8:Hid (N6=N3++(q.ret.take (kj+1)).flatMap (aA q)):=by show _=_;rw[ert.o,hN6.o,zL,hN5.o,zR]
     have LO:=Hd xa.nd;clear xa;go_wp2;go_roundw
     .exact⟨kj+1,N6,oQ,gQ,hN8,LO.o⟩
     exact mQ
   .obtain rfl:kj=q.ret.length:=oQ;have ae:Hid (N5=R0):=by show _=_;rw[O8.o,hN5.o,zL]
    replace hI:=Hd hI;go_wp2;go_ret;exact td.mk ae.o hI.o.o hI.o.hb
end pX
