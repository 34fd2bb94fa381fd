/- The document's side. -/
import Derived.Test.YtfiodnlgiglhfaaGreatDoorPa
namespace Go.Proofs.YtfiodnlgiglhfaaGreatDoor
set_option maxRecDepth 100000
set_option maxHeartbeats 16000000
open Go.RowKit Go.Deep
set_option linter.unusedVariables false
set_option linter.unusedSimpArgs false
def FA (F:Nat→Prop)(B:Nat)(va:Value)(b:Nat):Prop:=F b∨(B≤b∧some b≠va.ownBlock)
def FB (F:Nat→Prop)(B:Nat)(b:Nat):Prop:=F b∨B≤b
structure NDS (q:Qy)(s:Sl3)(FX:Nat→Prop)(w wr:World)(vo:Value)(N:List Ned)(va:Value)(M:List ByteArray):Prop where
 hb:Bw w wr
 b0:Blk wr w.heap.size 32 (qV q s)
 out:OL wr w.heap.size FX 122 2 vo N.length (N.flatMap nedD)
 all:OL wr w.heap.size NoB 9 1 va M.length (M.flatMap strD)
section
variable {q:Qy}{s:Sl3}{F FX:Nat→Prop}{w wr W w1:World}{vo vo' va va':Value}{N:List Ned}{M:List ByteArray}
theorem NDS.stay (h:NDS q s FX w wr vo N va M)(hb:Bw wr W):NDS q s FX w W vo N va M:=⟨h.hb.trans (hb.mono h.hb.size),h.b0.stay hb,h.out.stay hb,h.all.stay hb⟩
theorem NDS.mono {FY:Nat→Prop}(h:NDS q s FX w wr vo N va M)(hk:∀b,FX b→b<wr.heap.size→FY b):NDS q s FY w wr vo N va M:=⟨h.hb,h.b0,h.out.monoLt hk,h.all⟩
theorem NDS.app {d:Ned}(h:NDS q s FX w wr vo N va M)(hg:wr.grownBy w1 vo.ownBlock)(hO:OL w1 w.heap.size FX 122 2 vo' (N.length+1) (N.flatMap nedD++nedD d)):NDS q s FX w w1 vo' (N++[d]) va M:=by
 have hs:=h.hb.size;refine⟨h.hb.grown hg hs (fun q hq=>(h.out.lt q hq).1),h.b0.grown hg (fun e=>h.out.neBlk h.b0 (by decide) e.symm),?_,h.all.kept hg (h.all.ne h.out (by decide)) (fun _ hb=>hb.elim)⟩;rw[zH,xD];simpa using hO
theorem NDS.all_ {n:ByteArray}(hF:∀b,F b→b<w.heap.size)(h:NDS q s (FA F w.heap.size va) w wr vo N va M)(hg:wr.grownBy w1 va.ownBlock)(hO:OL w1 w.heap.size NoB 9 1 va' (M.length+1) (M.flatMap strD++strD n))(ha:va'.ownBlock=va.ownBlock∨va'.ownBlock=some wr.heap.size):NDS q s (FA F w.heap.size va') w w1 vo N va' (M++[n]):=by
 have hs:=h.hb.size;have hlt:∀b,FA F w.heap.size va b→some b≠va.ownBlock:=fun b hb e=>by
  rcases hb with hb |hb
  ·have h1:=hF b hb;have h2:=(h.all.lt b e.symm).1;omega
  ·exact hb.2 e
 refine⟨h.hb.grown hg hs (fun q hq=>(h.all.lt q hq).1),h.b0.grown hg (fun e=>h.all.neBlk h.b0 (by decide) e.symm),?_,?_⟩
 ·refine((h.out.monoLt (G:=fun b=>FA F w.heap.size va b∧FA F w.heap.size va' b) fun b hb hlb=>⟨hb,?_⟩).kept hg (h.out.ne h.all (by decide)) (fun b hb=>hlt b hb.1)).mono fun b hb=>hb.2
  rcases hb with hb |hb
  ·exact .inl hb
  ·refine .inr ⟨hb.1,?_⟩;rcases ha with e |e
   ·rw[e];exact hb.2
   ·rw[e];intro e2;injection e2 with e2;omega
 ·rw[zH,xD];simpa using hO
end
theorem rd_one (w:World)(n:ByteArray)(t:Nat):Rd (w.alloc (.cells ⟨[.string n]⟩ t)) (fun b=>b=w.heap.size) (.slice (some ⟨w.heap.size,0,none⟩) 1 1) (.sl 1 (strD n)):=by
 refine .sl _ 1 1 w.heap.size 0 _ (fun _=>.string n) nR (by unfold maxLen;omega) (fun _=>⟨rfl,rfl⟩) (fun k d hd=>?_) (fun k d hd=>?_)
 ·match k,hd with
  |0,hd=>exact(Blk.new w t [.string n]).cell 0
  |k+1,hd=>simp[strD]at hd
 ·match k,hd with
  |0,hd=>
   have:d=.v (.string n):=by simpa[strD] using hd.symm
   subst this;exact .v _ rfl
  |k+1,hd=>simp[strD]at hd
def need1 (q:Qy)(j:Nat):List Ned:=(q.items.take j).flatMap fun it=>it.tys.map fun n=>⟨[n],emp⟩
theorem need1_next {q:Qy}{j:Nat}{it:It}(h:q.items[j]? =some it):need1 q (j+1)=need1 q j++it.tys.map fun n=>⟨[n],emp⟩:=by
 unfold need1;rw[zJ,h,xD];simp
theorem need1_len (q:Qy)(j:Nat):(need1 q j).length=(AT q j).length:=by
 unfold need1 AT;rw[List.length_flatMap,List.length_flatMap];simp
theorem need1_all (q:Qy):need1 q q.items.length=q.items.flatMap fun it=>it.tys.map fun n=>⟨[n],emp⟩:=by unfold need1;rw[zL]
theorem rets_needs (q:Qy)(hs:SzB q)(h:q.items.length≤10)(j:Nat):((q.ret.take j).flatMap (ofTreeN q)).length≤10485760:=by
 have h1:∀l:List (List Nd),(l.flatMap (ofTreeN q)).length≤(l.map List.length).sum*10:=fun l=>by
  induction l with
  |nil=>simp
  |cons a l ih=>
   rw[zK,zH,List.map_cons,List.sum_cons];have:=ofTreeN_len q a h;omega
 have h2:=h1 (q.ret.take j);have h3:=sum_take List.length q.ret j;have h4:(q.ret.map List.length).sum≤1048576:=hs.rt;omega
structure NLS (q:Qy)(s:Sl3)(F:Nat→Prop)(w wr:World)(vo:Value)(N:List Ned)(va:Value)(M:List ByteArray)(v7:Value)(L:List Ned):Prop where
 nd:NDS q s (FB F w.heap.size) w wr vo N va M
 l7:OL wr w.heap.size F 122 2 v7 L.length (L.flatMap nedD)
 ne:v7.ownBlock=none∨v7.ownBlock≠vo.ownBlock
section
variable {q:Qy}{s:Sl3}{F:Nat→Prop}{w wr W w1:World}{vo vo' va v7:Value}{N L:List Ned}{M:List ByteArray}
theorem NLS.stay (h:NLS q s F w wr vo N va M v7 L)(hb:Bw wr W):NLS q s F w W vo N va M v7 L:=⟨h.nd.stay hb,h.l7.stay hb,h.ne⟩
theorem NLS.app {d:Ned}(hF:∀b,F b→b<w.heap.size)(h:NLS q s F w wr vo N va M v7 L)(hg:wr.grownBy w1 vo.ownBlock)(hO:OL w1 w.heap.size (FB F w.heap.size) 122 2 vo' (N.length+1) (N.flatMap nedD++nedD d))(ha:vo'.ownBlock=vo.ownBlock∨vo'.ownBlock=some wr.heap.size):NLS q s F w w1 vo' (N++[d]) va M v7 L:=by
 refine⟨h.nd.app hg hO,h.l7.kept hg h.ne (fun b hb e=>by have h1:=hF b hb;have h2:=(h.nd.out.lt b e.symm).1;omega),?_⟩;rcases ha with e |e
 ·rw[e];exact h.ne
 ·rw[e];cases hq:v7.ownBlock with
  |none=>exact .inl rfl
  |some b=>exact .inr fun e2=>by injection e2 with e2;have:=(h.l7.lt b hq).2;omega
theorem NLS.get {i:Nat}{d:Ned}(hF:∀b,F b→b<w.heap.size)(h:NLS q s F w wr vo N va M v7 L)(hd:L[i]? =some d):∃g cap A c,v7=.slice (some ⟨g,0,none⟩) L.length cap∧wr.cell? ⟨g,i*2,none⟩=some (.slice A d.tys.length c)∧wr.cell? ⟨g,i*2+1,none⟩=some (.string d.at_)∧
  Rd wr (fun b=>FB F w.heap.size b∧some b≠vo.ownBlock) (.slice A d.tys.length c) (.sl d.tys.length (d.tys.flatMap strD)):=by
 obtain⟨g,cap,e,_,_,_,hc⟩:=h.l7.row (by have:=(zC.1 hd).1;omega);obtain⟨u0,hu0,hr0⟩:=hc (i*2+0) _ (fmg (f:=nedD) (m:=2) (fun _=>rfl) hd rfl);obtain⟨u1,hu1,hr1⟩:=hc (i*2+1) _ (fmg (f:=nedD) (m:=2) (fun _=>rfl) hd rfl);rw[hr1.v_inv]at hu1;obtain⟨A,c,rfl,_,_⟩:=hr0.sl_inv;exact⟨g,cap,A,c,e,hu0,hu1,hr0.mono fun b hb _=>⟨.inl hb.1,fun e=>by have h1:=hF b hb.1;have h2:=(h.nd.out.lt b e.symm).1;omega⟩⟩
end
namespace refW
open nmW ckW
theorem needs_k (q:Qy)(s:Sl3)(F:Nat→Prop)(hil:q.items.length≤10)(hs:SzQ q)(hSB:SzB q)(w:World)(R:QR w F q s):
  Calls Tryz.prog 23 #[.agg ⟨qV q s⟩] w (NePost (needsN q) (FB F w.heap.size) w):=by
 have h0:NDS q s (FA F w.heap.size (.slice none 0 0)) w (w.alloc (.cells ⟨qV q s⟩ 32)) (.slice none 0 0) [] (.slice none 0 0) []:=⟨bA,Blk.new _ _ _,.nil _ _ _ _ _,.nil _ _ _ _ _⟩;have hF:=R.lt;have hits:=hs.it;have hrl:=hs.rl;have hsum:=fun j=>zU (AT_len q j) hSB.ty
 have hrn:=rets_needs q hSB hil;have kit:=fun(i:Nat) it (hi:q.items[i]? =some it)=>it_at R.r1 hi
 have kre:=fun(i:Nat) t (hi:q.ret[i]? =some t)=>re_at R.r3 hi
 have kw:=fun W (hW:Bw w W)=>ofTree_k q s s.a2 s.c2 F q.wh hil hs.wh.1 W (R.under hW) (R.under hW).r2
 have kt:=fun W (hW:Bw w W)(A5:Option Addr)(c5:Nat) t (ht:t∈q.ret)(r:Rd w F (.slice A5 t.length c5) (.sl t.length (t.flatMap ndD)))=>ofTree_k q s A5 c5 F t hil (hs.re t ht).1 W (R.under hW) (r.under hW R.lt)
 have hwn:=ofTreeN_len q q.wh hil;have hwl:=hs.wh.1;obtain⟨R0,hR0⟩:∃R,R=needsN q:=⟨_,rfl⟩
 rw[←hR0];unfold needsN at hR0;rw[←need1_all]at hR0;obtain⟨A1,c1,A2,c2,A3,c3⟩:=s;simp only[qV]at h0 kw kt ⊢;try simp only at kit
 try simp only at kre
 replace h0:=Hd h0;replace hF:=Hd hF;replace kit:=Hd kit;replace kre:=Hd kre;replace kw:=Hd kw;replace kt:=Hd kt;replace hits:=Hd hits;replace hsum:=Hd hsum;replace hrn:=Hd hrn;replace hR0:=Hd hR0;clear R hs hSB;go_enter Tryz.func23,Tryz.ntmps23;go_wp2;go_loopw [3,4,5] (fun vo va i wr=>∃(j:Nat),j≤q.items.length∧i=.int .i64 j∧NDS q ⟨A1,c1,A2,c2,A3,c3⟩ (FA F w.heap.size va) w wr vo (need1 q j) va (AT q j)) (fun _ _ i _=>q.items.length- (intOf i).toNat)
 case atStart=>exact⟨0,zE _,rfl,h0.out⟩
 case round=>
  clear h0;obtain⟨j,hj,rfl,hI⟩:=hrel;obtain⟨Ao,co,rfl⟩:=hI.out.form;obtain⟨Aa,ca,rfl⟩:=hI.all.form;have hbs:=hI.hb.size;have y0:wr.cell? ⟨w.heap.size,0,none⟩=some (.slice A1 q.items.length c1):=hI.b0.cell 0;by_cases hlt:j<q.items.length
  ·obtain⟨it,hi⟩:=getx hlt;obtain⟨gI,oI,A5,c5,eI,hFI,rx,i0,i1,i2,i3,i4⟩:=kit.out j it hi;try simp only at eI
   subst eI;have hgI:=hF.out gI hFI;have ki:=fun W (hW:Bw w W)=>xW ((hW.cell (p:=⟨gI,oI+j*5+1,none⟩) hgI).trans i1) (rx.under hW hF.out)
   have hnx:=need1_next hi;have hax:=AT_next hi;have hsm:=hsum.out (j+1);have hn1:=need1_len q j;rw[hax,zH]at hsm;have g0:(0:Int)≤(j:Int):=by omega
   have g1:(j:Int)<q.items.length:=by omega
   replace ki:=Hd ki;replace hi:=Hd hi;replace rx:=Hd rx;replace hnx:=Hd hnx;replace hax:=Hd hax;have hIH:=Hd hI;obtain⟨N0,hN0⟩:∃N0,N0=need1 q j:=⟨_,rfl⟩
   obtain⟨M0,hM0⟩:∃M0,M0=AT q j:=⟨_,rfl⟩
   rw[←hN0]at hIH hn1 ⊢;rw[←hM0]at hIH hn1 hsm ⊢;replace hN0:=Hd hN0;replace hM0:=Hd hM0;clear i0 i1 i2 i3 i4 hI;obtain⟨wo,hwo⟩:∃wo:World,wo=wr:=⟨_,rfl⟩
   subst hwo;go_wp2;clear y0;go_loopw [3,4,6] (fun vo va i wr=>∃(k:Nat),k≤it.tys.length∧i=.int .i64 k∧NDS q ⟨some ⟨gI,oI,none⟩,c1,A2,c2,A3,c3⟩ (FA F w.heap.size va) w wr vo (N0++(it.tys.take k).map fun n=>⟨[n],emp⟩) va (M0++it.tys.take k)) (fun _ _ i _=>it.tys.length- (intOf i).toNat)
   case atStart=>exact⟨0,zE _,rfl,by simpa using hIH.out⟩
   case round=>
    clear hIH;obtain⟨k,hk,rfl,hI⟩:=hrel;obtain⟨Ap,cp,rfl⟩:=hI.out.form;obtain⟨Ab,cb,rfl⟩:=hI.all.form;have hbs2:=hI.hb.size;have y0:wr.cell? ⟨w.heap.size,0,none⟩=some (.slice (some ⟨gI,oI,none⟩) q.items.length c1):=hI.b0.cell 0;obtain⟨b1,rx2⟩:=ki.out wr hI.hb;by_cases hltk:k<it.tys.length
    ·obtain⟨n,hn⟩:=getx hltk;obtain⟨gT,oT,rfl,hFT,t0⟩:=str_at rx2 hn;have hgT:=hF.out gT hFT;have p0:(0:Int)≤(k:Int):=by omega
     have p1:(k:Int)<it.tys.length:=(by omega);have etn:(it.tys.take (k+1))=it.tys.take k++[n]:=by rw[zJ,hn];rfl
     obtain⟨N2,hN2⟩:∃N2,N2=N0++(it.tys.take k).map fun n=>(⟨[n],emp⟩:Ned):=⟨_,rfl⟩
     obtain⟨M2,hM2⟩:∃M2,M2=M0++it.tys.take k:=⟨_,rfl⟩
     have hN2l:N2.length≤1048576:=(by rw[hN2];simp;omega);have hM2l:M2.length≤1048576:=by rw[hM2];simp;omega
     have eN:N0++(it.tys.take (k+1)).map (fun n=>(⟨[n],emp⟩:Ned))=N2++[⟨[n],emp⟩]:=(by rw[hN2,etn];simp);have eM:M0++it.tys.take (k+1)=M2++[n]:=by rw[hM2,etn];simp
     rw[←hN2]at hI ⊢;rw[←hM2]at hI ⊢;have hsrc:Src ((wr.alloc (.cells ⟨[.string n]⟩ 9)).alloc (.cells ⟨[.slice (some ⟨wr.heap.size,0,none⟩) 1 1,.string ⟨#[]⟩]⟩ 122)) (some ⟨wr.heap.size+1,0,none⟩) (nedD ⟨[n],emp⟩) (fun b=>FA F w.heap.size (.slice Ab M2.length cb) b∧some b≠(Value.slice Ap N2.length cp).ownBlock):=
      Src.lit' (by simp) (ned_rd (d:=⟨[n],emp⟩) (A:=some ⟨wr.heap.size,0,none⟩) (c:=1) (by
       have:=(rd_one wr n 9).mono (G:=fun b=>FA F w.heap.size (.slice Ab M2.length cb) b∧some b≠(Value.slice Ap N2.length cp).ownBlock) fun b hb _=>by
        subst hb;exact⟨.inr ⟨hbs2,fun e=>by have:=(hI.all.lt _ e.symm).2;omega⟩,fun e=>by have:=(hI.out.lt _ e.symm).2;omega⟩
       simpa using this))
     have hIb:=hI.stay ((bX (.cells ⟨[.string n]⟩ 9)).alloc (by simp) (.cells ⟨[.slice (some ⟨wr.heap.size,0,none⟩) 1 1,.string ⟨#[]⟩]⟩ 122));have kz:=fun W (hW:Bw w W)=>xW ((ki.out W hW).1) ((hW.cell (p:=⟨gT,oT+k,none⟩) hgT).trans ((hI.hb.cell (p:=⟨gT,oT+k,none⟩) hgT).symm.trans t0))
     replace hsrc:=Hd hsrc;replace hIb:=Hd hIb;replace kz:=Hd kz;replace eN:=Hd eN;replace eM:=Hd eM;replace hN2:=Hd hN2;replace hM2:=Hd hM2;replace etn:=Hd etn;replace hn:=Hd hn;replace rx2:=Hd rx2;clear hI;go_wp2_with (first
      |(at_builtin;refine wpa rfl (.tmp 29) (.tmp 41) _ rfl (m:=1) (news:=nedD ⟨[n],emp⟩) elNe hIb.out.out rfl rfl hsrc.out rfl (by omega) (by omega) hIb.out.hb.size ?_;intro v' w1 hO1 hg1 ha1;obtain⟨B3,d3,rfl⟩:=hO1.form;have hI1:=hIb.out.app hg1 hO1;have hIc:=hI1.stay (bX (.cells ⟨[.string n]⟩ 9));clear y0 b1 t0;have y0:w1.cell? ⟨w.heap.size,0,none⟩=some (.slice (some ⟨gI,oI,none⟩) q.items.length c1):=hI1.b0.cell 0;obtain⟨b1,t0⟩:=kz.out w1 hI1.hb;replace hIc:=Hd hIc;clear hO1 hg1 ha1 hI1)
      |(at_builtin;refine wpa rfl (.tmp 43) (.tmp 53) _ rfl (m:=1) (news:=strD n) elStr hIc.out.all rfl rfl (Src.lit (show RdL w1 _ [.string n] (strD n)from⟨.v _ rfl,trivial⟩)) rfl (by omega) (by omega) hIc.out.hb.size ?_;intro v' w2 hO2 hg2 ha2;obtain⟨B4,d4,rfl⟩:=hO2.form;have hI2:=Hd (hIc.out.all_ hF.out hg2 hO2 ha2);clear hO2 hg2 ha2))
     go_roundw
     case rel=>exact⟨k+1,by omega,by go_num,by rw[eN.out,eM.out];exact hI2.out⟩
     case measure=>simp[intOf];omega
    ·obtain rfl:k=it.tys.length:=by omega
     rw[zL,hN0.out,hM0.out,←hnx.out,←hax.out]at hI ⊢;replace hI:=Hd hI;replace rx2:=Hd rx2;go_wp2;go_roundw
     case rel=>exact⟨j+1,by omega,by go_num,hI.out⟩
     case measure=>simp[intOf];omega
  ·obtain rfl:j=q.items.length:=by omega
   rw[AT_all]at hI ⊢;have hM1:(allT q).length≤1048576:=by have:=hsum.out q.items.length;rwa [AT_all]at this
   have hN1:(need1 q q.items.length).length≤1048576:=by rw[need1_len,AT_all];exact hM1
   have hIb:=hI.mono (FY:=FB F w.heap.size) fun b hb _=>hb.imp id fun h=>h.1
   have y5:wr.cell? ⟨w.heap.size,5,none⟩=some (.string q.by_):=hI.b0.cell 5;have hrdA:Rd wr (fun b=>FB F w.heap.size b∧some b≠(Value.slice Ao (need1 q q.items.length).length co).ownBlock) (.slice Aa (allT q).length ca) (.sl (allT q).length ((allT q).flatMap strD)):=hI.all.rd' (fun b hb _=>hb.elim) (fun b hb hBb _=>⟨.inr hBb,fun e=>by
    rcases hI.all.ne hI.out (by decide)with e2 |e2
    ·rw[hb]at e2;cases e2
    ·exact e2 (by rw[hb,e])⟩)
   have hIc:=Hd (hIb.stay (bX (.cells ⟨[.slice Aa (allT q).length ca,.string q.by_]⟩ 122)));replace hrdA:=Hd hrdA;replace hIb:=Hd hIb;clear hI;obtain⟨pe,hpe⟩:∃b,b=decide (q.by_=emp):=⟨_,rfl⟩
   have f1:(q.by_.toList==([]:List UInt8))=pe:=by rw[emp_eq,hpe]
   have f2:(q.by_.toList != ([]:List UInt8))= !pe:=by rw[bne,f1]
   have f3:q.by_.toList.isEmpty=pe:=by
    rw[←f1];cases q.by_.toList<;>rfl
   replace hpe:=Hd hpe;go_upto_if 57 with fail
   go_cut [3] (fun v wx=>∃N2,Hid (N2=need1 q q.items.length++if q.by_=emp then []else [⟨allT q,q.by_⟩])∧NDS q ⟨A1,c1,A2,c2,A3,c3⟩ (FB F w.heap.size) w wx v N2 (.slice Aa (allT q).length ca) (allT q))
   case first=>
    cases pe with
    |true=>
     have hby:q.by_=emp:=of_decide_eq_true hpe.out.symm;have hN2:Hid (need1 q q.items.length=need1 q q.items.length++if q.by_=emp then []else [⟨allT q,q.by_⟩]):=by show _=_;rw[if_pos hby,zT]
     replace hby:=Hd hby;go_wp2
     all_goals(go_meet;exact⟨_,hN2,hIb.out⟩)
    |false=>
     have hby:¬q.by_=emp:=of_decide_eq_false hpe.out.symm;have hN2:Hid (need1 q q.items.length++[⟨allT q,q.by_⟩]=need1 q q.items.length++if q.by_=emp then []else [⟨allT q,q.by_⟩]):=by show _=_;rw[if_neg hby]
     replace hby:=Hd hby;go_wp2_with (at_builtin;refine wpa rfl (.tmp 58) (.tmp 63) _ rfl (m:=1) (news:=nedD ⟨allT q,q.by_⟩) elNe hIc.out.out rfl rfl (Src.lit (ned_rd (d:=⟨allT q,q.by_⟩) hrdA.out)) rfl (by omega) (by omega) hIc.out.hb.size ?_;intro v' w1 hO1 hg1 ha1;obtain⟨B3,d3,rfl⟩:=hO1.form;have hI1:=Hd (hIc.out.app hg1 hO1);clear hO1 hg1 ha1)
     all_goals(go_meet;exact⟨_,hN2,hI1.out⟩)
   case rest=>
   obtain⟨N2,hN2,hI⟩:=hcut;have hN2l:N2.length≤1048577:=by
    rw[hN2.out,zH];split
    ·simp;omega
    ·simp;omega
   have hR1:Hid (R0=N2++(ofTreeN q q.wh++q.ret.flatMap (ofTreeN q))):=by show _=_;rw[hR0.out,hN2.out,zR];rfl
   obtain⟨A4,c4,rfl⟩:=hI.out.form;clear y0 y5 hIb hIc hrdA hN2;obtain⟨y0,y1,y2,y3,y4,y5,y6⟩:=qbc hI.b0;simp only[zY]at y0 y3 y6;have kww:=Hd (kw.out _ hI.hb);replace hI:=Hd hI;go_wp2_with (go_at_call 56;refine kww.out.mono ?_;rintro e W1 ⟨v7,rfl,hO7,hW1⟩;obtain⟨A7,c7,rfl⟩:=hO7.form;have hL7:=Hd (NLS.mk (hI.out.stay hW1) (hO7.base hI.out.hb.size) (by
    cases hq:(Value.slice A7 (ofTreeN q q.wh).length c7).ownBlock with
    |none=>exact .inl rfl
    |some b=>exact .inr fun e=>(by have h1:=(hO7.lt b hq).1;have h2:=(hI.out.out.lt b e.symm).2;omega)):NLS q ⟨A1,c1,A2,c2,A3,c3⟩ F w W1 (.slice A4 N2.length c4) N2 (.slice Aa (allT q).length ca) (allT q) (.slice A7 (ofTreeN q q.wh).length c7) (ofTreeN q q.wh));clear hW1 hO7)
   clear y0 y1 y2 y3 y4 y5 y6;generalize hLw:ofTreeN q q.wh=L7 at*;replace hLw:=Hd hLw;go_loopw [3,8] (fun v i wr=>∃(k:Nat)(N3:List Ned),k≤L7.length∧i=.int .i64 k∧Hid (N3=N2++L7.take k)∧NLS q ⟨A1,c1,A2,c2,A3,c3⟩ F w wr v N3 (.slice Aa (allT q).length ca) (allT q) (.slice A7 L7.length c7) L7) (fun _ i _=>L7.length- (intOf i).toNat)
   case atStart=>exact⟨0,N2,zE _,rfl,(by show N2=_;simp),hL7.out⟩
   case round=>
    clear hL7;obtain⟨k,N3,hk,rfl,hN3,hLs⟩:=hrel;obtain⟨A8,c8,rfl⟩:=hLs.nd.out.form;have hbs:=hLs.nd.hb.size;have hN3l:N3.length≤11534337:=by rw[hN3.out,zH,zO];omega
    by_cases hlt:k<L7.length
    ·obtain⟨d,hd⟩:=getx hlt;obtain⟨g7,cap7,Ad,cd,e7,d0,d1,rd⟩:=hLs.get hF.out hd;injection e7 with e71 e72 e73
     subst e71 e73;clear e72;have p0:(0:Int)≤(k:Int):=by omega
     have p1:(k:Int)<L7.length:=(by omega);have hN4:Hid (N3++[d]=N2++L7.take (k+1)):=by show _=_;rw[zJ,hd,hN3.out,zR];rfl
     have hLa:=Hd (hLs.stay (bX (.cells ⟨[.slice Ad d.tys.length cd,.string d.at_]⟩ 122)));replace rd:=Hd rd;replace hd:=Hd hd;replace hLs:=Hd hLs;go_wp2_with (at_builtin;refine wpa rfl (.tmp 75) (.tmp 80) _ rfl (m:=1) (news:=nedD d) elNe hLa.out.nd.out rfl rfl (Src.lit (ned_rd rd.out)) rfl (by omega) (by omega) hLa.out.nd.hb.size ?_;intro v' w1 hO1 hg1 ha1;obtain⟨B3,d3,rfl⟩:=hO1.form;have hI1:=Hd (hLa.out.app hF.out hg1 hO1 ha1);clear hO1 hg1 ha1);go_roundw
     case rel=>exact⟨k+1,_,by omega,by go_num,hN4,hI1.out⟩
     case measure=>simp[intOf];omega
    ·obtain rfl:k=L7.length:=by omega
     have hR2:Hid (R0=N3++q.ret.flatMap (ofTreeN q)):=by show _=_;rw[hR1.out,hN3.out,zL,zR]
     have hI3:=Hd hLs.nd;clear hLs;go_wp2;go_loopw [3,9] (fun v i wr=>∃(kj:Nat)(N5:List Ned),kj≤q.ret.length∧i=.int .i64 kj∧Hid (N5=N3++(q.ret.take kj).flatMap (ofTreeN q))∧NDS q ⟨A1,c1,A2,c2,A3,c3⟩ (FB F w.heap.size) w wr v N5 (.slice Aa (allT q).length ca) (allT q)) (fun _ i _=>q.ret.length- (intOf i).toNat)
     case atStart=>exact⟨0,N3,zE _,rfl,(by show N3=_;simp),hI3.out⟩
     case round=>
      clear hI3;obtain⟨kj,N5,hkj,rfl,hN5,hI⟩:=hrel;obtain⟨A9,c9,rfl⟩:=hI.out.form;have hbs:=hI.hb.size;obtain⟨y0,y1,y2,y3,y4,y5,y6⟩:=qbc hI.b0;simp only[zY]at y0 y3 y6;by_cases hltr:kj<q.ret.length
      ·obtain⟨t,ht⟩:=getx hltr;have htm:=zA ht;obtain⟨gR,oR,At,ct,eR,hFR,rt,r0⟩:=kre.out kj t ht;try simp only at eR
       subst eR;have hgR:=hF.out gR hFR;have p0:(0:Int)≤(kj:Int):=by omega
       have p1:(kj:Int)<q.ret.length:=(by omega);have hrx:=hrn.out (kj+1);have ert:(q.ret.take (kj+1)).flatMap (ofTreeN q)=(q.ret.take kj).flatMap (ofTreeN q)++ofTreeN q t:=by rw[zJ,ht,xD];simp
       rw[ert,zH]at hrx;have hN5l:N5.length+(ofTreeN q t).length≤22020097:=by rw[hN5.out,zH];omega
       have kS:=fun W (hW:Bw wr W)=>xW (show W.cell? ⟨w.heap.size,0,none⟩=some (.slice A1 q.items.length c1)from(hI.b0.stay hW).cell 0) (xW (show W.cell? ⟨w.heap.size,1,none⟩=some (.int .i64 q.mode)from(hI.b0.stay hW).cell 1) (xW (show W.cell? ⟨w.heap.size,2,none⟩=some (.int .i64 q.after)from(hI.b0.stay hW).cell 2) (xW (show W.cell? ⟨w.heap.size,3,none⟩=some (.slice A2 q.wh.length c2)from(hI.b0.stay hW).cell 3) (xW (show W.cell? ⟨w.heap.size,4,none⟩=some (.int .i64 q.within)from(hI.b0.stay hW).cell 4) (xW (show W.cell? ⟨w.heap.size,5,none⟩=some (.string q.by_)from(hI.b0.stay hW).cell 5) (xW (show W.cell? ⟨w.heap.size,6,none⟩=some (.slice (some ⟨gR,oR,none⟩) q.ret.length c3)from(hI.b0.stay hW).cell 6) (((hI.hb.trans (hW.mono hI.hb.size)).cell (p:=⟨gR,oR+kj,none⟩) hgR).trans r0)))))))
       have hSS:=xW (kS wr.drew (bR).drew) trivial;have ktt:=Hd (kt.out wr.drew hI.hb.drew At ct t htm rt);replace kS:=Hd kS;replace hI:=Hd hI;replace ht:=Hd ht;replace htm:=Hd htm;replace rt:=Hd rt;replace ert:=Hd ert;go_upto_region 21 with fail
       clear y0 y1 y2 y3 y4 y5 y6 r0;refine G_region (p:=100) (S0:=fun W=>W.cell? ⟨w.heap.size,0,none⟩=some (.slice A1 q.items.length c1)∧W.cell? ⟨w.heap.size,1,none⟩=some (.int .i64 q.mode)∧W.cell? ⟨w.heap.size,2,none⟩=some (.int .i64 q.after)∧W.cell? ⟨w.heap.size,3,none⟩=some (.slice A2 q.wh.length c2)∧W.cell? ⟨w.heap.size,4,none⟩=some (.int .i64 q.within)∧W.cell? ⟨w.heap.size,5,none⟩=some (.string q.by_)∧W.cell? ⟨w.heap.size,6,none⟩=some (.slice (some ⟨gR,oR,none⟩) q.ret.length c3)∧W.cell? ⟨gR,oR+kj,none⟩=some (.slice At t.length ct)) (S1:=fun _=>True) (by kernel_rfl) ?_;refine' TkA 0 rfl hSS ?_;refine' TkA 1 rfl hSS ?_;refine' TkA 2 rfl hSS ?_;refine' TkA 3 rfl hSS ?_;refine' TkA 4 rfl hSS ?_;refine' TkA 5 rfl hSS ?_;try simp only[Act.put,TkS]
       refine Gs 6 rfl fun K hK=>?_
       go_simp;go_at_call 56;refine ktt.out.mono ?_;rintro e W2 ⟨v8,rfl,hO8,hW2⟩;obtain⟨A8',c8',rfl⟩:=hO8.form;have hWb:=(zB wr.heap.size wr).drew.trans hW2;have hS2:=xW (kS.out W2 hWb) trivial;have hL8:NLS q ⟨A1,c1,A2,c2,some ⟨gR,oR,none⟩,c3⟩ F w W2 (.slice A9 N5.length c9) N5 (.slice Aa (allT q).length ca) (allT q) (.slice A8' (ofTreeN q t).length c8') (ofTreeN q t):=⟨hI.out.stay hWb,hO8.base (by have:=hI.out.hb.size;simpa using this),by
        cases hq:(Value.slice A8' (ofTreeN q t).length c8').ownBlock with
        |none=>exact .inl rfl
        |some b=>exact .inr fun e=>(by have h1:=(hO8.lt b hq).1;have h2:=(hI.out.out.lt b e.symm).2;simp at h1;omega)⟩
       replace hL8:=Hd hL8;refine hK.out _ _ ⟨hS2.1,fun _=>trivial⟩ ?_;clear hK K hSS hW2 hO8 hWb;try simp only[Act.put,TkS]
       refine Gs 7 rfl fun K hK=>?_
       go_simp;refine hK.out _ _ ⟨hS2.1,fun _=>trivial⟩ ?_;clear hK K hS2;refine Gd _ ?_;generalize hLt:ofTreeN q t=L8 at*;replace hLt:=Hd hLt;obtain⟨wo,hwo⟩:∃wo:World,wo=wr:=⟨_,rfl⟩
       subst hwo;go_wp2;go_loopw [3,10] (fun v i wr=>∃(m:Nat)(N6:List Ned),m≤L8.length∧i=.int .i64 m∧Hid (N6=N5++L8.take m)∧NLS q ⟨A1,c1,A2,c2,some ⟨gR,oR,none⟩,c3⟩ F w wr v N6 (.slice Aa (allT q).length ca) (allT q) (.slice A8' L8.length c8') L8) (fun _ i _=>L8.length- (intOf i).toNat)
       case atStart=>exact⟨0,N5,zE _,rfl,(by show N5=_;simp),hL8.out⟩
       case round=>
        clear hL8;obtain⟨m,N6,hm,rfl,hN6,hLs⟩:=hrel;obtain⟨Ax,cx,rfl⟩:=hLs.nd.out.form;have hbs3:=hLs.nd.hb.size;have hN6l:N6.length≤22020097:=by rw[hN6.out,zH,zO];omega
        by_cases hltm:m<L8.length
        ·obtain⟨d,hd⟩:=getx hltm;obtain⟨g7,cap7,Ad,cd,e7,d0,d1,rd⟩:=hLs.get hF.out hd;injection e7 with e71 e72 e73
         subst e71 e73;clear e72;have p2:(0:Int)≤(m:Int):=by omega
         have p3:(m:Int)<L8.length:=(by omega);have hN7:Hid (N6++[d]=N5++L8.take (m+1)):=by show _=_;rw[zJ,hd,hN6.out,zR];rfl
         have hLa:=Hd (hLs.stay (bX (.cells ⟨[.slice Ad d.tys.length cd,.string d.at_]⟩ 122)));replace rd:=Hd rd;replace hd:=Hd hd;replace hLs:=Hd hLs;go_wp2_with (at_builtin;refine wpa rfl (.tmp 102) (.tmp 107) _ rfl (m:=1) (news:=nedD d) elNe hLa.out.nd.out rfl rfl (Src.lit (ned_rd rd.out)) rfl (by omega) (by omega) hLa.out.nd.hb.size ?_;intro v' w1 hO1 hg1 ha1;obtain⟨B3,d3,rfl⟩:=hO1.form;have hI1:=Hd (hLa.out.app hF.out hg1 hO1 ha1);clear hO1 hg1 ha1);go_roundw
         case rel=>exact⟨m+1,_,by omega,by go_num,hN7,hI1.out⟩
         case measure=>simp[intOf];omega
        ·obtain rfl:m=L8.length:=by omega
         have hN8:Hid (N6=N3++(q.ret.take (kj+1)).flatMap (ofTreeN q)):=by show _=_;rw[ert.out,hN6.out,zL,hN5.out,zR]
         have hI6:=Hd hLs.nd;clear hLs;go_wp2;go_roundw
         case rel=>exact⟨kj+1,N6,by omega,by go_num,hN8,hI6.out⟩
         case measure=>simp[intOf];omega
      ·obtain rfl:kj=q.ret.length:=by omega
       have hfin:Hid (N5=R0):=by show _=_;rw[hR2.out,hN5.out,zL]
       replace hI:=Hd hI;go_wp2;go_ret;exact NePost.mk hfin.out hI.out.out hI.out.hb
end refW
end Go.Proofs.YtfiodnlgiglhfaaGreatDoor
