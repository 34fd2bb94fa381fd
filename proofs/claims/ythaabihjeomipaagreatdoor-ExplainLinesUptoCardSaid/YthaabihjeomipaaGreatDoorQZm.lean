/- The law's marked. -/
import Derived.Test.YthaabihjeomipaaGreatDoorQZk
namespace Go.Proofs.YthaabihjeomipaaGreatDoor
set_option maxRecDepth 100000
set_option maxHeartbeats 16000000
open Go.RowKit Go.Deep
set_option linter.unusedVariables false
set_option linter.unusedSimpArgs false
theorem v3_at {V:Nat→Value}{i:Nat}(h:i<3):([V 0,V 1,V 2]:List Value)[i]? =some (V i):=by
 match i,h with
 |0,_=>rfl
 |1,_=>rfl
 |2,_=>rfl
theorem set_row (W:World)(a:Addr)(u:Value):W.grownBy (W.setCell a u) (some a.block):=⟨rfl,rfl,rfl,by simp[World.setCell],fun k hk hne=>Below.heap_setCell _ _ _ _ (fun e=>hne (by rw[e]))⟩
theorem str_set (l:List ByteArray)(k:Nat)(x:ByteArray):(l.flatMap strD).set k (.v (.string x))=(l.set k x).flatMap strD:=by
 rw[strs_map,strs_map];unfold sV;rw[←List.map_set,←List.map_set]
theorem rep_of {l:List ByteArray}{n:Nat}{x:ByteArray}(hl:l.length=n)(h:∀k,k<n→l[k]? =some x):l=rep n x:=by
 refine List.ext_getElem? fun k=>?_
 unfold rep;rw[List.getElem?_replicate];by_cases hk:k<n
 ·rw[if_pos hk];exact h k hk
 ·rw[if_neg hk];exact xO oQ
namespace lawW
open nmW ckW
theorem marked_k (B g:Nat)(V:Nat→Value)(NN:Nat→Nat)(w:World)(hgB:B≤g)(hg0:g<w.heap.size)(hb:Blk w g 42 [V 0,V 1,V 2])(hV:∀j,j<3→∃A c,V j=.slice A (NN j) c)(hO:∀j,j<3→∃l:List ByteArray,OL w B NoF 9 1 (V j) (NN j) (l.flatMap strD))
  (dV:∀j k,j<3→k<3→j≠k→(V j).ownBlock=none∨(V j).ownBlock≠(V k).ownBlock)(hN:∀j,j<3→NN j≤33554432)(hP:∀W,Below B w W→PwT W):
  Calls Tryz.prog 18 #[.slice (some ⟨g,0,none⟩) 3 3] w fun e w'=>e=.returned (.bool true)∧Below B w w':=by
 have hVl:∀j,j<3→∀q,(V j).ownBlock=some q→q<w.heap.size:=fun j hj q hq=>let ⟨l,ho⟩:=hO j hj;(ho.lt q hq).2
 have hBw:B≤w.heap.size:=oQ;have ki:∀(n:Nat) W,n<3→Below B w W→Calls Tryz.prog 33 #[.int .i64 (n:Nat)] W (StP (itoaB (n:Nat)) W):=fun n W hn hW=>by
  refine(Tryz.strconv_Itoa (n:Nat) oQ oQ W (hP W hW)).mono ?_;rintro e w' ⟨rfl,k,os,rfl⟩;exact⟨rfl,below_grown W k os⟩
 have h0:=Hd (show MkI B g V NN w w 0 (.slice none 0 0) [] from ⟨bR,hb,(fun j _ hj=>hO j hj),(fun j hj=>by omega),RW.nil _ _ _,rfl,(fun p hp=>by cases hp),(fun q hq=>by cases hq)⟩);have hO0:=Hd (hO 0 oQ);replace ki:=Hd ki;replace hO:=Hd hO;replace hV:=Hd hV;replace dV:=Hd dV;replace hN:=Hd hN;replace hVl:=Hd hVl;clear hb hP;go_enter Tryz.func18,Tryz.ntmps18;go_wp2;go_loopw [3,4] (fun vs x wr=>∃(i:Nat)(vm:Value)(ml:List (List ByteArray×Value)),vm=vs∧i≤3∧x=.int .i64 i∧MkI B g V NN w wr i vm ml∧(i<3→∃l:List ByteArray,OL wr B NoF 9 1 (V i) (NN i) (l.flatMap strD))) (fun _ x _=>3- (intOf x).toNat)
 case atStart=>exact⟨0,_,[],rfl,oQ,rfl,h0.out,fun _=>hO0.out⟩
 case round=>
 clear h0 hO0;obtain⟨i,vm,ml,rfl,hi3,rfl,hM,hC⟩:=hrel;by_cases hlt:i<3
 ·obtain⟨l0,hC0⟩:=hC hlt;obtain⟨Ai,ci,hVi⟩:=hV.out i hlt;have hni:=hN.out i hlt;have p0:(0:Int)≤(i:Int):=oQ;have p1:(i:Int)<3:=oQ;have kI:=Hd (ki.out i wr hlt hM.hb);have hws:=hM.hb.size;have zI:=itoaB_size (i:Nat) oQ oQ;have s1:(⟨#[103,111,110,101,32]⟩:ByteArray).size+(itoaB (i:Nat)).size≤9223372036854775807:=by show 5+_≤_;omega
  have hmk:=Hd (show (⟨#[103,111,110,101,32]⟩:ByteArray)++itoaB (i:Nat)=mkB i from rfl);have hMH:=Hd hM;have hCH:=Hd hC0;clear hM hC hC0;go_upto_region 6 with(go_at_call 33;refine kI.out.mono ?_;rintro e W1 ⟨rfl,hX1⟩)
  have hM1:=hMH.out.stay hX1 oQ;have hO1:=hCH.out.stay hX1;have hll:l0.length=NN i:=by have:=hO1.len;rw[strD_len]at this;omega
  rw[hmk.out];obtain⟨mk,hmk2⟩:∃mk,mk=mkB i:=⟨_,rfl⟩
  rw[←hmk2];rw[hVi]at hO1;have hws1:=hX1.size;replace hM1:=Hd hM1;replace hO1:=Hd hO1;replace hmk2:=Hd hmk2;replace hVi:=Hd hVi;clear hmk s1 zI hMH hCH kI hX1;go_wp2;go_loopw [6] (fun x wr=>∃(k:Nat)(l:List ByteArray),k≤NN i∧x=.int .i64 k∧MkI B g V NN w wr i vm ml∧l.length=NN i∧OL wr B NoF 9 1 (.slice Ai (NN i) ci) (NN i) (l.flatMap strD)∧Hid (∀k',k'<k→l[k']? =some mk)) (fun x _=>NN i- (intOf x).toNat)
  case atStart=>exact⟨0,l0,zE _,rfl,hM1.out,hll,hO1.out,fun k' h=>by omega⟩
  case round=>
  clear hM1 hO1 hll;obtain⟨k,l,hk,rfl,hM,hll,hOl,hmm⟩:=hrel;have z0:wr.cell? ⟨g,i,none⟩=some (.slice Ai (NN i) ci):=by rw[hM.b.cell,v3_at hlt,hVi.out]
  by_cases hkn:k<NN i
  ·obtain⟨g1,cap,e,_⟩:=hOl.row oQ;injection e with e1 e2 e3
   subst e1 e3;obtain⟨cs,hB1,hbk,_,_,hcl,_,_⟩:=hOl.blk;have hck:k<cs.length:=oQ;obtain⟨u,hu⟩:=getx hck;have z1:=hbk.cell k;have fz1:=hbk.frozen k;rw[hu]at z1;have q0:(0:Int)≤(k:Int):=oQ;have q1:(k:Int)<NN i:=oQ;have hos:=hOl.set (j:=k) (u:=.string mk) (d:=.v (.string mk)) (.v _ rfl);rw[str_set]at hos;have hgr:=set_row wr ⟨g1,k,none⟩ (.string mk);have hvo:(V i).ownBlock=some g1:=by rw[hVi.out];rfl
   have hM2:=hM.grown (by have:=hM.hb.size;omega) hgr (fun q hq=>by injection hq with hq;subst hq;exact hB1) (fun e=>hOl.neBlk hM.b dQ e.symm) (fun j hj hji=>by have:=dV.out j i hj hlt hji;rw[hvo]at this;exact this) (by have:=hM.vmr.kr.ne hOl dQ;exact this) (fun p hp=>by have:=hM.sp p hp i nR hlt;rw[hvo]at this;exact this) oQ;have hmm2:∀k',k'<k+1→(l.set k mk)[k']? =some mk:=fun k' h=>by
    rw[xL];by_cases hkk:k=k'
    ·rw[if_pos hkk,if_pos oQ]
    ·rw[if_neg hkk];exact hmm.out k' oQ
   have hl2:(l.set k mk).length=NN i:=by rw[List.length_set];exact hll
   replace hos:=Hd hos;replace hM2:=Hd hM2;replace hmm2:=Hd hmm2;replace hl2:=Hd hl2;replace hvo:=Hd hvo;clear hM hOl hmm hbk hcl hck hu hgr hll;go_wp2;go_roundw
   case rel=>exact⟨k+1,_,oQ,gQ,hM2.out,hl2.out,hos.out,hmm2.out⟩
   case measure=>exact mQ
  obtain rfl:k=NN i:=oQ;have q1:¬(NN i:Int)<NN i:=oQ;obtain rfl:=rep_of hll hmm.out;have hS1:=hM.hb.size;have bd:Bd g V vm ml wr.heap.size:=⟨fun j hj q hq=>by have:=hVl.out j hj q hq;omega,fun p hp q hq=>((hM.vmr.fr p hp).lt q hq).2⟩;have hdr:DR wr (V i) (NN i) mk:=by
   by_cases hn0:NN i=0
   ·exact .inl hn0
   ·obtain⟨g1,cap,e,_⟩:=hOl.row oQ;rw[hVi.out,e];rw[e]at hOl;exact DR.of hOl nR
  have h3:Mk3 B g V NN w wr i vm ml wr.heap.size Ai ci mk (NN i+0) (.slice Ai (NN i) ci):=⟨hM,hdr,hOl,.inl rfl,nR⟩;obtain⟨S1,hSS⟩:∃S1,S1=wr.heap.size:=⟨_,rfl⟩
  rw[←hSS]at h3 bd hS1;replace hSS:=Hd hSS;replace h3:=Hd h3;replace bd:=Hd bd;clear hM hOl hmm hll hdr;go_wp2;go_loopw [7,8] (fun ms x wr=>∃(k:Nat)(mv:Value),mv=ms∧k≤70∧x=.int .i64 k∧Mk3 B g V NN w wr i vm ml S1 Ai ci mk (NN i+k) mv) (fun _ x _=>70- (intOf x).toNat)
  case atStart=>exact⟨0,_,rfl,oQ,rfl,h3.out⟩
  case round=>
  clear h3 z0;obtain⟨k,mv,rfl,hk,rfl,h3⟩:=hrel;by_cases hk70:k<70
  ·have q2:(k:Int)<70:=oQ;have hsr:=Hd (SrcLit (w:=wr) (t:=9) (G:=fun b=>NoF b∧some b≠mv.ownBlock) rfl (show RdL wr (fun b=>NoF b∧some b≠mv.ownBlock) [.string mk] (strD mk)from⟨.v _ rfl,trivial⟩));have hol:=Hd (h3.ol.stay (bX (.cells ⟨[.string mk]⟩ 9)));have hsz:=h3.sz;have hnx:=fun v' w1 hO ha=>h3.step (o:=.cells ⟨[.string mk]⟩ 9) (mv':=v') (w1:=w1) hlt oQ hVi.out bd.out dV.out oQ hO ha
   obtain⟨Am,cm,rfl⟩:=h3.ol.form;replace hnx:=Hd hnx;clear h3;go_wp2_with (at_builtin;refine wpList_app2 rfl (.tmp 46) (.tmp 48) rfl hol.out rfl rfl hsr.out oQ (by simp;omega) ?_;intro v' w1 hO1 ha1;have hn1:=Hd (hnx.out v' w1 hO1 ha1);clear hO1 ha1);go_roundw
   case rel=>exact⟨k+1,_,rfl,oQ,gQ,hn1.out⟩
   case measure=>exact mQ
  obtain rfl:k=70:=oQ;have q2:¬(((70:Nat):Int))<70:=oQ;obtain⟨Am,cm,rfl⟩:=h3.ol.form;obtain⟨Av,cv,rfl⟩:=h3.mi.vmr.kr.form;have hmlk:ml.length=i:=by have:=congrArg List.length h3.mi.mll;simpa using this
  have hsz:=h3.sz;have hkr:=Hd (h3.mi.vmr.kr.stay (bX (.cells ⟨[.slice Am (NN i+70) cm]⟩ 42)));have hsr:=Hd (SrcLit (w:=wr) (t:=42) (G:=fun b=>NoF b∧some b≠(Value.slice Av ml.length cv).ownBlock) rfl (show RdL wr (fun b=>NoF b∧some b≠(Value.slice Av ml.length cv).ownBlock) [.slice Am (NN i+70) cm] (KS.f (rep (NN i+70) (mkB i),.slice Am (NN i+70) cm))from⟨.v _ rfl,trivial⟩));rw[hmk2.out]at h3;have hnx:=fun v' w1 hg hO ha=>h3.more (o:=.cells ⟨[.slice Am (NN i+70) cm]⟩ 42) (vm':=v') (w1:=w1) hlt hVi.out bd.out dV.out oQ hg0 hVl.out oQ hg hO ha
  have htd:∀w1,(wr.alloc (.cells ⟨[.slice Am (NN i+70) cm]⟩ 42)).grownBy w1 (Value.slice Av ml.length cv).ownBlock→i+1<3→∃l:List ByteArray,OL w1 B NoF 9 1 (V (i+1)) (NN (i+1)) (l.flatMap strD):=fun w1 hg h=>by
   obtain⟨l,ho⟩:=h3.mi.todo (i+1) oQ h;have ho2:=ho.stay (bX (.cells ⟨[.slice Am (NN i+70) cm]⟩ 42));exact⟨l,ho2.kept hg (ho2.ne hkr.out dQ) (fun b hb=>hb.elim)⟩
  replace hnx:=Hd hnx;replace htd:=Hd htd;clear h3;go_wp2_with (at_builtin;refine wpa rfl (.tmp 50) (.tmp 52) _ rfl (m:=1) (news:=KS.f (rep (NN i+70) (mkB i),.slice Am (NN i+70) cm)) elSS hkr.out rfl rfl hsr.out rfl oQ oQ (by simp;omega) ?_;intro v' w1 hO1 hg1 ha1;have hn1:=Hd (hnx.out v' w1 hg1 hO1 ha1);have ht1:=Hd (htd.out w1 hg1);clear hO1 hg1 ha1);go_roundw
  case rel=>exact⟨i+1,_,_,rfl,oQ,gQ,hn1.out,ht1.out⟩
  case measure=>exact mQ
 obtain rfl:i=3:=oQ;have p1:¬(((3:Nat):Int))<3:=oQ;have hmlk:ml.length=3:=by have:=congrArg List.length hM.mll;simpa using this
 obtain⟨Av,cv,rfl⟩:=hM.vmr.kr.form;replace hM:=Hd hM;clear hC hO;go_wp2;go_loopw [9] (fun x wr=>∃i:Nat,i≤3∧x=.int .i64 i∧MkI B g V NN w wr 3 (.slice Av ml.length cv) ml) (fun x _=>3- (intOf x).toNat)
 case atStart=>exact⟨0,oQ,rfl,hM.out⟩
 case round=>
 clear hM p1;obtain⟨i,hi3,rfl,hM⟩:=hrel;by_cases hlt:i<3
 ·obtain⟨Ai,ci,hVi⟩:=hV.out i hlt;have hni:=hN.out i hlt;have p0:(0:Int)≤(i:Int):=oQ;have p1:(i:Int)<3:=oQ;have kI:=Hd (ki.out i wr hlt hM.hb);have hws:=hM.hb.size;have zI:=itoaB_size (i:Nat) oQ oQ;have s1:(⟨#[103,111,110,101,32]⟩:ByteArray).size+(itoaB (i:Nat)).size≤9223372036854775807:=by show 5+_≤_;omega
  have hmk:=Hd (show (⟨#[103,111,110,101,32]⟩:ByteArray)++itoaB (i:Nat)=mkB i from rfl);have hMH:=Hd hM;clear hM;go_upto_region 20 with(go_at_call 33;refine kI.out.mono ?_;rintro e W1 ⟨rfl,hX1⟩)
  have hM1:=hMH.out.stay hX1 oQ;rw[hmk.out];have hdr:=hM1.done i hlt;have z0:W1.cell? ⟨g,i,none⟩=some (.slice Ai (NN i) ci):=by rw[hM1.b.cell,v3_at hlt,hVi]
  obtain⟨⟨pl,pv⟩,hp⟩:=getx (l:=ml) (i:=i) oQ;have hpl:pl=rep (NN i+70) (mkB i):=by
   have h1:(ml.map (·.1))[i]? =some pl:=by rw[zG,hp];rfl
   rw[hM1.mll,zG,List.getElem?_range oQ]at h1;injection h1 with h1
   exact h1.symm
  have hfr:=hM1.vmr.fr _ (zA hp);subst hpl;have hfr2:OL W1 B NoF 9 1 pv (NN i+70) ((rep (NN i+70) (mkB i)).flatMap strD):=by
   have h1:OL W1 B NoF 9 1 pv (rep (NN i+70) (mkB i)).length ((rep (NN i+70) (mkB i)).flatMap strD):=hfr;rw[rep_len]at h1;exact h1
  obtain⟨gv,capv,e,_,_,_,hcl⟩:=hM1.vmr.kr.row oQ;obtain⟨uv,huv,hrv⟩:=hcl i (.v pv) (by
   have h1:=fmg (f:=KS.f) (m:=1) (fun _=>rfl) hp (show(KS.f (rep (NN i+70) (mkB i),pv))[0]? =some (.v pv)from rfl);simpa using h1)
  have e4:=hrv.v_inv;subst e4;injection e with e1 e2 e3
  subst e1;obtain⟨gm,capm,e5,_,_,_,hcm⟩:=hfr2.row oQ;subst e5;obtain⟨mk,hmk2⟩:∃mk,mk=mkB i:=⟨_,rfl⟩
  have hcm2:∀k,k<NN i+70→W1.cell? ⟨gm,k,none⟩=some (.string mk):=fun k hk=>by
   obtain⟨u,hu,hr⟩:=hcm k _ (rep_get hk);rw[hu,hr.v_inv,hmk2]
  rw[←hmk2]at hdr ⊢;rw[hVi]at hdr;replace hM1:=Hd hM1;replace hmk2:=Hd hmk2;replace hVi:=Hd hVi;replace hcm2:=Hd hcm2;replace hdr:=Hd hdr;have q7:(i:Int)<ml.length:=oQ;clear hmk s1 zI hMH kI hX1 hp hfr hfr2 hcl hrv hcm e2 e3;go_wp2;go_loopw [11] (fun x w9=>w9=W1∧∃k:Nat,k≤NN i∧x=.int .i64 k) (fun x _=>NN i- (intOf x).toNat)
  case atStart=>exact⟨rfl,0,zE _,rfl⟩
  case round=>
  obtain⟨hwr,k,hk,rfl⟩:=hrel;obtain rfl:=hwr.symm;clear hwr;by_cases hkn:k<NN i
  ·rcases hdr.out with h |⟨gj,cap,cs,e,hbk,hc⟩
   ·omega
   injection e with e1 e2 e3
   subst e1;have zk:=hbk.cell k;rw[hc k hkn]at zk;have q0:(0:Int)≤(k:Int):=oQ;have q1:(k:Int)<NN i:=oQ;clear hbk hc e2 e3;go_wp2;go_roundw
   case rel=>exact⟨trivial,k+1,oQ,gQ⟩
   case measure=>exact mQ
  obtain rfl:k=NN i:=oQ;have q1:¬(NN i:Int)<NN i:=oQ;go_wp2;go_loopw [12] (fun x w9=>w9=W1∧∃k:Nat,k≤NN i+70∧x=.int .i64 k) (fun x _=>NN i+70- (intOf x).toNat)
  case atStart=>exact⟨rfl,0,zE _,rfl⟩
  case round=>
  obtain⟨hwr,k,hk,rfl⟩:=hrel;obtain rfl:=hwr.symm;clear hwr;by_cases hkn:k<NN i+70
  ·have zk:=hcm2.out k hkn;have q0:(0:Int)≤(k:Int):=oQ;have q2:(k:Int)<((NN i+70:Nat):Int):=oQ;go_wp2;go_roundw
   case rel=>exact⟨trivial,k+1,oQ,gQ⟩
   case measure=>exact mQ
  obtain rfl:k=NN i+70:=oQ;have q2:¬((NN i+70:Nat):Int)<((NN i+70:Nat):Int):=oQ;go_wp2;go_roundw
  case rel=>exact⟨i+1,oQ,gQ,hM1.out⟩
  case measure=>exact mQ
 obtain rfl:i=3:=oQ;have p1:¬(((3:Nat):Int))<3:=oQ;replace hM:=Hd hM;go_wp2;go_ret;exact⟨rfl,hM.out.hb⟩
end lawW
end Go.Proofs.YthaabihjeomipaaGreatDoor
