/- The document's CheckSchema answers the plain code. -/
import Derived.Test.YtfiodnlgiglhfaaGreatDoorNm4
import Derived.Deep.RegionLaw
namespace Go.Proofs.YtfiodnlgiglhfaaGreatDoor
set_option maxRecDepth 100000
set_option maxHeartbeats 16000000
open Go.RowKit Go.Deep
set_option linter.unusedVariables false
theorem elStr:ElT Tryz.prog 45 9 1 16:=.of Tryz.underlying45 (by kernel_rfl) (by omega)
theorem elTd:ElT Tryz.prog 22 47 2 40:=.of Tryz.underlying22 (by kernel_rfl) (by omega)
def TB (w wr:World)(v:Value)(n:ByteArray)(u:Value):Prop:=
 Bw w wr∧Blk wr w.heap.size 24 [v]∧Blk wr (w.heap.size+1) 47 [.string n,u]
theorem TB.stay {w wr w2:World}{v u:Value}{n:ByteArray}(h:TB w wr v n u)(hb:Bw wr w2):TB w w2 v n u:=
 ⟨h.1.trans (hb.mono h.1.size),h.2.1.stay hb,h.2.2.stay hb⟩
theorem TB.drewN {w wr:World}{v u:Value}{n:ByteArray}(h:TB w wr v n u)(k:Nat):TB w (wr.drewN k) v n u:=h.stay (below_drewN bR k)
namespace nmW
theorem checkType_k (A:Option Addr)(c:Nat)(F:Nat→Prop)(l:List Td)(i:Nat)(hi:i<l.length)(hl:SzT l)(w:World)(hK:KwIs w)(hF:∀b,F b→b<w.heap.size)(r:Rd w F (.slice A l.length c) (.sl l.length (l.flatMap tdD))):
  Calls Tryz.prog 96 #[.agg #[.slice A l.length c],.int .i64 i] w fun e w'=>e=.returned (.int .i64 (tyC l i))∧Bw w w':=by
 obtain⟨t,ht⟩:=getx hi;obtain⟨hl1,hl2⟩:=hl;obtain⟨hs1,hs2,hs3⟩:=hl2 t (zA ht);obtain⟨b,off,rfl,hFb,hv,hsl⟩:=r.rowv (m:=2) (fun _=>rfl) ht (by omega);have a0:w.cell? ⟨b,off+i*2,none⟩=some (.string t.name):=hv 0 _ rfl;obtain⟨A2,c2,a1,r2⟩:=hsl 1 _ _ rfl;have g0:(0:Int)≤(i:Int):=by omega
 have g1:(i:Int)<l.length:=by omega
 have k1:=Hd refIsName_k;have hnm:(l.map (·.name))[i]? =some t.name:=by rw[zG,ht];rfl
 replace hnm:=Hd hnm;replace hl2:=Hd hl2;replace ht:=Hd ht;replace hF:=Hd hF;replace hK:=Hd hK;replace r:=Hd r;replace r2:=Hd r2;replace hs3:=Hd hs3;clear hv hsl;have hbB:b<w.heap.size:=hF.out b hFb;have hbN:¬b=w.heap.size:=by omega
 obtain⟨nm,hnmB⟩:∃b,b=isNm t.name:=⟨_,rfl⟩
 replace hnmB:=Hd hnmB;go_enter Tryz.func96,Tryz.ntmps96;cases nm
 ·go_wp2_with (go_at_call 100;refine(k1.out _ _ (hK.out.stay ((bA).alloc (by simp) _))).mono ?_;rw[←hnmB.out];rintro e W ⟨rfl,hW⟩;obtain rfl:=hW.symm);go_ret;exact⟨rtI (tyC_22 ht.out hnmB.out.symm).symm,(bA).alloc (by simp) _⟩
 ·go_wp2_with (go_at_call 100;refine(k1.out _ _ (hK.out.stay ((bA).alloc (by simp) _))).mono ?_;rw[←hnmB.out];rintro e W ⟨rfl,hW⟩;obtain rfl:=hW.symm);have h0:TB w ((w.alloc (.cells #[.slice (some ⟨b,off,none⟩) l.length c] 24)).alloc (.cells #[.string t.name,.slice A2 t.attrs.length c2] 47)) (.slice (some ⟨b,off,none⟩) l.length c) t.name (.slice A2 t.attrs.length c2):=
   ⟨(bA).alloc (by simp) _,(Blk.new _ _ _).alloc _,Blk.new' (by simp)⟩
  clear a0 a1;go_loopw [6] (fun x wr=>∃j:Nat,j≤i∧x=.int .i64 j∧TB w wr (.slice (some ⟨b,off,none⟩) l.length c) t.name (.slice A2 t.attrs.length c2)∧Hid (∀(p:Nat) a,(l.map (·.name))[p]? =some a→p<j→a≠t.name)) (fun x _=>i- (intOf x).toNat)
  case atStart=>exact⟨0,zE _,rfl,h0,fun p a _ h=>by omega⟩
  case round=>
   clear h0;obtain⟨j,hj,rfl,h0,hp⟩:=hrel;by_cases hlt:j<i
   ·obtain⟨x,hx⟩:=getx (l:=l) (i:=j) (by omega);obtain⟨b',off',e,_,ha,_⟩:=(r.out.under h0.1 hF.out).rowv (m:=2) (fun _=>rfl) hx (by omega);injection e with e
    injection e with e1 e2
    subst e1 e2;have a0:wr.cell? ⟨b,off+j*2,none⟩=some (.string x.name):=ha 0 _ rfl;have z0:wr.cell? ⟨w.heap.size,0,none⟩=some (.slice (some ⟨b,off,none⟩) l.length c):=h0.2.1.cell 0;have y0:wr.cell? ⟨w.heap.size+1,0,none⟩=some (.string t.name):=h0.2.2.cell 0;have g2:(0:Int)≤(j:Int):=by omega
    have g3:(j:Int)<l.length:=(by omega);have g4:(j:Int)<i:=by omega
    have hxn:=Hd (show (l.map (·.name))[j]? =some x.name by rw[zG,hx];rfl);replace h0:=Hd h0;clear ha hx;by_cases hu:x.name=t.name
    ·have hu':(x.name.toList==t.name.toList)=true:=(by rw[bqb];exact zW hu);have hfin:=Hd (show tyC l i=25 from tyC_25 ht.out hnmB.out.symm (placeI_ne (by rw[hxn.out,hu]) hlt));clear hu;go_wp2;go_quiet (fail);go_wp2;go_ret;exact⟨rtI hfin.out.symm,(h0.out.drewN _).1⟩
    ·have hu':(x.name.toList==t.name.toList)=false:=(by rw[bqb];exact zV hu);replace hu:=Hd hu;go_wp2;go_quiet (fail);go_wp2;go_roundw
     case rel=>
      refine⟨j+1,by omega,by go_num,h0.out.drewN _,fun p a h h3=>?_⟩;by_cases hij:p=j
      ·subst hij;obtain rfl:x.name=a:=by have:=hxn.out;rw[h]at this;exact(zq9 this).symm
       exact hu.out
      ·exact hp.out p a h (by omega)
     case measure=>simp[intOf];omega
   ·obtain rfl:j=i:=by omega
    have hpl:=Hd (show placeI (l.map (·.name)) t.name=j from placeI_at hnm.out hp.out);have y1:wr.cell? ⟨w.heap.size+1,1,none⟩=some (.slice A2 t.attrs.length c2):=h0.2.2.cell 1;have h0':=Hd h0;clear h0;by_cases h8:(8:Int)<t.attrs.length
    ·have hfin:=Hd (show tyC l j=24 from tyC_24 ht.out hnmB.out.symm hpl.out (by omega));go_wp2;go_ret;exact⟨rtI hfin.out.symm,h0'.out.1⟩
    ·have hfin:=Hd (show tyC l j=fstC (atC t.attrs) t.attrs.length from tyC_at ht.out hnmB.out.symm hpl.out (by omega));obtain⟨w3,hw3⟩:∃w3:World,w3=wr:=⟨_,rfl⟩
     subst hw3;have k2:=Hd in_k;go_wp2;clear y1;go_loopw [7,8] (fun v x wr=>∃k:Nat,k≤t.attrs.length∧x=.int .i64 k∧TB w wr (.slice (some ⟨b,off,none⟩) l.length c) t.name (.slice A2 t.attrs.length c2)∧OL wr (w.heap.size+1+1) (fun _=>False) 9 1 v k ((t.attrs.take k).flatMap strD)∧Hid (∀p,p<k→atC t.attrs p=0)) (fun _ x _=>t.attrs.length- (intOf x).toNat)
     case atStart=>exact⟨0,zE _,rfl,h0'.out,.nil _ _ _ _ _,fun p h=>by omega⟩
     case round=>
      clear h0';obtain⟨k,hk,rfl,h0,hO,hz⟩:=hrel;have y1:wr.cell? ⟨w.heap.size+1,1,none⟩=some (.slice A2 t.attrs.length c2):=h0.2.2.cell 1;by_cases hlt:k<t.attrs.length
      ·obtain⟨x,hx⟩:=getx hlt;obtain⟨b2,off2,rfl,_,ha,_⟩:=(r2.out.under h0.1 hF.out).rowv (m:=1) (fun _=>rfl) hx (by omega);have a0:wr.cell? ⟨b2,off2+k,none⟩=some (.string x):=by have:=ha 0 _ rfl;rwa [Nat.mul_one,Nat.add_zero]at this
       have g2:(0:Int)≤(k:Int):=(by omega);have g3:(k:Int)<t.attrs.length:=by omega
       replace hx:=Hd hx;clear ha;obtain⟨nx,hnx⟩:∃b,b=isNm x:=⟨_,rfl⟩
       replace hnx:=Hd hnx;have hKr:=Hd (hK.out.stay h0.1);cases nx
       ·have hc:atC t.attrs k=22:=atC_22 hx.out (.inl hnx.out.symm);have hfin2:tyC l j=22:=by rw[hfin.out,fstC_at hlt (by rw[hc];omega) hz.out,hc]
        replace hfin2:=Hd hfin2;replace h0:=Hd h0;clear hc hO;go_wp2_with (go_at_call 100;refine(k1.out _ _ hKr.out).mono ?_;rw[←hnx.out];rintro e W ⟨rfl,hW⟩;obtain rfl:=hW.symm);go_ret;exact⟨rtI hfin2.out.symm,h0.out.1⟩
       ·by_cases hts:x=tsB
        ·have hc:atC t.attrs k=22:=atC_22 hx.out (.inr hts);have hfin2:tyC l j=22:=by rw[hfin.out,fstC_at hlt (by rw[hc];omega) hz.out,hc]
         have hts':=ts_true hts;replace hfin2:=Hd hfin2;replace h0:=Hd h0;clear hc hO;replace hts:=Hd hts;go_wp2_with (go_at_call 100;refine(k1.out _ _ hKr.out).mono ?_;rw[←hnx.out];rintro e W ⟨rfl,hW⟩;obtain rfl:=hW.symm);go_ret;exact⟨rtI hfin2.out.symm,h0.out.1⟩
        ·have hts':=ts_false hts;have rH:=hO.rd (G:=fun _=>True) (fun _ _ _=>trivial) (fun _ _ _=>trivial);obtain⟨A3,c3,rfl⟩:=hO.form;have hlen:(t.attrs.take k).length=k:=by rw[zO];omega
         have k2':Calls Tryz.prog 128 #[.slice A3 k c3,.string x] wr fun e w'=>e=.returned (.bool (decide (placeI t.attrs x≠k)))∧w'=wr:=by
          rw[←any_take hx.out];have:=k2.out A3 c3 (fun _=>True) (t.attrs.take k) x (by omega) wr (by rw[hlen];exact rH);rwa [hlen]at this
         replace k2':=Hd k2';by_cases hpx:placeI t.attrs x=k
         ·have hd:decide (placeI t.attrs x≠(k:Int))=false:=zV (fun h=>h hpx);have hc:atC t.attrs k=0:=atC_0 hx.out hnx.out.symm hts hpx;have hfm:(t.attrs.take (k+1)).flatMap strD=(t.attrs.take k).flatMap strD++strD x:=by rw[zJ,hx.out];simp
          have hsz:=h0.2.2.lt;have hrow:∀q,some q=(Value.slice A3 k c3).ownBlock→w.heap.size+1+1≤q:=fun q hq=>(hO.lt q hq.symm).1
          replace hrow:=Hd hrow;replace hd:=Hd hd;replace hc:=Hd hc;replace hfm:=Hd hfm;replace hts:=Hd hts;replace hpx:=Hd hpx;replace rH:=Hd rH;have h0':=Hd h0;clear h0;go_wp2_with (first
           |(go_at_call 100;refine(k1.out _ _ hKr.out).mono ?_;rw[←hnx.out];rintro e W ⟨rfl,hW⟩;obtain rfl:=hW.symm)
           |(go_at_call 128;refine k2'.out.mono ?_;rw[hd.out];rintro e W ⟨rfl,hW⟩;obtain rfl:=hW.symm)
           |(at_builtin;refine wpa rfl (.tmp 65) (.tmp 71) _ rfl (m:=1) (news:=strD x) elStr (hO.alloc _) rfl rfl (Src.lit ⟨.v _ rfl,trivial⟩) rfl (by omega) (by omega) (by simp;omega) ?_;intro v' w' hO' hg ha))
          go_roundw
          case rel=>
           refine⟨k+1,by omega,by go_num,?_,by rw[hfm.out];exact hO',fun p hp2=>?_⟩
           ·refine⟨(h0'.out.1.alloc h0'.out.1.size _).grown hg (by simp;omega) (fun q hq=>by have:=hrow.out q hq.symm;omega),(h0'.out.2.1.alloc _).grown hg (fun hq=>?_),(h0'.out.2.2.alloc _).grown hg (fun hq=>?_)⟩
            ·have:=hrow.out _ hq;omega
            ·have:=hrow.out _ hq;omega
           ·by_cases e:p=k
            ·subst e;exact hc.out
            ·exact hz.out p (by omega)
          case measure=>simp[intOf];omega
         ·have hd:decide (placeI t.attrs x≠(k:Int))=true:=zW hpx;have hc:atC t.attrs k=25:=atC_25 hx.out hnx.out.symm hts hpx;have hfin2:tyC l j=25:=by rw[hfin.out,fstC_at hlt (by rw[hc];omega) hz.out,hc]
          replace hd:=Hd hd;replace hfin2:=Hd hfin2;replace hts:=Hd hts;replace hpx:=Hd hpx;replace h0:=Hd h0;clear hc hO rH;go_wp2_with (first
           |(go_at_call 100;refine(k1.out _ _ hKr.out).mono ?_;rw[←hnx.out];rintro e W ⟨rfl,hW⟩;obtain rfl:=hW.symm)
           |(go_at_call 128;refine k2'.out.mono ?_;rw[hd.out];rintro e W ⟨rfl,hW⟩;obtain rfl:=hW.symm))
          go_ret;exact⟨rtI hfin2.out.symm,h0.out.1⟩
      ·obtain rfl:k=t.attrs.length:=by omega
       have hfin2:=Hd (show tyC l j=0 by rw[hfin.out];exact fstC_zero hz.out);replace h0:=Hd h0;clear hO;go_wp2;go_ret;exact⟨rtI hfin2.out.symm,h0.out.1⟩
theorem rCheckSchema_k (A:Option Addr)(c:Nat)(F:Nat→Prop)(l:List Td)(hl:SzT l)(w:World)(hK:KwIs w)(hF:∀b,F b→b<w.heap.size)(r:Rd w F (.slice A l.length c) (.sl l.length (l.flatMap tdD))):
  Calls Tryz.prog 47 #[.agg #[.slice A l.length c]] w fun e w'=>e=.returned (.int .i64 (scC l))∧Bw w w':=by
 have k1:=Hd checkType_k;have hl1:=hl.1;replace hl:=Hd hl;replace hF:=Hd hF;replace hK:=Hd hK;replace r:=Hd r;by_cases g1:(l.length:Int)<1
 ·have hfin:=Hd (scC_23 (l:=l) (.inl (by omega)));go_enter Tryz.func47,Tryz.ntmps47;go_wp2;go_ret;exact⟨rtI hfin.out.symm,bA⟩
 ·by_cases g2:(16:Int)<l.length
  ·have hfin:=Hd (scC_23 (l:=l) (.inr (by omega)));go_enter Tryz.func47,Tryz.ntmps47;go_wp2;go_ret;exact⟨rtI hfin.out.symm,bA⟩
  ·have hfin:=Hd (scC_ty (l:=l) (by omega) (by omega));go_enter Tryz.func47,Tryz.ntmps47;go_wp2;go_loopw [3,4] (fun x _ wr=>∃j:Nat,j≤l.length∧x=.int .i64 j∧Bw w wr∧Blk wr w.heap.size 24 [.slice A l.length c]∧Hid (∀p,p<j→tyC l p=0)) (fun x _ _=>l.length- (intOf x).toNat)
   case atStart=>exact⟨0,zE _,rfl,bA,Blk.new _ _ _,fun p h=>by omega⟩
   case round=>
    obtain⟨j,hj,rfl,hb,hB,hz⟩:=hrel;have z0:wr.cell? ⟨w.heap.size,0,none⟩=some (.slice A l.length c):=hB.cell 0;replace hB:=Hd hB;by_cases hlt:j<l.length
    ·have k2:=k1.out A c F l j hlt hl.out wr (hK.out.stay hb) (fun b h=>zF (hF.out b h) hb.size) (r.out.under hb hF.out);obtain⟨q,hq⟩:∃q,q=tyC l j:=⟨_,rfl⟩
     rw[←hq]at k2;replace k2:=Hd k2;replace hb:=Hd hb;by_cases hq0:q=0
     ·subst hq0;replace hq:=Hd hq;go_wp2_with (go_at_call 96;refine k2.out.mono ?_;rintro e w2 ⟨rfl,hb2⟩);go_roundw
      case rel=>
       refine⟨j+1,by omega,by go_num,hb.out.trans (hb2.mono hb.out.size),hB.out.stay hb2,fun p hp=>?_⟩;by_cases e:p=j
       ·subst e;exact hq.out.symm
       ·exact hz.out p (by omega)
      case measure=>simp[intOf];omega
     ·have hfin2:scC l=q:=(by rw[hfin.out,fstC_at hlt (by rw[←hq];exact hq0) hz.out,hq]);have hq0':(q==0)=false:=by simpa using hq0
      replace hq:=Hd hq;replace hfin2:=Hd hfin2;go_wp2_with (go_at_call 96;refine k2.out.mono ?_;rintro e w2 ⟨rfl,hb2⟩);go_ret;exact⟨rtI hfin2.out.symm,hb.out.trans (hb2.mono hb.out.size)⟩
    ·obtain rfl:j=l.length:=by omega
     have hfin2:=Hd (show scC l=0 by rw[hfin.out];exact fstC_zero hz.out);go_wp2;go_ret;exact⟨rtI hfin2.out.symm,hb⟩
end nmW
def TG (w wr:World)(g:Nat)(v:Value)(n:ByteArray)(u:Value):Prop:=
 Bw w wr∧Blk wr w.heap.size 24 [v]∧Blk wr g 47 [.string n,u]
theorem TG.stay {w wr w2:World}{g:Nat}{v u:Value}{n:ByteArray}(h:TG w wr g v n u)(hb:Bw wr w2):TG w w2 g v n u:=
 ⟨h.1.trans (hb.mono h.1.size),h.2.1.stay hb,h.2.2.stay hb⟩
namespace nmW
theorem checkSchema_k (A:Option Addr)(c:Nat)(F:Nat→Prop)(l:List Td)(hl:SzT l)(w:World)(hK:KwIs w)(hF:∀b,F b→b<w.heap.size)(r:Rd w F (.slice A l.length c) (.sl l.length (l.flatMap tdD))):
  Calls Tryz.prog 31 #[.agg #[.slice A l.length c]] w fun e w'=>e=.returned (.int .i64 (scC l))∧Bw w w':=by
 have k1:=Hd isName_k;have k2:=Hd typeOf_k;have k3:=Hd placeOf_k;obtain⟨hl1,hl2⟩:=hl;replace hl2:=Hd hl2;replace hF:=Hd hF;replace hK:=Hd hK;replace r:=Hd r;by_cases g1:(l.length:Int)=0
 ·have hfin:=Hd (scC_23 (l:=l) (.inl (by omega)));have g1':((l.length:Int)==0)=true:=by simpa using g1
  clear g1;go_enter Tryz.func31,Tryz.ntmps31;go_wp2;go_ret;exact⟨rtI hfin.out.symm,bA⟩
 ·have g1':((l.length:Int)==0)=false:=by simpa using g1
  by_cases g2:(16:Int)<l.length
  ·have hfin:=Hd (scC_23 (l:=l) (.inr (by omega)));clear g1;go_enter Tryz.func31,Tryz.ntmps31;go_wp2;go_ret;exact⟨rtI hfin.out.symm,bA⟩
  ·have hfin:=Hd (scC_ty (l:=l) (by omega) (by omega));clear g1;go_enter Tryz.func31,Tryz.ntmps31;go_wp2;go_loopw [20] (fun x wr=>∃j:Nat,j≤l.length∧x=.int .i64 j∧Bw w wr∧Blk wr w.heap.size 24 [.slice A l.length c]∧Hid (∀p,p<j→tyC l p=0)) (fun x _=>l.length- (intOf x).toNat)
   case atStart=>exact⟨0,zE _,rfl,bA,Blk.new _ _ _,fun p h=>by omega⟩
   case round=>
    obtain⟨j,hj,rfl,hb,hB,hz⟩:=hrel;by_cases hlt:j<l.length
    ·obtain⟨wo,hwo⟩:∃wo:World,wo=wr:=⟨_,rfl⟩
     subst hwo;obtain⟨t,ht⟩:=getx hlt;obtain⟨hs1,hs2,hs3⟩:=hl2.out t (zA ht);obtain⟨b,off,rfl,hFb,hv,hsl⟩:=r.out.rowv (m:=2) (fun _=>rfl) ht (by omega);have hfB:=hF.out b hFb;have a0:wo.cell? ⟨b,off+j*2,none⟩=some (.string t.name):=(hb.cell (p:=⟨b,off+j*2,none⟩) hfB).trans (hv 0 _ rfl);obtain⟨A2,c2,a1,rw0⟩:=hsl 1 _ _ rfl;replace a1:wo.cell? ⟨b,off+j*2+1,none⟩=some (.slice A2 t.attrs.length c2):=(hb.cell (p:=⟨b,off+j*2+1,none⟩) hfB).trans a1;have g0:(0:Int)≤(j:Int):=by omega
     have g1:(j:Int)<l.length:=(by omega);have hbB:b<wo.heap.size:=zF (hF.out b hFb) hb.size;have hbN:¬b=wo.heap.size:=by omega
     have hbsz:=hb.size;have hnm:(l.map (·.name))[j]? =some t.name:=by rw[zG,ht];rfl
     have hT:TG w (wo.alloc (.cells #[.string t.name,.slice A2 t.attrs.length c2] 47)) wo.heap.size (.slice (some ⟨b,off,none⟩) l.length c) t.name (.slice A2 t.attrs.length c2):=⟨hb.alloc hb.size _,hB.alloc _,Blk.new' rfl⟩;have rr:=(r.out.under hb hF.out);have hFr:∀b,F b→b<wo.heap.size:=fun b h=>zF (hF.out b h) hb.size
     have hRx:∀W,TG w W wo.heap.size (.slice (some ⟨b,off,none⟩) l.length c) t.name (.slice A2 t.attrs.length c2)→Rd W F (.slice A2 t.attrs.length c2) (.sl t.attrs.length (t.attrs.flatMap strD)):=by
      exact fun W hW=>rw0.under hW.1 hF.out
     replace hRx:=Hd hRx;replace hs3:=Hd hs3;replace hnm:=Hd hnm;replace ht:=Hd ht;replace hT:=Hd hT;replace rr:=Hd rr;clear rw0;replace hFr:=Hd hFr;have hKr:=Hd ((hK.out.stay hb).stay (bX (.cells #[.string t.name,.slice A2 t.attrs.length c2] 47)));clear hv hsl hb hB;obtain⟨nm,hnmB⟩:∃b,b=isNm t.name:=⟨_,rfl⟩
     replace hnmB:=Hd hnmB;cases nm
     ·have hc:tyC l j=22:=tyC_22 ht.out hnmB.out.symm;have hfin2:scC l=22:=by rw[hfin.out,fstC_at hlt (by rw[hc];omega) hz.out,hc]
      replace hfin2:=Hd hfin2;clear hc;go_wp2_with (go_at_call 59;refine(k1.out _ _ hKr.out hs1).mono ?_;rw[←hnmB.out];rintro e W ⟨rfl,hW⟩;have hTW:=hT.out.stay hW);go_ret;exact⟨rtI hfin2.out.symm,hTW.1⟩
     ·obtain⟨q,hq⟩:∃q,q=placeI (l.map (·.name)) t.name:=⟨_,rfl⟩
      have hTo:∀W,TG w W wo.heap.size (.slice (some ⟨b,off,none⟩) l.length c) t.name (.slice A2 t.attrs.length c2)→Calls Tryz.prog 60 #[.agg #[.slice (some ⟨b,off,none⟩) l.length c],.string t.name] W fun e w'=>e=.returned (.int .i64 q)∧Bw W w':=fun W hW=>by
       rw[hq];exact k2.out _ c F l t.name hl1 W (fun b h=>zF (hF.out b h) hW.1.size) (r.out.under hW.1 hF.out)
      replace hTo:=Hd hTo;by_cases hqj:q=(j:Int)
      ·subst hqj;by_cases h8:(8:Int)<t.attrs.length
       ·have hc:tyC l j=24:=tyC_24 ht.out hnmB.out.symm hq.symm (by omega);have hfin2:scC l=24:=by rw[hfin.out,fstC_at hlt (by rw[hc];omega) hz.out,hc]
        replace hfin2:=Hd hfin2;replace hq:=Hd hq;clear hc;go_wp2_with (first
         |(go_at_call 59;refine(k1.out _ _ hKr.out hs1).mono ?_;rw[←hnmB.out];rintro e W ⟨rfl,hW⟩;have hTW:=hT.out.stay hW;have z0:W.cell? ⟨w.heap.size,0,none⟩=some (.slice (some ⟨b,off,none⟩) l.length c):=hTW.2.1.cell 0;have y0:W.cell? ⟨wo.heap.size,0,none⟩=some (.string t.name):=hTW.2.2.cell 0;replace hTW:=Hd hTW)
         |(go_at_call 60;refine(hTo.out _ hTW.out).mono ?_;rintro e W2 ⟨rfl,hW2⟩;have hTW2:=hTW.out.stay hW2;have y1:W2.cell? ⟨wo.heap.size,1,none⟩=some (.slice A2 t.attrs.length c2):=hTW2.2.2.cell 1;replace hTW2:=Hd hTW2))
        go_ret;exact⟨rtI hfin2.out.symm,hTW2.out.1⟩
       ·have hc:tyC l j=fstC (atC t.attrs) t.attrs.length:=tyC_at ht.out hnmB.out.symm hq.symm (by omega);replace hc:=Hd hc;replace hq:=Hd hq;go_wp2_with (first
         |(go_at_call 59;refine(k1.out _ _ hKr.out hs1).mono ?_;rw[←hnmB.out];rintro e W ⟨rfl,hW⟩;have hTW:=hT.out.stay hW;have z0:W.cell? ⟨w.heap.size,0,none⟩=some (.slice (some ⟨b,off,none⟩) l.length c):=hTW.2.1.cell 0;have y0:W.cell? ⟨wo.heap.size,0,none⟩=some (.string t.name):=hTW.2.2.cell 0;replace hTW:=Hd hTW)
         |(go_at_call 60;refine(hTo.out _ hTW.out).mono ?_;rintro e W2 ⟨rfl,hW2⟩;have hTW2:=hTW.out.stay hW2;have y1:W2.cell? ⟨wo.heap.size,1,none⟩=some (.slice A2 t.attrs.length c2):=hTW2.2.2.cell 1;replace hTW2:=Hd hTW2))
        clear y1;go_loopw [45] (fun x wr=>∃k:Nat,k≤t.attrs.length∧x=.int .i64 k∧TG w wr wo.heap.size (.slice (some ⟨b,off,none⟩) l.length c) t.name (.slice A2 t.attrs.length c2)∧Hid (∀p,p<k→atC t.attrs p=0)) (fun x _=>t.attrs.length- (intOf x).toNat)
        case atStart=>exact⟨0,zE _,rfl,hTW2.out,fun p h=>by omega⟩
        case round=>
         clear hTW2;obtain⟨k,hk,rfl,hTx,hzz⟩:=hrel;by_cases hlt2:k<t.attrs.length
         ·obtain⟨x,hx⟩:=getx hlt2;have hxs:=hs3.out x (zA hx);have rx2:Rd wr F (.slice A2 t.attrs.length c2) (.sl t.attrs.length (t.attrs.flatMap strD)):=(hRx.out _ hTx);obtain⟨b2,off2,rfl,_,ha,_⟩:=rx2.rowv (m:=1) (fun _=>rfl) hx (by omega);have a0:wr.cell? ⟨b2,off2+k,none⟩=some (.string x):=by have:=ha 0 _ rfl;rwa [Nat.mul_one,Nat.add_zero]at this
          have g2:(0:Int)≤(k:Int):=(by omega);have g3:(k:Int)<t.attrs.length:=by omega
          replace hx:=Hd hx;obtain⟨nx,hnx⟩:∃b,b=isNm x:=⟨_,rfl⟩
          replace hnx:=Hd hnx;have hKx:=Hd (hK.out.stay hTx.1);replace hTx:=Hd hTx;clear ha rx2;cases nx
          ·have hc2:atC t.attrs k=22:=atC_22 hx.out (.inl hnx.out.symm);have hty:tyC l j=22:=by rw[hc.out,fstC_at hlt2 (by rw[hc2];omega) hzz.out,hc2]
           have hfin2:=Hd (show scC l=22 by rw[hfin.out,fstC_at hlt (by rw[hty];omega) hz.out,hty]);clear hc2 hty;go_wp2_with (go_at_call 59;refine(k1.out _ _ hKx.out hxs).mono ?_;rw[←hnx.out];rintro e W ⟨rfl,hW⟩;have hTW:=hTx.out.stay hW;replace hTW:=Hd hTW);go_ret;exact⟨rtI hfin2.out.symm,hTW.out.1⟩
          ·by_cases hts:x=tsB
           ·have hc2:atC t.attrs k=22:=atC_22 hx.out (.inr hts);have hty:tyC l j=22:=by rw[hc.out,fstC_at hlt2 (by rw[hc2];omega) hzz.out,hc2]
            have hfin2:=Hd (show scC l=22 by rw[hfin.out,fstC_at hlt (by rw[hty];omega) hz.out,hty]);have hts':=ts_true hts;replace hts:=Hd hts;clear hc2 hty;go_wp2_with (go_at_call 59;refine(k1.out _ _ hKx.out hxs).mono ?_;rw[←hnx.out];rintro e W ⟨rfl,hW⟩;have hTW:=hTx.out.stay hW;replace hTW:=Hd hTW);go_ret;exact⟨rtI hfin2.out.symm,hTW.out.1⟩
           ·have hts':=ts_false hts;obtain⟨q2,hq2⟩:∃q,q=placeI t.attrs x:=⟨_,rfl⟩
            have hPo:∀W,TG w W wo.heap.size (.slice (some ⟨b,off,none⟩) l.length c) t.name (.slice (some ⟨b2,off2,none⟩) t.attrs.length c2)→Calls Tryz.prog 61 #[.slice (some ⟨b2,off2,none⟩) t.attrs.length c2,.string x] W fun e w'=>e=.returned (.int .i64 q2)∧w'=W:=fun W hW=>by
             rw[hq2];exact k3.out _ c2 F t.attrs x hs2 W (hRx.out _ hW)
            replace hPo:=Hd hPo;by_cases hqk:q2=(k:Int)
            ·subst hqk;have hc2:atC t.attrs k=0:=atC_0 hx.out hnx.out.symm hts hq2.symm;replace hc2:=Hd hc2;replace hq2:=Hd hq2;replace hts:=Hd hts;go_wp2_with (first
              |(go_at_call 59;refine(k1.out _ _ hKx.out hxs).mono ?_;rw[←hnx.out];rintro e W ⟨rfl,hW⟩;have hTW:=hTx.out.stay hW;have y1:W.cell? ⟨wo.heap.size,1,none⟩=some (.slice (some ⟨b2,off2,none⟩) t.attrs.length c2):=hTW.2.2.cell 1;replace hTW:=Hd hTW)
              |(go_at_call 61;refine(hPo.out _ hTW.out).mono ?_;rintro e W2 ⟨rfl,hW2⟩;obtain rfl:=hW2.symm))
             go_roundw
             case rel=>
              refine⟨k+1,by omega,by go_num,hTW.out,fun p hp=>?_⟩;by_cases e:p=k
              ·subst e;exact hc2.out
              ·exact hzz.out p (by omega)
             case measure=>simp[intOf];omega
            ·have hc2:atC t.attrs k=25:=atC_25 hx.out hnx.out.symm hts (by rw[←hq2];exact hqk);have hty:tyC l j=25:=by rw[hc.out,fstC_at hlt2 (by rw[hc2];omega) hzz.out,hc2]
             have hfin2:scC l=25:=(by rw[hfin.out,fstC_at hlt (by rw[hty];omega) hz.out,hty]);have hqk':(q2==(k:Int))=false:=by simpa using hqk
             replace hfin2:=Hd hfin2;replace hq2:=Hd hq2;replace hts:=Hd hts;clear hc2 hty;go_wp2_with (first
              |(go_at_call 59;refine(k1.out _ _ hKx.out hxs).mono ?_;rw[←hnx.out];rintro e W ⟨rfl,hW⟩;have hTW:=hTx.out.stay hW;have y1:W.cell? ⟨wo.heap.size,1,none⟩=some (.slice (some ⟨b2,off2,none⟩) t.attrs.length c2):=hTW.2.2.cell 1;replace hTW:=Hd hTW)
              |(go_at_call 61;refine(hPo.out _ hTW.out).mono ?_;rintro e W2 ⟨rfl,hW2⟩;obtain rfl:=hW2.symm))
             go_ret;exact⟨rtI hfin2.out.symm,hTW.out.1⟩
         ·obtain rfl:k=t.attrs.length:=by omega
          have hc2:=Hd (show tyC l j=0 by rw[hc.out];exact fstC_zero hzz.out);replace hTx:=Hd hTx;go_wp2;go_roundw
          case rel=>
           refine⟨j+1,by omega,by go_num,hTx.out.1,hTx.out.2.1,fun p hp=>?_⟩;by_cases e:p=j
           ·subst e;exact hc2.out
           ·exact hz.out p (by omega)
          case measure=>simp[intOf];omega
      ·have hc:tyC l j=25:=tyC_25 ht.out hnmB.out.symm (by rw[←hq];exact hqj);have hfin2:scC l=25:=by rw[hfin.out,fstC_at hlt (by rw[hc];omega) hz.out,hc]
       have hqj':(q==(j:Int))=false:=(by simpa using hqj);replace hfin2:=Hd hfin2;replace hq:=Hd hq;clear hc;go_wp2_with (first
        |(go_at_call 59;refine(k1.out _ _ hKr.out hs1).mono ?_;rw[←hnmB.out];rintro e W ⟨rfl,hW⟩;have hTW:=hT.out.stay hW;have z0:W.cell? ⟨w.heap.size,0,none⟩=some (.slice (some ⟨b,off,none⟩) l.length c):=hTW.2.1.cell 0;have y0:W.cell? ⟨wo.heap.size,0,none⟩=some (.string t.name):=hTW.2.2.cell 0;replace hTW:=Hd hTW)
        |(go_at_call 60;refine(hTo.out _ hTW.out).mono ?_;rintro e W2 ⟨rfl,hW2⟩;have hTW2:=hTW.out.stay hW2;replace hTW2:=Hd hTW2))
       go_ret;exact⟨rtI hfin2.out.symm,hTW2.out.1⟩
    ·obtain rfl:j=l.length:=by omega
     have hfin2:=Hd (show scC l=0 by rw[hfin.out];exact fstC_zero hz.out);clear hB;go_wp2;go_ret;exact⟨rtI hfin2.out.symm,hb⟩
end nmW
theorem strD_pl (x:ByteArray):PlainL (strD x):=by intro d h;simp[strD]at h;exact⟨_,h⟩
theorem strD_len (l:List ByteArray):(l.flatMap strD).length=l.length*1:=fml (f:=strD) (m:=1) (fun _=>rfl) _
theorem Src.drew {w:World}{A:Option Addr}{news:List D}{G:Nat→Prop}(h:Src w A news G):Src w.drew A news G:=fun hne=>
 let ⟨b,off,e,hc⟩:=h hne
 ⟨b,off,e,fun k d hd=>let ⟨u,h1,h2⟩:=hc k d hd;⟨u,h1,h2.drew⟩⟩
theorem OL.base {w:World}{B B':Nat}{F:Nat→Prop}{e size n:Nat}{v:Value}{ds:List D}(h:OL w B F e size v n ds)(hB:B'≤B):OL w B' F e size v n ds:=by
 obtain⟨cells,⟨h1,h2⟩,h3⟩:=h;exact⟨cells,⟨h1,h2.imp id (fun⟨g,cap,cur,e,hb,r⟩=>⟨g,cap,cur,e,zU hB hb,r⟩)⟩,h3⟩
theorem undrew {w w':World}{row:Option Nat}(h:w.drew.grownBy w' row):w.grownBy w' row:=⟨h.os,h.tape,h.output,h.size,h.block⟩
theorem aggSc:AggT Tryz.prog 24 1:=⟨_,Tryz.underlying24,rfl,by kernel_rfl⟩
section
variable {P:Program}{w:World}{g t:Nat}{cs:List Value}
theorem bpa {fn:Func}{R:Ending→World→Prop}{a:Act}{p ty:Nat}(hr:fn.results=#[.cell p ty])(h:Blk w g t cs)(T:AggT P ty cs.length)
  (hp:a.tmps.getD p undef=.pointer (some ⟨g,0,none⟩))(hd:a.defers=[])(hR:R (.returned (.agg ⟨cs⟩)) w):bodyPost P fn R .ret a w:=by
 refine bodyPost_ret (v:=.agg ⟨cs⟩) ?_ hd hR;simp only[Array.getD_eq_getD_getElem?]at hp;simp[results,hr,hp,asAddr,run_loadVar_blk h T]
theorem bpc {fn:Func}{R:Ending→World→Prop}{a:Act}{p q r ty:Nat}{v v2:Value}(hr:fn.results=#[.cell p ty,.tmp q,.tmp r])(h:Blk w g t cs)(T:AggT P ty cs.length)
  (hp:a.tmps.getD p undef=.pointer (some ⟨g,0,none⟩))(hq:a.tmps.getD q undef=v)(hq2:a.tmps.getD r undef=v2)(hd:a.defers=[])(hR:R (.returned (.tuple #[.agg ⟨cs⟩,v,v2])) w):bodyPost P fn R .ret a w:=by
 refine bodyPost_ret (v:=.tuple #[.agg ⟨cs⟩,v,v2]) ?_ hd hR;simp only[Array.getD_eq_getD_getElem?]at hp hq hq2;simp[results,hr,hp,hq,hq2,asAddr,run_loadVar_blk h T]
end
set_option linter.unusedSimpArgs false
structure Nd where
 op:Int
 n:Int
 v:ByteArray
 at_:ByteArray
 a:Int
 b:Int
def ndV (x:Nd):List Value:=[.int .i64 x.op,.int .i64 x.n,.string x.v,.string x.at_,.int .i64 x.a,.int .i64 x.b]
def ndD (x:Nd):List D:=[.v (.int .i64 x.op),.v (.int .i64 x.n),.v (.string x.v),.v (.string x.at_),.v (.int .i64 x.a),.v (.int .i64 x.b)]
structure It where
 neg:Bool
 tys:List ByteArray
 v:ByteArray
 lo:Int
 hi:Int
def itD (x:It):List D:=[.v (.bool x.neg),.sl x.tys.length (x.tys.flatMap strD),.v (.string x.v),.v (.int .i64 x.lo),.v (.int .i64 x.hi)]
structure Qy where
 items:List It
 mode:Int
 after:Int
 wh:List Nd
 within:Int
 by_:ByteArray
 ret:List (List Nd)
def reD (l:List Nd):List D:=[.sl l.length (l.flatMap ndD)]
def emp:ByteArray:=⟨#[]⟩
def isLf (o:Int):Bool:=decide (1≤o)&&decide (o≤11)
def isUn (o:Int):Bool:=decide (o=12)||decide (o=13)
def isBi (o:Int):Bool:=decide (14≤o)&&decide (o≤26)
def isVar (o:Int):Bool:=decide (4≤o)&&decide (o≤11)
def isAtt (o:Int):Bool:=isVar o&& !decide (o=5)
noncomputable def fieldsB (x:Nd):Bool:=
 (if x.op=1 then decide (0≤x.n)else decide (x.n=0))&&(if isVar x.op=true then isNm x.v else decide (x.v=emp))&&(if isAtt x.op=true then isNm x.at_ else decide (x.at_=emp))
noncomputable def stepT (i:Nat)(stk:List (Nat×Nat))(x:Nd):Option (List (Nat×Nat)):=
 if fieldsB x=false then none
 else if isLf x.op=true then(if x.a= -1∧x.b= -1 then some ((i,i)::stk)else none)
 else if isUn x.op=true then(match stk with |(b,r)::s=>if x.a=(r:Int)∧x.b= -1 then some ((b,i)::s)else none | []=>none)
 else if isBi x.op=true then(match stk with |(_,r)::(b2,r2)::s=>if x.a=(r2:Int)∧x.b=(r:Int)then some ((b2,i)::s)else none |_=>none)
 else none
noncomputable def runT:Nat→List (Nat×Nat)→List Nd→Option (List (Nat×Nat))
 |_,s,[]=>some s
 |i,s,x::r=>match stepT i s x with |none=>none |some s'=>runT (i+1) s' r
noncomputable def treeB (t:List Nd):Bool:=match runT 0 [] t with |some [_]=>true |_=>false
inductive Sp (t:List Nd):Nat→Nat→Prop
 |lf {i:Nat}{x:Nd}:t[i]? =some x→isLf x.op=true→x.a= -1→x.b= -1→Sp t i i
 |un {b j:Nat}{x:Nd}:t[j+1]? =some x→isUn x.op=true→x.a=(j:Int)→x.b= -1→Sp t b j→Sp t b (j+1)
 |bi {b m j:Nat}{x:Nd}:t[j+1]? =some x→isBi x.op=true→x.a=(m:Int)→x.b=(j:Int)→Sp t b m→Sp t (m+1) j→Sp t b (j+1)
theorem Sp.le {t:List Nd}{b r:Nat}(h:Sp t b r):b≤r:=by
 induction h with
 |lf=>omega
 |un=>omega
 |bi=>omega
theorem Sp.lt {t:List Nd}{b r:Nat}(h:Sp t b r):r<t.length:=by
 cases h with
 |lf h=>exact(zC.1 h).1
 |un h=>exact(zC.1 h).1
 |bi h=>exact(zC.1 h).1
inductive StkOk (t:List Nd):Nat→List (Nat×Nat)→Prop
 |nil:StkOk t 0 []
 |cons {b r:Nat}{s:List (Nat×Nat)}:Sp t b r→StkOk t b s→StkOk t (r+1) ((b,r)::s)
def AllSp (t:List Nd)(i:Nat):Prop:=∀r,r<i→∃b,Sp t b r
theorem stepT_ok {t:List Nd}{i:Nat}{stk stk':List (Nat×Nat)}{x:Nd}(hx:t[i]? =some x)(hs:StkOk t i stk)(ha:AllSp t i)(h:stepT i stk x=some stk'):StkOk t (i+1) stk'∧AllSp t (i+1)∧fieldsB x=true:=by
 have hall:∀b,Sp t b i→AllSp t (i+1):=fun b hb r hr=>by
  by_cases e:r=i
  ·subst e;exact⟨b,hb⟩
  ·exact ha r (by omega)
 unfold stepT at h;split at h
 ·cases h
 ·rename_i hf;have hf':fieldsB x=true:=by simpa using hf
  split at h
  ·rename_i h1;split at h
   ·rename_i h2;injection h with h
    subst h;have hsp:Sp t i i:=.lf hx h1 h2.1 h2.2;exact⟨.cons hsp hs,hall _ hsp,hf'⟩
   ·cases h
  ·split at h
   ·rename_i h1;cases hs with
    |nil=>cases h
    |cons hsp hs'=>
     simp only at h;split at h
     ·rename_i h2;injection h with h
      subst h;have hsp':=Sp.un hx h1 h2.1 h2.2 hsp;exact⟨.cons hsp' hs',hall _ hsp',hf'⟩
     ·cases h
   ·split at h
    ·rename_i h1;cases hs with
     |nil=>cases h
     |cons hsp hs'=>
      cases hs' with
      |nil=>cases h
      |cons hsp2 hs2=>
       simp only at h;split at h
       ·rename_i h2;injection h with h
        subst h;have hsp':=Sp.bi hx h1 h2.1 h2.2 hsp2 hsp;exact⟨.cons hsp' hs2,hall _ hsp',hf'⟩
       ·cases h
    ·cases h
theorem runT_ok {t:List Nd}:∀(l:List Nd)(i:Nat)(stk stk':List (Nat×Nat)),(∀j,l[j]? =t[i+j]?)→StkOk t i stk→AllSp t i→runT i stk l=some stk'→StkOk t (i+l.length) stk'∧AllSp t (i+l.length)∧∀x∈l,fieldsB x=true:=by
 intro l;induction l with
 |nil=>
  intro i stk stk' hl hs ha h;injection h with h
  subst h;exact⟨hs,ha,fun x hx=>by cases hx⟩
 |cons x l ih=>
  intro i stk stk' hl hs ha h;have hx:t[i]? =some x:=by have:=hl 0;simpa using this.symm
  unfold runT at h;cases hst:stepT i stk x with
  |none=>rw[hst]at h;cases h
  |some s'=>
   rw[hst]at h;obtain⟨h1,h2,h3⟩:=stepT_ok hx hs ha hst;obtain⟨h4,h5,h6⟩:=ih (i+1) s' stk' (fun j=>by have:=hl (j+1);simp at this;rw[this];congr 1;omega) h1 h2 h;have e:i+(x::l).length=i+1+l.length:=by simp;omega
   rw[e];refine⟨h4,h5,fun y hy=>?_⟩;rcases List.mem_cons.1 hy with rfl |hy
   ·exact h3
   ·exact h6 y hy
theorem treeB_sp {t:List Nd}(h:treeB t=true):(∃n,t.length=n+1∧Sp t 0 n)∧AllSp t t.length∧∀x∈t,fieldsB x=true:=by
 unfold treeB at h;cases hr:runT 0 [] t with
 |none=>rw[hr]at h;cases h
 |some s=>
  rw[hr]at h;match s,h with
  | [(b,r)],_=>
   obtain⟨h1,h2,h3⟩:=runT_ok (t:=t) t 0 [] _ (fun j=>by simp) .nil (fun r hr=>by omega) hr;rw[Nat.zero_add]at h1 h2;generalize hn:t.length=n at h1 h2;cases h1 with
   |cons hsp hs=>
    cases hs with
    |nil=>exact⟨⟨_,rfl,hsp⟩,h2,h3⟩
end Go.Proofs.YtfiodnlgiglhfaaGreatDoor
