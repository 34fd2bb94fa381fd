/- The program's CheckSchema answers the plain code. -/
import Derived.Test.YthaabihjeomipaaGreatDoorQOwn
import Derived.Deep.RegionLaw
import Derived.Lib.SliceRun
import Derived.Lib.Overlaps
import Derived.Laws.IdiomCopy
import Derived.Laws.Externs
namespace Go.Proofs.YthaabihjeomipaaGreatDoor
set_option maxRecDepth 100000
set_option maxHeartbeats 16000000
open Go.RowKit Go.Deep
set_option linter.unusedVariables false
def TG (w wr:World)(g:Nat)(v:Value)(n:ByteArray)(u:Value):Prop:=
 Bw w wr∧Blk wr w.heap.size 24 [v]∧Blk wr g 50 [.string n,u]
theorem TG.stay {w wr w2:World}{g:Nat}{v u:Value}{n:ByteArray}(h:TG w wr g v n u)(hb:Bw wr w2):TG w w2 g v n u:=
 ⟨h.1.trans (hb.mono h.1.size),h.2.1.stay hb,h.2.2.stay hb⟩
namespace nmW
theorem checkSchema_k (A:Option Addr)(c:Nat)(F:Nat→Prop)(l:List Td)(hl:SzT l)(w:World)(hK:KwIs w)(hF:∀b,F b→b<w.heap.size)(r:Rd w F (.slice A l.length c) (.sl l.length (l.flatMap tdD))):
  Calls Tryz.prog 66 #[.agg #[.slice A l.length c]] w fun e w'=>e=.returned (.int .i64 (scC l))∧Bw w w':=by
 have k1:=Hd isName_k;have k2:=Hd typeOf_k;have k3:=Hd placeOf_k;obtain⟨hl1,hl2⟩:=hl;replace hl2:=Hd hl2;replace hF:=Hd hF;replace hK:=Hd hK;replace r:=Hd r;by_cases g1:(l.length:Int)=0
 ·have hfin:=Hd (scC_23 (l:=l) (.inl oQ));have g1':((l.length:Int)==0)=true:=by simpa using g1
  clear g1;go_enter Tryz.func66,Tryz.ntmps66;go_wp2;go_ret;exact⟨rtI hfin.out.symm,bA⟩
 ·have g1':((l.length:Int)==0)=false:=by simpa using g1
  by_cases g2:(16:Int)<l.length
  ·have hfin:=Hd (scC_23 (l:=l) (.inr oQ));clear g1;go_enter Tryz.func66,Tryz.ntmps66;go_wp2;go_ret;exact⟨rtI hfin.out.symm,bA⟩
  ·have hfin:=Hd (scC_ty (l:=l) oQ oQ);clear g1;go_enter Tryz.func66,Tryz.ntmps66;go_wp2;go_loopw [20] (fun x wr=>∃j:Nat,j≤l.length∧x=.int .i64 j∧Bw w wr∧Blk wr w.heap.size 24 [.slice A l.length c]∧Hid (∀p,p<j→tyC l p=0)) (fun x _=>l.length- (intOf x).toNat)
   case atStart=>exact⟨0,zE _,rfl,bA,Blk.new _ _ _,fun p h=>by omega⟩
   case round=>
    obtain⟨j,hj,rfl,hb,hB,hz⟩:=hrel;by_cases hlt:j<l.length
    ·obtain⟨wo,hwo⟩:∃wo:World,wo=wr:=⟨_,rfl⟩
     subst hwo;obtain⟨t,ht⟩:=getx hlt;obtain⟨hs1,hs2,hs3⟩:=hl2.out t (zA ht);obtain⟨b,off,rfl,hFb,hv,hsl⟩:=r.out.rowv (m:=2) (fun _=>rfl) ht oQ;have hfB:=hF.out b hFb;have a0:wo.cell? ⟨b,off+j*2,none⟩=some (.string t.name):=(hb.cell (p:=⟨b,off+j*2,none⟩) hfB).trans (hv 0 _ rfl);obtain⟨A2,c2,a1,rw0⟩:=hsl 1 _ _ rfl;replace a1:wo.cell? ⟨b,off+j*2+1,none⟩=some (.slice A2 t.attrs.length c2):=(hb.cell (p:=⟨b,off+j*2+1,none⟩) hfB).trans a1;have g0:(0:Int)≤(j:Int):=oQ;have g1:(j:Int)<l.length:=oQ;have hbB:b<wo.heap.size:=zF (hF.out b hFb) hb.size;have hbN:¬b=wo.heap.size:=oQ;have hbsz:=hb.size;have hnm:(l.map (·.name))[j]? =some t.name:=by rw[zG,ht];rfl
     have hT:TG w (wo.alloc (.cells #[.string t.name,.slice A2 t.attrs.length c2] 50)) wo.heap.size (.slice (some ⟨b,off,none⟩) l.length c) t.name (.slice A2 t.attrs.length c2):=⟨hb.alloc hb.size _,hB.alloc _,Blk.new' rfl⟩;have rr:=(r.out.under hb hF.out);have hFr:∀b,F b→b<wo.heap.size:=fun b h=>zF (hF.out b h) hb.size
     have hRx:∀W,TG w W wo.heap.size (.slice (some ⟨b,off,none⟩) l.length c) t.name (.slice A2 t.attrs.length c2)→Rd W F (.slice A2 t.attrs.length c2) (.sl t.attrs.length (t.attrs.flatMap strD)):=by
      exact fun W hW=>rw0.under hW.1 hF.out
     replace hRx:=Hd hRx;replace hs3:=Hd hs3;replace hnm:=Hd hnm;replace ht:=Hd ht;replace hT:=Hd hT;replace rr:=Hd rr;clear rw0;replace hFr:=Hd hFr;have hKr:=Hd ((hK.out.stay hb).stay (bX (.cells #[.string t.name,.slice A2 t.attrs.length c2] 50)));clear hv hsl hb hB;obtain⟨nm,hnmB⟩:∃b,b=isNm t.name:=⟨_,rfl⟩
     replace hnmB:=Hd hnmB;cases nm
     ·have hc:tyC l j=22:=tyC_22 ht.out hnmB.out.symm;have hfin2:scC l=22:=by rw[hfin.out,fstC_at hlt (by rw[hc];omega) hz.out,hc]
      replace hfin2:=Hd hfin2;clear hc;go_wp2_with (go_at_call 108;refine(k1.out _ _ hKr.out hs1).mono ?_;rw[←hnmB.out];rintro e W ⟨rfl,hW⟩;have hTW:=hT.out.stay hW);go_ret;exact⟨rtI hfin2.out.symm,hTW.1⟩
     ·obtain⟨q,hq⟩:∃q,q=placeI (l.map (·.name)) t.name:=⟨_,rfl⟩
      have hTo:∀W,TG w W wo.heap.size (.slice (some ⟨b,off,none⟩) l.length c) t.name (.slice A2 t.attrs.length c2)→Calls Tryz.prog 109 #[.agg #[.slice (some ⟨b,off,none⟩) l.length c],.string t.name] W fun e w'=>e=.returned (.int .i64 q)∧Bw W w':=fun W hW=>by
       rw[hq];exact k2.out _ c F l t.name hl1 W (fun b h=>zF (hF.out b h) hW.1.size) (r.out.under hW.1 hF.out)
      replace hTo:=Hd hTo;by_cases hqj:q=(j:Int)
      ·subst hqj;by_cases h8:(8:Int)<t.attrs.length
       ·have hc:tyC l j=24:=tyC_24 ht.out hnmB.out.symm hq.symm oQ;have hfin2:scC l=24:=by rw[hfin.out,fstC_at hlt (by rw[hc];omega) hz.out,hc]
        replace hfin2:=Hd hfin2;replace hq:=Hd hq;clear hc;go_wp2_with (first
         |(go_at_call 108;refine(k1.out _ _ hKr.out hs1).mono ?_;rw[←hnmB.out];rintro e W ⟨rfl,hW⟩;have hTW:=hT.out.stay hW;have z0:W.cell? ⟨w.heap.size,0,none⟩=some (.slice (some ⟨b,off,none⟩) l.length c):=hTW.2.1.cell 0;have y0:W.cell? ⟨wo.heap.size,0,none⟩=some (.string t.name):=hTW.2.2.cell 0;replace hTW:=Hd hTW)
         |(go_at_call 109;refine(hTo.out _ hTW.out).mono ?_;rintro e W2 ⟨rfl,hW2⟩;have hTW2:=hTW.out.stay hW2;have y1:W2.cell? ⟨wo.heap.size,1,none⟩=some (.slice A2 t.attrs.length c2):=hTW2.2.2.cell 1;replace hTW2:=Hd hTW2))
        go_ret;exact⟨rtI hfin2.out.symm,hTW2.out.1⟩
       ·have hc:tyC l j=fstC (atC t.attrs) t.attrs.length:=tyC_at ht.out hnmB.out.symm hq.symm oQ;replace hc:=Hd hc;replace hq:=Hd hq;go_wp2_with (first
         |(go_at_call 108;refine(k1.out _ _ hKr.out hs1).mono ?_;rw[←hnmB.out];rintro e W ⟨rfl,hW⟩;have hTW:=hT.out.stay hW;have z0:W.cell? ⟨w.heap.size,0,none⟩=some (.slice (some ⟨b,off,none⟩) l.length c):=hTW.2.1.cell 0;have y0:W.cell? ⟨wo.heap.size,0,none⟩=some (.string t.name):=hTW.2.2.cell 0;replace hTW:=Hd hTW)
         |(go_at_call 109;refine(hTo.out _ hTW.out).mono ?_;rintro e W2 ⟨rfl,hW2⟩;have hTW2:=hTW.out.stay hW2;have y1:W2.cell? ⟨wo.heap.size,1,none⟩=some (.slice A2 t.attrs.length c2):=hTW2.2.2.cell 1;replace hTW2:=Hd hTW2))
        clear y1;go_loopw [45] (fun x wr=>∃k:Nat,k≤t.attrs.length∧x=.int .i64 k∧TG w wr wo.heap.size (.slice (some ⟨b,off,none⟩) l.length c) t.name (.slice A2 t.attrs.length c2)∧Hid (∀p,p<k→atC t.attrs p=0)) (fun x _=>t.attrs.length- (intOf x).toNat)
        case atStart=>exact⟨0,zE _,rfl,hTW2.out,fun p h=>by omega⟩
        case round=>
         clear hTW2;obtain⟨k,hk,rfl,hTx,hzz⟩:=hrel;by_cases hlt2:k<t.attrs.length
         ·obtain⟨x,hx⟩:=getx hlt2;have hxs:=hs3.out x (zA hx);have rx2:Rd wr F (.slice A2 t.attrs.length c2) (.sl t.attrs.length (t.attrs.flatMap strD)):=(hRx.out _ hTx);obtain⟨b2,off2,rfl,_,ha,_⟩:=rx2.rowv (m:=1) (fun _=>rfl) hx oQ;have a0:wr.cell? ⟨b2,off2+k,none⟩=some (.string x):=by have:=ha 0 _ rfl;rwa [Nat.mul_one,Nat.add_zero]at this
          have g2:(0:Int)≤(k:Int):=oQ;have g3:(k:Int)<t.attrs.length:=oQ;replace hx:=Hd hx;obtain⟨nx,hnx⟩:∃b,b=isNm x:=⟨_,rfl⟩
          replace hnx:=Hd hnx;have hKx:=Hd (hK.out.stay hTx.1);replace hTx:=Hd hTx;clear ha rx2;cases nx
          ·have hc2:atC t.attrs k=22:=atC_22 hx.out (.inl hnx.out.symm);have hty:tyC l j=22:=by rw[hc.out,fstC_at hlt2 (by rw[hc2];omega) hzz.out,hc2]
           have hfin2:=Hd (show scC l=22 by rw[hfin.out,fstC_at hlt (by rw[hty];omega) hz.out,hty]);clear hc2 hty;go_wp2_with (go_at_call 108;refine(k1.out _ _ hKx.out hxs).mono ?_;rw[←hnx.out];rintro e W ⟨rfl,hW⟩;have hTW:=hTx.out.stay hW;replace hTW:=Hd hTW);go_ret;exact⟨rtI hfin2.out.symm,hTW.out.1⟩
          ·by_cases hts:x=tsB
           ·have hc2:atC t.attrs k=22:=atC_22 hx.out (.inr hts);have hty:tyC l j=22:=by rw[hc.out,fstC_at hlt2 (by rw[hc2];omega) hzz.out,hc2]
            have hfin2:=Hd (show scC l=22 by rw[hfin.out,fstC_at hlt (by rw[hty];omega) hz.out,hty]);have hts':=ts_true hts;replace hts:=Hd hts;clear hc2 hty;go_wp2_with (go_at_call 108;refine(k1.out _ _ hKx.out hxs).mono ?_;rw[←hnx.out];rintro e W ⟨rfl,hW⟩;have hTW:=hTx.out.stay hW;replace hTW:=Hd hTW);go_ret;exact⟨rtI hfin2.out.symm,hTW.out.1⟩
           ·have hts':=ts_false hts;obtain⟨q2,hq2⟩:∃q,q=placeI t.attrs x:=⟨_,rfl⟩
            have hPo:∀W,TG w W wo.heap.size (.slice (some ⟨b,off,none⟩) l.length c) t.name (.slice (some ⟨b2,off2,none⟩) t.attrs.length c2)→Calls Tryz.prog 110 #[.slice (some ⟨b2,off2,none⟩) t.attrs.length c2,.string x] W fun e w'=>e=.returned (.int .i64 q2)∧w'=W:=fun W hW=>by
             rw[hq2];exact k3.out _ c2 F t.attrs x hs2 W (hRx.out _ hW)
            replace hPo:=Hd hPo;by_cases hqk:q2=(k:Int)
            ·subst hqk;have hc2:atC t.attrs k=0:=atC_0 hx.out hnx.out.symm hts hq2.symm;replace hc2:=Hd hc2;replace hq2:=Hd hq2;replace hts:=Hd hts;go_wp2_with (first
              |(go_at_call 108;refine(k1.out _ _ hKx.out hxs).mono ?_;rw[←hnx.out];rintro e W ⟨rfl,hW⟩;have hTW:=hTx.out.stay hW;have y1:W.cell? ⟨wo.heap.size,1,none⟩=some (.slice (some ⟨b2,off2,none⟩) t.attrs.length c2):=hTW.2.2.cell 1;replace hTW:=Hd hTW)
              |(go_at_call 110;refine(hPo.out _ hTW.out).mono ?_;rintro e W2 ⟨rfl,hW2⟩;obtain rfl:=hW2.symm))
             go_roundw
             case rel=>
              refine⟨k+1,oQ,gQ,hTW.out,fun p hp=>?_⟩;by_cases e:p=k
              ·subst e;exact hc2.out
              ·exact hzz.out p oQ
             case measure=>exact mQ
            ·have hc2:atC t.attrs k=25:=atC_25 hx.out hnx.out.symm hts (by rw[←hq2];exact hqk);have hty:tyC l j=25:=by rw[hc.out,fstC_at hlt2 (by rw[hc2];omega) hzz.out,hc2]
             have hfin2:scC l=25:=(by rw[hfin.out,fstC_at hlt (by rw[hty];omega) hz.out,hty]);have hqk':(q2==(k:Int))=false:=by simpa using hqk
             replace hfin2:=Hd hfin2;replace hq2:=Hd hq2;replace hts:=Hd hts;clear hc2 hty;go_wp2_with (first
              |(go_at_call 108;refine(k1.out _ _ hKx.out hxs).mono ?_;rw[←hnx.out];rintro e W ⟨rfl,hW⟩;have hTW:=hTx.out.stay hW;have y1:W.cell? ⟨wo.heap.size,1,none⟩=some (.slice (some ⟨b2,off2,none⟩) t.attrs.length c2):=hTW.2.2.cell 1;replace hTW:=Hd hTW)
              |(go_at_call 110;refine(hPo.out _ hTW.out).mono ?_;rintro e W2 ⟨rfl,hW2⟩;obtain rfl:=hW2.symm))
             go_ret;exact⟨rtI hfin2.out.symm,hTW.out.1⟩
         ·obtain rfl:k=t.attrs.length:=oQ;have hc2:tyC l j=0:=by rw[hc.out];exact fstC_zero hzz.out
          replace hc2:=Hd hc2;replace hTx:=Hd hTx;go_wp2;go_roundw
          case rel=>
           refine⟨j+1,oQ,gQ,hTx.out.1,hTx.out.2.1,fun p hp=>?_⟩;by_cases e:p=j
           ·subst e;exact hc2.out
           ·exact hz.out p oQ
          case measure=>exact mQ
      ·have hc:tyC l j=25:=tyC_25 ht.out hnmB.out.symm (by rw[←hq];exact hqj);have hfin2:scC l=25:=by rw[hfin.out,fstC_at hlt (by rw[hc];omega) hz.out,hc]
       have hqj':(q==(j:Int))=false:=(by simpa using hqj);replace hfin2:=Hd hfin2;replace hq:=Hd hq;clear hc;go_wp2_with (first
        |(go_at_call 108;refine(k1.out _ _ hKr.out hs1).mono ?_;rw[←hnmB.out];rintro e W ⟨rfl,hW⟩;have hTW:=hT.out.stay hW;have z0:W.cell? ⟨w.heap.size,0,none⟩=some (.slice (some ⟨b,off,none⟩) l.length c):=hTW.2.1.cell 0;have y0:W.cell? ⟨wo.heap.size,0,none⟩=some (.string t.name):=hTW.2.2.cell 0;replace hTW:=Hd hTW)
        |(go_at_call 109;refine(hTo.out _ hTW.out).mono ?_;rintro e W2 ⟨rfl,hW2⟩;have hTW2:=hTW.out.stay hW2;replace hTW2:=Hd hTW2))
       go_ret;exact⟨rtI hfin2.out.symm,hTW2.out.1⟩
    ·obtain rfl:j=l.length:=oQ;have hfin2:scC l=0:=by rw[hfin.out];exact fstC_zero hz.out
     replace hfin2:=Hd hfin2;clear hB;go_wp2;go_ret;exact⟨rtI hfin2.out.symm,hb⟩
end nmW
theorem strD_pl (x:ByteArray):PlainL (strD x):=by intro d h;simp[strD]at h;exact⟨_,h⟩
theorem strD_len (l:List ByteArray):(l.flatMap strD).length=l.length*1:=fml (f:=strD) (m:=1) (fun _=>rfl) _
theorem Src.drew {w:World}{A:Option Addr}{news:List D}{G:Nat→Prop}(h:Src w A news G):Src w.drew A news G:=fun hne=>
 let ⟨b,off,e,hc⟩:=h hne
 ⟨b,off,e,fun k d hd=>let ⟨u,h1,h2⟩:=hc k d hd;⟨u,h1,h2.drew⟩⟩
theorem OL.base {w:World}{B B':Nat}{F:Nat→Prop}{e size n:Nat}{v:Value}{ds:List D}(h:OL w B F e size v n ds)(hB:B'≤B):OL w B' F e size v n ds:=by
 obtain⟨cells,⟨h1,h2⟩,h3⟩:=h;exact⟨cells,⟨h1,h2.imp id (fun⟨g,cap,cur,e,hb,r⟩=>⟨g,cap,cur,e,zU hB hb,r⟩)⟩,h3⟩
theorem undrew {w w':World}{row:Option Nat}(h:w.drew.grownBy w' row):w.grownBy w' row:=⟨h.os,h.tape,h.output,h.size,h.block⟩
theorem aggSc:AggT Tryz.prog 24 1:=⟨_,Tryz.underlying24,rfl,kQ⟩
section
variable {P:Program}{w:World}{g t:Nat}{cs:List Value}
theorem bpa {fn:Func}{R:Ending→World→Prop}{a:Act}{p ty:Nat}(hr:fn.results=#[.cell p ty])(h:Blk w g t cs)(T:AggT P ty cs.length)
  (hp:a.tmps.getD p undef=.pointer (some ⟨g,0,none⟩))(hd:a.defers=[])(hR:R (.returned (.agg ⟨cs⟩)) w):bodyPost P fn R .ret a w:=by
 refine bodyPost_ret (v:=.agg ⟨cs⟩) ?_ hd hR;simp only[Array.getD_eq_getD_getElem?]at hp;simp[results,hr,hp,asAddr,run_loadVar_blk h T]
theorem bpc {fn:Func}{R:Ending→World→Prop}{a:Act}{p q r ty:Nat}{v v2:Value}(hr:fn.results=#[.cell p ty,.tmp q,.tmp r])(h:Blk w g t cs)(T:AggT P ty cs.length)
  (hp:a.tmps.getD p undef=.pointer (some ⟨g,0,none⟩))(hq:a.tmps.getD q undef=v)(hq2:a.tmps.getD r undef=v2)(hd:a.defers=[])(hR:R (.returned (.tuple #[.agg ⟨cs⟩,v,v2])) w):bodyPost P fn R .ret a w:=by
 refine bodyPost_ret (v:=.tuple #[.agg ⟨cs⟩,v,v2]) ?_ hd hR;simp only[Array.getD_eq_getD_getElem?]at hp hq hq2;simp[results,hr,hp,hq,hq2,asAddr,run_loadVar_blk h T]
end
theorem Blk.setCells {g t:Nat}(cs':List Value):∀(o:Nat)(w:World)(cs:List Value),Blk w g t cs→o+cs'.length≤cs.length→Blk (w.setCells g o cs') g t (cs.take o++cs'++cs.drop (o+cs'.length))∧w.grownBy (w.setCells g o cs') (some g):=by
 induction cs' with
 |nil=>
  intro o w cs h hl;simp only[World.setCells,zT,List.length_nil,Nat.add_zero,List.take_append_drop];exact⟨h,World.grownBy.refl w _⟩
 |cons v r ih=>
  intro o w cs h hl;simp only[List.length_cons]at hl;obtain⟨h1,h2⟩:=ih (o+1) (w.setCell ⟨g,o,none⟩ v) (cs.set o v) (h.set_ o v) (by simp;omega);refine⟨?_,?_⟩
  ·have e1:(cs.set o v).take (o+1)=cs.take o++[v]:=by
    rw[zJ,xL,if_pos rfl,if_pos oQ,List.take_set_of_le nR];rfl
   have e2:(cs.set o v).drop (o+1+r.length)=cs.drop (o+(v::r).length):=by
    rw[List.drop_set_of_lt oQ,List.length_cons,show o+1+r.length=o+(r.length+1) by omega]
   rw[e1,e2]at h1;simpa[World.setCells] using h1
  ·refine⟨h2.os,h2.tape,h2.output,?_,fun k hk hne=>?_⟩
   ·have:=h2.size;refine zU ?_ this;simp[World.setCell]
   ·show(((w.setCell ⟨g,o,none⟩ v).setCells g (o+1) r).heap[k]?)=_
    rw[h2.block k (by simpa[World.setCell] using hk) hne];exact Below.heap_setCell _ _ _ _ (fun e=>hne (by rw[e]))
theorem setCells_size (g:Nat)(cs:List Value):∀(o:Nat)(w:World),(w.setCells g o cs).heap.size=w.heap.size:=by
 induction cs with
 |nil=>intro o w;rfl
 |cons v r ih=>intro o w;rw[World.setCells,ih];simp[World.setCell]
theorem run_clear_row {P:Program}{t e size bytes:Nat}(T:ElT P t e size bytes)(h1:((P.info? e).bind (·.zero)).map (fun z=>z.cells.toList.all Value.oneCell')=some true)(n:Nat)(hn:0<n):
  ∃zs:List Value,zs.length=n*size∧∀(ty:Nat)(w:World)(b o c:Nat),(∀j,j<n*size→(w.cell? ⟨b,o+j,none⟩).isSome=true)→(∀j,j<n*size→w.frozen? ⟨b,o+j,none⟩=false)→
   (Builtin.clear_ #[t] ty #[.slice (some ⟨b,o,none⟩) n c]).run P w=.ok (.tuple #[]) (w.setCells b o zs):=by
 obtain⟨ht,⟨i,z,hi,hz,hsize,hby,hzs⟩,hp⟩:=T;rw[hi]at h1;simp only[Option.bind_some,hz,Option.map_some,Option.some.injEq]at h1;have hv:∀w,(zeroValue e).run P w=.ok z w:=fun w=>by simp[zeroValue,typeInfo,hi,hz]
 refine⟨(Builtin.zeroCells z.cells n).toList,by simp[Builtin.zeroCells,hzs],fun ty w b o c hc hf=>?_⟩;have hl:(Builtin.zeroCells z.cells n).toList.length=n*size:=by simp[Builtin.zeroCells,hzs]
 have hone:∀v∈(Builtin.zeroCells z.cells n).toList,v.oneCell'=true:=by
  intro v hv;simp only[Builtin.zeroCells,Array.toList_map,List.mem_map]at hv;obtain⟨k,_,rfl⟩:=hv;have hk:k % z.cells.size<z.cells.size:=Nat.mod_lt _ oQ;rw[getElem!_pos z.cells _ hk];exact xP.1 h1 _ (Array.getElem_mem_toList hk)
 have hst:=run_storeCells_cells (P:=P) b o (Builtin.zeroCells z.cells n).toList 0 w (by rw[hl];simpa using hc) (by rw[hl];simpa using hf) hone;simp only[Nat.add_zero]at hst;obtain⟨m,rfl⟩:∃m,n=m+1:=⟨n-1,oQ⟩
 simp[Builtin.clear_,run_underlying ht,hv,hst]
theorem run_copy_row {P:Program}{t e size bytes:Nat}(ty:Nat)(T:ElT P t e size bytes)(w:World)(b o dLen dCap:Nat)(a:Addr)(sLen sCap m:Nat)(cs:List Value)(hm:m=Nat.min sLen dLen)(hn:cs.length=m*size)
  (hsrc:∀j v,cs[j]? =some v→w.cell? (a.add j)=some v)(hc:∀j,j<cs.length→(w.cell? ⟨b,o+j,none⟩).isSome=true)(hf:∀j,j<cs.length→w.frozen? ⟨b,o+j,none⟩=false)(h1:∀v∈cs,v.oneCell'=true):
  (Builtin.copy_ #[t,t] ty #[.slice (some ⟨b,o,none⟩) dLen dCap,.slice (some a) sLen sCap]).run P w=.ok (goInt m) (w.setCells b o cs):=by
 obtain⟨ht,⟨i,z,hi,hz,hsize,hby,hzs⟩,hp⟩:=T;have hl:=run_loadCells_list (P:=P) w a cs hsrc;have hst:=run_storeCells_cells (P:=P) b o cs 0 w (by simpa using hc) (by simpa using hf) h1;rw[hn]at hl;simp[Builtin.copy_,run_underlying ht,Builtin.lenOf,Builtin.firstCells,sizeOf,typeInfo,hi,hsize,←hm,hl,hst]
theorem OL.blk {w:World}{B e size n g cap:Nat}{F:Nat→Prop}{ds:List D}(h:OL w B F e size (.slice (some ⟨g,0,none⟩) n cap) n ds):
  ∃cs,B≤g∧Blk w g e cs∧n≤cap∧cap≤maxLen∧cs.length=cap*size∧ds.length=n*size∧∀(k:Nat)(d:D),ds[k]? =some d→∃u,cs[k]? =some u∧Rd w (fun b=>F b∧b≠g) u d:=by
 obtain⟨cells,⟨h1,h2⟩,h3,h4⟩:=h;rcases h2 with⟨h2,_⟩|⟨g',cap',cur,h2,hB,hb,hnc,hm,hs,ht⟩
 ·cases h2
 ·injection h2 with e1 e2 e3
  injection e1 with e1
  injection e1 with e1 e4
  subst e1 e3;refine⟨cur.toList,hB,hb,hnc,hm,by simpa using hs,by rw[h3,h1],fun k d hd=>?_⟩;obtain⟨u,hu,hr⟩:=h4 k d hd;refine⟨u,?_,hr.mono fun b hb' _=>⟨hb'.1,fun e=>hb'.2 (by rw[e];rfl)⟩⟩;rw[←ht,zZ]at hu;split at hu
  ·exact hu
  ·cases hu
theorem OL.of_blk {w:World}{B e size n g cap:Nat}{F:Nat→Prop}{ds:List D}{cs:List Value}(hB:B≤g)(hb:Blk w g e cs)(hn:n≤cap)(hm:cap≤maxLen)(hl:cs.length=cap*size)(hd:ds.length=n*size)
  (h:∀(k:Nat)(d:D),ds[k]? =some d→∃u,cs[k]? =some u∧Rd w (fun b=>F b∧b≠g) u d):OL w B F e size (.slice (some ⟨g,0,none⟩) n cap) n ds:=by
 have hns:n*size≤cap*size:=Nat.mul_le_mul hn nR;refine⟨cs.take (n*size),⟨by simp;omega,.inr ⟨g,cap,⟨cs⟩,rfl,hB,hb,hn,hm,by simpa using hl,rfl⟩⟩,by simp;omega,fun k d hk=>?_⟩;obtain⟨u,hu,hr⟩:=h k d hk;refine⟨u,?_,hr.mono fun b hb' _=>⟨hb'.1,fun e=>hb'.2 (by simpa[Value.ownBlock] using e)⟩⟩;have:=(zC.1 hk).1;rw[zZ,if_pos oQ];exact hu
theorem OL.cut {w w2:World}{B e size n g cap k:Nat}{F:Nat→Prop}{ds:List D}{cs cs2:List Value}(h:OL w B F e size (.slice (some ⟨g,0,none⟩) n cap) n ds)(hg:w.grownBy w2 (some g))(hk:k<n)
  (hb:Blk w g e cs)(hb2:Blk w2 g e cs2)(hl:cs2.length=cs.length)(hc:cs2.take ((n-1)*size)=cs.take (k*size)++(cs.take (n*size)).drop ((k+1)*size)):
  OL w2 B F e size (.slice (some ⟨g,0,none⟩) (n-1) cap) (n-1) (ds.take (k*size)++ds.drop ((k+1)*size)):=by
 obtain⟨cs',hB,hb',hnc,hm,hlen,hd,hr⟩:=h.blk;have e1:cs'=cs:=by
  unfold Blk at hb hb';rw[hb]at hb';injection hb' with e;injection e with e;injection e with e;exact e.symm
 subst e1;have hm1:k*size+size≤n*size:=by rw[←Nat.succ_mul];exact Nat.mul_le_mul hk nR
 have hm2:(k+1)*size=k*size+size:=Nat.succ_mul _ _;have hm3:(n-1)*size+size=n*size:=by rw[←Nat.succ_mul,show(n-1).succ=n by omega]
 have hnc2:n*size≤cap*size:=Nat.mul_le_mul hnc nR;refine OL.of_blk hB hb2 oQ hm oQ (by simp;omega) fun j d hj=>?_
 have hjl:=(zC.1 hj).1;simp at hjl;have hc2:cs2[j]? =(cs2.take ((n-1)*size))[j]? :=by rw[zZ,if_pos oQ]
 rw[hc2,hc];have hrg:∀u y,Rd w (fun b=>F b∧b≠g) u y→Rd w2 (fun b=>F b∧b≠g) u y:=fun u y h=>h.grown hg fun b hb=>by simpa using hb.2
 by_cases hjk:j<k*size
 ·rw[zS (by simp;omega),zZ,if_pos hjk]at hj;obtain⟨u,hu,hx⟩:=hr j d hj;exact⟨u,by rw[zS (by simp;omega),zZ,if_pos hjk];exact hu,hrg _ _ hx⟩
 ·have e5:(ds.take (k*size)).length=k*size:=by simp;omega
  have e6:(cs'.take (k*size)).length=k*size:=by simp;omega
  rw[zP oQ,e5,xT]at hj;obtain⟨u,hu,hx⟩:=hr _ d hj;refine⟨u,?_,hrg _ _ hx⟩;have:=(zC.1 hj).1;rw[zP oQ,e6,xT,zZ,if_pos oQ];exact hu
theorem cut_cells {cs news zs cs3:List Value}{a b X:Nat}(hX:X=a+news.length)(ha:a≤cs.length):((cs.take a++news++cs.drop b).take X++zs++cs3).take X=cs.take a++news:=by
 have e1:(cs.take a).length=a:=by simp;omega
 have e2:(cs.take a++news).length=X:=by rw[zH,e1,hX]
 have e3:(cs.take a++news++cs.drop b).take X=cs.take a++news:=by rw[←e2,List.take_left]
 rw[e3,zR,←e2,List.take_left]
theorem OL.put_in {w w2:World}{B e size n g cap k:Nat}{F:Nat→Prop}{ds vd:List D}{vs cs cs2:List Value}(h:OL w B F e size (.slice (some ⟨g,0,none⟩) n cap) n ds)(hg:w.grownBy w2 (some g))(hk:k≤n)(hnc1:n+1≤cap)
  (hb:Blk w g e cs)(hb2:Blk w2 g e cs2)(hl:cs2.length=cs.length)(hvl:vs.length=size)(hvd:vd.length=size)(hv:∀(j:Nat) d,vd[j]? =some d→∃u,vs[j]? =some u∧Rd w (fun b=>F b∧b≠g) u d)
  (hc:cs2.take ((n+1)*size)=cs.take (k*size)++vs++(cs.take (n*size)).drop (k*size)):
  OL w2 B F e size (.slice (some ⟨g,0,none⟩) (n+1) cap) (n+1) (ds.take (k*size)++vd++ds.drop (k*size)):=by
 obtain⟨cs',hB,hb',hnc,hm,hlen,hd,hr⟩:=h.blk;have e1:cs'=cs:=by
  unfold Blk at hb hb';rw[hb]at hb';injection hb' with e;injection e with e;injection e with e;exact e.symm
 subst e1;have hm1:k*size≤n*size:=Nat.mul_le_mul hk nR;have hm2:(n+1)*size=n*size+size:=Nat.succ_mul _ _;have hnc2:(n+1)*size≤cap*size:=Nat.mul_le_mul hnc1 nR;refine OL.of_blk hB hb2 hnc1 hm oQ (by simp;omega) fun j d hj=>?_
 have hjl:=(zC.1 hj).1;simp at hjl;have hc2:cs2[j]? =(cs2.take ((n+1)*size))[j]? :=by rw[zZ,if_pos oQ]
 rw[hc2,hc];have hrg:∀u y,Rd w (fun b=>F b∧b≠g) u y→Rd w2 (fun b=>F b∧b≠g) u y:=fun u y h=>h.grown hg fun b hb=>by simpa using hb.2
 have e5:(ds.take (k*size)).length=k*size:=by simp;omega
 have e6:(cs'.take (k*size)).length=k*size:=by simp;omega
 rw[zR]at hj ⊢;by_cases hjk:j<k*size
 ·rw[zS oQ,zZ,if_pos hjk]at hj;obtain⟨u,hu,hx⟩:=hr j d hj;exact⟨u,by rw[zS oQ,zZ,if_pos hjk];exact hu,hrg _ _ hx⟩
 ·rw[zP oQ,e5]at hj;rw[zP oQ,e6];by_cases hj2:j-k*size<size
  ·rw[zS oQ]at hj;obtain⟨u,hu,hx⟩:=hv _ d hj;exact⟨u,by rw[zS oQ];exact hu,hrg _ _ hx⟩
  ·rw[zP oQ,hvd,xT]at hj;obtain⟨u,hu,hx⟩:=hr _ d hj;refine⟨u,?_,hrg _ _ hx⟩;have:=(zC.1 hj).1;rw[zP oQ,hvl,xT,zZ,if_pos oQ];exact hu
theorem wpList_copy_r {P:Program}(w:World){ops:Array Oper}{rest:List Oper}{o:Oper}{a:Act}{Q:Exit→Act→World→Prop}(hgd:o.guard=none)(d s:Operand)(t t':TypeId)
  (ho:o.op=.call {callee:=.builtin .copy,args:=#[d,s],argTypes:=#[t,t']})(v u:Value)(hd:a.eval d=v)(hs:a.eval s=u){v':Value}{w':World}
  (hr:(Builtin.copy_ #[t,t'] o.type #[v,u]).run P w=.ok v' w')(h:wpList P ops Q rest (a.put o.dst v') w'):wpList P ops Q (o::rest) a w:=
 wpList_plain hgd fun _ hK=>by
  unfold Oper.wp execOp;simp only[ho,resolve,invoke,builtin,Sem.run_bind,Sem.run_pure,Result.andThen_ok,List.map_toArray,List.map_cons,List.map_nil,hd,hs,hr];exact hK _ _ h
theorem OL.neBlk {w:World}{B e size n g t:Nat}{F:Nat→Prop}{v:Value}{ds:List D}{cs:List Value}(h:OL w B F e size v n ds)(hb:Blk w g t cs)(hne:e≠t):v.ownBlock≠some g:=by
 obtain⟨cells,h1,_⟩:=h;rcases h1.2 with⟨rfl,_⟩|⟨g',cap,cur,rfl,_,hg,_⟩
 ·simp[Value.ownBlock]
 ·intro he;simp[Value.ownBlock]at he;subst he;unfold Blk at hb;rw[hg]at hb;injection hb with hb
  injection hb with _ ht
  exact hne ht
set_option linter.unusedSimpArgs false
structure Nd where
 op:Int
 n:Int
 v:ByteArray
 at_:ByteArray
 a:Int
 b:Int
def ndV (x:Nd):List Value:=[.int .i64 x.op,.int .i64 x.n,.string x.v,.string x.at_,.int .i64 x.a,.int .i64 x.b]
def ndD (x:Nd):List D:=[.v (.int .i64 x.op),.v (.int .i64 x.n),.v (.string x.v),.v (.string x.at_),.v (.int .i64 x.a),.v (.int .i64 x.b)]
structure It where
 neg:Bool
 tys:List ByteArray
 v:ByteArray
 lo:Int
 hi:Int
def itD (x:It):List D:=[.v (.bool x.neg),.sl x.tys.length (x.tys.flatMap strD),.v (.string x.v),.v (.int .i64 x.lo),.v (.int .i64 x.hi)]
structure Qy where
 items:List It
 mode:Int
 after:Int
 wh:List Nd
 within:Int
 by_:ByteArray
 ret:List (List Nd)
def reD (l:List Nd):List D:=[.sl l.length (l.flatMap ndD)]
def emp:ByteArray:=⟨#[]⟩
def isLf (o:Int):Bool:=decide (1≤o)&&decide (o≤11)
def isUn (o:Int):Bool:=decide (o=12)||decide (o=13)
def isBi (o:Int):Bool:=decide (14≤o)&&decide (o≤26)
def isVar (o:Int):Bool:=decide (4≤o)&&decide (o≤11)
def isAtt (o:Int):Bool:=isVar o&& !decide (o=5)
noncomputable def fieldsB (x:Nd):Bool:=
 (if x.op=1 then decide (0≤x.n)else decide (x.n=0))&&(if isVar x.op=true then isNm x.v else decide (x.v=emp))&&(if isAtt x.op=true then isNm x.at_ else decide (x.at_=emp))
noncomputable def stepT (i:Nat)(stk:List (Nat×Nat))(x:Nd):Option (List (Nat×Nat)):=
 if fieldsB x=false then none
 else if isLf x.op=true then(if x.a= -1∧x.b= -1 then some ((i,i)::stk)else none)
 else if isUn x.op=true then(match stk with |(b,r)::s=>if x.a=(r:Int)∧x.b= -1 then some ((b,i)::s)else none | []=>none)
 else if isBi x.op=true then(match stk with |(_,r)::(b2,r2)::s=>if x.a=(r2:Int)∧x.b=(r:Int)then some ((b2,i)::s)else none |_=>none)
 else none
noncomputable def runT:Nat→List (Nat×Nat)→List Nd→Option (List (Nat×Nat))
 |_,s,[]=>some s
 |i,s,x::r=>match stepT i s x with |none=>none |some s'=>runT (i+1) s' r
noncomputable def treeB (t:List Nd):Bool:=match runT 0 [] t with |some [_]=>true |_=>false
inductive Sp (t:List Nd):Nat→Nat→Prop
 |lf {i:Nat}{x:Nd}:t[i]? =some x→isLf x.op=true→x.a= -1→x.b= -1→Sp t i i
 |un {b j:Nat}{x:Nd}:t[j+1]? =some x→isUn x.op=true→x.a=(j:Int)→x.b= -1→Sp t b j→Sp t b (j+1)
 |bi {b m j:Nat}{x:Nd}:t[j+1]? =some x→isBi x.op=true→x.a=(m:Int)→x.b=(j:Int)→Sp t b m→Sp t (m+1) j→Sp t b (j+1)
theorem Sp.le {t:List Nd}{b r:Nat}(h:Sp t b r):b≤r:=by
 induction h with
 |lf=>omega
 |un=>omega
 |bi=>omega
theorem Sp.lt {t:List Nd}{b r:Nat}(h:Sp t b r):r<t.length:=by
 cases h with
 |lf h=>exact(zC.1 h).1
 |un h=>exact(zC.1 h).1
 |bi h=>exact(zC.1 h).1
inductive StkOk (t:List Nd):Nat→List (Nat×Nat)→Prop
 |nil:StkOk t 0 []
 |cons {b r:Nat}{s:List (Nat×Nat)}:Sp t b r→StkOk t b s→StkOk t (r+1) ((b,r)::s)
def AllSp (t:List Nd)(i:Nat):Prop:=∀r,r<i→∃b,Sp t b r
theorem stepT_ok {t:List Nd}{i:Nat}{stk stk':List (Nat×Nat)}{x:Nd}(hx:t[i]? =some x)(hs:StkOk t i stk)(ha:AllSp t i)(h:stepT i stk x=some stk'):StkOk t (i+1) stk'∧AllSp t (i+1)∧fieldsB x=true:=by
 have hall:∀b,Sp t b i→AllSp t (i+1):=fun b hb r hr=>by
  by_cases e:r=i
  ·subst e;exact⟨b,hb⟩
  ·exact ha r oQ
 unfold stepT at h;split at h
 ·cases h
 ·rename_i hf;have hf':fieldsB x=true:=by simpa using hf
  split at h
  ·rename_i h1;split at h
   ·rename_i h2;injection h with h
    subst h;have hsp:Sp t i i:=.lf hx h1 h2.1 h2.2;exact⟨.cons hsp hs,hall _ hsp,hf'⟩
   ·cases h
  ·split at h
   ·rename_i h1;cases hs with
    |nil=>cases h
    |cons hsp hs'=>
     simp only at h;split at h
     ·rename_i h2;injection h with h
      subst h;have hsp':=Sp.un hx h1 h2.1 h2.2 hsp;exact⟨.cons hsp' hs',hall _ hsp',hf'⟩
     ·cases h
   ·split at h
    ·rename_i h1;cases hs with
     |nil=>cases h
     |cons hsp hs'=>
      cases hs' with
      |nil=>cases h
      |cons hsp2 hs2=>
       simp only at h;split at h
       ·rename_i h2;injection h with h
        subst h;have hsp':=Sp.bi hx h1 h2.1 h2.2 hsp2 hsp;exact⟨.cons hsp' hs2,hall _ hsp',hf'⟩
       ·cases h
    ·cases h
theorem runT_ok {t:List Nd}:∀(l:List Nd)(i:Nat)(stk stk':List (Nat×Nat)),(∀j,l[j]? =t[i+j]?)→StkOk t i stk→AllSp t i→runT i stk l=some stk'→StkOk t (i+l.length) stk'∧AllSp t (i+l.length)∧∀x∈l,fieldsB x=true:=by
 intro l;induction l with
 |nil=>
  intro i stk stk' hl hs ha h;injection h with h
  subst h;exact⟨hs,ha,fun x hx=>by cases hx⟩
 |cons x l ih=>
  intro i stk stk' hl hs ha h;have hx:t[i]? =some x:=by have:=hl 0;simpa using this.symm
  unfold runT at h;cases hst:stepT i stk x with
  |none=>rw[hst]at h;cases h
  |some s'=>
   rw[hst]at h;obtain⟨h1,h2,h3⟩:=stepT_ok hx hs ha hst;obtain⟨h4,h5,h6⟩:=ih (i+1) s' stk' (fun j=>by have:=hl (j+1);simp at this;rw[this];congr 1;omega) h1 h2 h;have e:i+(x::l).length=i+1+l.length:=by simp;omega
   rw[e];refine⟨h4,h5,fun y hy=>?_⟩;rcases List.mem_cons.1 hy with rfl |hy
   ·exact h3
   ·exact h6 y hy
theorem treeB_sp {t:List Nd}(h:treeB t=true):(∃n,t.length=n+1∧Sp t 0 n)∧AllSp t t.length∧∀x∈t,fieldsB x=true:=by
 unfold treeB at h;cases hr:runT 0 [] t with
 |none=>rw[hr]at h;cases h
 |some s=>
  rw[hr]at h;match s,h with
  | [(b,r)],_=>
   obtain⟨h1,h2,h3⟩:=runT_ok (t:=t) t 0 [] _ (fun j=>by simp) .nil (fun r hr=>by omega) hr;rw[Nat.zero_add]at h1 h2;generalize hn:t.length=n at h1 h2;cases h1 with
   |cons hsp hs=>
    cases hs with
    |nil=>exact⟨⟨_,rfl,hsp⟩,h2,h3⟩
theorem op_lu {o:Int}(h:isLf o=true)(h2:isUn o=true):False:=by
 simp[isLf,isUn]at h h2;omega
theorem op_lb {o:Int}(h:isLf o=true)(h2:isBi o=true):False:=by
 simp[isLf,isBi]at h h2;omega
theorem op_ub {o:Int}(h:isUn o=true)(h2:isBi o=true):False:=by
 simp[isUn,isBi]at h h2;omega
theorem Sp.det {t:List Nd}{b r:Nat}(h:Sp t b r):∀{b':Nat},Sp t b' r→b=b':=by
 induction h with
 |lf hx h1 h2 h3=>
  intro b' h';cases h' with
  |lf=>rfl
  |un hx' g1=>rw[hx]at hx';injection hx' with hx';subst hx';exact(op_lu h1 g1).elim
  |bi hx' g1=>rw[hx]at hx';injection hx' with hx';subst hx';exact(op_lb h1 g1).elim
 |un hx h1 h2 h3 _ ih=>
  intro b' h';cases h' with
  |lf hx' g1=>rw[hx]at hx';injection hx' with hx';subst hx';exact(op_lu g1 h1).elim
  |un hx' g1 _ _ g4=>exact ih g4
  |bi hx' g1=>rw[hx]at hx';injection hx' with hx';subst hx';exact(op_ub h1 g1).elim
 |bi hx h1 h2 h3 _ _ ih1 ih2=>
  intro b' h';cases h' with
  |lf hx' g1=>rw[hx]at hx';injection hx' with hx';subst hx';exact(op_lb g1 h1).elim
  |un hx' g1=>rw[hx]at hx';injection hx' with hx';subst hx';exact(op_ub g1 h1).elim
  |bi hx' g1 g2 g3 g4 g5=>
   rw[hx]at hx';injection hx' with hx'
   subst hx';have e:(_:Int)=_:=h2.symm.trans g2;have e':=Int.ofNat.inj e;subst e';exact ih1 g4
theorem Sp.inner {t:List Nd}{B R:Nat}(h:Sp t B R):∀{b r:Nat},Sp t b r→B≤r→r≤R→B≤b:=by
 induction h with
 |lf hx h1 h2 h3=>
  intro b r h' g1 g2;obtain rfl:r=_:=Nat.le_antisymm g2 g1;exact Nat.le_of_eq (Sp.det (.lf hx h1 h2 h3) h')
 |un hx h1 h2 h3 hs ih=>
  intro b r h' g1 g2;rename_i B j x;by_cases e:r=j+1
  ·subst e;exact Nat.le_of_eq (Sp.det (.un hx h1 h2 h3 hs) h')
  ·exact ih h' g1 oQ
 |bi hx h1 h2 h3 hs1 hs2 ih1 ih2=>
  intro b r h' g1 g2;rename_i B m j x;have h4:=hs1.le;by_cases e:r=j+1
  ·subst e;exact Nat.le_of_eq (Sp.det (.bi hx h1 h2 h3 hs1 hs2) h')
  ·by_cases e2:r≤m
   ·exact ih1 h' g1 e2
   ·have:=ih2 h' oQ oQ;omega
def Kid (t:List Nd)(i j:Nat):Prop:=∃x,t[i]? =some x∧(x.a=(j:Int)∨x.b=(j:Int))
theorem Sp.kids {t:List Nd}{b r:Nat}(h:Sp t b r){j:Nat}(hk:Kid t r j):b≤j∧j<r:=by
 obtain⟨y,hy,hk⟩:=hk;cases h with
 |lf hx h1 h2 h3=>rw[hx]at hy;injection hy with hy;subst hy;omega
 |un hx h1 h2 h3 hs=>
  rw[hx]at hy;injection hy with hy;subst hy
  have:=hs.le;omega
 |bi hx h1 h2 h3 hs1 hs2=>
  rw[hx]at hy;injection hy with hy;subst hy
  have:=hs1.le;have:=hs2.le;omega
theorem Sp.kidIn {t:List Nd}{b r:Nat}(h:Sp t b r)(ha:AllSp t t.length){i j:Nat}(h1:b≤i)(h2:i≤r)(hk:Kid t i j):b≤j∧j<i:=by
 have hl:=h.lt;obtain⟨b',hb'⟩:=ha i oQ;have:=hb'.kids hk;have:=h.inner hb' h1 h2;omega
theorem Sp.kidOut {t:List Nd}{b r:Nat}(h:Sp t b r)(ha:AllSp t t.length){i j:Nat}(hi:r<i)(hil:i<t.length)(hk:Kid t i j):j<b∨r≤j:=by
 obtain⟨b',hb'⟩:=ha i hil;obtain⟨y,hy,hk⟩:=hk;cases hb' with
 |lf hx h1 h2 h3=>rw[hx]at hy;injection hy with hy;subst hy;omega
 |un hx h1 h2 h3 hs=>rw[hx]at hy;injection hy with hy;subst hy;omega
 |bi hx h1 h2 h3 hs1 hs2=>
  rename_i m k x;rw[hx]at hy;injection hy with hy;subst hy
  by_cases e:j=k
  ·omega
  ·have hj:j=m:=oQ;subst hj;by_cases e2:r≤j
   ·exact .inr e2
   ·have:=hs2.inner h oQ oQ;omega
theorem Sp.parent {t:List Nd}{b r:Nat}(h:Sp t b r):∀{j:Nat},b≤j→j<r→∃i,j<i∧i≤r∧Kid t i j:=by
 induction h with
 |lf=>intro j h1 h2;omega
 |un hx h1 h2 h3 hs ih=>
  intro j' g1 g2;rename_i B j x;by_cases e:j'=j
  ·subst e;exact⟨j'+1,oQ,nR,x,hx,.inl h2⟩
  ·obtain⟨i,a1,a2,a3⟩:=ih g1 oQ;exact⟨i,a1,oQ,a3⟩
 |bi hx h1 h2 h3 hs1 hs2 ih1 ih2=>
  intro j' g1 g2;rename_i B m j x;have l2:=hs2.le;by_cases e:j'=j
  ·subst e;exact⟨j'+1,oQ,nR,x,hx,.inr h3⟩
  ·by_cases e2:j'=m
   ·subst e2;exact⟨j+1,oQ,nR,x,hx,.inl h2⟩
   ·by_cases e3:j'<m
    ·obtain⟨i,a1,a2,a3⟩:=ih1 g1 e3;exact⟨i,a1,oQ,a3⟩
    ·obtain⟨i,a1,a2,a3⟩:=ih2 (j:=j') oQ oQ;exact⟨i,a1,oQ,a3⟩
def upF (t:List Nd):Nat→Nat→Int
 |0,_=> -1
 |k+1,j=>match t[k]? with
  |some x=>if x.a=(j:Int)∨x.b=(j:Int)then(k:Int)else upF t k j
  |none=>upF t k j
theorem upF_some {t:List Nd}{k j:Nat}:∀{i:Nat},upF t k j=(i:Int)→i<k∧Kid t i j∧∀i',i<i'→i'<k→¬Kid t i' j:=by
 induction k with
 |zero=>intro i h;unfold upF at h;omega
 |succ k ih=>
  intro i h;unfold upF at h;cases hx:t[k]? with
  |none=>
   rw[hx]at h;obtain⟨a1,a2,a3⟩:=ih h;refine⟨oQ,a2,fun i' b1 b2 hk=>?_⟩;by_cases e:i'=k
   ·subst e;obtain⟨y,hy,_⟩:=hk;rw[hx]at hy;cases hy
   ·exact a3 i' b1 oQ hk
  |some x=>
   rw[hx]at h;simp only at h;split at h
   ·rename_i hc;have:k=i:=oQ;subst this;exact⟨oQ,⟨x,hx,hc⟩,fun i' b1 b2=>by omega⟩
   ·rename_i hc;obtain⟨a1,a2,a3⟩:=ih h;refine⟨oQ,a2,fun i' b1 b2 hk=>?_⟩;by_cases e:i'=k
    ·subst e;obtain⟨y,hy,hc'⟩:=hk;rw[hx]at hy;injection hy with hy;subst hy;exact hc hc'
    ·exact a3 i' b1 oQ hk
theorem upF_cases (t:List Nd)(k j:Nat):(upF t k j= -1∧∀i,i<k→¬Kid t i j)∨∃i:Nat,upF t k j=i:=by
 induction k with
 |zero=>exact .inl ⟨rfl,fun i h=>by omega⟩
 |succ k ih=>
  unfold upF;cases hx:t[k]? with
  |none=>
   rcases ih with⟨h1,h2⟩|⟨i,h⟩
   ·refine .inl ⟨h1,fun i hi hk=>?_⟩;by_cases e:i=k
    ·subst e;obtain⟨y,hy,_⟩:=hk;rw[hx]at hy;cases hy
    ·exact h2 i oQ hk
   ·exact .inr ⟨i,h⟩
  |some x=>
   simp only;by_cases hc:x.a=(j:Int)∨x.b=(j:Int)
   ·rw[if_pos hc];exact .inr ⟨k,rfl⟩
   ·rw[if_neg hc];rcases ih with⟨h1,h2⟩|⟨i,h⟩
    ·refine .inl ⟨h1,fun i hi hk=>?_⟩;by_cases e:i=k
     ·subst e;obtain⟨y,hy,hc'⟩:=hk;rw[hx]at hy;injection hy with hy;subst hy;exact hc hc'
     ·exact h2 i oQ hk
    ·exact .inr ⟨i,h⟩
theorem Sp.upIn {t:List Nd}{b r:Nat}(h:Sp t b r)(ha:AllSp t t.length){j:Nat}(h1:b≤j)(h2:j<r):∃i:Nat,upF t t.length j=i∧j<i∧i≤r∧Kid t i j:=by
 obtain⟨i0,a1,a2,a3⟩:=h.parent h1 h2;have hl:=h.lt;rcases upF_cases t t.length j with⟨_,h4⟩|⟨i,hi⟩
 ·exact absurd a3 (h4 i0 oQ)
 ·obtain⟨c1,c2,c3⟩:=upF_some hi;refine⟨i,hi,?_,?_,c2⟩
  ·obtain⟨b',hb'⟩:=ha i c1;exact(hb'.kids c2).2
  ·rcases Nat.lt_or_ge r i with hri |hri
   ·rcases h.kidOut ha hri c1 c2 with h5 |h5<;>omega
   ·exact hri
theorem Sp.upOut {t:List Nd}{b r:Nat}(h:Sp t b r)(ha:AllSp t t.length){j i:Nat}(hj:j<b∨r≤j)(hu:upF t t.length j=(i:Int)):j<i∧i<t.length∧(i<b∨r<i):=by
 obtain⟨c1,c2,c3⟩:=upF_some hu;obtain⟨b',hb'⟩:=ha i c1;have hk:=hb'.kids c2;refine⟨hk.2,c1,?_⟩;by_cases e:b≤i∧i≤r
 ·have:=h.kidIn ha e.1 e.2 c2;omega
 ·omega
theorem Sp.belowIs {t:List Nd}{b r:Nat}(h:Sp t b r)(ha:AllSp t t.length){g:Nat→Bool}(hg:∀i,i<t.length→g i=(decide (i=r)||(match upF t t.length i with | .ofNat k=>g k | .negSucc _=>false))):
  ∀(n i:Nat),t.length-i≤n→i<t.length→g i=(decide (b≤i)&&decide (i≤r)):=by
 intro n;induction n with
 |zero=>intro i h1 h2;omega
 |succ n ih=>
  intro i h1 h2;rw[hg i h2];have hbr:=h.le;by_cases e:i=r
  ·subst e;simp[hbr]
  ·rw[zV e,Bool.false_or];rcases upF_cases t t.length i with⟨hu,hno⟩|⟨k,hu⟩
   ·rw[hu];show false=_
    by_cases e2:b≤i∧i<r
    ·obtain⟨i0,a1,a2,a3⟩:=h.parent e2.1 e2.2;have hl:=h.lt;exact absurd a3 (hno i0 oQ)
    ·symm
     rw[Bool.and_eq_false_iff];by_cases e3:b≤i
     ·right;exact zV oQ
     ·left;exact zV e3
   ·rw[hu];show g k=_
    by_cases e2:b≤i∧i<r
    ·obtain⟨k',a1,a2,a3,_⟩:=h.upIn ha e2.1 e2.2;have hkk:k=k':=by rw[hu]at a1;exact Int.ofNat.inj a1
     subst hkk;have hl:=h.lt;rw[ih k oQ oQ];have x1:b≤k:=oQ;have x2:i≤r:=oQ;simp[x1,a3,e2.1,x2]
    ·have hj:i<b∨r≤i:=oQ;obtain⟨c1,c2,c3⟩:=h.upOut ha hj hu;rw[ih k oQ c2];have:¬(b≤k∧k≤r):=oQ;have:¬(b≤i∧i≤r):=oQ;simp only[Bool.and_eq_false_iff,decide_eq_false_iff_not,←Bool.decide_and];rw[zV (by assumption),zV (by assumption)]
end Go.Proofs.YthaabihjeomipaaGreatDoor
