/- The document's Shaped, walked. -/
import Derived.Test.YthaabihjeomipaaGreatDoorQC7
import Derived.Test.YthaabihjeomipaaGreatDoorQCa
namespace Go.Proofs.YthaabihjeomipaaGreatDoor
set_option maxRecDepth 100000
set_option maxHeartbeats 16000000
open Go.RowKit Go.Deep
set_option linter.unusedVariables false
set_option linter.unusedSimpArgs false
theorem itemB_eq (x:It):itemB x=(namesB x.tys&&(isNm x.v&&(decide (0≤x.lo)&&(decide (0≤x.hi)&&(!x.neg||(decide (x.lo=1)&&decide (x.hi=1))))))):=by
 unfold itemB namesB;generalize decide (0<x.tys.length)=a;generalize x.tys.all isNm=b;generalize isNm x.v=c;generalize decide (0≤x.lo)=d;generalize decide (0≤x.hi)=e;generalize (!x.neg||(decide (x.lo=1)&&decide (x.hi=1)))=f;cases a<;>cases b<;>cases c<;>cases d<;>cases e<;>rfl
theorem shapedB_eq (q:Qy):shapedB q=(q.items.all itemB&&(q.ret.all treeB&&((decide (0<q.items.length)&&decide (0≤q.within))&&((decide (q.wh.length=0)||treeB q.wh)&&((decide (q.by_=emp)||isNm q.by_)&&((decide (0≤q.after)&&decide (q.after≤3))&&(decide (0≤q.mode)&&decide (q.mode≤2)))))))):=by
 unfold shapedB;generalize decide (0<q.items.length)=a;generalize decide (0≤q.mode)=b;generalize decide (q.mode≤2)=c;generalize decide (0≤q.after)=d;generalize decide (q.after≤3)=e;generalize decide (0≤q.within)=f;generalize q.items.all itemB=g;generalize (decide (q.wh.length=0)||treeB q.wh)=h;generalize (decide (q.by_=emp)||isNm q.by_)=i;generalize q.ret.all treeB=j;cases a<;>cases b<;>cases c<;>cases d<;>cases e<;>cases f<;>cases g<;>cases h<;>cases i<;>cases j<;>rfl
theorem aft_eq (a:Int):(decide (0≤a)&&decide (a≤3))=true↔a=0∨a=1∨a=2∨a=3:=by
 rw[xK,decide_eq_true_eq,decide_eq_true_eq];omega
namespace ckW
open nmW
theorem refShaped_k (q:Qy)(s:Sl3)(F:Nat→Prop)(hs:SzQ q)(w:World)(hK:KwIs w)(R:QR w F q s):
  Calls Tryz.prog 53 #[.agg ⟨qV q s⟩] w fun e w'=>e=.returned (.bool (shapedB q))∧Bw w w':=by
 have k1:=Hd refIsName_k;have k2:=Hd names_k;have k3:=Hd refTree_k;have h0:=QB.new q s w;obtain⟨sb,hsb⟩:∃b,b=shapedB q:=⟨_,rfl⟩
 rw[←hsb];rw[shapedB_eq]at hsb;obtain⟨A1,c1,A2,c2,A3,c3⟩:=s;simp only[qV]at h0 ⊢;have n1:q.items.length≤1048576:=hs.il;have n2:q.wh.length≤1048576:=hs.wh.1;have n3:q.ret.length≤1048576:=hs.rl;replace hs:=Hd hs;replace hK:=Hd hK;replace R:=Hd R;replace h0:=Hd h0;replace hsb:=Hd hsb;go_enter Tryz.func53,Tryz.ntmps53;go_wp2;go_loopw [3] (fun i wr=>∃j:Nat,j≤q.items.length∧i=.int .i64 j∧QB q ⟨A1,c1,A2,c2,A3,c3⟩ w wr∧Hid ((q.items.take j).all itemB=true)) (fun i _=>q.items.length- (intOf i).toNat)
 case atStart=>exact⟨0,zE _,rfl,h0.out,rfl⟩
 case round=>
  clear h0;obtain⟨j,hj,rfl,hI,hp⟩:=hrel;by_cases hlt:j<q.items.length
  ·obtain⟨x,hx⟩:=getx hlt;obtain⟨y0,_,_,_,_,_,_⟩:=hI.cells;obtain⟨b,off,B2,d2,e,_,rx,a0,a1,a2,a3,a4⟩:=it_at (R.out.under hI.1).r1 hx;simp only at e y0;subst e;have g0:(0:Int)≤(j:Int):=oQ;have g1:(j:Int)<q.items.length:=oQ;have hI2:=hI.stay (bX (.cells ⟨itV x (.slice B2 x.tys.length d2)⟩ 53));have hxs:=hs.out.it x (zA hx);have kx:=k2.out B2 d2 F x.tys hxs.1.1 _ (hK.out.stay hI2.1) (R.out.under hI2.1).lt (rx.alloc _);have kv:=k1.out x.v _ (hK.out.stay hI2.1);have hfail:=fun(h:itemB x=false)=>(by rw[hsb.out,all_fail hx h];rfl:sb=false)
   have hpass:=fun(h:itemB x=true)=>all_next hx hp.out h
   rw[itemB_eq]at hfail hpass;obtain⟨neg,tys,v,lo,hi⟩:=x;simp only[itV]at kx kv hI2 hfail hpass a0 a1 a2 a3 a4;replace hx:=Hd hx;replace rx:=Hd rx;replace hxs:=Hd hxs;replace hI:=Hd hI;replace hI2:=Hd hI2;obtain⟨nb,hnb⟩:∃b,b=namesB tys:=⟨_,rfl⟩
   rw[←hnb]at kx hfail hpass;obtain⟨vb,hvb⟩:∃b,b=isNm v:=⟨_,rfl⟩
   rw[←hvb]at kv hfail hpass;clear hnb hvb;cases nb with
   |false=>
    have hfin:=Hd (hfail sJ);clear hfail hpass;replace kx:=Hd kx;replace kv:=Hd kv;go_wp2_with first
     |(go_at_call 93;refine kx.out.mono ?_;rintro e W ⟨rfl,hW⟩;subst W)
     |(go_at_call 94;refine kv.out.mono ?_;rintro e W ⟨rfl,hW⟩;subst W)
    go_ret;exact⟨rtB hfin.out.symm,hI2.out.1⟩
   |true=>
   cases vb with
   |false=>
    have hfin:=Hd (hfail sJ);clear hfail hpass;replace kx:=Hd kx;replace kv:=Hd kv;go_wp2_with first
     |(go_at_call 93;refine kx.out.mono ?_;rintro e W ⟨rfl,hW⟩;subst W)
     |(go_at_call 94;refine kv.out.mono ?_;rintro e W ⟨rfl,hW⟩;subst W)
    go_ret;exact⟨rtB hfin.out.symm,hI2.out.1⟩
   |true=>
   by_cases h3:lo<0
   ·have hfin:=Hd (hfail (by rw[zV (show¬0≤lo by omega)];rfl));clear hfail hpass;replace kx:=Hd kx;replace kv:=Hd kv;go_wp2_with first
     |(go_at_call 93;refine kx.out.mono ?_;rintro e W ⟨rfl,hW⟩;subst W)
     |(go_at_call 94;refine kv.out.mono ?_;rintro e W ⟨rfl,hW⟩;subst W)
    go_ret;exact⟨rtB hfin.out.symm,hI2.out.1⟩
   by_cases h4:hi<0
   ·have hfin:=Hd (hfail (by rw[zW (show 0≤lo by omega),zV (show¬0≤hi by omega)];rfl));clear hfail hpass;replace kx:=Hd kx;replace kv:=Hd kv;go_wp2_with first
     |(go_at_call 93;refine kx.out.mono ?_;rintro e W ⟨rfl,hW⟩;subst W)
     |(go_at_call 94;refine kv.out.mono ?_;rintro e W ⟨rfl,hW⟩;subst W)
    go_ret;exact⟨rtB hfin.out.symm,hI2.out.1⟩
   have h5:decide (0≤lo)=true:=zW oQ;have h6:decide (0≤hi)=true:=zW oQ;rw[h5,h6]at hfail hpass;clear h5 h6;cases neg with
   |false=>
    have hp2:=Hd (hpass (rfl));clear hfail hpass;replace kx:=Hd kx;replace kv:=Hd kv;go_wp2_with first
     |(go_at_call 93;refine kx.out.mono ?_;rintro e W ⟨rfl,hW⟩;subst W)
     |(go_at_call 94;refine kv.out.mono ?_;rintro e W ⟨rfl,hW⟩;subst W)
    go_roundw
    case rel=>exact⟨j+1,oQ,gQ,hI2.out,hp2⟩
    case measure=>exact mQ
   |true=>
   by_cases h7:lo=1
   ·have f7:(lo==1)=true:=(by rw[beq_iff_eq];exact h7);have f7n:(lo != 1)=false:=by rw[bne,f7];rfl
    by_cases h8:hi=1
    ·have f8:(hi==1)=true:=(by rw[beq_iff_eq];exact h8);have f8n:(hi != 1)=false:=by rw[bne,f8];rfl
     have hcl:(true&&(true&&(true&&(true&&(!true||(decide (lo=1)&&decide (hi=1)))))))=true:=(by rw[zW h7,zW h8];rfl);replace h7:=Hd h7;replace h8:=Hd h8;have hp2:=Hd (hpass (hcl));clear hfail hpass;replace kx:=Hd kx;replace kv:=Hd kv;go_wp2_with first
      |(go_at_call 93;refine kx.out.mono ?_;rintro e W ⟨rfl,hW⟩;subst W)
      |(go_at_call 94;refine kv.out.mono ?_;rintro e W ⟨rfl,hW⟩;subst W)
     go_roundw
     case rel=>exact⟨j+1,oQ,gQ,hI2.out,hp2⟩
     case measure=>exact mQ
    ·have f8:(hi==1)=false:=(by rw[xV];exact h8);have f8n:(hi != 1)=true:=by rw[bne,f8];rfl
     have hcl:(true&&(true&&(true&&(true&&(!true||(decide (lo=1)&&decide (hi=1)))))))=false:=(by rw[zV h8];simp);replace h7:=Hd h7;replace h8:=Hd h8;have hfin:=Hd (hfail (hcl));clear hfail hpass;replace kx:=Hd kx;replace kv:=Hd kv;go_wp2_with first
      |(go_at_call 93;refine kx.out.mono ?_;rintro e W ⟨rfl,hW⟩;subst W)
      |(go_at_call 94;refine kv.out.mono ?_;rintro e W ⟨rfl,hW⟩;subst W)
     go_ret;exact⟨rtB hfin.out.symm,hI2.out.1⟩
   ·have f7:(lo==1)=false:=(by rw[xV];exact h7);have f7n:(lo != 1)=true:=by rw[bne,f7];rfl
    have hcl:(true&&(true&&(true&&(true&&(!true||(decide (lo=1)&&decide (hi=1)))))))=false:=(by rw[zV h7];rfl);replace h7:=Hd h7;have hfin:=Hd (hfail (hcl));clear hfail hpass;replace kx:=Hd kx;replace kv:=Hd kv;go_wp2_with first
     |(go_at_call 93;refine kx.out.mono ?_;rintro e W ⟨rfl,hW⟩;subst W)
     |(go_at_call 94;refine kv.out.mono ?_;rintro e W ⟨rfl,hW⟩;subst W)
    go_ret;exact⟨rtB hfin.out.symm,hI2.out.1⟩
  ·obtain rfl:j=q.items.length:=oQ;have g1:¬(q.items.length:Int)<q.items.length:=oQ;have hsb1:sb=(q.ret.all treeB&&((decide (0<q.items.length)&&decide (0≤q.within))&&((decide (q.wh.length=0)||treeB q.wh)&&((decide (q.by_=emp)||isNm q.by_)&&((decide (0≤q.after)&&decide (q.after≤3))&&(decide (0≤q.mode)&&decide (q.mode≤2))))))):=by rw[hsb.out,all_end hp.out,xE]
   clear hsb hp hlt hj;replace hsb1:=Hd hsb1;obtain⟨y0,_,_,_,_,_,_⟩:=hI.cells;simp only at y0;replace hI:=Hd hI;go_wp2;clear y0 g1;go_loopw [5] (fun i wr=>∃j:Nat,j≤q.ret.length∧i=.int .i64 j∧QB q ⟨A1,c1,A2,c2,A3,c3⟩ w wr∧Hid ((q.ret.take j).all treeB=true)) (fun i _=>q.ret.length- (intOf i).toNat)
   case atStart=>exact⟨0,zE _,rfl,hI.out,rfl⟩
   case round=>
    clear hI;obtain⟨j,hj,rfl,hI,hp⟩:=hrel;by_cases hlt:j<q.ret.length
    ·obtain⟨x,hx⟩:=getx hlt;obtain⟨_,_,_,_,_,_,y6⟩:=hI.cells;obtain⟨b,off,B2,d2,e,_,rx,a0⟩:=re_at (R.out.under hI.1).r3 hx;simp only at e y6;subst e;have g0:(0:Int)≤(j:Int):=oQ;have g1:(j:Int)<q.ret.length:=oQ;have kx:=k3.out B2 d2 F x (hs.out.re x (zA hx)) _ (hK.out.stay hI.1) (R.out.under hI.1).lt rx;replace hx:=Hd hx;replace rx:=Hd rx;replace hI:=Hd hI;cases hb:treeB x with
     |false=>
      rw[hb]at kx;have hfin:sb=false:=by rw[hsb1.out,all_fail hx.out hb];rfl
      replace hb:=Hd hb;replace kx:=Hd kx;replace hfin:=Hd hfin;go_wp2_with (go_at_call 58;refine kx.out.mono ?_;rintro e W ⟨rfl,hW⟩;replace hW:=Hd (hI.out.stay hW));go_ret;exact⟨rtB hfin.out.symm,hW.out.1⟩
     |true=>
      rw[hb]at kx;have hp2:=Hd (all_next hx.out hp.out hb);replace hb:=Hd hb;replace kx:=Hd kx;go_wp2_with (go_at_call 58;refine kx.out.mono ?_;rintro e W ⟨rfl,hW⟩;replace hW:=Hd (hI.out.stay hW));go_roundw
      case rel=>exact⟨j+1,oQ,gQ,hW.out,hp2⟩
      case measure=>exact mQ
    ·obtain rfl:j=q.ret.length:=oQ;have g1:¬(q.ret.length:Int)<q.ret.length:=oQ;have hsb2:sb=((decide (0<q.items.length)&&decide (0≤q.within))&&((decide (q.wh.length=0)||treeB q.wh)&&((decide (q.by_=emp)||isNm q.by_)&&((decide (0≤q.after)&&decide (q.after≤3))&&(decide (0≤q.mode)&&decide (q.mode≤2)))))):=by rw[hsb1.out,all_end hp.out,xE]
     clear hsb1 hp hlt hj;obtain⟨y0,_,_,y3,y4,_,y6⟩:=hI.cells;simp only at y0 y3 y4 y6;have kt:=k3.out A2 c2 F q.wh hs.out.wh wr (hK.out.stay hI.1) (R.out.under hI.1).lt (R.out.under hI.1).r2;obtain⟨tb,htb⟩:∃b,b=treeB q.wh:=⟨_,rfl⟩
     rw[←htb]at kt hsb2;replace htb:=Hd htb;replace kt:=Hd kt;obtain⟨nb,hnb⟩:∃b,b=isNm q.by_:=⟨_,rfl⟩
     have kn:∀W,QB q ⟨A1,c1,A2,c2,A3,c3⟩ w W→Calls Tryz.prog 94 #[.string q.by_] W fun e w'=>e=.returned (.bool nb)∧w'=W:=fun W hW=>by rw[hnb];exact k1.out _ W (hK.out.stay hW.1)
     rw[←hnb]at hsb2;replace hnb:=Hd hnb;replace kn:=Hd kn;by_cases h1:q.items.length=0
     ·have f1:((q.items.length:Int)==0)=true:=(by rw[beq_iff_eq];omega);have hfin:sb=false:=by rw[hsb2,zV oQ];rfl
      clear hsb2;replace hfin:=Hd hfin;replace h1:=Hd h1;replace hI:=Hd hI;go_wp2;go_ret;exact⟨rtB hfin.out.symm,hI.out.1⟩
     have f1:((q.items.length:Int)==0)=false:=(by rw[xV];omega);rw[zW (show 0<q.items.length by omega),xE]at hsb2;replace h1:=Hd h1;by_cases h2:q.within<0
     ·have hfin:=Hd (show sb=false by rw[hsb2,zV oQ];rfl);clear hsb2;replace hI:=Hd hI;go_wp2;go_ret;exact⟨rtB hfin.out.symm,hI.out.1⟩
     rw[zW (show 0≤q.within by omega),xE]at hsb2;obtain⟨ob,hob⟩:∃b,b=(decide (q.wh.length=0)||tb):=⟨_,rfl⟩
     rw[←hob]at hsb2;replace hsb2:=Hd hsb2;have hI0:=Hd hI;replace hI:=Hd hI;go_upto_region 16 with fail
     clear y0 y4 h2 f1;go_cut [82] (fun s7 wx=>s7=.bool (!ob)∧QB q ⟨A1,c1,A2,c2,A3,c3⟩ w wx)
     case first=>
      by_cases h3:q.wh.length=0
      ·have h3i:¬0<(q.wh.length:Int):=oQ;have h3n:¬0<q.wh.length:=oQ;have ho:ob=true:=by rw[hob,zW h3];rfl
       clear hob;subst ho;replace h3:=Hd h3;go_wp2
       all_goals(go_meet;exact⟨rfl,hI.out⟩)
      ·have h3i:0<(q.wh.length:Int):=oQ;have h3n:0<q.wh.length:=oQ;have ho:ob=tb:=by rw[hob,zV h3];rfl
       clear hob;subst ho;replace h3:=Hd h3;cases ob with
       |false=>
        go_wp2_with (go_at_call 58;refine kt.out.mono ?_;rintro e W ⟨rfl,hW⟩;replace hI:=Hd (hI.out.stay hW);clear hW)
        all_goals(go_meet;exact⟨rfl,hI.out⟩)
       |true=>
        go_wp2_with (go_at_call 58;refine kt.out.mono ?_;rintro e W ⟨rfl,hW⟩;replace hI:=Hd (hI.out.stay hW);clear hW)
        all_goals(go_meet;exact⟨rfl,hI.out⟩)
     case rest=>
      obtain⟨rfl,hI⟩:=hcut;clear y3 y6 hI0 hob kt;obtain⟨_,y1,y2,_,_,y5,_⟩:=hI.cells;try simp only at y1 y2 y5
      cases ob with
      |false=>
       have hfin:=Hd (show sb=false by rw[hsb2.out,Bool.false_and]);clear hsb2;replace hI:=Hd hI;go_wp2;go_ret;exact⟨rtB hfin.out.symm,hI.out.1⟩
      |true=>
      have hsb3:sb=((decide (q.by_=emp)||nb)&&((decide (0≤q.after)&&decide (q.after≤3))&&(decide (0≤q.mode)&&decide (q.mode≤2)))):=(by rw[hsb2.out,xE]);clear hsb2;obtain⟨ob,hob⟩:∃b,b=(decide (q.by_=emp)||nb):=⟨_,rfl⟩
      rw[←hob]at hsb3;replace hsb3:=Hd hsb3;have kn2:=Hd (kn.out _ hI);have hI0:=Hd hI;replace hI:=Hd hI;go_upto_region 18 with fail
      go_cut [91] (fun s7 wx=>s7=.bool (!ob)∧QB q ⟨A1,c1,A2,c2,A3,c3⟩ w wx)
      case first=>
       by_cases h5:q.by_=emp
       ·have f5:(q.by_.toList==([]:List UInt8))=true:=(by rw[emp_eq];exact zW h5);have f5n:(q.by_.toList != ([]:List UInt8))=false:=by rw[bne,f5];rfl
        have ho:ob=true:=(by rw[hob,zW h5];rfl);clear hob;subst ho;replace h5:=Hd h5;go_wp2
        all_goals(go_meet;exact⟨rfl,hI.out⟩)
       ·have f5:(q.by_.toList==([]:List UInt8))=false:=(by rw[emp_eq];exact zV h5);have f5n:(q.by_.toList != ([]:List UInt8))=true:=by rw[bne,f5];rfl
        have ho:ob=nb:=(by rw[hob,zV h5];rfl);clear hob;subst ho;replace h5:=Hd h5;cases ob with
        |false=>
         go_wp2_with (go_at_call 94;refine kn2.out.mono ?_;rintro e W ⟨rfl,hW⟩;subst W)
         all_goals(go_meet;exact⟨rfl,hI.out⟩)
        |true=>
         go_wp2_with (go_at_call 94;refine kn2.out.mono ?_;rintro e W ⟨rfl,hW⟩;subst W)
         all_goals(go_meet;exact⟨rfl,hI.out⟩)
      case rest=>
       obtain⟨rfl,hI⟩:=hcut;clear y1 y2 y5 hI0 hob kn2;obtain⟨_,y1,y2,_,_,_,_⟩:=hI.cells;try simp only at y1 y2
       cases ob with
       |false=>
        have hfin:=Hd (show sb=false by rw[hsb3.out,Bool.false_and]);clear hsb3;replace hI:=Hd hI;go_wp2;go_ret;exact⟨rtB hfin.out.symm,hI.out.1⟩
       |true=>
       have hsb4:sb=((decide (0≤q.after)&&decide (q.after≤3))&&(decide (0≤q.mode)&&decide (q.mode≤2))):=(by rw[hsb3.out,xE]);clear hsb3;obtain⟨ob,hob⟩:∃b,b=(decide (0≤q.after)&&decide (q.after≤3)):=⟨_,rfl⟩
       rw[←hob]at hsb4;replace hsb4:=Hd hsb4;obtain⟨af,haf⟩:∃a,a=q.after:=⟨_,rfl⟩
       rw[←haf]at y2 hob;obtain⟨mo,hmo⟩:∃a,a=q.mode:=⟨_,rfl⟩
       rw[←hmo]at y1 hsb4;replace haf:=Hd haf;replace hmo:=Hd hmo;replace hI:=Hd hI;go_upto_region 20 with fail
       go_cut [109] (fun s7 wx=>s7=.bool (!ob)∧QB q ⟨A1,c1,A2,c2,A3,c3⟩ w wx)
       case first=>
        by_cases hok:af=0∨af=1∨af=2∨af=3
        ·obtain rfl:ob=true:=by rw[hob];exact(aft_eq af).2 hok
         clear hob;obtain rfl |rfl |rfl |rfl:=hok
         all_goals(go_wp2;all_goals(go_meet;exact⟨rfl,hI.out⟩))
        ·obtain rfl:ob=false:=by rw[hob];cases hc:(decide (0≤af)&&decide (af≤3))with |false=>rfl |true=>exact absurd ((aft_eq af).1 hc) hok
         have e0:(af != 0)=true:=(by rw[bne_iff_ne];omega);have e1:(af != 1)=true:=by rw[bne_iff_ne];omega
         have e2:(af != 2)=true:=(by rw[bne_iff_ne];omega);have e3:(af != 3)=true:=by rw[bne_iff_ne];omega
         have e4:(af==0)=false:=(by rw[xV];omega);have e5:(af==1)=false:=by rw[xV];omega
         have e6:(af==2)=false:=(by rw[xV];omega);have e7:(af==3)=false:=by rw[xV];omega
         clear hob;replace hok:=Hd hok;go_wp2
         all_goals(go_meet;exact⟨rfl,hI.out⟩)
       case rest=>
        clear y1 y2 hob hI;obtain⟨rfl,hI⟩:=hcut;obtain⟨_,y1,_,_,_,_,_⟩:=hI.cells;try simp only at y1
        rw[←hmo.out]at y1;replace hI:=Hd hI;cases ob with
        |false=>
         have hfin:=Hd (show sb=false by rw[hsb4.out,Bool.false_and]);clear hsb4;go_wp2;go_ret;exact⟨rtB hfin.out.symm,hI.out.1⟩
        |true=>
        have hfin:sb=(decide (0≤mo)&&decide (mo≤2)):=(by rw[hsb4.out,xE]);clear hsb4;by_cases hok:mo=0∨mo=1∨mo=2
        ·rw[zW (show 0≤mo by omega),zW (show mo≤2 by omega)]at hfin;replace hfin:=Hd hfin;obtain rfl |rfl |rfl:=hok
         all_goals(go_wp2;go_ret;exact⟨rtB hfin.out.symm,hI.out.1⟩)
        ·have hf2:sb=false:=by rw[hfin];cases hc:(decide (0≤mo)&&decide (mo≤2))with |false=>rfl |true=>rw[xK,decide_eq_true_eq,decide_eq_true_eq]at hc;omega
         clear hfin;replace hf2:=Hd hf2;have e4:(mo==0)=false:=by rw[xV];omega
         have e5:(mo==1)=false:=(by rw[xV];omega);have e6:(mo==2)=false:=by rw[xV];omega
         replace hok:=Hd hok;go_wp2;go_ret;exact⟨rtB hf2.out.symm,hI.out.1⟩
end ckW
end Go.Proofs.YthaabihjeomipaaGreatDoor
