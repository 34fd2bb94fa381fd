/- Items. -/
import Derived.Test.YtfiodnlgiglhfaaGreatDoorC7
namespace Go.Proofs.YtfiodnlgiglhfaaGreatDoor
set_option maxRecDepth 100000
set_option maxHeartbeats 16000000
open Go.RowKit Go.Deep
set_option linter.unusedVariables false
set_option linter.unusedSimpArgs false
theorem all_next {α:Type}{l:List α}{x:α}{j:Nat}{p:α→Bool}(hx:l[j]? =some x)(h:(l.take j).all p=true)(hp:p x=true):(l.take (j+1)).all p=true:=by
 rw[zJ,hx,List.all_append,h];simp[hp]
theorem all_fail {α:Type}{l:List α}{x:α}{j:Nat}{p:α→Bool}(hx:l[j]? =some x)(hp:p x=false):l.all p=false:=by
 rw[List.all_eq_false];exact⟨x,zA hx,by simp[hp]⟩
theorem all_end {α:Type}{l:List α}{p:α→Bool}(h:(l.take l.length).all p=true):l.all p=true:=by rwa [zL]at h
theorem str_at {w:World}{F:Nat→Prop}{A:Option Addr}{c i:Nat}{l:List ByteArray}{x:ByteArray}(r:Rd w F (.slice A l.length c) (.sl l.length (l.flatMap strD)))(hp:l[i]? =some x):∃b off,A=some ⟨b,off,none⟩∧F b∧w.cell? ⟨b,off+i,none⟩=some (.string x):=by
 obtain⟨b,off,rfl,hF,ha,_⟩:=r.rowv (m:=1) (fun _=>rfl) hp (by omega);exact⟨b,off,rfl,hF,by have:=ha 0 _ rfl;rwa [Nat.mul_one,Nat.add_zero]at this⟩
theorem it_at {w:World}{F:Nat→Prop}{A:Option Addr}{c i:Nat}{l:List It}{x:It}(r:Rd w F (.slice A l.length c) (.sl l.length (l.flatMap itD)))(hp:l[i]? =some x):∃b off A2 c2,A=some ⟨b,off,none⟩∧F b∧
  Rd w F (.slice A2 x.tys.length c2) (.sl x.tys.length (x.tys.flatMap strD))∧
  w.cell? ⟨b,off+i*5,none⟩=some (.bool x.neg)∧w.cell? ⟨b,off+i*5+1,none⟩=some (.slice A2 x.tys.length c2)∧w.cell? ⟨b,off+i*5+2,none⟩=some (.string x.v)∧w.cell? ⟨b,off+i*5+3,none⟩=some (.int .i64 x.lo)∧
  w.cell? ⟨b,off+i*5+4,none⟩=some (.int .i64 x.hi):=by
 obtain⟨b,off,rfl,hF,ha,hb⟩:=r.rowv (m:=5) (fun _=>rfl) hp (by omega);obtain⟨A2,c2,h1,h2⟩:=hb 1 _ _ rfl;exact⟨b,off,A2,c2,rfl,hF,h2,ha 0 _ rfl,h1,ha 2 _ rfl,ha 3 _ rfl,ha 4 _ rfl⟩
theorem re_at {w:World}{F:Nat→Prop}{A:Option Addr}{c i:Nat}{l:List (List Nd)}{x:List Nd}(r:Rd w F (.slice A l.length c) (.sl l.length (l.flatMap reD)))(hp:l[i]? =some x):∃b off A2 c2,A=some ⟨b,off,none⟩∧F b∧
  Rd w F (.slice A2 x.length c2) (.sl x.length (x.flatMap ndD))∧w.cell? ⟨b,off+i,none⟩=some (.slice A2 x.length c2):=by
 obtain⟨b,off,rfl,hF,ha,hb⟩:=r.rowv (m:=1) (fun _=>rfl) hp (by omega);obtain⟨A2,c2,h1,h2⟩:=hb 0 _ _ rfl;exact⟨b,off,A2,c2,rfl,hF,h2,by rwa [Nat.mul_one,Nat.add_zero]at h1⟩
def SzI (x:It):Prop:=SzS x.tys∧x.v.size≤1048576
structure SzQ (q:Qy):Prop where
 il:q.items.length≤1048576
 it:∀x∈q.items,SzI x
 wh:SzN q.wh
 by_:q.by_.size≤1048576
 rl:q.ret.length≤1048576
 re:∀x∈q.ret,SzN x
noncomputable def namesB (l:List ByteArray):Bool:=l.all isNm&&decide (0<l.length)
noncomputable def itemB (x:It):Bool:=decide (0<x.tys.length)&&(isNm x.v&&(decide (0≤x.lo)&&(decide (0≤x.hi)&&(x.tys.all isNm&&(!x.neg||(decide (x.lo=1)&&decide (x.hi=1)))))))
noncomputable def shapedB (q:Qy):Bool:=
 decide (0<q.items.length)&&(decide (0≤q.mode)&&(decide (q.mode≤2)&&(decide (0≤q.after)&&(decide (q.after≤3)&&(decide (0≤q.within)&&(q.items.all itemB&&
  ((decide (q.wh.length=0)||treeB q.wh)&&((decide (q.by_=emp)||isNm q.by_)&&q.ret.all treeB))))))))
def itV (x:It)(u:Value):List Value:=[.bool x.neg,u,.string x.v,.int .i64 x.lo,.int .i64 x.hi]
def ItB (x:It)(u:Value)(w wr:World):Prop:=Bw w wr∧Blk wr w.heap.size 54 (itV x u)
theorem ItB.stay {x:It}{u:Value}{w wr W:World}(h:ItB x u w wr)(hb:Bw wr W):ItB x u w W:=⟨h.1.trans (hb.mono h.1.size),h.2.stay hb⟩
theorem ItB.new (x:It)(u:Value)(w:World):ItB x u w (w.alloc (.cells ⟨itV x u⟩ 54)):=⟨bA,Blk.new _ _ _⟩
namespace nmW
theorem names_k (A:Option Addr)(c:Nat)(F:Nat→Prop)(l:List ByteArray)(hl:l.length≤1048576)(w:World)(hK:KwIs w)(hF:∀b,F b→b<w.heap.size)(r:Rd w F (.slice A l.length c) (.sl l.length (l.flatMap strD))):
  Calls Tryz.prog 99 #[.slice A l.length c] w fun e w'=>e=.returned (.bool (namesB l))∧w'=w:=by
 have k1:=Hd refIsName_k;replace r:=Hd r;replace hF:=Hd hF;replace hK:=Hd hK;go_enter Tryz.func99,Tryz.ntmps99;go_wp2;go_loopw [3] (fun i wr=>∃j:Nat,j≤l.length∧i=.int .i64 j∧wr=w∧Hid ((l.take j).all isNm=true)) (fun i _=>l.length- (intOf i).toNat)
 case atStart=>exact⟨0,zE _,rfl,rfl,rfl⟩
 case round=>
  obtain⟨j,hj,rfl,rfl,hp⟩:=hrel;by_cases hlt:j<l.length
  ·obtain⟨x,hx⟩:=getx hlt;obtain⟨b,off,rfl,_,a0⟩:=str_at r.out hx;have g0:(0:Int)≤(j:Int):=by omega
   have g1:(j:Int)<l.length:=by omega
   replace hx:=Hd hx;cases hb:isNm x with
   |false=>
    have hfin:=Hd (show namesB l=false by unfold namesB;rw[all_fail hx.out hb];rfl);replace hb:=Hd hb;go_wp2_with (go_at_call 100;refine(k1.out _ _ hK.out).mono ?_;rw[hb.out];rintro e W ⟨rfl,hW⟩;obtain rfl:=hW.symm);go_ret;exact⟨rtB hfin.out.symm,rfl⟩
   |true=>
    have hp2:=Hd (all_next hx.out hp.out hb);replace hb:=Hd hb;go_wp2_with (go_at_call 100;refine(k1.out _ _ hK.out).mono ?_;rw[hb.out];rintro e W ⟨rfl,hW⟩;obtain rfl:=hW.symm);go_roundw
    case rel=>exact⟨j+1,by omega,by go_num,(by first|exact rfl |trivial),hp2⟩
    case measure=>simp[intOf];omega
  ·obtain rfl:j=l.length:=by omega
   have hfin:namesB l=decide (0<l.length):=by unfold namesB;rw[all_end hp.out,xE]
   replace hfin:=Hd hfin;go_wp2;go_ret;exact⟨rtB hfin.out.symm,rfl⟩
theorem shapedItem_k (x:It)(A:Option Addr)(c:Nat)(F:Nat→Prop)(hs:SzI x)(w:World)(hK:KwIs w)(hF:∀b,F b→b<w.heap.size)(r:Rd w F (.slice A x.tys.length c) (.sl x.tys.length (x.tys.flatMap strD))):
  Calls Tryz.prog 69 #[.agg ⟨itV x (.slice A x.tys.length c)⟩] w fun e w'=>e=.returned (.bool (itemB x))∧Bw w w':=by
 have k1:=Hd isName_k;obtain⟨⟨hs1,hs2⟩,hs3⟩:=hs;have h0:=ItB.new x (.slice A x.tys.length c) w;obtain⟨ib,hib⟩:∃b,b=itemB x:=⟨_,rfl⟩
 rw[←hib];obtain⟨neg,tys,v,lo,hi⟩:=x;simp only[itV]at h0 hs1 hs2 hs3 r ⊢;have hiB:ib=(decide (0<tys.length)&&(isNm v&&(decide (0≤lo)&&(decide (0≤hi)&&(tys.all isNm&&(!neg||(decide (lo=1)&&decide (hi=1)))))))):=hib;clear hib;replace r:=Hd r;replace hF:=Hd hF;replace hs2:=Hd hs2;have hK0:=Hd (hK.stay h0.1);replace h0:=Hd h0;by_cases hn:tys.length=0
 ·have f0:((tys.length:Int)==0)=true:=by rw[beq_iff_eq];omega
  have hfin:ib=false:=by rw[hiB];simp[hn]
  replace hfin:=Hd hfin;clear hiB;replace hn:=Hd hn;go_enter Tryz.func69,Tryz.ntmps69;go_wp2;go_ret;exact⟨rtB hfin.out.symm,h0.out.1⟩
 have f0:((tys.length:Int)==0)=false:=by rw[xV];omega
 replace hiB:ib=(isNm v&&(decide (0≤lo)&&(decide (0≤hi)&&(tys.all isNm&&(!neg||(decide (lo=1)&&decide (hi=1))))))):=by rw[hiB,zW (by omega),xE]
 replace hn:=Hd hn;obtain⟨nv,hnv⟩:∃b,b=isNm v:=⟨_,rfl⟩
 rw[←hnv]at hiB;replace hnv:=Hd hnv;have kv:Calls Tryz.prog 59 #[.string v] (w.alloc (.cells ⟨[.bool neg,.slice A tys.length c,.string v,.int .i64 lo,.int .i64 hi]⟩ 54)) fun e w'=>e=.returned (.bool nv)∧ItB ⟨neg,tys,v,lo,hi⟩ (.slice A tys.length c) w w':=
  (k1.out v _ hK0.out hs3).mono fun e W h=>by rw[hnv.out];exact⟨h.1,h0.out.stay h.2⟩
 replace kv:=Hd kv;cases nv with
 |false=>
  rw[Bool.false_and]at hiB;replace hiB:=Hd hiB;go_enter Tryz.func69,Tryz.ntmps69;go_wp2_with (go_at_call 59;refine kv.out.mono ?_;rintro e W ⟨rfl,hW⟩;replace hW:=Hd hW);go_ret;exact⟨rtB hiB.out.symm,hW.out.1⟩
 |true=>
 rw[xE]at hiB;by_cases hlo:lo<0
 ·have hfin:ib=false:=by rw[hiB,zV (by omega),Bool.false_and]
  replace hfin:=Hd hfin;clear hiB;go_enter Tryz.func69,Tryz.ntmps69;go_wp2_with (go_at_call 59;refine kv.out.mono ?_;rintro e W ⟨rfl,hW⟩;have z3:W.cell? ⟨w.heap.size,3,none⟩=some (.int .i64 lo):=hW.2.cell 3;replace hW:=Hd hW);go_ret;exact⟨rtB hfin.out.symm,hW.out.1⟩
 rw[zW (show 0≤lo by omega),xE]at hiB;by_cases hhi:hi<0
 ·have hfin:ib=false:=by rw[hiB,zV (by omega),Bool.false_and]
  replace hfin:=Hd hfin;clear hiB;go_enter Tryz.func69,Tryz.ntmps69;go_wp2_with (go_at_call 59;refine kv.out.mono ?_;rintro e W ⟨rfl,hW⟩;have z3:W.cell? ⟨w.heap.size,3,none⟩=some (.int .i64 lo):=hW.2.cell 3;have z4:W.cell? ⟨w.heap.size,4,none⟩=some (.int .i64 hi):=hW.2.cell 4;replace hW:=Hd hW);go_ret;exact⟨rtB hfin.out.symm,hW.out.1⟩
 rw[zW (show 0≤hi by omega),xE]at hiB;replace hiB:=Hd hiB;go_enter Tryz.func69,Tryz.ntmps69;go_wp2_with (go_at_call 59;refine kv.out.mono ?_;rintro e W ⟨rfl,hW⟩;have z1:W.cell? ⟨w.heap.size,1,none⟩=some (.slice A tys.length c):=hW.2.cell 1;have z3:W.cell? ⟨w.heap.size,3,none⟩=some (.int .i64 lo):=hW.2.cell 3;have z4:W.cell? ⟨w.heap.size,4,none⟩=some (.int .i64 hi):=hW.2.cell 4;replace hW:=Hd hW);clear z1 z3 z4;go_loopw [28] (fun i wr=>∃j:Nat,j≤tys.length∧i=.int .i64 j∧ItB ⟨neg,tys,v,lo,hi⟩ (.slice A tys.length c) w wr∧Hid ((tys.take j).all isNm=true)) (fun i _=>tys.length- (intOf i).toNat)
 case atStart=>exact⟨0,zE _,rfl,hW.out,rfl⟩
 case round=>
  clear hW;obtain⟨j,hj,rfl,hI,hp⟩:=hrel;by_cases hlt:j<tys.length
  ·obtain⟨x,hx⟩:=getx hlt;obtain⟨b,off,rfl,_,a0⟩:=str_at (r.out.under hI.1 hF.out) hx;have g0:(0:Int)≤(j:Int):=by omega
   have g1:(j:Int)<tys.length:=by omega
   have hxs:x.size≤1048576:=hs2.out x (zA hx);have kx:=k1.out x wr ((hK.stay hI.1)) hxs;replace hx:=Hd hx;cases hb:isNm x with
   |false=>
    have hfin:ib=false:=(by rw[hiB.out,all_fail hx.out hb];rfl);rw[hb]at kx;replace kx:=Hd kx;replace hfin:=Hd hfin;replace hb:=Hd hb;replace hI:=Hd hI;go_wp2_with (go_at_call 59;refine kx.out.mono ?_;rintro e W ⟨rfl,hW⟩;replace hI:=Hd (hI.out.stay hW);clear hW);go_ret;exact⟨rtB hfin.out.symm,hI.out.1⟩
   |true=>
    have hp2:=Hd (all_next hx.out hp.out hb);rw[hb]at kx;replace kx:=Hd kx;replace hb:=Hd hb;replace hI:=Hd hI;go_wp2_with (go_at_call 59;refine kx.out.mono ?_;rintro e W ⟨rfl,hW⟩;replace hI:=Hd (hI.out.stay hW);clear hW);go_roundw
    case rel=>exact⟨j+1,by omega,by go_num,hI.out,hp2⟩
    case measure=>simp[intOf];omega
  ·obtain rfl:j=tys.length:=by omega
   have g1:¬(tys.length:Int)<tys.length:=by omega
   have hiB2:ib=(!neg||(decide (lo=1)&&decide (hi=1))):=by rw[hiB.out,all_end hp.out,xE]
   have z0:wr.cell? ⟨w.heap.size,0,none⟩=some (.bool neg):=hI.2.cell 0;have z3:wr.cell? ⟨w.heap.size,3,none⟩=some (.int .i64 lo):=hI.2.cell 3;have z4:wr.cell? ⟨w.heap.size,4,none⟩=some (.int .i64 hi):=hI.2.cell 4;replace hI:=Hd hI;cases neg with
   |false=>
    replace hiB2:=Hd hiB2;go_wp2;go_ret;exact⟨rtB hiB2.out.symm,hI.out.1⟩
   |true=>
    by_cases h1:lo=1
    ·have f1:(lo==1)=true:=(by rw[beq_iff_eq];exact h1);have hfin:ib=(hi==1):=by rw[hiB2,zW h1];rfl
     replace hfin:=Hd hfin;clear hiB2;replace h1:=Hd h1;go_wp2;go_ret;exact⟨rtB hfin.out.symm,hI.out.1⟩
    ·have f1:(lo==1)=false:=(by rw[xV];exact h1);have hfin:ib=false:=by rw[hiB2,zV h1];rfl
     replace hfin:=Hd hfin;clear hiB2;replace h1:=Hd h1;go_wp2;go_ret;exact⟨rtB hfin.out.symm,hI.out.1⟩
end nmW
structure Sl3 where
 a1:Option Addr
 c1:Nat
 a2:Option Addr
 c2:Nat
 a3:Option Addr
 c3:Nat
def qV (q:Qy)(s:Sl3):List Value:=[.slice s.a1 q.items.length s.c1,.int .i64 q.mode,.int .i64 q.after,.slice s.a2 q.wh.length s.c2,.int .i64 q.within,.string q.by_,.slice s.a3 q.ret.length s.c3]
structure QR (w:World)(F:Nat→Prop)(q:Qy)(s:Sl3):Prop where
 r1:Rd w F (.slice s.a1 q.items.length s.c1) (.sl q.items.length (q.items.flatMap itD))
 r2:Rd w F (.slice s.a2 q.wh.length s.c2) (.sl q.wh.length (q.wh.flatMap ndD))
 r3:Rd w F (.slice s.a3 q.ret.length s.c3) (.sl q.ret.length (q.ret.flatMap reD))
 lt:∀b,F b→b<w.heap.size
theorem QR.under {w w':World}{F:Nat→Prop}{q:Qy}{s:Sl3}(h:QR w F q s)(hb:Bw w w'):QR w' F q s:=
 ⟨h.r1.under hb h.lt,h.r2.under hb h.lt,h.r3.under hb h.lt,fun b hb'=>zF (h.lt b hb') hb.size⟩
def QB (q:Qy)(s:Sl3)(w wr:World):Prop:=Bw w wr∧Blk wr w.heap.size 32 (qV q s)
theorem QB.stay {q:Qy}{s:Sl3}{w wr W:World}(h:QB q s w wr)(hb:Bw wr W):QB q s w W:=⟨h.1.trans (hb.mono h.1.size),h.2.stay hb⟩
theorem QB.new (q:Qy)(s:Sl3)(w:World):QB q s w (w.alloc (.cells ⟨qV q s⟩ 32)):=⟨bA,Blk.new _ _ _⟩
theorem QB.cells {q:Qy}{s:Sl3}{w wr:World}(h:QB q s w wr):wr.cell? ⟨w.heap.size,0,none⟩=some (.slice s.a1 q.items.length s.c1)∧wr.cell? ⟨w.heap.size,1,none⟩=some (.int .i64 q.mode)∧wr.cell? ⟨w.heap.size,2,none⟩=some (.int .i64 q.after)∧
  wr.cell? ⟨w.heap.size,3,none⟩=some (.slice s.a2 q.wh.length s.c2)∧wr.cell? ⟨w.heap.size,4,none⟩=some (.int .i64 q.within)∧wr.cell? ⟨w.heap.size,5,none⟩=some (.string q.by_)∧wr.cell? ⟨w.heap.size,6,none⟩=some (.slice s.a3 q.ret.length s.c3):=
 ⟨h.2.cell 0,h.2.cell 1,h.2.cell 2,h.2.cell 3,h.2.cell 4,h.2.cell 5,h.2.cell 6⟩
namespace ckW
open nmW
theorem shaped_k (q:Qy)(s:Sl3)(F:Nat→Prop)(hs:SzQ q)(w:World)(hK:KwIs w)(R:QR w F q s):
  Calls Tryz.prog 34 #[.agg ⟨qV q s⟩] w fun e w'=>e=.returned (.bool (shapedB q))∧Bw w w':=by
 have k1:=Hd isName_k;have k2:=Hd shapedItem_k;have k3:=Hd tree_k;have h0:=QB.new q s w;obtain⟨sb,hsb⟩:∃b,b=shapedB q:=⟨_,rfl⟩
 rw[←hsb];unfold shapedB at hsb;obtain⟨A1,c1,A2,c2,A3,c3⟩:=s;simp only[qV]at h0 ⊢;have n1:q.items.length≤1048576:=hs.il;have n2:q.wh.length≤1048576:=hs.wh.1;have n3:q.ret.length≤1048576:=hs.rl;replace hs:=Hd hs;replace hK:=Hd hK;replace R:=Hd R;replace h0:=Hd h0;by_cases p0:q.items.length=0
 ·have d:decide (0<q.items.length)=false:=zV (by omega);rw[d,Bool.false_and]at hsb;clear d;replace hsb:=Hd hsb;have f0:((q.items.length:Int)==0)=true:=by rw[beq_iff_eq];omega
  replace p0:=Hd p0;go_enter Tryz.func34,Tryz.ntmps34;go_wp2;go_ret;exact⟨rtB hsb.out.symm,h0.out.1⟩
 have f0:((q.items.length:Int)==0)=false:=by rw[xV];omega
 rw[zW (show 0<q.items.length by omega),xE]at hsb;replace p0:=Hd p0;by_cases p1:q.mode<0
 ·have d:decide (0≤q.mode)=false:=zV (by omega);rw[d,Bool.false_and]at hsb;clear d;replace hsb:=Hd hsb;go_enter Tryz.func34,Tryz.ntmps34;go_wp2;go_ret;exact⟨rtB hsb.out.symm,h0.out.1⟩
 rw[zW (show 0≤q.mode by omega),xE]at hsb;by_cases p2:2<q.mode
 ·have d:decide (q.mode≤2)=false:=zV (by omega);rw[d,Bool.false_and]at hsb;clear d;replace hsb:=Hd hsb;go_enter Tryz.func34,Tryz.ntmps34;go_wp2;go_ret;exact⟨rtB hsb.out.symm,h0.out.1⟩
 rw[zW (show q.mode≤2 by omega),xE]at hsb;by_cases p3:q.after<0
 ·have d:decide (0≤q.after)=false:=zV (by omega);rw[d,Bool.false_and]at hsb;clear d;replace hsb:=Hd hsb;go_enter Tryz.func34,Tryz.ntmps34;go_wp2;go_ret;exact⟨rtB hsb.out.symm,h0.out.1⟩
 rw[zW (show 0≤q.after by omega),xE]at hsb;by_cases p4:3<q.after
 ·have d:decide (q.after≤3)=false:=zV (by omega);rw[d,Bool.false_and]at hsb;clear d;replace hsb:=Hd hsb;go_enter Tryz.func34,Tryz.ntmps34;go_wp2;go_ret;exact⟨rtB hsb.out.symm,h0.out.1⟩
 rw[zW (show q.after≤3 by omega),xE]at hsb;by_cases p5:q.within<0
 ·have d:decide (0≤q.within)=false:=zV (by omega);rw[d,Bool.false_and]at hsb;clear d;replace hsb:=Hd hsb;go_enter Tryz.func34,Tryz.ntmps34;go_wp2;go_ret;exact⟨rtB hsb.out.symm,h0.out.1⟩
 rw[zW (show 0≤q.within by omega),xE]at hsb;replace hsb:=Hd hsb;go_enter Tryz.func34,Tryz.ntmps34;go_wp2;clear p1 p2 p3 p4 p5;go_loopw [39] (fun i wr=>∃j:Nat,j≤q.items.length∧i=.int .i64 j∧QB q ⟨A1,c1,A2,c2,A3,c3⟩ w wr∧Hid ((q.items.take j).all itemB=true)) (fun i _=>q.items.length- (intOf i).toNat)
 case atStart=>exact⟨0,zE _,rfl,h0.out,rfl⟩
 case round=>
  clear h0;obtain⟨j,hj,rfl,hI,hp⟩:=hrel;by_cases hlt:j<q.items.length
  ·obtain⟨x,hx⟩:=getx hlt;obtain⟨b,off,B2,d2,e,_,rx,a0,a1,a2,a3,a4⟩:=it_at (R.out.under hI.1).r1 hx;simp only at e;subst e;have g0:(0:Int)≤(j:Int):=by omega
   have g1:(j:Int)<q.items.length:=by omega
   have hI2:=hI.stay (bX (.cells ⟨itV x (.slice B2 x.tys.length d2)⟩ 54));have kx:=k2.out x B2 d2 F (hs.out.it x (zA hx)) _ (hK.out.stay hI2.1) (R.out.under hI2.1).lt (rx.alloc _);simp only[itV]at kx hI2;replace hx:=Hd hx;replace rx:=Hd rx;replace hI:=Hd hI;replace hI2:=Hd hI2;cases hb:itemB x with
   |false=>
    rw[hb]at kx;have hfin:sb=false:=by rw[hsb.out,all_fail hx.out hb];rfl
    replace hb:=Hd hb;replace kx:=Hd kx;replace hfin:=Hd hfin;go_wp2_with (go_at_call 69;refine kx.out.mono ?_;rintro e W ⟨rfl,hW⟩;replace hW:=Hd (hI2.out.stay hW));go_ret;exact⟨rtB hfin.out.symm,hW.out.1⟩
   |true=>
    rw[hb]at kx;have hp2:=Hd (all_next hx.out hp.out hb);replace hb:=Hd hb;replace kx:=Hd kx;go_wp2_with (go_at_call 69;refine kx.out.mono ?_;rintro e W ⟨rfl,hW⟩;replace hW:=Hd (hI2.out.stay hW));go_roundw
    case rel=>exact⟨j+1,by omega,by go_num,hW.out,hp2⟩
    case measure=>simp[intOf];omega
  ·obtain rfl:j=q.items.length:=by omega
   have g1:¬(q.items.length:Int)<q.items.length:=by omega
   have hsb1:sb=((decide (q.wh.length=0)||treeB q.wh)&&((decide (q.by_=emp)||isNm q.by_)&&q.ret.all treeB)):=by rw[hsb.out,all_end hp.out,xE]
   clear hsb hp hlt hj;obtain⟨_,_,_,y3,_,y5,y6⟩:=hI.cells;simp only at y3 y5 y6;have kt:=k3.out A2 c2 F q.wh hs.out.wh wr (hK.out.stay hI.1) (R.out.under hI.1).lt (R.out.under hI.1).r2;obtain⟨tb,htb⟩:∃b,b=treeB q.wh:=⟨_,rfl⟩
   rw[←htb]at kt hsb1;replace htb:=Hd htb;replace kt:=Hd kt;obtain⟨nb,hnb⟩:∃b,b=isNm q.by_:=⟨_,rfl⟩
   have kn:∀W,QB q ⟨A1,c1,A2,c2,A3,c3⟩ w W→Calls Tryz.prog 59 #[.string q.by_] W fun e w'=>e=.returned (.bool nb)∧Bw W w':=fun W hW=>by rw[hnb];exact k1.out _ W (hK.out.stay hW.1) hs.out.by_
   rw[←hnb]at hsb1;replace hnb:=Hd hnb;replace kn:=Hd kn;obtain⟨ob,hob⟩:∃b,b=((decide (q.wh.length=0)||tb)&&(decide (q.by_=emp)||nb)):=⟨_,rfl⟩
   have hsb2:sb=(ob&&q.ret.all treeB):=by rw[hsb1,hob,Bool.and_assoc]
   replace hsb2:=Hd hsb2;clear hsb1;have hI0:=Hd hI;replace hI:=Hd hI;go_upto_region 9 with fail
   go_cut [67] (fun s7 wx=>s7=.bool (!ob)∧QB q ⟨A1,c1,A2,c2,A3,c3⟩ w wx)
   case first=>
    by_cases h3:q.wh.length=0
    ·have h3i:¬0<(q.wh.length:Int):=(by omega);have h3n:¬0<q.wh.length:=by omega
     rw[zW h3,Bool.true_or,xE]at hob;replace h3:=Hd h3;by_cases h5:q.by_=emp
     ·have f5:(q.by_.toList==([]:List UInt8))=true:=(by rw[emp_eq];exact zW h5);have f5n:(q.by_.toList != ([]:List UInt8))=false:=by rw[bne,f5];rfl
      have ho:ob=true:=(by rw[hob,zW h5];simp);clear hob;subst ho;replace h5:=Hd h5;go_wp2_with first
       |(go_at_call 70;refine kt.out.mono ?_;rintro e W ⟨rfl,hW⟩;replace hI:=Hd (hI.out.stay hW);clear hW;obtain⟨_,_,_,_,_,y5,y6⟩:=hI.out.cells;simp only at y5 y6)
       |(go_at_call 59;refine(kn.out _ hI.out).mono ?_;rintro e W2 ⟨rfl,hW⟩;replace hI:=Hd (hI.out.stay hW);clear hW)
      all_goals(go_meet;exact⟨rfl,hI.out⟩)
     ·have f5:(q.by_.toList==([]:List UInt8))=false:=(by rw[emp_eq];exact zV h5);have f5n:(q.by_.toList != ([]:List UInt8))=true:=by rw[bne,f5];rfl
      have ho:ob=nb:=(by rw[hob,zV h5];simp);clear hob;subst ho;replace h5:=Hd h5;cases ob with
      |true=>
       go_wp2_with first
        |(go_at_call 70;refine kt.out.mono ?_;rintro e W ⟨rfl,hW⟩;replace hI:=Hd (hI.out.stay hW);clear hW;obtain⟨_,_,_,_,_,y5,y6⟩:=hI.out.cells;simp only at y5 y6)
        |(go_at_call 59;refine(kn.out _ hI.out).mono ?_;rintro e W2 ⟨rfl,hW⟩;replace hI:=Hd (hI.out.stay hW);clear hW)
       all_goals(go_meet;exact⟨rfl,hI.out⟩)
      |false=>
       go_wp2_with first
        |(go_at_call 70;refine kt.out.mono ?_;rintro e W ⟨rfl,hW⟩;replace hI:=Hd (hI.out.stay hW);clear hW;obtain⟨_,_,_,_,_,y5,y6⟩:=hI.out.cells;simp only at y5 y6)
        |(go_at_call 59;refine(kn.out _ hI.out).mono ?_;rintro e W2 ⟨rfl,hW⟩;replace hI:=Hd (hI.out.stay hW);clear hW)
       all_goals(go_meet;exact⟨rfl,hI.out⟩)
    ·have h3i:0<(q.wh.length:Int):=(by omega);have h3n:0<q.wh.length:=by omega
     cases tb with
     |false=>
      have ho:ob=false:=(by rw[hob,zV h3];rfl);clear hob;subst ho;replace h3:=Hd h3;go_wp2_with first
       |(go_at_call 70;refine kt.out.mono ?_;rintro e W ⟨rfl,hW⟩;replace hI:=Hd (hI.out.stay hW);clear hW;obtain⟨_,_,_,_,_,y5,y6⟩:=hI.out.cells;simp only at y5 y6)
       |(go_at_call 59;refine(kn.out _ hI.out).mono ?_;rintro e W2 ⟨rfl,hW⟩;replace hI:=Hd (hI.out.stay hW);clear hW)
      all_goals(go_meet;exact⟨rfl,hI.out⟩)
     |true=>
      rw[zV h3,Bool.false_or,xE]at hob;replace h3:=Hd h3;by_cases h5:q.by_=emp
      ·have f5:(q.by_.toList==([]:List UInt8))=true:=(by rw[emp_eq];exact zW h5);have f5n:(q.by_.toList != ([]:List UInt8))=false:=by rw[bne,f5];rfl
       have ho:ob=true:=(by rw[hob,zW h5];simp);clear hob;subst ho;replace h5:=Hd h5;go_wp2_with first
        |(go_at_call 70;refine kt.out.mono ?_;rintro e W ⟨rfl,hW⟩;replace hI:=Hd (hI.out.stay hW);clear hW;obtain⟨_,_,_,_,_,y5,y6⟩:=hI.out.cells;simp only at y5 y6)
        |(go_at_call 59;refine(kn.out _ hI.out).mono ?_;rintro e W2 ⟨rfl,hW⟩;replace hI:=Hd (hI.out.stay hW);clear hW)
       all_goals(go_meet;exact⟨rfl,hI.out⟩)
      ·have f5:(q.by_.toList==([]:List UInt8))=false:=(by rw[emp_eq];exact zV h5);have f5n:(q.by_.toList != ([]:List UInt8))=true:=by rw[bne,f5];rfl
       have ho:ob=nb:=(by rw[hob,zV h5];simp);clear hob;subst ho;replace h5:=Hd h5;cases ob with
       |true=>
        go_wp2_with first
         |(go_at_call 70;refine kt.out.mono ?_;rintro e W ⟨rfl,hW⟩;replace hI:=Hd (hI.out.stay hW);clear hW;obtain⟨_,_,_,_,_,y5,y6⟩:=hI.out.cells;simp only at y5 y6)
         |(go_at_call 59;refine(kn.out _ hI.out).mono ?_;rintro e W2 ⟨rfl,hW⟩;replace hI:=Hd (hI.out.stay hW);clear hW)
        all_goals(go_meet;exact⟨rfl,hI.out⟩)
       |false=>
        go_wp2_with first
         |(go_at_call 70;refine kt.out.mono ?_;rintro e W ⟨rfl,hW⟩;replace hI:=Hd (hI.out.stay hW);clear hW;obtain⟨_,_,_,_,_,y5,y6⟩:=hI.out.cells;simp only at y5 y6)
         |(go_at_call 59;refine(kn.out _ hI.out).mono ?_;rintro e W2 ⟨rfl,hW⟩;replace hI:=Hd (hI.out.stay hW);clear hW)
        all_goals(go_meet;exact⟨rfl,hI.out⟩)
   case rest=>
    obtain⟨rfl,hI⟩:=hcut;clear y3 y5 y6 hI0 hob;obtain⟨_,_,_,_,_,_,y6⟩:=hI.cells;simp only at y6;cases ob with
    |false=>
     rw[Bool.false_and]at hsb2;replace hI:=Hd hI;go_wp2;go_ret;exact⟨rtB hsb2.out.symm,hI.out.1⟩
    |true=>
     rw[xE]at hsb2;replace hI:=Hd hI;go_wp2;clear y6;go_loopw [71] (fun i wr=>∃j:Nat,j≤q.ret.length∧i=.int .i64 j∧QB q ⟨A1,c1,A2,c2,A3,c3⟩ w wr∧Hid ((q.ret.take j).all treeB=true)) (fun i _=>q.ret.length- (intOf i).toNat)
     case atStart=>exact⟨0,zE _,rfl,hI.out,rfl⟩
     case round=>
      clear hI;obtain⟨j,hj,rfl,hI,hp⟩:=hrel;by_cases hlt:j<q.ret.length
      ·obtain⟨x,hx⟩:=getx hlt;obtain⟨b,off,B2,d2,e,_,rx,a0⟩:=re_at (R.out.under hI.1).r3 hx;simp only at e;subst e;have g0:(0:Int)≤(j:Int):=by omega
       have g1:(j:Int)<q.ret.length:=(by omega);have kx:=k3.out B2 d2 F x (hs.out.re x (zA hx)) _ (hK.out.stay hI.1) (R.out.under hI.1).lt rx;replace hx:=Hd hx;replace rx:=Hd rx;replace hI:=Hd hI;cases hb:treeB x with
       |false=>
        rw[hb]at kx;have hfin:sb=false:=by rw[hsb2.out,all_fail hx.out hb]
        replace hb:=Hd hb;replace kx:=Hd kx;replace hfin:=Hd hfin;go_wp2_with (go_at_call 70;refine kx.out.mono ?_;rintro e W ⟨rfl,hW⟩;replace hW:=Hd (hI.out.stay hW));go_ret;exact⟨rtB hfin.out.symm,hW.out.1⟩
       |true=>
        rw[hb]at kx;have hp2:=Hd (all_next hx.out hp.out hb);replace hb:=Hd hb;replace kx:=Hd kx;go_wp2_with (go_at_call 70;refine kx.out.mono ?_;rintro e W ⟨rfl,hW⟩;replace hW:=Hd (hI.out.stay hW));go_roundw
        case rel=>exact⟨j+1,by omega,by go_num,hW.out,hp2⟩
        case measure=>simp[intOf];omega
      ·obtain rfl:j=q.ret.length:=by omega
       have g1:¬(q.ret.length:Int)<q.ret.length:=(by omega);have hfin:sb=true:=by rw[hsb2.out,all_end hp.out]
       replace hfin:=Hd hfin;replace hI:=Hd hI;go_wp2;go_ret;exact⟨rtB hfin.out.symm,hI.out.1⟩
end ckW
end Go.Proofs.YtfiodnlgiglhfaaGreatDoor
