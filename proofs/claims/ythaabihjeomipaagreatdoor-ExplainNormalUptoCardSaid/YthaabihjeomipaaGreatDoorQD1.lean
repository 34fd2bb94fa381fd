/- Items. -/
import Derived.Test.YthaabihjeomipaaGreatDoorQC3
namespace Go.Proofs.YthaabihjeomipaaGreatDoor
set_option maxRecDepth 100000
set_option maxHeartbeats 16000000
open Go.RowKit Go.Deep
set_option linter.unusedVariables false
set_option linter.unusedSimpArgs false
theorem all_next {α:Type}{l:List α}{x:α}{j:Nat}{p:α→Bool}(hx:l[j]? =some x)(h:(l.take j).all p=true)(hp:p x=true):(l.take (j+1)).all p=true:=by
 rw[zJ,hx,List.all_append,h];simp[hp]
theorem all_fail {α:Type}{l:List α}{x:α}{j:Nat}{p:α→Bool}(hx:l[j]? =some x)(hp:p x=false):l.all p=false:=by
 rw[List.all_eq_false];exact⟨x,zA hx,by simp[hp]⟩
theorem all_end {α:Type}{l:List α}{p:α→Bool}(h:(l.take l.length).all p=true):l.all p=true:=by rwa [zL]at h
theorem str_at {w:World}{F:Nat→Prop}{A:Option Addr}{c i:Nat}{l:List ByteArray}{x:ByteArray}(r:Rd w F (.slice A l.length c) (.sl l.length (l.flatMap strD)))(hp:l[i]? =some x):∃b off,A=some ⟨b,off,none⟩∧F b∧w.cell? ⟨b,off+i,none⟩=some (.string x):=by
 obtain⟨b,off,rfl,hF,ha,_⟩:=r.rowv (m:=1) (fun _=>rfl) hp oQ;exact⟨b,off,rfl,hF,by have:=ha 0 _ rfl;rwa [Nat.mul_one,Nat.add_zero]at this⟩
theorem it_at {w:World}{F:Nat→Prop}{A:Option Addr}{c i:Nat}{l:List It}{x:It}(r:Rd w F (.slice A l.length c) (.sl l.length (l.flatMap itD)))(hp:l[i]? =some x):∃b off A2 c2,A=some ⟨b,off,none⟩∧F b∧
  Rd w F (.slice A2 x.tys.length c2) (.sl x.tys.length (x.tys.flatMap strD))∧
  w.cell? ⟨b,off+i*5,none⟩=some (.bool x.neg)∧w.cell? ⟨b,off+i*5+1,none⟩=some (.slice A2 x.tys.length c2)∧w.cell? ⟨b,off+i*5+2,none⟩=some (.string x.v)∧w.cell? ⟨b,off+i*5+3,none⟩=some (.int .i64 x.lo)∧
  w.cell? ⟨b,off+i*5+4,none⟩=some (.int .i64 x.hi):=by
 obtain⟨b,off,rfl,hF,ha,hb⟩:=r.rowv (m:=5) (fun _=>rfl) hp oQ;obtain⟨A2,c2,h1,h2⟩:=hb 1 _ _ rfl;exact⟨b,off,A2,c2,rfl,hF,h2,ha 0 _ rfl,h1,ha 2 _ rfl,ha 3 _ rfl,ha 4 _ rfl⟩
theorem re_at {w:World}{F:Nat→Prop}{A:Option Addr}{c i:Nat}{l:List (List Nd)}{x:List Nd}(r:Rd w F (.slice A l.length c) (.sl l.length (l.flatMap reD)))(hp:l[i]? =some x):∃b off A2 c2,A=some ⟨b,off,none⟩∧F b∧
  Rd w F (.slice A2 x.length c2) (.sl x.length (x.flatMap ndD))∧w.cell? ⟨b,off+i,none⟩=some (.slice A2 x.length c2):=by
 obtain⟨b,off,rfl,hF,ha,hb⟩:=r.rowv (m:=1) (fun _=>rfl) hp oQ;obtain⟨A2,c2,h1,h2⟩:=hb 0 _ _ rfl;exact⟨b,off,A2,c2,rfl,hF,h2,by rwa [Nat.mul_one,Nat.add_zero]at h1⟩
def SzI (x:It):Prop:=SzS x.tys∧x.v.size≤1048576
structure SzQ (q:Qy):Prop where
 il:q.items.length≤1048576
 it:∀x∈q.items,SzI x
 wh:SzN q.wh
 by_:q.by_.size≤1048576
 rl:q.ret.length≤1048576
 re:∀x∈q.ret,SzN x
noncomputable def namesB (l:List ByteArray):Bool:=l.all isNm&&decide (0<l.length)
noncomputable def itemB (x:It):Bool:=decide (0<x.tys.length)&&(isNm x.v&&(decide (0≤x.lo)&&(decide (0≤x.hi)&&(x.tys.all isNm&&(!x.neg||(decide (x.lo=1)&&decide (x.hi=1)))))))
noncomputable def shapedB (q:Qy):Bool:=
 decide (0<q.items.length)&&(decide (0≤q.mode)&&(decide (q.mode≤2)&&(decide (0≤q.after)&&(decide (q.after≤3)&&(decide (0≤q.within)&&(q.items.all itemB&&
  ((decide (q.wh.length=0)||treeB q.wh)&&((decide (q.by_=emp)||isNm q.by_)&&q.ret.all treeB))))))))
def itV (x:It)(u:Value):List Value:=[.bool x.neg,u,.string x.v,.int .i64 x.lo,.int .i64 x.hi]
def ItB (x:It)(u:Value)(w wr:World):Prop:=Bw w wr∧Blk wr w.heap.size 53 (itV x u)
theorem ItB.stay {x:It}{u:Value}{w wr W:World}(h:ItB x u w wr)(hb:Bw wr W):ItB x u w W:=⟨h.1.trans (hb.mono h.1.size),h.2.stay hb⟩
theorem ItB.new (x:It)(u:Value)(w:World):ItB x u w (w.alloc (.cells ⟨itV x u⟩ 53)):=⟨bA,Blk.new _ _ _⟩
namespace nmW
theorem names_k (A:Option Addr)(c:Nat)(F:Nat→Prop)(l:List ByteArray)(hl:l.length≤1048576)(w:World)(hK:KwIs w)(hF:∀b,F b→b<w.heap.size)(r:Rd w F (.slice A l.length c) (.sl l.length (l.flatMap strD))):
  Calls Tryz.prog 93 #[.slice A l.length c] w fun e w'=>e=.returned (.bool (namesB l))∧w'=w:=by
 have k1:=Hd refIsName_k;replace r:=Hd r;replace hF:=Hd hF;replace hK:=Hd hK;go_enter Tryz.func93,Tryz.ntmps93;go_wp2;go_loopw [3] (fun i wr=>∃j:Nat,j≤l.length∧i=.int .i64 j∧wr=w∧Hid ((l.take j).all isNm=true)) (fun i _=>l.length- (intOf i).toNat)
 case atStart=>exact⟨0,zE _,rfl,rfl,rfl⟩
 case round=>
  obtain⟨j,hj,rfl,rfl,hp⟩:=hrel;by_cases hlt:j<l.length
  ·obtain⟨x,hx⟩:=getx hlt;obtain⟨b,off,rfl,_,a0⟩:=str_at r.out hx;have g0:(0:Int)≤(j:Int):=oQ;have g1:(j:Int)<l.length:=oQ;replace hx:=Hd hx;cases hb:isNm x with
   |false=>
    have hfin:=Hd (show namesB l=false by unfold namesB;rw[all_fail hx.out hb];rfl);replace hb:=Hd hb;go_wp2_with (go_at_call 94;refine(k1.out _ _ hK.out).mono ?_;rw[hb.out];rintro e W ⟨rfl,hW⟩;obtain rfl:=hW.symm);go_ret;exact⟨rtB hfin.out.symm,rfl⟩
   |true=>
    have hp2:=Hd (all_next hx.out hp.out hb);replace hb:=Hd hb;go_wp2_with (go_at_call 94;refine(k1.out _ _ hK.out).mono ?_;rw[hb.out];rintro e W ⟨rfl,hW⟩;obtain rfl:=hW.symm);go_roundw
    case rel=>exact⟨j+1,oQ,gQ,(by first|exact rfl |trivial),hp2⟩
    case measure=>exact mQ
  ·obtain rfl:j=l.length:=oQ;have hfin:namesB l=decide (0<l.length):=by unfold namesB;rw[all_end hp.out,xE]
   replace hfin:=Hd hfin;go_wp2;go_ret;exact⟨rtB hfin.out.symm,rfl⟩
theorem shapedItem_k (x:It)(A:Option Addr)(c:Nat)(F:Nat→Prop)(hs:SzI x)(w:World)(hK:KwIs w)(hF:∀b,F b→b<w.heap.size)(r:Rd w F (.slice A x.tys.length c) (.sl x.tys.length (x.tys.flatMap strD))):
  Calls Tryz.prog 111 #[.agg ⟨itV x (.slice A x.tys.length c)⟩] w fun e w'=>e=.returned (.bool (itemB x))∧Bw w w':=by
 have k1:=Hd isName_k;obtain⟨⟨hs1,hs2⟩,hs3⟩:=hs;have h0:=ItB.new x (.slice A x.tys.length c) w;obtain⟨ib,hib⟩:∃b,b=itemB x:=⟨_,rfl⟩
 rw[←hib];obtain⟨neg,tys,v,lo,hi⟩:=x;simp only[itV]at h0 hs1 hs2 hs3 r ⊢;have hiB:ib=(decide (0<tys.length)&&(isNm v&&(decide (0≤lo)&&(decide (0≤hi)&&(tys.all isNm&&(!neg||(decide (lo=1)&&decide (hi=1)))))))):=hib;clear hib;replace r:=Hd r;replace hF:=Hd hF;replace hs2:=Hd hs2;have hK0:=Hd (hK.stay h0.1);replace h0:=Hd h0;by_cases hn:tys.length=0
 ·have f0:((tys.length:Int)==0)=true:=by rw[beq_iff_eq];omega
  have hfin:ib=false:=by rw[hiB];simp[hn]
  replace hfin:=Hd hfin;clear hiB;replace hn:=Hd hn;go_enter Tryz.func111,Tryz.ntmps111;go_wp2;go_ret;exact⟨rtB hfin.out.symm,h0.out.1⟩
 have f0:((tys.length:Int)==0)=false:=by rw[xV];omega
 replace hiB:ib=(isNm v&&(decide (0≤lo)&&(decide (0≤hi)&&(tys.all isNm&&(!neg||(decide (lo=1)&&decide (hi=1))))))):=by rw[hiB,zW oQ,xE]
 replace hn:=Hd hn;obtain⟨nv,hnv⟩:∃b,b=isNm v:=⟨_,rfl⟩
 rw[←hnv]at hiB;replace hnv:=Hd hnv;have kv:Calls Tryz.prog 108 #[.string v] (w.alloc (.cells ⟨[.bool neg,.slice A tys.length c,.string v,.int .i64 lo,.int .i64 hi]⟩ 53)) fun e w'=>e=.returned (.bool nv)∧ItB ⟨neg,tys,v,lo,hi⟩ (.slice A tys.length c) w w':=
  (k1.out v _ hK0.out hs3).mono fun e W h=>by rw[hnv.out];exact⟨h.1,h0.out.stay h.2⟩
 replace kv:=Hd kv;cases nv with
 |false=>
  rw[Bool.false_and]at hiB;replace hiB:=Hd hiB;go_enter Tryz.func111,Tryz.ntmps111;go_wp2_with (go_at_call 108;refine kv.out.mono ?_;rintro e W ⟨rfl,hW⟩;replace hW:=Hd hW);go_ret;exact⟨rtB hiB.out.symm,hW.out.1⟩
 |true=>
 rw[xE]at hiB;by_cases hlo:lo<0
 ·have hfin:ib=false:=by rw[hiB,zV oQ,Bool.false_and]
  replace hfin:=Hd hfin;clear hiB;go_enter Tryz.func111,Tryz.ntmps111;go_wp2_with (go_at_call 108;refine kv.out.mono ?_;rintro e W ⟨rfl,hW⟩;have z3:W.cell? ⟨w.heap.size,3,none⟩=some (.int .i64 lo):=hW.2.cell 3;replace hW:=Hd hW);go_ret;exact⟨rtB hfin.out.symm,hW.out.1⟩
 rw[zW (show 0≤lo by omega),xE]at hiB;by_cases hhi:hi<0
 ·have hfin:ib=false:=by rw[hiB,zV oQ,Bool.false_and]
  replace hfin:=Hd hfin;clear hiB;go_enter Tryz.func111,Tryz.ntmps111;go_wp2_with (go_at_call 108;refine kv.out.mono ?_;rintro e W ⟨rfl,hW⟩;have z3:W.cell? ⟨w.heap.size,3,none⟩=some (.int .i64 lo):=hW.2.cell 3;have z4:W.cell? ⟨w.heap.size,4,none⟩=some (.int .i64 hi):=hW.2.cell 4;replace hW:=Hd hW);go_ret;exact⟨rtB hfin.out.symm,hW.out.1⟩
 rw[zW (show 0≤hi by omega),xE]at hiB;replace hiB:=Hd hiB;go_enter Tryz.func111,Tryz.ntmps111;go_wp2_with (go_at_call 108;refine kv.out.mono ?_;rintro e W ⟨rfl,hW⟩;have z1:W.cell? ⟨w.heap.size,1,none⟩=some (.slice A tys.length c):=hW.2.cell 1;have z3:W.cell? ⟨w.heap.size,3,none⟩=some (.int .i64 lo):=hW.2.cell 3;have z4:W.cell? ⟨w.heap.size,4,none⟩=some (.int .i64 hi):=hW.2.cell 4;replace hW:=Hd hW);clear z1 z3 z4;go_loopw [28] (fun i wr=>∃j:Nat,j≤tys.length∧i=.int .i64 j∧ItB ⟨neg,tys,v,lo,hi⟩ (.slice A tys.length c) w wr∧Hid ((tys.take j).all isNm=true)) (fun i _=>tys.length- (intOf i).toNat)
 case atStart=>exact⟨0,zE _,rfl,hW.out,rfl⟩
 case round=>
  clear hW;obtain⟨j,hj,rfl,hI,hp⟩:=hrel;by_cases hlt:j<tys.length
  ·obtain⟨x,hx⟩:=getx hlt;obtain⟨b,off,rfl,_,a0⟩:=str_at (r.out.under hI.1 hF.out) hx;have g0:(0:Int)≤(j:Int):=oQ;have g1:(j:Int)<tys.length:=oQ;have hxs:x.size≤1048576:=hs2.out x (zA hx);have kx:=k1.out x wr ((hK.stay hI.1)) hxs;replace hx:=Hd hx;cases hb:isNm x with
   |false=>
    have hfin:ib=false:=(by rw[hiB.out,all_fail hx.out hb];rfl);rw[hb]at kx;replace kx:=Hd kx;replace hfin:=Hd hfin;replace hb:=Hd hb;replace hI:=Hd hI;go_wp2_with (go_at_call 108;refine kx.out.mono ?_;rintro e W ⟨rfl,hW⟩;replace hI:=Hd (hI.out.stay hW);clear hW);go_ret;exact⟨rtB hfin.out.symm,hI.out.1⟩
   |true=>
    have hp2:=Hd (all_next hx.out hp.out hb);rw[hb]at kx;replace kx:=Hd kx;replace hb:=Hd hb;replace hI:=Hd hI;go_wp2_with (go_at_call 108;refine kx.out.mono ?_;rintro e W ⟨rfl,hW⟩;replace hI:=Hd (hI.out.stay hW);clear hW);go_roundw
    case rel=>exact⟨j+1,oQ,gQ,hI.out,hp2⟩
    case measure=>exact mQ
  ·obtain rfl:j=tys.length:=oQ;have g1:¬(tys.length:Int)<tys.length:=oQ;have hiB2:ib=(!neg||(decide (lo=1)&&decide (hi=1))):=by rw[hiB.out,all_end hp.out,xE]
   have z0:wr.cell? ⟨w.heap.size,0,none⟩=some (.bool neg):=hI.2.cell 0;have z3:wr.cell? ⟨w.heap.size,3,none⟩=some (.int .i64 lo):=hI.2.cell 3;have z4:wr.cell? ⟨w.heap.size,4,none⟩=some (.int .i64 hi):=hI.2.cell 4;replace hI:=Hd hI;cases neg with
   |false=>
    replace hiB2:=Hd hiB2;go_wp2;go_ret;exact⟨rtB hiB2.out.symm,hI.out.1⟩
   |true=>
    by_cases h1:lo=1
    ·have f1:(lo==1)=true:=(by rw[beq_iff_eq];exact h1);have hfin:ib=(hi==1):=by rw[hiB2,zW h1];rfl
     replace hfin:=Hd hfin;clear hiB2;replace h1:=Hd h1;go_wp2;go_ret;exact⟨rtB hfin.out.symm,hI.out.1⟩
    ·have f1:(lo==1)=false:=(by rw[xV];exact h1);have hfin:ib=false:=by rw[hiB2,zV h1];rfl
     replace hfin:=Hd hfin;clear hiB2;replace h1:=Hd h1;go_wp2;go_ret;exact⟨rtB hfin.out.symm,hI.out.1⟩
end nmW
def nmsT (l:List Td):List ByteArray:=l.map (·.name)
def attrI (l:List Td)(t:Int)(s:ByteArray):Int:=if t<0 then -1 else match l[t.toNat]? with
 |none=> -1
 |some x=>if s=tsB then -2 else if 0≤placeI x.attrs s∧placeI x.attrs s<8 then placeI x.attrs s else -1
theorem attrI_neg {l:List Td}{t:Int}{s:ByteArray}(h:t<0):attrI l t s= -1:=if_pos h
theorem attrI_over {l:List Td}{t:Int}{s:ByteArray}(h:(l.length:Int)≤t):attrI l t s= -1:=by
 unfold attrI;rw[if_neg oQ,xO oQ]
theorem attrI_ts {l:List Td}{k:Nat}{s:ByteArray}{x:Td}(h:l[k]? =some x)(hs:s=tsB):attrI l k s= -2:=by
 unfold attrI;rw[if_neg oQ,Int.toNat_natCast,h];exact if_pos hs
theorem attrI_at {l:List Td}{k:Nat}{s:ByteArray}{x:Td}(h:l[k]? =some x)(hs:s≠tsB):attrI l k s=if 0≤placeI x.attrs s∧placeI x.attrs s<8 then placeI x.attrs s else -1:=by
 unfold attrI;rw[if_neg oQ,Int.toNat_natCast,h];exact if_neg hs
def hasB (l:List Td)(tys:List ByteArray)(a:ByteArray):Bool:=tys.all fun n=>decide (attrI l (placeI (nmsT l) n) a≠ -1)
def SB (l:List Td)(A:Option Addr)(c:Nat)(w wr:World):Prop:=Bw w wr∧Blk wr w.heap.size 24 [.slice A l.length c]
theorem SB.stay {l:List Td}{A:Option Addr}{c:Nat}{w wr W:World}(h:SB l A c w wr)(hb:Bw wr W):SB l A c w W:=⟨h.1.trans (hb.mono h.1.size),h.2.stay hb⟩
theorem SB.new (l:List Td)(A:Option Addr)(c:Nat)(w:World):SB l A c w (w.alloc (.cells ⟨[.slice A l.length c]⟩ 24)):=⟨bA,Blk.new _ _ _⟩
theorem SB.cell {l:List Td}{A:Option Addr}{c:Nat}{w wr:World}(h:SB l A c w wr):wr.cell? ⟨w.heap.size,0,none⟩=some (.slice A l.length c):=h.2.cell 0
theorem td_at {w:World}{F:Nat→Prop}{A:Option Addr}{c i:Nat}{l:List Td}{x:Td}(r:Rd w F (.slice A l.length c) (.sl l.length (l.flatMap tdD)))(hp:l[i]? =some x):∃b off A2 c2,A=some ⟨b,off,none⟩∧F b∧
  Rd w F (.slice A2 x.attrs.length c2) (.sl x.attrs.length (x.attrs.flatMap strD))∧w.cell? ⟨b,off+i*2,none⟩=some (.string x.name)∧w.cell? ⟨b,off+i*2+1,none⟩=some (.slice A2 x.attrs.length c2):=by
 obtain⟨b,off,rfl,hF,ha,hb⟩:=r.rowv (m:=2) (fun _=>rfl) hp oQ;obtain⟨A2,c2,h1,h2⟩:=hb 1 _ _ rfl;exact⟨b,off,A2,c2,rfl,hF,h2,ha 0 _ rfl,h1⟩
namespace ckW
open nmW
theorem rTypeOf_k (A:Option Addr)(c:Nat)(F:Nat→Prop)(l:List Td)(s:ByteArray)(hl:l.length≤1048576)(w:World)(hF:∀b,F b→b<w.heap.size)(r:Rd w F (.slice A l.length c) (.sl l.length (l.flatMap tdD))):
  Calls Tryz.prog 96 #[.agg ⟨[.slice A l.length c]⟩,.string s] w fun e w'=>e=.returned (.int .i64 (placeI (nmsT l) s))∧Bw w w':=by
 have h0:=SB.new l A c w;obtain⟨b,hc⟩:∃b,b=placeI (nmsT l) s:=⟨_,rfl⟩
 rw[←hc];replace hc:=Hd hc;replace r:=Hd r;replace hF:=Hd hF;replace h0:=Hd h0;go_enter Tryz.func96,Tryz.ntmps96;go_wp2;go_loopw [5] (fun i wr=>∃j:Nat,j≤l.length∧i=.int .i64 j∧SB l A c w wr∧Hid (∀(i:Nat) a,(nmsT l)[i]? =some a→i<j→a≠s)) (fun i _=>l.length- (intOf i).toNat)
 case atStart=>exact⟨0,zE _,rfl,h0.out,fun i a h h3=>by omega⟩
 case round=>
  clear h0;obtain⟨j,hj,rfl,hI,hp⟩:=hrel;have y0:=hI.cell;by_cases hlt:j<l.length
  ·obtain⟨x,hx⟩:=getx hlt;obtain⟨g,off,A2,c2,rfl,_,_,a0,_⟩:=td_at (r.out.under hI.1 hF.out) hx;have g0:(0:Int)≤(j:Int):=oQ;have g1:(j:Int)<l.length:=oQ;have hx2:(nmsT l)[j]? =some x.name:=by unfold nmsT;rw[zG,hx];rfl
   replace hx2:=Hd hx2;replace hI:=Hd hI;clear hx;by_cases hu:x.name=s
   ·have hu':(x.name.toList==s.toList)=true:=(by rw[bqb];exact zW hu);have hfin:b=(j:Int):=by rw[hc.out];exact placeI_at (by rw[hx2.out,hu]) hp.out
    replace hu:=Hd hu;replace hfin:=Hd hfin;go_wp2;go_ret;exact⟨rtI hfin.out.symm,hI.out.1⟩
   ·have hu':(x.name.toList==s.toList)=false:=(by rw[bqb];exact zV hu);replace hu:=Hd hu;go_wp2;go_roundw
    case rel=>
     refine⟨j+1,oQ,gQ,hI.out,fun i a h h3=>?_⟩;by_cases hij:i=j
     ·subst hij;obtain rfl:x.name=a:=by have:=hx2.out;rw[h]at this;exact(zq9 this).symm
      exact hu.out
     ·exact hp.out i a h oQ
    case measure=>exact mQ
  ·have g1:¬(j:Int)<l.length:=oQ;have hfin:b= -1:=by
    rw[hc.out];exact placeI_none fun i a h=>hp.out i a h (by have:=(zC.1 h).1;unfold nmsT at this;simp at this;omega)
   replace hfin:=Hd hfin;replace hI:=Hd hI;go_wp2;go_ret;exact⟨rtI hfin.out.symm,hI.out.1⟩
theorem attrOf_k (A:Option Addr)(c:Nat)(F:Nat→Prop)(l:List Td)(t:Int)(s:ByteArray)(hl:SzT l)(w:World)(hF:∀b,F b→b<w.heap.size)(r:Rd w F (.slice A l.length c) (.sl l.length (l.flatMap tdD))):
  Calls Tryz.prog 156 #[.agg ⟨[.slice A l.length c]⟩,.int .i64 t,.string s] w fun e w'=>e=.returned (.int .i64 (attrI l t s))∧Bw w w':=by
 have k1:=Hd placeOf_k;have h0:=SB.new l A c w;have hl1:=hl.1;obtain⟨b,hc⟩:∃b,b=attrI l t s:=⟨_,rfl⟩
 rw[←hc];by_cases p0:t<0
 ·have hfin:b= -1:=by rw[hc];exact attrI_neg p0
  replace hfin:=Hd hfin;replace h0:=Hd h0;clear hc;go_enter Tryz.func156,Tryz.ntmps156;go_wp2;go_ret;exact⟨rtI hfin.out.symm,h0.out.1⟩
 by_cases p1:(l.length:Int)≤t
 ·have hfin:b= -1:=by rw[hc];exact attrI_over p1
  replace hfin:=Hd hfin;replace h0:=Hd h0;clear hc;go_enter Tryz.func156,Tryz.ntmps156;go_wp2;go_ret;exact⟨rtI hfin.out.symm,h0.out.1⟩
 obtain⟨k,rfl⟩:∃k:Nat,t=k:=⟨t.toNat,oQ⟩
 have hk:k<l.length:=oQ;obtain⟨x,hx⟩:=getx hk;have g0:(0:Int)≤(k:Int):=oQ;have g1:(k:Int)<l.length:=oQ;by_cases p2:s=tsB
 ·have hfin:b= -2:=by rw[hc];exact attrI_ts hx p2
  have hu':=ts_true p2;replace hfin:=Hd hfin;replace h0:=Hd h0;replace p2:=Hd p2;clear hc;go_enter Tryz.func156,Tryz.ntmps156;go_wp2;go_ret;exact⟨rtI hfin.out.symm,h0.out.1⟩
 have hu':=ts_false p2;rw[attrI_at hx p2]at hc;obtain⟨p,hp⟩:∃p,p=placeI x.attrs s:=⟨_,rfl⟩
 have hxs:=hl.2 x (zA hx);obtain⟨g,off,A2,c2,rfl,_,rx,a0,a1⟩:=td_at (r.under h0.1 hF) hx;have kp:Calls Tryz.prog 110 #[.slice A2 x.attrs.length c2,.string s] (w.alloc (.cells ⟨[.slice (some ⟨g,off,none⟩) l.length c]⟩ 24)) fun e w'=>e=.returned (.int .i64 p)∧w'=(w.alloc (.cells ⟨[.slice (some ⟨g,off,none⟩) l.length c]⟩ 24)):=by rw[hp];exact k1.out A2 c2 F x.attrs s hxs.2.1 _ rx
 rw[←hp]at hc;have hp1: -1≤p:=by rw[hp];unfold placeI;split<;>omega
 replace hp:=Hd hp;replace kp:=Hd kp;replace h0:=Hd h0;replace p2:=Hd p2;replace hx:=Hd hx;by_cases p3:0≤p
 ·by_cases p4:p<8
  ·rw[if_pos ⟨p3,p4⟩]at hc;replace hc:=Hd hc;go_enter Tryz.func156,Tryz.ntmps156;go_wp2_with (go_at_call 110;refine kp.out.mono ?_;rintro e W ⟨rfl,hW⟩;subst W);go_ret;exact⟨rtI hc.out.symm,h0.out.1⟩
  ·rw[if_neg (fun h=>p4 h.2)]at hc;replace hc:=Hd hc;go_enter Tryz.func156,Tryz.ntmps156;go_wp2_with (go_at_call 110;refine kp.out.mono ?_;rintro e W ⟨rfl,hW⟩;subst W);go_ret;exact⟨rtI hc.out.symm,h0.out.1⟩
 ·rw[if_neg (fun h=>p3 h.1)]at hc;replace hc:=Hd hc;go_enter Tryz.func156,Tryz.ntmps156;go_wp2_with (go_at_call 110;refine kp.out.mono ?_;rintro e W ⟨rfl,hW⟩;subst W);go_ret;exact⟨rtI hc.out.symm,h0.out.1⟩
theorem rAttrOf_k (A:Option Addr)(c:Nat)(F:Nat→Prop)(l:List Td)(t:Int)(s:ByteArray)(hl:SzT l)(w:World)(hF:∀b,F b→b<w.heap.size)(r:Rd w F (.slice A l.length c) (.sl l.length (l.flatMap tdD))):
  Calls Tryz.prog 145 #[.agg ⟨[.slice A l.length c]⟩,.int .i64 t,.string s] w fun e w'=>e=.returned (.int .i64 (attrI l t s))∧Bw w w':=by
 have h0:=SB.new l A c w;have hl1:=hl.1;obtain⟨b,hc⟩:∃b,b=attrI l t s:=⟨_,rfl⟩
 rw[←hc];by_cases p0:t<0
 ·have hfin:b= -1:=by rw[hc];exact attrI_neg p0
  replace hfin:=Hd hfin;replace h0:=Hd h0;clear hc;go_enter Tryz.func145,Tryz.ntmps145;go_wp2;go_ret;exact⟨rtI hfin.out.symm,h0.out.1⟩
 by_cases p1:(l.length:Int)≤t
 ·have hfin:b= -1:=by rw[hc];exact attrI_over p1
  replace hfin:=Hd hfin;replace h0:=Hd h0;clear hc;go_enter Tryz.func145,Tryz.ntmps145;go_wp2;go_ret;exact⟨rtI hfin.out.symm,h0.out.1⟩
 obtain⟨k,rfl⟩:∃k:Nat,t=k:=⟨t.toNat,oQ⟩
 have hk:k<l.length:=oQ;obtain⟨x,hx⟩:=getx hk;have g0:(0:Int)≤(k:Int):=oQ;have g1:(k:Int)<l.length:=oQ;by_cases p2:s=tsB
 ·have hfin:b= -2:=by rw[hc];exact attrI_ts hx p2
  have hu':=ts_true p2;replace hfin:=Hd hfin;replace h0:=Hd h0;replace p2:=Hd p2;clear hc;go_enter Tryz.func145,Tryz.ntmps145;go_wp2;go_ret;exact⟨rtI hfin.out.symm,h0.out.1⟩
 have hu':=ts_false p2;rw[attrI_at hx p2]at hc;have hxs:=(hl.2 x (zA hx)).2.1;obtain⟨g,off,A2,c2,rfl,_,rx,a0,a1⟩:=td_at (r.under h0.1 hF) hx;obtain⟨m,hm⟩:∃m,m=x.attrs:=⟨_,rfl⟩
 rw[←hm]at hc rx a1 hxs;replace hm:=Hd hm;replace hc:=Hd hc;replace h0:=Hd h0;replace p2:=Hd p2;replace hx:=Hd hx;replace rx:=Hd rx;go_enter Tryz.func145,Tryz.ntmps145;go_wp2;clear a0 a1;go_loopw [8] (fun i wr=>∃j:Nat,j≤m.length∧j≤8∧i=.int .i64 j∧wr=(w.alloc (.cells ⟨[.slice (some ⟨g,off,none⟩) l.length c]⟩ 24))∧Hid (∀(i:Nat) a,m[i]? =some a→i<j→a≠s)) (fun i _=>m.length- (intOf i).toNat)
 case atStart=>exact⟨0,zE _,zE _,rfl,rfl,fun i a h h3=>by omega⟩
 case round=>
  obtain⟨j,hj,hj8,rfl,hw,hp⟩:=hrel;have hh0:=h0.out;rw[←hw]at hh0 rx;clear h0;replace hw:=Hd hw;replace hh0:=Hd hh0;by_cases hlt:j<m.length
  ·have q1:(j:Int)<m.length:=oQ;by_cases h8:j<8
   ·have q2:(j:Int)<8:=oQ;obtain⟨y,hy⟩:=getx hlt;obtain⟨g2,off2,rfl,_,b0⟩:=str_at rx.out hy;have q0:(0:Int)≤(j:Int):=oQ;replace hy:=Hd hy;by_cases hu:y=s
    ·have hu2:(y.toList==s.toList)=true:=(by rw[bqb];exact zW hu);have hfin:b=(j:Int):=by rw[hc.out,placeI_at (by rw[hy.out,hu]) hp.out];exact if_pos ⟨oQ,oQ⟩
     replace hu:=Hd hu;replace hfin:=Hd hfin;go_wp2;go_ret;exact⟨rtI hfin.out.symm,hh0.out.1⟩
    ·have hu2:(y.toList==s.toList)=false:=(by rw[bqb];exact zV hu);replace hu:=Hd hu;go_wp2;go_roundw
     case rel=>
      refine⟨j+1,oQ,oQ,gQ,hw.out,fun i a h h3=>?_⟩;by_cases hij:i=j
      ·subst hij;obtain rfl:y=a:=by have:=hy.out;rw[h]at this;exact(zq9 this).symm
       exact hu.out
      ·exact hp.out i a h oQ
     case measure=>exact mQ
   ·have q2:¬(j:Int)<8:=oQ;have hfin:b= -1:=by
     rw[hc.out];refine if_neg fun h=>?_
     unfold placeI at h;split at h
     ·rename_i i he;rw[List.findIdx?_eq_some_iff_getElem]at he;obtain⟨hi,h1,_⟩:=he;exact hp.out i _ (zI hi) oQ (by simpa using h1)
     ·omega
    replace hfin:=Hd hfin;go_wp2;go_ret;exact⟨rtI hfin.out.symm,hh0.out.1⟩
  ·have q1:¬(j:Int)<m.length:=oQ;have hfin:b= -1:=by
    rw[hc.out,placeI_none fun i a h=>hp.out i a h (by have:=(zC.1 h).1;omega)];exact if_neg oQ
   replace hfin:=Hd hfin;go_wp2;go_ret;exact⟨rtI hfin.out.symm,hh0.out.1⟩
end ckW
def HB (l:List Td)(A:Option Addr)(c:Nat)(x:It)(u:Value)(w wr:World):Prop:=Bw w wr∧Blk wr w.heap.size 24 [.slice A l.length c]∧Blk wr (w.heap.size+1) 53 (itV x u)
theorem HB.stay {l:List Td}{A:Option Addr}{c:Nat}{x:It}{u:Value}{w wr W:World}(h:HB l A c x u w wr)(hb:Bw wr W):HB l A c x u w W:=⟨h.1.trans (hb.mono h.1.size),h.2.1.stay hb,h.2.2.stay hb⟩
theorem HB.new (l:List Td)(A:Option Addr)(c:Nat)(x:It)(u:Value)(w:World):HB l A c x u w ((w.alloc (.cells ⟨[.slice A l.length c]⟩ 24)).alloc (.cells ⟨itV x u⟩ 53)):=by
 have h1:=SB.new l A c w;refine⟨h1.1.alloc h1.1.size _,(h1.2.stay bA),?_⟩;have:=Blk.new (w.alloc (.cells ⟨[.slice A l.length c]⟩ 24)) 53 (itV x u);simpa using this
theorem HB.cells {l:List Td}{A:Option Addr}{c:Nat}{x:It}{u:Value}{w wr:World}(h:HB l A c x u w wr):wr.cell? ⟨w.heap.size,0,none⟩=some (.slice A l.length c)∧wr.cell? ⟨w.heap.size+1,0,none⟩=some (.bool x.neg)∧wr.cell? ⟨w.heap.size+1,1,none⟩=some u∧wr.cell? ⟨w.heap.size+1,2,none⟩=some (.string x.v)∧
 wr.cell? ⟨w.heap.size+1,3,none⟩=some (.int .i64 x.lo)∧wr.cell? ⟨w.heap.size+1,4,none⟩=some (.int .i64 x.hi):=⟨h.2.1.cell 0,h.2.2.cell 0,h.2.2.cell 1,h.2.2.cell 2,h.2.2.cell 3,h.2.2.cell 4⟩
theorem HB.drewN {l:List Td}{A:Option Addr}{c:Nat}{x:It}{u:Value}{w wr:World}(h:HB l A c x u w wr)(k:Nat):HB l A c x u w (wr.drewN k):=h.stay (below_drewN bR k)
namespace ckW
open nmW
theorem has_k (A:Option Addr)(c:Nat)(F:Nat→Prop)(l:List Td)(x:It)(A2:Option Addr)(c2:Nat)(s:ByteArray)(hl:SzT l)(hx:x.tys.length≤1048576)(w:World)(hF:∀b,F b→b<w.heap.size)(r:Rd w F (.slice A l.length c) (.sl l.length (l.flatMap tdD)))
  (r2:Rd w F (.slice A2 x.tys.length c2) (.sl x.tys.length (x.tys.flatMap strD))):
  Calls Tryz.prog 113 #[.agg ⟨[.slice A l.length c]⟩,.agg ⟨itV x (.slice A2 x.tys.length c2)⟩,.string s] w fun e w'=>e=.returned (.bool (hasB l x.tys s))∧Bw w w':=by
 have h0:=HB.new l A c x (.slice A2 x.tys.length c2) w;have hl1:=hl.1;have k1:∀(n:ByteArray) W,Bw w W→Calls Tryz.prog 109 #[.agg ⟨[.slice A l.length c]⟩,.string n] W fun e w'=>e=.returned (.int .i64 (placeI (nmsT l) n))∧Bw W w':=fun n W hW=>typeOf_k A c F l n hl1 W (fun b h=>zF (hF b h) hW.size) (r.under hW hF)
 have k2:∀(n:ByteArray) W,Bw w W→Calls Tryz.prog 156 #[.agg ⟨[.slice A l.length c]⟩,.int .i64 (placeI (nmsT l) n),.string s] W fun e w'=>e=.returned (.int .i64 (attrI l (placeI (nmsT l) n) s))∧Bw W w':=fun n W hW=>attrOf_k A c F l _ s hl W (fun b h=>zF (hF b h) hW.size) (r.under hW hF)
 obtain⟨b,hc⟩:∃b,b=hasB l x.tys s:=⟨_,rfl⟩
 rw[←hc];unfold hasB at hc;obtain⟨neg,tys,v,lo,hi⟩:=x;simp only[itV]at h0 hc hx r2 ⊢;replace hc:=Hd hc;replace r:=Hd r;replace r2:=Hd r2;replace hF:=Hd hF;replace h0:=Hd h0;replace k1:=Hd k1;replace k2:=Hd k2;go_enter Tryz.func113,Tryz.ntmps113;go_wp2;go_loopw [12] (fun i wr=>∃j:Nat,j≤tys.length∧i=.int .i64 j∧HB l A c ⟨neg,tys,v,lo,hi⟩ (.slice A2 tys.length c2) w wr∧Hid ((tys.take j).all (fun n=>decide (attrI l (placeI (nmsT l) n) s≠ -1))=true)) (fun i _=>tys.length- (intOf i).toNat)
 case atStart=>exact⟨0,zE _,rfl,h0.out,rfl⟩
 case round=>
  clear h0;obtain⟨j,hj,rfl,hI,hp⟩:=hrel;by_cases hlt:j<tys.length
  ·obtain⟨y,hy⟩:=getx hlt;obtain⟨g,off,rfl,_,a0⟩:=str_at (r2.out.under hI.1 hF.out) hy;obtain⟨y0,_,y1,_⟩:=hI.cells;have g0:(0:Int)≤(j:Int):=oQ;have g1:(j:Int)<tys.length:=oQ;obtain⟨ai,hai⟩:∃a,a=attrI l (placeI (nmsT l) y) s:=⟨_,rfl⟩
   have k1':=k1.out y;have k2':=k2.out y;rw[←hai]at k2';obtain⟨ti,hti⟩:∃a,a=placeI (nmsT l) y:=⟨_,rfl⟩
   rw[←hti]at k1' k2';replace hti:=Hd hti;replace k1':=Hd k1';replace k2':=Hd k2';by_cases ha:ai= -1
   ·have hfin:=Hd (show b=false by rw[hc.out];exact all_fail hy (by simp[←hai,ha]));have fa:(ai== -1)=true:=by rw[beq_iff_eq];exact ha
    replace ha:=Hd ha;replace hai:=Hd hai;replace hy:=Hd hy;have hI0:=Hd hI;replace hI:=Hd hI;go_upto_region 4 with fail
    go_cut [22] (fun s7 wx=>s7=.bool true∧HB l A c ⟨neg,tys,v,lo,hi⟩ (.slice (some ⟨g,off,none⟩) tys.length c2) w wx)
    case first=>
     go_region_law ((go_simp;first
      |(go_at_call 109;refine(k1'.out _ (by first|exact hI.out.1 |exact hI.out.1.drew |exact(hI.out.drewN _).1)).mono ?_;rintro e W ⟨rfl,hW⟩;replace hI:=Hd (hI.out.stay (by first|exact hW |exact(below_drewN bR _).trans hW));obtain⟨y0,_⟩:=hI.out.cells;clear hW)
      |(go_at_call 156;refine(k2'.out _ (by first|exact hI.out.1 |exact hI.out.1.drew |exact(hI.out.drewN _).1)).mono ?_;rintro e W ⟨rfl,hW⟩;replace hI:=Hd (hI.out.stay (by first|exact hW |exact(below_drewN bR _).trans hW));obtain⟨y0,_⟩:=hI.out.cells;clear hW)))
     all_goals(go_wp2;all_goals(go_meet;exact⟨rfl,hI.out⟩))
    case rest=>
     clear hI0 y0 y1 a0;obtain⟨rfl,hI⟩:=hcut;replace hI:=Hd hI;go_wp2;go_ret;exact⟨rtB hfin.out.symm,hI.out.1⟩
   ·have hp2:=Hd (all_next hy hp.out (by simp[←hai,ha]));have fa:(ai== -1)=false:=by rw[xV];exact ha
    replace ha:=Hd ha;replace hai:=Hd hai;replace hy:=Hd hy;have hI0:=Hd hI;replace hI:=Hd hI;go_upto_region 4 with fail
    go_cut [22] (fun s7 wx=>s7=.bool false∧HB l A c ⟨neg,tys,v,lo,hi⟩ (.slice (some ⟨g,off,none⟩) tys.length c2) w wx)
    case first=>
     go_region_law ((go_simp;first
      |(go_at_call 109;refine(k1'.out _ (by first|exact hI.out.1 |exact hI.out.1.drew |exact(hI.out.drewN _).1)).mono ?_;rintro e W ⟨rfl,hW⟩;replace hI:=Hd (hI.out.stay (by first|exact hW |exact(below_drewN bR _).trans hW));obtain⟨y0,_⟩:=hI.out.cells;clear hW)
      |(go_at_call 156;refine(k2'.out _ (by first|exact hI.out.1 |exact hI.out.1.drew |exact(hI.out.drewN _).1)).mono ?_;rintro e W ⟨rfl,hW⟩;replace hI:=Hd (hI.out.stay (by first|exact hW |exact(below_drewN bR _).trans hW));obtain⟨y0,_⟩:=hI.out.cells;clear hW)))
     all_goals(go_wp2;all_goals(go_meet;exact⟨rfl,hI.out⟩))
    case rest=>
     clear hI0 y0 y1 a0;obtain⟨rfl,hI⟩:=hcut;replace hI:=Hd hI;go_wp2;go_roundw
     case rel=>exact⟨j+1,oQ,gQ,hI.out,hp2⟩
     case measure=>exact mQ
  ·have g1:¬(j:Int)<tys.length:=oQ;obtain rfl:j=tys.length:=oQ;have hfin:b=true:=by rw[hc.out];exact all_end hp.out
   replace hfin:=Hd hfin;obtain⟨_,_,y1,_⟩:=hI.cells;replace hI:=Hd hI;go_wp2;go_ret;exact⟨rtB hfin.out.symm,hI.out.1⟩
theorem every_k (A:Option Addr)(c:Nat)(F:Nat→Prop)(l:List Td)(x:It)(A2:Option Addr)(c2:Nat)(s:ByteArray)(hl:SzT l)(hx:x.tys.length≤1048576)(w:World)(hF:∀b,F b→b<w.heap.size)(r:Rd w F (.slice A l.length c) (.sl l.length (l.flatMap tdD)))
  (r2:Rd w F (.slice A2 x.tys.length c2) (.sl x.tys.length (x.tys.flatMap strD))):
  Calls Tryz.prog 101 #[.agg ⟨[.slice A l.length c]⟩,.agg ⟨itV x (.slice A2 x.tys.length c2)⟩,.string s] w fun e w'=>e=.returned (.bool (hasB l x.tys s))∧Bw w w':=by
 have h0:=HB.new l A c x (.slice A2 x.tys.length c2) w;have hl1:=hl.1;have k1:∀(n:ByteArray) W,Bw w W→Calls Tryz.prog 96 #[.agg ⟨[.slice A l.length c]⟩,.string n] W fun e w'=>e=.returned (.int .i64 (placeI (nmsT l) n))∧Bw W w':=fun n W hW=>rTypeOf_k A c F l n hl1 W (fun b h=>zF (hF b h) hW.size) (r.under hW hF)
 have k2:∀(n:ByteArray) W,Bw w W→Calls Tryz.prog 145 #[.agg ⟨[.slice A l.length c]⟩,.int .i64 (placeI (nmsT l) n),.string s] W fun e w'=>e=.returned (.int .i64 (attrI l (placeI (nmsT l) n) s))∧Bw W w':=fun n W hW=>rAttrOf_k A c F l _ s hl W (fun b h=>zF (hF b h) hW.size) (r.under hW hF)
 obtain⟨b,hc⟩:∃b,b=hasB l x.tys s:=⟨_,rfl⟩
 rw[←hc];unfold hasB at hc;obtain⟨neg,tys,v,lo,hi⟩:=x;simp only[itV]at h0 hc hx r2 ⊢;replace hc:=Hd hc;replace r:=Hd r;replace r2:=Hd r2;replace hF:=Hd hF;replace h0:=Hd h0;replace k1:=Hd k1;replace k2:=Hd k2;go_enter Tryz.func101,Tryz.ntmps101;go_wp2;go_loopw [7] (fun i wr=>∃j:Nat,j≤tys.length∧i=.int .i64 j∧HB l A c ⟨neg,tys,v,lo,hi⟩ (.slice A2 tys.length c2) w wr∧Hid ((tys.take j).all (fun n=>decide (attrI l (placeI (nmsT l) n) s≠ -1))=true)) (fun i _=>tys.length- (intOf i).toNat)
 case atStart=>exact⟨0,zE _,rfl,h0.out,rfl⟩
 case round=>
  clear h0;obtain⟨j,hj,rfl,hI,hp⟩:=hrel;by_cases hlt:j<tys.length
  ·obtain⟨y,hy⟩:=getx hlt;obtain⟨g,off,rfl,_,a0⟩:=str_at (r2.out.under hI.1 hF.out) hy;obtain⟨y0,_,y1,_⟩:=hI.cells;have g0:(0:Int)≤(j:Int):=oQ;have g1:(j:Int)<tys.length:=oQ;obtain⟨ai,hai⟩:∃a,a=attrI l (placeI (nmsT l) y) s:=⟨_,rfl⟩
   have k1':=k1.out y;have k2':=k2.out y;rw[←hai]at k2';obtain⟨ti,hti⟩:∃a,a=placeI (nmsT l) y:=⟨_,rfl⟩
   rw[←hti]at k1' k2';replace hti:=Hd hti;replace k1':=Hd k1';replace k2':=Hd k2';by_cases ha:ai= -1
   ·have hfin:=Hd (show b=false by rw[hc.out];exact all_fail hy (by simp[←hai,ha]));have fa:(ai== -1)=true:=by rw[beq_iff_eq];exact ha
    replace ha:=Hd ha;replace hai:=Hd hai;replace hy:=Hd hy;have hI0:=Hd hI;replace hI:=Hd hI;go_upto_region 4 with fail
    go_cut [8] (fun s7 wx=>s7=.int .i64 ti∧HB l A c ⟨neg,tys,v,lo,hi⟩ (.slice (some ⟨g,off,none⟩) tys.length c2) w wx)
    case first=>
     go_region_law ((go_simp;(go_at_call 96;refine(k1'.out _ (by first|exact hI.out.1 |exact hI.out.1.drew |exact(hI.out.drewN _).1)).mono ?_;rintro e W ⟨rfl,hW⟩;replace hI:=Hd (hI.out.stay (by first|exact hW |exact(below_drewN bR _).trans hW));obtain⟨y0,_⟩:=hI.out.cells;clear hW)))
     all_goals(go_wp2;all_goals(go_meet;exact⟨rfl,hI.out⟩))
    case rest=>
     clear hI0 y0 y1 a0;obtain⟨rfl,hI⟩:=hcut;obtain⟨y0,_⟩:=hI.cells;replace hI:=Hd hI;go_wp2_with (go_at_call 145;refine(k2'.out _ (by first|exact hI.out.1 |exact hI.out.1.drew |exact(hI.out.drewN _).1)).mono ?_;rintro e W ⟨rfl,hW⟩;replace hI:=Hd (hI.out.stay (by first|exact hW |exact(below_drewN bR _).trans hW));obtain⟨y0,_⟩:=hI.out.cells;clear hW);go_ret;exact⟨rtB hfin.out.symm,hI.out.1⟩
   ·have hp2:=Hd (all_next hy hp.out (by simp[←hai,ha]));have fa:(ai== -1)=false:=by rw[xV];exact ha
    replace ha:=Hd ha;replace hai:=Hd hai;replace hy:=Hd hy;have hI0:=Hd hI;replace hI:=Hd hI;go_upto_region 4 with fail
    go_cut [8] (fun s7 wx=>s7=.int .i64 ti∧HB l A c ⟨neg,tys,v,lo,hi⟩ (.slice (some ⟨g,off,none⟩) tys.length c2) w wx)
    case first=>
     go_region_law ((go_simp;(go_at_call 96;refine(k1'.out _ (by first|exact hI.out.1 |exact hI.out.1.drew |exact(hI.out.drewN _).1)).mono ?_;rintro e W ⟨rfl,hW⟩;replace hI:=Hd (hI.out.stay (by first|exact hW |exact(below_drewN bR _).trans hW));obtain⟨y0,_⟩:=hI.out.cells;clear hW)))
     all_goals(go_wp2;all_goals(go_meet;exact⟨rfl,hI.out⟩))
    case rest=>
     clear hI0 y0 y1 a0;obtain⟨rfl,hI⟩:=hcut;obtain⟨y0,_⟩:=hI.cells;replace hI:=Hd hI;go_wp2_with (go_at_call 145;refine(k2'.out _ (by first|exact hI.out.1 |exact hI.out.1.drew |exact(hI.out.drewN _).1)).mono ?_;rintro e W ⟨rfl,hW⟩;replace hI:=Hd (hI.out.stay (by first|exact hW |exact(below_drewN bR _).trans hW));obtain⟨y0,_⟩:=hI.out.cells;clear hW);go_roundw
     case rel=>exact⟨j+1,oQ,gQ,hI.out,hp2⟩
     case measure=>exact mQ
  ·have g1:¬(j:Int)<tys.length:=oQ;obtain rfl:j=tys.length:=oQ;have hfin:b=true:=by rw[hc.out];exact all_end hp.out
   replace hfin:=Hd hfin;obtain⟨_,_,y1,_⟩:=hI.cells;replace hI:=Hd hI;go_wp2;go_ret;exact⟨rtB hfin.out.symm,hI.out.1⟩
end ckW
end Go.Proofs.YthaabihjeomipaaGreatDoor
