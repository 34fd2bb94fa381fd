/- lex.Spell and lex.Join. -/
import Derived.Test.YthaabihjeomipaaGreatDoorQM3
import Derived.Test.YthaabihjeomipaaGreatDoorQSh
import Derived.Lib.ItoaLen
import Derived.Lib.AppendStr
import Derived.Lib.SlicesCompact
namespace Go.Proofs.YthaabihjeomipaaGreatDoor
set_option maxRecDepth 100000
set_option maxHeartbeats 16000000
open Go.RowKit Go.Deep
open Go.Lib (strCells strCells_oneCell wpList_append_own_string)
set_option linter.unusedVariables false
set_option linter.unusedSimpArgs false
def PwT (w:World):Prop:=Lib.TabIs Tryz.prog w "internal/strconv.uint64pow10" .u64 Lib.pow10Tab
theorem PwT.stay {w w':World}(h:PwT w)(hb:Bw w w'):PwT w':=by
 unfold PwT Lib.TabIs World.var? at h ⊢;cases hg:Tryz.prog.globalNamed "internal/strconv.uint64pow10" with
 |none=>rw[hg]at h;cases h
 |some g=>
  rw[hg]at h;simp only[Option.bind_some]at h ⊢;have hl:g<w.heap.size:=by
   rcases Nat.lt_or_ge g w.heap.size with h1 |h1
   ·exact h1
   ·rw[Array.getElem?_eq_none h1]at h;cases h
  rw[hb.block g hl];exact h
structure XT (w:World):Prop where
 sh:ShT w
 kw:KwIs w
 pw:PwT w
theorem XT.stay {w w':World}(h:XT w)(hb:Bw w w'):XT w':=⟨h.sh.stay hb,h.kw.stay hb,h.pw.stay hb⟩
theorem below_grown (w:World)(k:Nat)(os:Array Obj):Bw w (Sort.grow (w.drewN k) os):=
 ⟨rfl,rfl,rfl,by simp[Sort.grow],fun j hj=>by
  show(w.heap++os)[j]? =w.heap[j]?
  rw[Array.getElem?_append_left hj]⟩
def tkOk (k:Tk):Prop:=(k.kd=1∧k.tx.size≤64)∨(k.kd=2∧ -9223372036854775808≤k.n∧k.n≤9223372036854775807)∨(3≤k.kd∧k.kd≤21)∨(30≤k.kd∧k.kd≤56)
theorem itoaB_size (n:Int)(h0: -9223372036854775808≤n)(h1:n≤9223372036854775807):(itoaB n).size≤21:=by
 have:=Lib.itoa_length_le n h0 h1;show(Lib.itoa n).toArray.size≤21
 rw[List.size_toArray];exact this
theorem spl_size:∀x∈spl,x.size≤2:=dQ
theorem kwds_size:∀x∈kwds,x.size≤64:=dQ
theorem spT_size {k:Tk}(h:tkOk k):(spT k).size≤64:=by
 unfold spT;rcases h with⟨h1,h2⟩|⟨h1,h2,h3⟩|⟨h1,h2⟩|⟨h1,h2⟩
 ·rw[if_pos h1];exact h2
 ·rw[if_neg oQ,if_pos h1];have:=itoaB_size k.n h2 h3;omega
 ·rw[if_neg oQ,if_neg oQ,if_pos ⟨h1,h2⟩];obtain⟨x,hx⟩:∃x,spl[k.kd.toNat]? =some x:=⟨_,zI (by show k.kd.toNat<22;omega)⟩
  rw[hx];have:=spl_size x (zA hx);show x.size≤64;omega
 ·rw[if_neg oQ,if_neg oQ,if_neg oQ];obtain⟨x,hx,hm⟩:=kwds_get (i:=(k.kd-30).toNat) oQ;rw[hx];exact kwds_size x hm
def StP (s:ByteArray)(w:World)(e:Ending)(w':World):Prop:=e=.returned (.string s)∧Bw w w'
theorem jn_take {l:List Tk}{j:Nat}{k:Tk}(h:l[j]? =some k):jn ((l.take (j+1)).map spT)=if j=0 then spT k else jn ((l.take j).map spT)++spB++spT k:=by
 rw[zJ,h,xR];show jn ((l.take j).map spT++[spT k])=_
 by_cases c:j=0
 ·subst c;rw[if_pos rfl,List.take_zero];rfl
 ·rw[if_neg c];obtain⟨x,r,e⟩:∃x r,(l.take j).map spT=x::r:=by
   cases hl:(l.take j).map spT with
   |nil=>
    have h1:(l.take j).length=0:=(by simpa using congrArg List.length hl);have h2:=(zC.1 h).1;rw[zO]at h1;omega
   |cons x r=>exact⟨x,r,rfl⟩
  rw[e];exact jn_snoc x (spT k) r
theorem jn_size {l:List Tk}(h:∀k∈l,tkOk k):∀j,(jn ((l.take j).map spT)).size≤65*j:=by
 intro j;induction j with
 |zero=>exact nR
 |succ j ih=>
  by_cases hj:j<l.length
  ·obtain⟨k,hk⟩:=getx hj;have hs:=spT_size (h k (zA hk));rw[jn_take hk];split
   ·omega
   ·rw[ByteArray.size_append,ByteArray.size_append];have:spB.size=1:=rfl;omega
  ·have e:l.take (j+1)=l.take j:=by rw[xH oQ,xH oQ]
   rw[e];omega
theorem elU8:ElT Tryz.prog 98 5 1 1:=.of Tryz.underlying98 kQ oQ
def BR (w:World)(B:Nat)(v:Value)(s:ByteArray):Prop:=w.ownsRow B 5 1 v s.size (strCells s)
theorem strCells_app (a b:ByteArray):strCells (a++b)=strCells a++strCells b:=by simp[strCells]
theorem BR.nil (w:World)(B:Nat):BR w B (.slice none 0 0) emp:=World.ownsRow_nil w B _ 1
theorem BR.ol {w:World}{B:Nat}{v:Value}{s:ByteArray}(h:BR w B v s):OL w B NoF 5 1 v s.size ((strCells s).map D.v):=
 ⟨_,h,sJ,fun k d hd=>by
  rw[zG]at hd;obtain⟨u,hu,rfl⟩:=xG.1 hd;exact⟨u,hu,.v _ (strCells_oneCell s u (zA hu))⟩⟩
theorem BR.of {w:World}{B:Nat}{v:Value}{s:ByteArray}(h:OL w B NoF 5 1 v s.size ((strCells s).map D.v)):BR w B v s:=by
 obtain⟨cells,h1,h2,h3⟩:=h;have e:cells=strCells s:=by
  refine List.ext_getElem? fun k=>?_
  cases hk:(strCells s)[k]? with
  |none=>
   rw[List.getElem?_eq_none_iff]at hk ⊢;rw[xC]at h2;omega
  |some u=>
   obtain⟨u',hu',hr⟩:=h3 k (.v u) (by rw[zG,hk];rfl);rw[hu',hr.v_inv]
 subst e;exact h1
theorem BR.stay {w w':World}{B:Nat}{v:Value}{s:ByteArray}(h:BR w B v s)(hb:Bw w w'):BR w' B v s:=BR.of (h.ol.stay hb)
theorem BR.app1 {w:World}{B:Nat}{v:Value}{s:ByteArray}(h:OL w B NoF 5 1 v (s.size+1) ((strCells s).map D.v++[.v (.int .u8 32)])):BR w B v (s++spB):=by
 refine BR.of ?_;rw[ByteArray.size_append,strCells_app,xR];exact h
theorem wpList_appS {w:World}{ops:Array Oper}{rest:List Oper}{o:Oper}{a:Act}{Q:Exit→Act→World→Prop}(hgd:o.guard=none)(sl x:Operand)(ho:o.op=.call {callee:=.builtin .append,args:=#[sl,x],argTypes:=#[98,9]})
  {B:Nat}{v:Value}{s1 s s2:ByteArray}(he:s1++s=s2)(h:BR w B v s1)(hs:a.eval sl=v)(hx:a.eval x=.string s)(hb:s1.size+s.size≤140737488355328)(hB:B≤w.heap.size)
  (k:∀v' w',BR w' B v' s2→w.grownBy w' v.ownBlock→wpList Tryz.prog ops Q rest (a.put o.dst v') w'):wpList Tryz.prog ops Q (o::rest) a w:=by
 subst he;obtain⟨i,hi,hz,h1,h2⟩:∃i:TypeInfo,Tryz.prog.info? 5=some i∧i.zero=some (.int .u8 0)∧i.size=1∧i.bytes=1:=by
  have hk:(Tryz.prog.info? 5).map (fun i=>(i.zero,i.size,i.bytes))=some (some (.int .u8 0),1,1):=kQ;cases hi:Tryz.prog.info? 5 with
  |none=>rw[hi]at hk;cases hk
  |some i=>
   rw[hi]at hk;simp only[Option.map_some,Option.some.injEq,Prod.mk.injEq]at hk;exact⟨i,rfl,hk.1,hk.2.1,hk.2.2⟩
 refine wpList_append_own_string w hgd sl x _ _ ho B _ i Tryz.underlying98 Tryz.underlying9 hi hz h1 h2 v _ _ hs h s hx (by unfold maxLen;omega) hb hB fun v' w' a1 a2 _=>k v' w' ?_ a2
 unfold BR;rw[ByteArray.size_append,strCells_app];exact a1
theorem BR.conv {w:World}{B n c:Nat}{A:Option Addr}{s:ByteArray}(h:BR w B (.slice A n c) s):(convert 98 9 (.slice A n c)).run Tryz.prog w=.ok (.string s) w:=by
 obtain⟨h1,h2⟩:=h;rcases h2 with⟨e,h0⟩|⟨g,cap,cur,e,hB,hg,hnc,hm,hs,ht⟩
 ·cases e
  have e:s=emp:=by
   have:s.data.size=0:=h0;exact ByteArray.ext (Array.size_eq_zero_iff.1 this)
  subst e;exact run_convert_bytes_nil w _ _ Tryz.underlying98 Tryz.underlying5 _ _ _ Tryz.underlying9
 ·cases e
  have hl:s.data.toList.length=s.size:=by rw[Array.length_toList];rfl
  have hr:=run_convert_bytes_back (P:=Tryz.prog) w 98 9 5 ⟨g,0,none⟩ c s.data.toList Tryz.underlying98 Tryz.underlying5 Tryz.underlying9 (fun j hj=>by
   rw[addr_add0];have hc:(cur.toList.take (s.size*1))[j]? =(strCells s)[j]? :=by rw[ht]
   rw[zZ,if_pos oQ]at hc;have hx:(strCells s)[j]? =some (.int .u8 (s.data.toList[j].toNat:Int)):=by simp[strCells,zI hj]
   rw[hx]at hc;rw[cell_of_row _ _ _ cur 5 (0,0) hg,←Array.getElem?_toList];exact hc)
  rw[hl]at hr;simpa using hr
namespace shW
open nmW
theorem spell_k (k:Tk)(hk:tkOk k)(w:World)(hT:XT w):Calls Tryz.prog 182 #[.agg ⟨tkV k⟩] w (StP (spT k) w):=by
 have hB1:Bw w (w.alloc (.cells ⟨tkV k⟩ 201)):=bA;obtain⟨kd,tx,n⟩:=k;simp only[tkV]at hB1 ⊢;obtain⟨R,hR⟩:∃R,R=spT ⟨kd,tx,n⟩:=⟨_,rfl⟩
 rw[←hR];unfold spT at hR;simp only at hR;have hT1:=hT.stay hB1;rcases hk with⟨h1,h2⟩|⟨h1,h2,h3⟩|⟨h1,h2⟩|⟨h1,h2⟩
 ·simp only at h1;subst h1;rw[if_pos rfl]at hR;subst hR;replace hB1:=Hd hB1;clear hT hT1;go_enter Tryz.func182,Tryz.ntmps182;go_wp2;go_ret;exact⟨rfl,hB1.out⟩
 ·simp only at h1 h2 h3;subst h1;rw[if_neg oQ,if_pos rfl]at hR;have kf:=Tryz.strconv_FormatInt_10 n h2 h3 _ hT1.pw;have e:(.string ⟨(Lib.itoa n).toArray⟩:Value)=.string R:=by rw[hR];rfl
  rw[e]at kf;replace kf:=Hd kf;replace hB1:=Hd hB1;clear hT hT1 hR e h2 h3;go_enter Tryz.func182,Tryz.ntmps182;go_wp2_with (go_at_call 32;refine kf.out.mono ?_;rintro e W ⟨rfl,q,os,hW⟩;have hB2:=Hd (hB1.out.and1 nR (hW▸below_grown _ q os));clear hW);go_ret;exact⟨rfl,hB2.out⟩
 ·simp only at h1 h2;obtain⟨i,rfl⟩:∃i:Nat,kd=(i:Int):=⟨kd.toNat,oQ⟩
  rw[if_neg oQ,if_neg oQ,if_pos ⟨h1,h2⟩,Int.toNat_natCast]at hR;obtain⟨x,hx⟩:∃x,spl[i]? =some x:=⟨_,zI (by show i<22;omega)⟩
  rw[hx]at hR;subst hR;have y:=hT1.sh.sp.2 i (.string R) (by rw[zG,hx];rfl);have hgl:=hT1.sh.sp.1;have hgl2:=hT.sh.sp.1;have g0:(0:Int)≤(i:Int):=oQ;have g1:(i:Int)<22:=oQ;have n1:((i:Int)==1)=false:=beqF oQ;have n2:((i:Int)==2)=false:=beqF oQ;have n3:¬(i:Int)=1:=oQ;have n4:¬(i:Int)=2:=oQ;have n5:¬i=1:=oQ;have n6:¬i=2:=oQ;have hw:IntKind.i64.wrap ((i:Int) -30)=(i:Int) -30:=by rw[xI]<;>omega
  replace hB1:=Hd hB1;clear hT hT1 hx;go_enter Tryz.func182,Tryz.ntmps182;go_wp2;go_ret;exact⟨rfl,hB1.out⟩
 ·simp only at h1 h2;obtain⟨i,rfl⟩:∃i:Nat,kd=(i:Int)+30:=⟨(kd-30).toNat,oQ⟩
  rw[if_neg oQ,if_neg oQ,if_neg oQ,show((i:Int)+30-30).toNat=i by omega]at hR;obtain⟨x,hx,_⟩:=kwds_get (i:=i) oQ;rw[hx]at hR;subst hR;have y:=hT1.kw i _ hx;have hgl:=hT1.kw.lt;have hgl2:=hT.kw.lt;have g0:(0:Int)≤(i:Int):=oQ;have g1:(i:Int)<27:=oQ;have n1:((i:Int)+30==1)=false:=beqF oQ;have n2:((i:Int)+30==2)=false:=beqF oQ;have n3:¬(i:Int)+30=1:=oQ;have n4:¬(i:Int)+30=2:=oQ;have n5:¬(i:Int)+30≤21:=oQ;have n6:(3:Int)≤(i:Int)+30:=oQ;have hw:IntKind.i64.wrap ((i:Int)+30-30)=(i:Int):=by rw[xI]<;>omega
  replace hB1:=Hd hB1;clear hT hT1 hx;go_enter Tryz.func182,Tryz.ntmps182;go_wp2;go_ret;exact⟨rfl,hB1.out⟩
theorem tkc {w:World}{F:Nat→Prop}{A:Option Addr}{c i:Nat}{l:List Tk}{k:Tk}(r:Rd w F (.slice A l.length c) (.sl l.length (l.flatMap tkD)))(hp:l[i]? =some k):∃b off,A=some ⟨b,off,none⟩∧F b∧
  w.cell? ⟨b,off+i*4,none⟩=some (.int .i64 k.kd)∧w.cell? ⟨b,off+i*4+1,none⟩=some (.string k.tx)∧w.cell? ⟨b,off+i*4+2,none⟩=some (.int .i64 k.n)∧w.cell? ⟨b,off+i*4+3,none⟩=some (.int .i64 0):=by
 obtain⟨b,off,e,hF,h1,_⟩:=r.rowv (f:=tkD) (m:=4) (fun _=>rfl) hp oQ;exact⟨b,off,e,hF,by simpa using h1 0 _ rfl,h1 1 _ rfl,h1 2 _ rfl,h1 3 _ rfl⟩
def JnRel (l:List Tk)(w:World)(v i:Value)(wr:World):Prop:=∃j:Nat,j≤l.length∧i=.int .i64 j∧BR wr w.heap.size v (jn ((l.take j).map spT))∧Bw w wr
theorem join_k (A:Option Addr)(c:Nat)(F:Nat→Prop)(l:List Tk)(w:World)(hl:l.length≤1048576)(hk:∀k∈l,tkOk k)(hT:XT w)(hF:∀b,F b→b<w.heap.size)(r:Rd w F (.slice A l.length c) (.sl l.length (l.flatMap tkD))):
  Calls Tryz.prog 166 #[.slice A l.length c] w (StP (jn (l.map spT)) w):=by
 have h0:JnRel l w (.slice none 0 0) (.int .i64 0) w:=⟨0,zE _,rfl,BR.nil ..,bR⟩;have ksp:∀k∈l,∀W,Bw w W→_:=fun k h W hW=>spell_k k (hk k h) W (hT.stay hW)
 replace h0:=Hd h0;replace r:=Hd r;replace hF:=Hd hF;replace ksp:=Hd ksp;replace hk:=Hd hk;clear hT;go_enter Tryz.func166,Tryz.ntmps166;go_wp2;go_loopw [3,8] (fun v i wr=>JnRel l w v i wr) (fun _ i _=>l.length- (intOf i).toNat)
 case atStart=>exact h0.out
 case round=>
  clear h0;obtain⟨j,hj,rfl,hO,hB⟩:=hrel;obtain⟨A1,c1,rfl⟩:=hO.ol.form;by_cases hlt:j<l.length
  ·obtain⟨k,hk1⟩:=getx hlt;obtain⟨b,off,rfl,_,z0,z1,z2,z3⟩:=tkc (r.out.under hB hF.out) hk1;have hkm:=zA hk1;have hss:=spT_size (hk.out k hkm);have hjs:=jn_size hk.out j;have hnx:=jn_take hk1;have hsz:=hB.size;have g0:(0:Int)≤(j:Int):=oQ;have g1:(j:Int)<l.length:=oQ;have hB1:Bw w (wr.alloc (.cells ⟨tkV k⟩ 201)):=hB.alloc hsz _;have hz:Blk (wr.alloc (.cells ⟨tkV k⟩ 201)) wr.heap.size 201 (tkV k):=Blk.new _ _ _;have hO1:=hO.stay (bX (.cells ⟨tkV k⟩ 201));have ks1:=Hd (fun W=>ksp.out k hkm W);obtain⟨T,hT⟩:∃T,T=spT k:=⟨_,rfl⟩
   rw[←hT]at ks1 hnx hss;obtain⟨P,hP⟩:∃P,P=jn ((l.take j).map spT):=⟨_,rfl⟩
   rw[←hP]at hO1 hnx hjs ⊢;obtain⟨N,hN⟩:∃N,N=jn ((l.take (j+1)).map spT):=⟨_,rfl⟩
   rw[←hN]at hnx;obtain⟨kd,tx,n⟩:=k;simp only[tkV]at ks1 hz hO1 hB1;simp only at z0 z1 z2 z3;replace hN:=Hd hN;replace hP:=Hd hP;replace hT:=Hd hT;replace hB1:=Hd hB1;have hsz1:=hB1.out.size;clear hk1 hkm hO;by_cases c0:j=0
   ·rw[if_pos c0]at hnx;have hP0:P++T=N:=by rw[hnx,hP.out,c0];exact ByteArray.empty_append
    have g2:¬(0:Int)<(j:Int):=oQ;replace hO1:=Hd hO1;replace hB:=Hd hB;replace hnx:=Hd hnx;replace hP0:=Hd hP0;clear hz c0;go_wp2_with (first
     |(go_at_call 182;refine(ks1.out _ hB1.out).mono ?_;rintro e W2 ⟨rfl,hW⟩;have hO2:=Hd (hO1.out.stay hW);have hB2:=Hd (hB1.out.and1 nR hW);clear hW)
     |(at_builtin;refine wpList_appS rfl (.tmp 18) (.tmp 20) rfl hP0.out hO2.out rfl rfl oQ hB2.out.size ?_;intro v' w1 hO3 hg3;have hB3:=Hd (hB2.out.grown hg3 hB2.out.size (fun q hq=>(hO2.out.ol.lt q hq).1));obtain⟨A3,c3,rfl⟩:=hO3.ol.form;replace hO3:=Hd hO3;clear hg3))
    go_roundw
    case rel=>exact⟨j+1,oQ,gQ,by rw[←hN.out];exact hO3.out,hB3.out⟩
    case measure=>exact mQ
   ·rw[if_neg c0]at hnx;obtain⟨P2,hP2⟩:∃P2,P2=P++spB:=⟨_,rfl⟩
    replace hnx:P2++T=N:=by rw[hnx,hP2]
    have g2:(0:Int)<(j:Int):=oQ;have hO2:=hO1.ol.alloc (.cells ⟨[.int .u8 32]⟩ 5);have hB2:Bw w ((wr.alloc (.cells ⟨[.int .i64 kd,.string tx,.int .i64 n,.int .i64 0]⟩ 201)).alloc (.cells ⟨[.int .u8 32]⟩ 5)):=hB1.out.alloc hsz1 _;have hz2:=hz.alloc (.cells ⟨[.int .u8 32]⟩ 5);have hsr:=Src.at1 (w:=wr.alloc (.cells ⟨[.int .i64 kd,.string tx,.int .i64 n,.int .i64 0]⟩ 201)) (t:=5) (g:=wr.heap.size+1) sJ (show RdL _ (fun b=>NoF b∧some b≠(Value.slice A1 P.size c1).ownBlock) [.int .u8 32] [.v (.int .u8 32)]from⟨.v _ rfl,trivial⟩);have hup:∀v' w1,OL w1 w.heap.size NoF 5 1 v' (P.size+1) ((strCells P).map D.v++[.v (.int .u8 32)])→((wr.alloc (.cells ⟨[.int .i64 kd,.string tx,.int .i64 n,.int .i64 0]⟩ 201)).alloc (.cells ⟨[.int .u8 32]⟩ 5)).grownBy w1 (Value.slice A1 P.size c1).ownBlock→BR w1 w.heap.size v' P2∧Bw w w1∧Blk w1 wr.heap.size 201 [.int .i64 kd,.string tx,.int .i64 n,.int .i64 0]:=fun v' w1 h1 h2=>
     ⟨hP2▸BR.app1 h1,hB2.grown h2 hB2.size (fun q hq=>(hO2.lt q hq).1),hz2.grown h2 (fun e=>hO2.neBlk hz2 dQ e.symm)⟩
    have hPs:=Hd (show P2.size=P.size+1 by rw[hP2,ByteArray.size_append];rfl);replace hP2:=Hd hP2;have hb2:=hB2.size;replace hO1:=Hd hO1;replace hO2:=Hd hO2;replace hB:=Hd hB;replace hB2:=Hd hB2;replace hsr:=Hd hsr;replace hup:=Hd hup;replace hnx:=Hd hnx;clear hz hz2 c0;go_upto_region 7 with(at_builtin;refine wpa rfl (.tmp 15) (.tmp 16) _ rfl (m:=1) (news:=[.v (.int .u8 32)]) elU8 hO2.out rfl rfl hsr.out rfl oQ oQ hb2 ?_;intro v' w1 hO3 hg3 _;obtain⟨h3,h4,h5⟩:=hup.out _ _ hO3 hg3;clear hO3 hg3;obtain⟨A3,c3,rfl⟩:=h3.ol.form;replace h3:=Hd h3;replace h4:=Hd h4;replace h5:=Hd h5)
    have y0:=h5.out.cell 0;have y1:=h5.out.cell 1;have y2:=h5.out.cell 2;have y3:=h5.out.cell 3;simp only[zY,xA]at y0 y1 y2 y3;go_wp2_with (first
     |(go_at_call 182;refine(ks1.out _ h4.out).mono ?_;rintro e W2 ⟨rfl,hW⟩;have hO3:=Hd (h3.out.stay hW);have hB3:=Hd (h4.out.and1 nR hW);clear hW y0 y1 y2 y3)
     |(at_builtin;refine wpList_appS rfl (.tmp 18) (.tmp 20) rfl hnx.out hO3.out rfl rfl (by rw[hPs.out];omega) hB3.out.size ?_;intro v' w1 hO4 hg4;have hB4:=Hd (hB3.out.grown hg4 hB3.out.size (fun q hq=>(hO3.out.ol.lt q hq).1));obtain⟨A4,c4,rfl⟩:=hO4.ol.form;replace hO4:=Hd hO4;clear hg4))
    go_roundw
    case rel=>exact⟨j+1,oQ,gQ,by rw[←hN.out];exact hO4.out,hB4.out⟩
    case measure=>exact mQ
  ·have g1:¬(j:Int)<l.length:=oQ;have e:l.take j=l:=xH oQ;rw[e]at hO ⊢;have hcv:=hO.conv;replace hO:=Hd hO;generalize jn (l.map spT)=S at*;go_wp2;go_ret;exact⟨rfl,hB⟩
theorem text_k (g:Nat)(v:Value)(L:List Tk)(o d:Int)(w0 w:World)(h:WR w0.heap.size g w v L o d)(hk:L.length≤400→∀k∈L,tkOk k)(hT:XT w):
  Calls Tryz.prog 123 #[.pointer (some ⟨g,0,none⟩)] w fun e w'=>e=.returned (.tuple #[.string (if 400<L.length then emp else if 32<d then emp else jn (L.map spT)),.int .i64 (if 400<L.length then 51 else if 32<d then 41 else 0)])∧Bw w w':=by
 have kf:=full_k _ g v L o d w h;by_cases c1:400<L.length
 ·rw[zW c1]at kf;rw[if_pos c1,if_pos c1];replace kf:=Hd kf;clear h hT hk;go_enter Tryz.func123,Tryz.ntmps123;go_wp2_with (go_at_call 159;refine kf.out.mono ?_;rintro e W ⟨rfl,hx⟩;subst W);refine bodyPost_ret (results_tmp2 rfl _ _ _) rfl ?_;exact⟨rfl,bR⟩
 rw[zV c1]at kf;rw[if_neg c1,if_neg c1];have x0:=h.bx.cell 0;have x2:=h.bx.cell 2;simp only[zY,xA]at x0 x2;by_cases c2:32<d
 ·rw[if_pos c2,if_pos c2];replace kf:=Hd kf;clear h hT hk;go_enter Tryz.func123,Tryz.ntmps123;go_wp2_with (go_at_call 159;refine kf.out.mono ?_;rintro e W ⟨rfl,hx⟩;subst W);refine bodyPost_ret (results_tmp2 rfl _ _ _) rfl ?_;exact⟨rfl,bR⟩
 rw[if_neg c2,if_neg c2];obtain⟨A,c,rfl⟩:=h.ol.form;have kj:=join_k A c (fun b=>b<w.heap.size) L w oQ (hk oQ) hT (fun b h=>h) (h.ol.rd (fun b h _=>h.elim) (fun b _ h=>h));replace kf:=Hd kf;replace kj:=Hd kj;clear h hT hk;go_enter Tryz.func123,Tryz.ntmps123;go_wp2_with (first
  |(go_at_call 159;refine kf.out.mono ?_;rintro e W ⟨rfl,hx⟩;subst W)
  |(go_at_call 166;refine kj.out.mono ?_;rintro e W2 ⟨rfl,hW⟩;replace hW:=Hd hW))
 refine bodyPost_ret (results_tmp2 rfl _ _ _) rfl ?_;exact⟨rfl,hW.out⟩
end shW
def ltB (a b:ByteArray):Prop:=a.data.toList<b.data.toList
instance (a b:ByteArray):Decidable (ltB a b):=inferInstanceAs (Decidable (a.data.toList<b.data.toList))
theorem ba_ext {a b:ByteArray}(h:a.data.toList=b.data.toList):a=b:=by
 cases a;cases b;simpa[Array.toList_inj] using h
theorem ltB_irr (a:ByteArray):¬ltB a a:=List.lt_irrefl _
theorem ltB_tr {a b c:ByteArray}(h:ltB a b)(h2:ltB b c):ltB a c:=List.lt_trans h h2
theorem ltB_tot {a b:ByteArray}(h:¬ltB a b)(hn:a≠b):ltB b a:=by
 have h1:b.data.toList≤a.data.toList:=List.not_lt.1 h;rcases Classical.em (ltB b a)with h2 |h2
 ·exact h2
 ·exact absurd (ba_ext (List.le_antisymm (List.not_lt.1 h2) h1)) hn
def SS (l:List ByteArray):Prop:=l.Pairwise ltB
theorem SS.uniq:∀{l m:List ByteArray},SS l→SS m→(∀x,x∈l↔x∈m)→l=m
 | [],[],_,_,_=>rfl
 | [],y::s,_,_,h=>absurd ((h y).2 (xS ..)) sJ
 |x::r,[],_,_,h=>absurd ((h x).1 (xS ..)) sJ
 |x::r,y::s,hl,hm,h=>by
  have hl1:=List.pairwise_cons.1 hl;have hm1:=List.pairwise_cons.1 hm;have e:x=y:=by
   rcases List.mem_cons.1 ((h x).1 (xS ..))with e |e
   ·exact e
   ·rcases List.mem_cons.1 ((h y).2 (xS ..))with e2 |e2
    ·exact e2.symm
    ·exact absurd (ltB_tr (hm1.1 x e) (hl1.1 y e2)) (ltB_irr _)
  subst e;rw[SS.uniq hl1.2 hm1.2 fun z=>⟨fun hz=>by
   rcases List.mem_cons.1 ((h z).1 (xU _ hz))with e |e
   ·subst e;exact absurd (hl1.1 z hz) (ltB_irr _)
   ·exact e,fun hz=>by
   rcases List.mem_cons.1 ((h z).2 (xU _ hz))with e |e
   ·subst e;exact absurd (hm1.1 z hz) (ltB_irr _)
   ·exact e⟩]
theorem lt_app (p:List UInt8):∀{a b:List UInt8},a<b→p++a<p++b:=by
 induction p with
 |nil=>intro a b h;exact h
 |cons x r ih=>intro a b h;exact List.Lex.cons (ih h)
theorem SS.pre {l:List ByteArray}(h:SS l)(p:ByteArray):SS (l.map (p++ ·)):=by
 unfold SS at*;rw[List.pairwise_map];refine h.imp fun {a b} hab=>?_
 unfold ltB at*;rw[ByteArray.data_append,ByteArray.data_append,Array.toList_append,Array.toList_append];exact lt_app _ hab
theorem compact_ss (ss:List (List UInt8))(h:ss.Pairwise (· ≤ ·)):(Lib.compact ss).Pairwise (· < ·)∧∀x,x∈Lib.compact ss↔x∈ss:=by
 have hd:∀i (hi:i<ss.length),ss.toArray[i]! =ss[i]:=fun i hi=>by simp[hi]
 have key:∀m,m≤ss.length→(Lib.compactUpTo ss.toArray m).Pairwise (· < ·)∧(∀x,x∈Lib.compactUpTo ss.toArray m↔x∈ss.take m):=by
  intro m;induction m with
  |zero=>intro _;exact⟨by simp[Lib.compactUpTo],by simp[Lib.compactUpTo]⟩
  |succ m ih=>
   intro hm;obtain⟨h1,h2⟩:=ih oQ;have hlt:m<ss.length:=oQ;have ht:ss.take (m+1)=ss.take m++[ss[m]]:=by rw[zJ,zI hlt];rfl
   have hge:∀x∈ss.take m,x≤ss[m]:=fun x hx=>by
    obtain⟨i,hi⟩:=zN hx;have hil:=(zC.1 hi).1;rw[zO]at hil;rw[zZ,if_pos oQ]at hi;obtain⟨hi2,rfl⟩:=zC.1 hi;exact List.pairwise_iff_getElem.1 h i m hi2 hlt oQ
   rw[Lib.compactUpTo_succ,hd m hlt,ht];by_cases hk:Lib.keeps ss.toArray m=true
   ·rw[if_pos hk];refine⟨List.pairwise_append.2 ⟨h1,List.pairwise_singleton _ _,fun x hx y hy=>?_⟩,fun x=>by rw[zM,zM,h2]⟩;obtain rfl:=xB.1 hy;have hx':=(h2 x).1 hx;have hle:=hge x hx';rcases Classical.em (x<ss[m])with h3 |h3
    ·exact h3
    ·exfalso;have e:x=ss[m]:=List.le_antisymm hle (List.not_lt.1 h3);have hm0:0<m:=by
      rcases Nat.eq_zero_or_pos m with h0 |h0
      ·subst h0;simp at hx'
      ·exact h0
     have hp:ss[m-1]<ss[m]:=by
      have hne:ss.toArray[m]! ≠ss.toArray[m-1]! :=by
       intro hne;rw[Lib.keeps_neg hm0 hne]at hk;cases hk
      rw[hd m hlt,hd (m-1) oQ]at hne;have hle2:ss[m-1]≤ss[m]:=List.pairwise_iff_getElem.1 h (m-1) m oQ hlt oQ;rcases Classical.em (ss[m-1]<ss[m])with h4 |h4
      ·exact h4
      ·exact absurd (List.le_antisymm (List.not_lt.1 h4) hle2) hne
     obtain⟨i,hi⟩:=zN hx';have hil:=(zC.1 hi).1;rw[zO]at hil;rw[zZ,if_pos oQ]at hi;obtain⟨hi2,hi3⟩:=zC.1 hi;have hle3:ss[i]≤ss[m-1]:=by
      rcases Nat.lt_or_ge i (m-1)with h5 |h5
      ·exact List.pairwise_iff_getElem.1 h i (m-1) hi2 oQ h5
      ·have:i=m-1:=oQ;subst this;exact List.le_refl _
     rw[hi3,e]at hle3;exact absurd hp (List.not_lt.2 hle3)
   ·rw[if_neg hk,zT];refine⟨h1,fun x=>?_⟩;rw[h2,zM,xB];refine⟨.inl,fun hx=>hx.elim id fun e=>?_⟩;have hm0:0<m:=by
     rcases Nat.eq_zero_or_pos m with h0 |h0
     ·subst h0;exact absurd (Lib.keeps_lt_one ss.toArray 0 oQ) hk
     ·exact h0
    have he:ss.toArray[m]! =ss.toArray[m-1]! :=by
     rcases Classical.em (ss.toArray[m]! =ss.toArray[m-1]!)with h3 |h3
     ·exact h3
     ·exact absurd (Lib.keeps_pos h3) hk
    rw[hd m hlt,hd (m-1) oQ]at he;rw[e,he];have:(ss.take m)[m-1]? =some ss[m-1]:=by rw[zZ,if_pos oQ,zI oQ]
    exact zA this
 obtain⟨h1,h2⟩:=key ss.length nR;refine⟨h1,fun x=>?_⟩;have:=h2 x;rwa [zL]at this
def ofB (l:List ByteArray):List (List UInt8):=l.map fun x=>x.data.toList
def toB (l:List (List UInt8)):List ByteArray:=l.map fun x=>⟨x.toArray⟩
theorem toB_ofB (l:List ByteArray):toB (ofB l)=l:=by
 unfold toB ofB;rw[List.map_map];conv=>rhs;rw[←List.map_id l]
 exact List.map_congr_left fun x _=>rfl
theorem mem_toB {l:List (List UInt8)}{x:ByteArray}:x∈toB l↔x.data.toList∈l:=by
 unfold toB;rw[List.mem_map];constructor
 ·rintro⟨y,hy,rfl⟩;simpa using hy
 ·intro h;exact⟨_,h,rfl⟩
theorem mem_ofB {l:List ByteArray}{x:ByteArray}:x.data.toList∈ofB l↔x∈l:=by
 unfold ofB;rw[List.mem_map];constructor
 ·rintro⟨y,hy,e⟩;rw[←ba_ext e];exact hy
 ·intro h;exact⟨_,h,rfl⟩
def leS (x y:List UInt8):Bool:=decide (x≤y)
def srt (l:List ByteArray):List ByteArray:=toB (Lib.compact ((ofB l).mergeSort leS))
theorem sorted_ms (l:List (List UInt8)):(l.mergeSort leS).Pairwise (· ≤ ·):=by
 have h:=List.pairwise_mergeSort (le:=leS) (fun a b c h1 h2=>by unfold leS at*;exact zW (List.le_trans (of_decide_eq_true h1) (of_decide_eq_true h2)))
  (fun a b=>by unfold leS;rcases List.le_total a b with h |h<;>simp[h]) l
 exact h.imp fun h=>of_decide_eq_true h
theorem srt_ss (l:List ByteArray):SS (srt l):=by
 have h:=(compact_ss _ (sorted_ms (ofB l))).1;unfold SS srt toB;rw[List.pairwise_map];exact h.imp fun {a b} hab=>by simpa[ltB] using hab
theorem mem_srt {l:List ByteArray}{x:ByteArray}:x∈srt l↔x∈l:=by
 unfold srt;rw[mem_toB,(compact_ss _ (sorted_ms (ofB l))).2,List.mem_mergeSort,mem_ofB]
theorem srt_uniq {l m:List ByteArray}(h:SS m)(hm:∀x,x∈m↔x∈l):m=srt l:=SS.uniq h (srt_ss l) fun x=>(hm x).trans mem_srt.symm
theorem srt_nil:srt []=[]:=(srt_uniq List.Pairwise.nil fun _=>Iff.rfl).symm
def usesL (q:Qy)(t:List Nd)(P:Nd→Bool):List Nat:=(List.range q.items.length).filter fun i=>t.any fun x=>decide (itemI q x.v=(i:Int))&&P x
def aggs (q:Qy)(t:List Nd):List Nat:=usesL q t fun x=>aggO x.op
def prevs (q:Qy)(t:List Nd):List Nat:=usesL q t fun x=>decide (x.op=11)
theorem bares_eq (q:Qy)(t:List Nd):bares q t=usesL q t fun x=>bareO x.op:=rfl
theorem mem_uses {q:Qy}{t:List Nd}{P:Nd→Bool}{i:Nat}:i∈usesL q t P↔i<q.items.length∧∃x∈t,itemI q x.v=(i:Int)∧P x=true:=by
 unfold usesL;rw[List.mem_filter,List.mem_range,xM];simp only[xK,decide_eq_true_eq]
def negAt (q:Qy)(i:Nat):Bool:=match q.items[i]? with |some x=>x.neg |none=>false
theorem negAt_touchy {q:Qy}{i:Nat}(h:negAt q i=true):touchy q i=true:=by
 unfold negAt at h;unfold touchy;cases e:q.items[i]? with
 |none=>rw[e]at h;cases h
 |some x=>rw[e]at h;simp at h ⊢;exact .inl h
def minL (l:List Nat):Nat:=l.foldr min (l.headD 0)
def homeP (q:Qy)(t:List Nd):Int×Bool:=
 if bares q t=[]∧aggs q t=[]then(-1,false)
 else((match(bares q t).find? (negAt q)with |some i=>(i:Int)|none=>(minL (bares q t++aggs q t):Int)),decide ((bares q t).length=1)&&(decide (aggs q t=[])&&decide (prevs q t=[])))
structure Bl where
 least:Int
 neg:Int
 bare:Int
 sev:Bool
 oth:Bool
def blS (q:Qy)(s:Bl)(x:Nd):Bl:=
 if isVar x.op=false then s else
  {least:=if s.least<0∨itemI q x.v<s.least then itemI q x.v else s.least
   neg:=if bareO x.op=true∧negAt q (itemI q x.v).toNat=true then itemI q x.v else s.neg
   bare:=if bareO x.op=true then itemI q x.v else s.bare
   sev:=if bareO x.op=true∧0≤s.bare∧s.bare≠itemI q x.v then true else s.sev
   oth:=if x.op≠4 then true else s.oth}
def bl0:Bl:=⟨-1,-1,-1,false,false⟩
def blA (q:Qy)(t:List Nd):Bl:=t.foldl (blS q) bl0
def belR (q:Qy)(t:List Nd):Int×Bool:=(if 0≤(blA q t).neg then(blA q t).neg else(blA q t).least,decide (0≤(blA q t).bare)&&(!(blA q t).sev&& !(blA q t).oth))
theorem bare_var {o:Int}(h:bareO o=true):isVar o=true:=by simp[bareO]at h;simp[isVar];omega
theorem agg_var {o:Int}(h:aggO o=true):isVar o=true:=by simp[aggO]at h;simp[isVar];omega
theorem var_or {o:Int}(h:isVar o=true):bareO o=true∨aggO o=true:=by simp[isVar]at h;simp[bareO,aggO];omega
structure BlOk (q:Qy)(t:List Nd)(s:Bl):Prop where
 l0:s.least= -1→∀x∈t,isVar x.op=false
 l1:s.least= -1∨(0≤s.least∧(∃x∈t,isVar x.op=true∧itemI q x.v=s.least)∧∀x∈t,isVar x.op=true→s.least≤itemI q x.v)
 n0:s.neg= -1→∀x∈t,bareO x.op=true→negAt q (itemI q x.v).toNat=false
 n1:s.neg= -1∨(0≤s.neg∧∃x∈t,bareO x.op=true∧itemI q x.v=s.neg∧negAt q s.neg.toNat=true)
 b0:s.bare= -1→∀x∈t,bareO x.op=false
 b1:s.bare= -1∨(0≤s.bare∧∃x∈t,bareO x.op=true∧itemI q x.v=s.bare)
 v0:s.sev=false→∀x∈t,bareO x.op=true→itemI q x.v=s.bare
 v1:s.sev=true→∃x∈t,∃y∈t,bareO x.op=true∧bareO y.op=true∧itemI q x.v≠itemI q y.v
 o0:s.oth=false→∀x∈t,isVar x.op=true→x.op=4
 o1:s.oth=true→∃x∈t,isVar x.op=true∧x.op≠4
theorem BlOk.zero (q:Qy):BlOk q [] bl0:=⟨sJ,.inl rfl,sJ,.inl rfl,sJ,.inl rfl,sJ,by simp[bl0],sJ,by simp[bl0]⟩
theorem BlOk.step {q:Qy}{t:List Nd}{s:Bl}{x:Nd}(h:BlOk q t s)(hv:isVar x.op=true→0≤itemI q x.v):BlOk q (t++[x]) (blS q s x):=by
 have mem:∀{P:Nd→Prop},(∀y∈t,P y)→P x→∀y∈t++[x],P y:=fun h1 h2 y hy=>by
  rcases zM.1 hy with e |e
  ·exact h1 y e
  ·obtain rfl:=xB.1 e;exact h2
 have ml:∀y∈t,y∈t++[x]:=fun y hy=>List.mem_append_left _ hy
 have mx:x∈t++[x]:=sJ;by_cases c:isVar x.op=false
 ·have hb:bareO x.op=false:=by
   cases e:bareO x.op with
   |false=>rfl
   |true=>rw[bare_var e]at c;cases c
  have e:blS q s x=s:=by unfold blS;rw[if_pos c]
  rw[e];refine⟨fun h0=>mem (h.l0 h0) c,h.l1.imp id fun⟨a,⟨y,hy,hb⟩,d⟩=>⟨a,⟨y,ml y hy,hb⟩,mem d (by rw[c];intro h;cases h)⟩,fun h0=>mem (h.n0 h0) (by rw[hb];intro h;cases h),h.n1.imp id fun⟨a,y,hy,hr⟩=>⟨a,y,ml y hy,hr⟩,fun h0=>mem (h.b0 h0) hb,
   h.b1.imp id fun⟨a,y,hy,hr⟩=>⟨a,y,ml y hy,hr⟩,fun h0=>mem (h.v0 h0) (by rw[hb];intro h;cases h),fun h0=>?_,fun h0=>mem (h.o0 h0) (by rw[c];intro h;cases h),fun h0=>?_⟩
  ·obtain⟨y,hy,z,hz,r⟩:=h.v1 h0;exact⟨y,ml y hy,z,ml z hz,r⟩
  ·obtain⟨y,hy,r⟩:=h.o1 h0;exact⟨y,ml y hy,r⟩
 have c':isVar x.op=true:=by simpa using c
 have hk:=hv c';have e:blS q s x=⟨if s.least<0∨itemI q x.v<s.least then itemI q x.v else s.least,if bareO x.op=true∧negAt q (itemI q x.v).toNat=true then itemI q x.v else s.neg,if bareO x.op=true then itemI q x.v else s.bare,
   if bareO x.op=true∧0≤s.bare∧s.bare≠itemI q x.v then true else s.sev,if x.op≠4 then true else s.oth⟩:=by unfold blS;rw[if_neg (by rw[c'];intro h;cases h)]
 rw[e];refine⟨?_,?_,?_,?_,?_,?_,?_,?_,?_,?_⟩<;>dsimp only
 ·split
  ·intro h0;omega
  ·rename_i c2;intro h0;omega
 ·split
  ·rename_i c2;refine .inr ⟨hk,⟨x,mx,c',rfl⟩,mem (fun y hy hy2=>?_) fun _=>Int.le_refl _⟩;rcases h.l1 with h1 |⟨h1,h2,h3⟩
   ·rw[h.l0 h1 y hy]at hy2;cases hy2
   ·have:=h3 y hy hy2;omega
  ·rename_i c2;rcases h.l1 with h1 |⟨h1,⟨y,hy,h2⟩,h3⟩
   ·omega
   ·exact .inr ⟨h1,⟨y,ml y hy,h2⟩,mem h3 fun _=>by omega⟩
 ·split
  ·intro h0;omega
  ·rename_i c2;exact fun h0=>mem (h.n0 h0) fun hb=>by
    cases e2:negAt q (itemI q x.v).toNat with
    |false=>rfl
    |true=>exact absurd ⟨hb,e2⟩ c2
 ·split
  ·rename_i c2;exact .inr ⟨hk,x,mx,c2.1,rfl,c2.2⟩
  ·exact h.n1.imp id fun⟨a,y,hy,hr⟩=>⟨a,y,ml y hy,hr⟩
 ·split
  ·intro h0;omega
  ·rename_i c2;exact fun h0=>mem (h.b0 h0) (by simpa using c2)
 ·split
  ·rename_i c2;exact .inr ⟨hk,x,mx,c2,rfl⟩
  ·exact h.b1.imp id fun⟨a,y,hy,hr⟩=>⟨a,y,ml y hy,hr⟩
 ·by_cases c2:bareO x.op=true
  ·rw[if_pos c2];split
   ·intro h0;cases h0
   ·rename_i c3;refine fun h0=>mem (fun y hy hyb=>?_) fun _=>rfl
    have h1:=h.v0 h0 y hy hyb;rcases h.b1 with h2 |⟨h2,_⟩
    ·rw[h.b0 h2 y hy]at hyb;cases hyb
    ·rw[h1];exact Classical.byContradiction fun h3=>c3 ⟨c2,h2,h3⟩
  ·rw[if_neg c2,if_neg fun h=>c2 h.1];exact fun h0=>mem (h.v0 h0) fun hb=>absurd hb c2
 ·split
  ·rename_i c2;rcases h.b1 with h2 |⟨h2,y,hy,hyb,hy2⟩
   ·omega
   ·exact fun _=>⟨y,ml y hy,x,mx,hyb,c2.1,by rw[hy2];exact c2.2.2⟩
  ·intro h0;obtain⟨y,hy,z,hz,r⟩:=h.v1 h0;exact⟨y,ml y hy,z,ml z hz,r⟩
 ·split
  ·intro h0;cases h0
  ·rename_i c2;exact fun h0=>mem (h.o0 h0) fun _=>by omega
 ·split
  ·rename_i c2;exact fun _=>⟨x,mx,c',c2⟩
  ·intro h0;obtain⟨y,hy,r⟩:=h.o1 h0;exact⟨y,ml y hy,r⟩
theorem blA_snoc (q:Qy)(t:List Nd)(x:Nd):blA q (t++[x])=blS q (blA q t) x:=by unfold blA;rw[List.foldl_append];rfl
theorem BlOk.all {q:Qy}{t:List Nd}(hv:∀x∈t,isVar x.op=true→0≤itemI q x.v):BlOk q t (blA q t):=by
 have key:∀n,n≤t.length→BlOk q (t.take n) (blA q (t.take n)):=by
  intro n;induction n with
  |zero=>intro _;exact BlOk.zero q
  |succ n ih=>
   intro hn;have e:t.take (n+1)=t.take n++[t[n]]:=by rw[zJ,zI oQ];rfl
   rw[e,blA_snoc];exact(ih oQ).step (hv _ (List.getElem_mem _))
 have:=key t.length nR;rwa [zL]at this
theorem minL_le {l:List Nat}{x:Nat}(h:x∈l):minL l≤x:=by
 unfold minL;generalize l.headD 0=d;induction l with
 |nil=>cases h
 |cons y r ih=>
  rw[List.foldr_cons];rcases List.mem_cons.1 h with e |e
  ·subst e;exact Nat.min_le_left _ _
  ·exact zU (Nat.min_le_right _ _) (ih e)
theorem minL_mem {l:List Nat}(h:l≠ []):minL l∈l:=by
 have key:∀(d:Nat)(l:List Nat),l.foldr min d=d∨l.foldr min d∈l:=by
  intro d l;induction l with
  |nil=>exact .inl rfl
  |cons y r ih=>
   rw[List.foldr_cons];rcases Nat.le_total y (r.foldr min d)with h |h
   ·rw[Nat.min_eq_left h];exact .inr (xS ..)
   ·rw[Nat.min_eq_right h];exact ih.imp id (xU _)
 unfold minL;rcases key (l.headD 0) l with e |e
 ·rw[e];cases l with
  |nil=>exact absurd rfl h
  |cons y r=>exact xS ..
 ·exact e
theorem nodup_uses (q:Qy)(t:List Nd)(P:Nd→Bool):(usesL q t P).Nodup:=List.nodup_range.filter _
theorem nodup_one {l:List Nat}(h:l.Nodup){i:Nat}(hi:i∈l)(hu:∀j∈l,j=i):l.length=1:=by
 cases l with
 |nil=>cases hi
 |cons x r=>
  cases r with
  |nil=>rfl
  |cons y s=>
   have hx:=hu x sJ;have hy:=hu y sJ;rw[List.nodup_cons]at h;exact absurd (by rw[hx,hy];simp) h.1
theorem home_eq {q:Qy}{t:List Nd}(hv:∀x∈t,isVar x.op=true→0≤itemI q x.v∧itemI q x.v<(q.items.length:Int))(hm:mixB q t=false):homeP q t=belR q t:=by
 have B:=BlOk.all (q:=q) (t:=t) fun x hx h=>(hv x hx h).1
 obtain⟨s,hs⟩:∃s,s=blA q t:=⟨_,rfl⟩
 unfold belR;rw[←hs]at B ⊢;have mb:∀x∈t,bareO x.op=true→(itemI q x.v).toNat∈bares q t:=fun x hx hb=>by
  have:=hv x hx (bare_var hb);exact mem_uses.2 ⟨oQ,x,hx,oQ,hb⟩
 have ma:∀x∈t,aggO x.op=true→(itemI q x.v).toNat∈aggs q t:=fun x hx hb=>by
  have:=hv x hx (agg_var hb);exact mem_uses.2 ⟨oQ,x,hx,oQ,hb⟩
 have bm:∀i∈bares q t,∃x∈t,itemI q x.v=(i:Int)∧bareO x.op=true:=fun i hi=>(mem_uses.1 hi).2
 have am:∀i∈aggs q t,∃x∈t,itemI q x.v=(i:Int)∧aggO x.op=true:=fun i hi=>(mem_uses.1 hi).2
 unfold homeP;by_cases c:bares q t=[]∧aggs q t=[]
 ·rw[if_pos c];have nov:∀x∈t,isVar x.op=false:=fun x hx=>by
   cases e:isVar x.op with
   |false=>rfl
   |true=>
    rcases var_or e with h |h
    ·have:=mb x hx h;rw[c.1]at this;cases this
    ·have:=ma x hx h;rw[c.2]at this;cases this
  have h1:s.neg= -1:=B.n1.elim id fun⟨_,x,hx,hb,_⟩=>absurd (bare_var hb) (by rw[nov x hx];simp)
  have h2:s.least= -1:=B.l1.elim id fun⟨_,⟨x,hx,hb,_⟩,_⟩=>absurd hb (by rw[nov x hx];simp)
  have h3:s.bare= -1:=B.b1.elim id fun⟨_,x,hx,hb,_⟩=>absurd (bare_var hb) (by rw[nov x hx];simp)
  rw[h1,h2,h3];rfl
 rw[if_neg c];have hne:bares q t++aggs q t≠ []:=fun h=>c (List.append_eq_nil_iff.1 h)
 congr 1
 ·cases hf:(bares q t).find? (negAt q)with
  |some i=>
   have hi:=List.mem_of_find?_eq_some hf;have hn:=List.find?_some hf;obtain⟨x,hx,hxi,hxb⟩:=bm i hi;rcases B.n1 with h1 |⟨h1,y,hy,hyb,hyi,hyn⟩
   ·have:=B.n0 h1 x hx hxb;rw[hxi,Int.toNat_natCast,hn]at this;cases this
   ·dsimp only;rw[if_pos h1];have hmem:=mb y hy hyb;rw[hyi]at hmem;have hlen:((bares q t).filter (touchy q)).length≤1:=by
     have:¬1<((bares q t).filter (touchy q)).length:=of_decide_eq_false hm;omega
    have f1:i∈(bares q t).filter (touchy q):=List.mem_filter.2 ⟨hi,negAt_touchy hn⟩;have f2:s.neg.toNat∈(bares q t).filter (touchy q):=List.mem_filter.2 ⟨hmem,negAt_touchy hyn⟩;have e:i=s.neg.toNat:=by
     generalize (bares q t).filter (touchy q)=L at hlen f1 f2;match L,hlen,f1,f2 with
     | [],_,f1,_=>cases f1
     | [z],_,f1,f2=>exact(xB.1 f1).trans (xB.1 f2).symm
     |_::_::_,hlen,_,_=>simp at hlen
    omega
  |none=>
   have hn:=List.find?_eq_none.1 hf;have h1:s.neg= -1:=B.n1.elim id fun⟨h1,y,hy,hyb,hyi,hyn⟩=>by
    have:=hn _ (mb y hy hyb);rw[hyi]at this;exact absurd hyn this
   dsimp only;rw[h1,if_neg oQ];rcases B.l1 with h2 |⟨h2,⟨x,hx,hxv,hxi⟩,h3⟩
   ·exfalso;have hz:=minL_mem hne;rcases zM.1 hz with e |e
    ·obtain⟨x,hx,_,hb⟩:=bm _ e;have:=B.l0 h2 x hx;rw[bare_var hb]at this;cases this
    ·obtain⟨x,hx,_,hb⟩:=am _ e;have:=B.l0 h2 x hx;rw[agg_var hb]at this;cases this
   ·have hle:minL (bares q t++aggs q t)≤s.least.toNat:=by
     refine minL_le (zM.2 ?_);rw[←hxi];exact(var_or hxv).imp (mb x hx) (ma x hx)
    have hge:s.least≤(minL (bares q t++aggs q t):Int):=by
     rcases zM.1 (minL_mem hne)with e |e
     ·obtain⟨y,hy,hyi,hb⟩:=bm _ e;rw[←hyi];exact h3 y hy (bare_var hb)
     ·obtain⟨y,hy,hyi,hb⟩:=am _ e;rw[←hyi];exact h3 y hy (agg_var hb)
    omega
 ·rw[Bool.eq_iff_iff];simp only[xK,decide_eq_true_eq,Bool.not_eq_true'];constructor
  ·rintro⟨h1,h2,h3⟩;obtain⟨i,hi⟩:∃i,bares q t=[i]:=List.length_eq_one_iff.1 h1
   obtain⟨x,hx,hxi,hxb⟩:=bm i (by rw[hi];simp);have all:∀y∈t,bareO y.op=true→itemI q y.v=(i:Int):=fun y hy hyb=>by
    have h4:=mb y hy hyb;rw[hi]at h4;have:=xB.1 h4;have:=hv y hy (bare_var hyb);omega
   refine⟨?_,?_,?_⟩
   ·rcases B.b1 with h4 |⟨h4,_⟩
    ·rw[B.b0 h4 x hx]at hxb;cases hxb
    ·exact h4
   ·cases e:s.sev with
    |false=>rfl
    |true=>obtain⟨y,hy,z,hz,hyb,hzb,hyz⟩:=B.v1 e;exact absurd ((all y hy hyb).trans (all z hz hzb).symm) hyz
   ·cases e:s.oth with
    |false=>rfl
    |true=>
     obtain⟨y,hy,hyv,hy4⟩:=B.o1 e;rcases var_or hyv with hb |hb
     ·have e11:y.op=11:=(by simp[bareO]at hb;omega);have h5:(itemI q y.v).toNat∈prevs q t:=by
       have:=hv y hy hyv;exact mem_uses.2 ⟨oQ,y,hy,oQ,by simp[e11]⟩
      rw[h3]at h5;cases h5
     ·have h5:=ma y hy hb;rw[h2]at h5;cases h5
  ·rintro⟨h1,h2,h3⟩;have all:=B.v0 h2;have o4:=B.o0 h3;refine⟨?_,?_,?_⟩
   ·rcases B.b1 with h4 |⟨h4,x,hx,hxb,hxi⟩
    ·omega
    ·refine nodup_one (nodup_uses q t _) (mb x hx hxb) fun j hj=>?_
     obtain⟨y,hy,hyi,hyb⟩:=bm j hj;have:=all y hy hyb;rw[hxi,←this,hyi,Int.toNat_natCast]
   ·refine List.eq_nil_iff_forall_not_mem.2 fun i hi=>?_
    obtain⟨x,hx,_,hb⟩:=am i hi;have:=o4 x hx (agg_var hb);rw[this]at hb;cases hb
   ·refine List.eq_nil_iff_forall_not_mem.2 fun i hi=>?_
    obtain⟨x,hx,_,hb⟩:=(mem_uses.1 hi).2;have hb:=of_decide_eq_true hb;have:=o4 x hx (by rw[hb];rfl);omega
end Go.Proofs.YthaabihjeomipaaGreatDoor
