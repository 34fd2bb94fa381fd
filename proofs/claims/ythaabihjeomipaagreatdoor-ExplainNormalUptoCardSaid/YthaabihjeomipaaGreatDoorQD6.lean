/- Operators. -/
import Derived.Test.YthaabihjeomipaaGreatDoorQC7
import Derived.Test.YthaabihjeomipaaGreatDoorQM1
namespace Go.Proofs.YthaabihjeomipaaGreatDoor
set_option maxRecDepth 100000
set_option maxHeartbeats 16000000
open Go.RowKit Go.Deep
set_option linter.unusedVariables false
set_option linter.unusedSimpArgs false
def bareO (o:Int):Bool:=decide (o=4)||decide (o=11)
def aggO (o:Int):Bool:=decide (5≤o)&&decide (o≤10)
def truthO (o:Int):Bool:=decide (o=2)||(decide (o=3)||(decide (o=13)||(decide (19≤o)&&decide (o≤26))))
def wantO (o:Int):Bool:=decide (o=13)||(decide (o=25)||decide (o=26))
def manyB (x:It):Bool:= !x.neg&&decide (1<x.hi)
def vrs (q:Qy):List ByteArray:=q.items.map (·.v)
def itemI (q:Qy)(v:ByteArray):Int:=placeI (vrs q) v
def okK (t:List Nd)(w:Bool)(k:Int):Bool:=decide (k<0)||(truthO (opAt t k.toNat)==w)
def kindsB (t:List Nd)(x:Nd):Bool:=okK t (wantO x.op) x.a&&okK t (wantO x.op) x.b
def isTruthB (t:List Nd):Bool:=decide (0<t.length)&&truthO (opAt t (t.length-1))
theorem opAt_of {t:List Nd}{i:Nat}{x:Nd}(h:t[i]? =some x):opAt t i=x.op:=by unfold opAt;rw[h]
theorem beqF {a b:Int}(h:a≠b):(a==b)=false:=by rw[xV];exact h
theorem beqT {a b:Int}(h:a=b):(a==b)=true:=by rw[beq_iff_eq];exact h
theorem bneF {a b:Int}(h:a=b):(a != b)=false:=by rw[bne,beqT h];rfl
theorem bneT {a b:Int}(h:a≠b):(a != b)=true:=by rw[bne,beqF h];rfl
namespace ckW
open nmW
theorem isBare_k (o:Int)(w:World):Calls Tryz.prog 84 #[.int .i64 o] w fun e w'=>e=.returned (.bool (bareO o))∧w'=w:=by
 by_cases h1:o=4
 ·subst h1;go_enter Tryz.func84,Tryz.ntmps84;go_wp2;go_ret;exact⟨rfl,rfl⟩
 ·have hl:bareO o=(o==11):=by unfold bareO;rw[zV h1,Bool.false_or];by_cases h:o=11<;>simp[h]
  have f1:=beqF h1;rw[hl];clear hl;go_enter Tryz.func84,Tryz.ntmps84;go_wp2;go_ret;exact⟨rfl,rfl⟩
theorem barely_k (o:Int)(w:World):Calls Tryz.prog 142 #[.int .i64 o] w fun e w'=>e=.returned (.bool (bareO o))∧w'=w:=by
 by_cases h1:o=4
 ·subst h1;go_enter Tryz.func142,Tryz.ntmps142;go_wp2;go_ret;exact⟨rfl,rfl⟩
 ·have hl:bareO o=(o==11):=by unfold bareO;rw[zV h1,Bool.false_or];by_cases h:o=11<;>simp[h]
  have f1:=beqF h1;rw[hl];clear hl;go_enter Tryz.func142,Tryz.ntmps142;go_wp2;go_ret;exact⟨rfl,rfl⟩
theorem isAgg_k (o:Int)(w:World):Calls Tryz.prog 85 #[.int .i64 o] w fun e w'=>e=.returned (.bool (aggO o))∧w'=w:=by
 by_cases h1:5≤o
 ·have hl:aggO o=decide (o≤10):=by unfold aggO;rw[zW h1,xE]
  rw[hl];clear hl;go_enter Tryz.func85,Tryz.ntmps85;go_wp2;go_ret;exact⟨rfl,rfl⟩
 ·have hl:aggO o=false:=by unfold aggO;rw[zV h1];rfl
  rw[hl];clear hl;go_enter Tryz.func85,Tryz.ntmps85;go_wp2;go_ret;exact⟨rfl,rfl⟩
theorem aggregate_k (o:Int)(w:World):Calls Tryz.prog 143 #[.int .i64 o] w fun e w'=>e=.returned (.bool (aggO o))∧w'=w:=by
 by_cases h1:5≤o
 ·have hl:aggO o=decide (o≤10):=by unfold aggO;rw[zW h1,xE]
  rw[hl];clear hl;go_enter Tryz.func143,Tryz.ntmps143;go_wp2;go_ret;exact⟨rfl,rfl⟩
 ·have hl:aggO o=false:=by unfold aggO;rw[zV h1];rfl
  rw[hl];clear hl;go_enter Tryz.func143,Tryz.ntmps143;go_wp2;go_ret;exact⟨rfl,rfl⟩
theorem truth_k (o:Int)(w:World):Calls Tryz.prog 158 #[.int .i64 o] w fun e w'=>e=.returned (.bool (truthO o))∧w'=w:=by
 by_cases h2:o=2
 ·subst h2;go_enter Tryz.func158,Tryz.ntmps158;go_wp2;go_ret;exact⟨rfl,rfl⟩
 have f2:=beqF h2;by_cases h3:o=3
 ·subst h3;go_enter Tryz.func158,Tryz.ntmps158;go_wp2;go_ret;exact⟨rfl,rfl⟩
 have f3:=beqF h3;by_cases h13:o=13
 ·subst h13;go_enter Tryz.func158,Tryz.ntmps158;go_wp2;go_ret;exact⟨rfl,rfl⟩
 have f13:=beqF h13;by_cases h1:19≤o
 ·have hl:truthO o=decide (o≤26):=by unfold truthO;rw[zV h2,zV h3,zV h13,zW h1];rfl
  rw[hl];clear hl;go_enter Tryz.func158,Tryz.ntmps158;go_wp2;go_ret;exact⟨rfl,rfl⟩
 ·have hl:truthO o=false:=by unfold truthO;rw[zV h2,zV h3,zV h13,zV h1];rfl
  rw[hl];clear hl;go_enter Tryz.func158,Tryz.ntmps158;go_wp2;go_ret;exact⟨rfl,rfl⟩
theorem rtruth_k (o:Int)(w:World):Calls Tryz.prog 99 #[.int .i64 o] w fun e w'=>e=.returned (.bool (truthO o))∧w'=w:=by
 by_cases h2:o=2
 ·subst h2;go_enter Tryz.func99,Tryz.ntmps99;go_wp2;go_ret;exact⟨rfl,rfl⟩
 have f2:=beqF h2;by_cases h3:o=3
 ·subst h3;go_enter Tryz.func99,Tryz.ntmps99;go_wp2;go_ret;exact⟨rfl,rfl⟩
 have f3:=beqF h3;by_cases h13:o=13
 ·subst h13;go_enter Tryz.func99,Tryz.ntmps99;go_wp2;go_ret;exact⟨rfl,rfl⟩
 have f13:=beqF h13;by_cases h1:19≤o
 ·have hl:truthO o=decide (o≤26):=by unfold truthO;rw[zV h2,zV h3,zV h13,zW h1];rfl
  rw[hl];clear hl;go_enter Tryz.func99,Tryz.ntmps99;go_wp2;go_ret;exact⟨rfl,rfl⟩
 ·have hl:truthO o=false:=by unfold truthO;rw[zV h2,zV h3,zV h13,zV h1];rfl
  rw[hl];clear hl;go_enter Tryz.func99,Tryz.ntmps99;go_wp2;go_ret;exact⟨rfl,rfl⟩
theorem repeated_k (x:It)(u:Value)(w:World):Calls Tryz.prog 144 #[.agg ⟨itV x u⟩] w fun e w'=>e=.returned (.bool (manyB x))∧Bw w w':=by
 have h0:=(ItB.new x u w).1;obtain⟨b,hb⟩:∃b,b=manyB x:=⟨_,rfl⟩
 rw[←hb];unfold manyB at hb;obtain⟨neg,tys,v,lo,hi⟩:=x;simp only[itV]at h0 hb ⊢;replace h0:=Hd h0;replace hb:=Hd hb;cases neg with
 |false=>
  go_enter Tryz.func144,Tryz.ntmps144;go_wp2;go_ret;exact⟨rtB hb.out.symm,h0.out⟩
 |true=>
  go_enter Tryz.func144,Tryz.ntmps144;go_wp2;go_ret;exact⟨rtB hb.out.symm,h0.out⟩
theorem itemOf_k (q:Qy)(s:Sl3)(F:Nat→Prop)(v:ByteArray)(hl:q.items.length≤1048576)(w:World)(hF:∀b,F b→b<w.heap.size)(r:Rd w F (.slice s.a1 q.items.length s.c1) (.sl q.items.length (q.items.flatMap itD))):
  Calls Tryz.prog 97 #[.agg ⟨qV q s⟩,.string v] w fun e w'=>e=.returned (.int .i64 (itemI q v))∧Bw w w':=by
 have h0:=QB.new q s w;obtain⟨b,hc⟩:∃b,b=itemI q v:=⟨_,rfl⟩
 rw[←hc];obtain⟨A1,c1,A2,c2,A3,c3⟩:=s;simp only[qV]at h0 r ⊢;replace hc:=Hd hc;replace r:=Hd r;replace hF:=Hd hF;replace h0:=Hd h0;go_enter Tryz.func97,Tryz.ntmps97;go_wp2;go_loopw [5] (fun i wr=>∃j:Nat,j≤q.items.length∧i=.int .i64 j∧QB q ⟨A1,c1,A2,c2,A3,c3⟩ w wr∧Hid (∀(i:Nat) a,(vrs q)[i]? =some a→i<j→a≠v)) (fun i _=>q.items.length- (intOf i).toNat)
 case atStart=>exact⟨0,zE _,rfl,h0.out,fun i a h h3=>by omega⟩
 case round=>
  clear h0;obtain⟨j,hj,rfl,hI,hp⟩:=hrel;obtain⟨y0,_⟩:=hI.cells;simp only at y0;by_cases hlt:j<q.items.length
  ·obtain⟨x,hx⟩:=getx hlt;obtain⟨g,off,B2,d2,rfl,_,_,_,_,a2,_,_⟩:=it_at (r.out.under hI.1 hF.out) hx;have g0:(0:Int)≤(j:Int):=oQ;have g1:(j:Int)<q.items.length:=oQ;have hx2:(vrs q)[j]? =some x.v:=by unfold vrs;rw[zG,hx];rfl
   replace hx2:=Hd hx2;replace hI:=Hd hI;clear hx;by_cases hu:x.v=v
   ·have hu':(x.v.toList==v.toList)=true:=(by rw[bqb];exact zW hu);have hfin:b=(j:Int):=by rw[hc.out];exact placeI_at (by rw[hx2.out,hu]) hp.out
    replace hu:=Hd hu;replace hfin:=Hd hfin;go_wp2;go_ret;exact⟨rtI hfin.out.symm,hI.out.1⟩
   ·have hu':(x.v.toList==v.toList)=false:=(by rw[bqb];exact zV hu);replace hu:=Hd hu;go_wp2;go_roundw
    case rel=>
     refine⟨j+1,oQ,gQ,hI.out,fun i a h h3=>?_⟩;by_cases hij:i=j
     ·subst hij;obtain rfl:x.v=a:=by have:=hx2.out;rw[h]at this;exact(zq9 this).symm
      exact hu.out
     ·exact hp.out i a h oQ
    case measure=>exact mQ
  ·have g1:¬(j:Int)<q.items.length:=oQ;have hfin:b= -1:=by
    rw[hc.out];exact placeI_none fun i a h=>hp.out i a h (by have:=(zC.1 h).1;unfold vrs at this;simp at this;omega)
   replace hfin:=Hd hfin;replace hI:=Hd hI;go_wp2;go_ret;exact⟨rtI hfin.out.symm,hI.out.1⟩
theorem isTruth_k (A:Option Addr)(c:Nat)(F:Nat→Prop)(t:List Nd)(hl:t.length≤1048576)(w:World)(r:Rd w F (.slice A t.length c) (.sl t.length (t.flatMap ndD))):
  Calls Tryz.prog 116 #[.slice A t.length c] w fun e w'=>e=.returned (.bool (isTruthB t))∧w'=w:=by
 have k1:=Hd truth_k;obtain⟨b,hb⟩:∃b,b=isTruthB t:=⟨_,rfl⟩
 rw[←hb];by_cases hn:t.length=0
 ·have hfin:b=false:=by rw[hb];unfold isTruthB;rw[zV oQ];rfl
  have g0:¬(0:Int)<(t.length:Int):=oQ;have g1:¬0<t.length:=oQ;have g2:decide (0<t.length)=false:=zV g1;clear hb;replace hfin:=Hd hfin;replace hn:=Hd hn;go_enter Tryz.func116,Tryz.ntmps116;go_wp2;go_ret;exact⟨rtB hfin.out.symm,rfl⟩
 ·obtain⟨n,hn2⟩:∃n,t.length=n+1:=⟨t.length-1,oQ⟩
  obtain⟨x,hx⟩:=getx (l:=t) (i:=n) oQ;obtain⟨g,off,rfl,_,z0,_⟩:=nd_at r hx;have hfin:b=truthO x.op:=by rw[hb];unfold isTruthB;rw[zW oQ,xE,show t.length-1=n by omega,opAt_of hx]
  rw[hn2];have n1:(0:Int)<(n:Int)+1:=oQ;have n2:(0:Int)≤(n:Int):=oQ;have n3:(n:Int)<(n:Int)+1:=oQ;have n4:n≤1048576:=oQ;have nw:IntKind.i64.wrap (n:Int)=n:=by rw[xI];omega
  clear hb;replace hfin:=Hd hfin;replace hn:=Hd hn;replace hn2:=Hd hn2;replace hx:=Hd hx;replace hl:=Hd hl;go_enter Tryz.func116,Tryz.ntmps116;go_wp2_with (go_at_call 158;refine(k1.out _ _).mono ?_;rintro e W ⟨rfl,hW⟩;subst W);go_ret;exact⟨rtB hfin.out.symm,rfl⟩
theorem kinds_k (A:Option Addr)(c:Nat)(F:Nat→Prop)(t:List Nd)(x:Nd)(hl:t.length≤1048576)(hxa:x.a<t.length)(hxb:x.b<t.length)(w:World)(hF:∀b,F b→b<w.heap.size)(r:Rd w F (.slice A t.length c) (.sl t.length (t.flatMap ndD))):
  Calls Tryz.prog 157 #[.slice A t.length c,.agg ⟨ndV x⟩] w fun e w'=>e=.returned (.bool (kindsB t x))∧Bw w w':=by
 have k1:=Hd truth_k;have h0:Bw w (w.alloc (.cells ⟨ndV x⟩ 96)):=bA;replace r:=r.under h0 hF;obtain⟨kb,hb⟩:∃b,b=kindsB t x:=⟨_,rfl⟩
 rw[←hb];unfold kindsB at hb;obtain⟨wt,hwt⟩:∃b,b=wantO x.op:=⟨_,rfl⟩
 rw[←hwt]at hb;obtain⟨op,n,v,at_,a,b⟩:=x;simp only[ndV]at h0 hwt hb hxa hxb r ⊢;replace hb:=Hd hb;replace h0:=Hd h0;replace r:=Hd r;replace hF:=Hd hF;have hwt0:=Hd hwt;have i0:∀w,(Instr.index 216 (.agg #[.int .i64 a,.int .i64 b]) (.int .i64 0)).run Tryz.prog w=.ok (.int .i64 a) w:=fun _=>by kernel_rfl
 have i1:∀w,(Instr.index 216 (.agg #[.int .i64 a,.int .i64 b]) (.int .i64 1)).run Tryz.prog w=.ok (.int .i64 b) w:=fun _=>by kernel_rfl
 go_enter Tryz.func157,Tryz.ntmps157;go_upto_region 1 with fail
 go_cut [5] (fun s7 wx=>s7=.bool wt∧wx=(w.alloc (.cells ⟨[.int .i64 op,.int .i64 n,.string v,.string at_,.int .i64 a,.int .i64 b]⟩ 96)))
 case first=>
  by_cases h1:op=13
  ·have f1:=beqT h1;obtain rfl:wt=true:=by rw[hwt];unfold wantO;rw[zW h1];rfl
   clear hwt hwt0;replace h1:=Hd h1;go_wp2
   all_goals(go_meet;exact⟨rfl,rfl⟩)
  ·have f1:=beqF h1;by_cases h2:op=25
   ·have f2:=beqT h2;obtain rfl:wt=true:=by rw[hwt];unfold wantO;rw[zW h2];simp
    clear hwt hwt0;replace h1:=Hd h1;replace h2:=Hd h2;go_wp2
    all_goals(go_meet;exact⟨rfl,rfl⟩)
   ·have f2:=beqF h2;have hw3:wt=(op==26):=by rw[hwt];unfold wantO;rw[zV h1,zV h2];by_cases h:op=26<;>simp[h]
    clear hwt hwt0;subst hw3;replace h1:=Hd h1;replace h2:=Hd h2;go_wp2
    all_goals(go_meet;exact⟨rfl,rfl⟩)
 case rest=>
  obtain⟨rfl,rfl⟩:=hcut;clear hwt;go_wp2;go_loopw [26] (fun i wr=>∃j:Nat,j≤2∧i=.int .i64 j∧wr=(w.alloc (.cells ⟨[.int .i64 op,.int .i64 n,.string v,.string at_,.int .i64 a,.int .i64 b]⟩ 96))∧Hid (1≤j→okK t wt a=true)∧Hid (2≤j→okK t wt b=true)) (fun i _=>2- (intOf i).toNat)
  case atStart=>exact⟨0,oQ,rfl,rfl,fun h=>by omega,fun h=>by omega⟩
  case round=>
   obtain⟨j,hj,hi,rfl,hp1,hp2⟩:=hrel;by_cases hj0:j=0
   ·obtain rfl:=(hi.trans (by rw[hj0];rfl):_=Value.int .i64 0);subst hj0;clear hi;obtain⟨W1,hw⟩:∃W,W=(w.alloc (.cells ⟨[.int .i64 op,.int .i64 n,.string v,.string at_,.int .i64 a,.int .i64 b]⟩ 96)):=⟨_,rfl⟩
    by_cases hk:a<0
    ·have hok:=Hd (show okK t wt a=true by unfold okK;rw[zW hk];rfl);clear hw;go_wp2;go_roundw
     case rel=>exact⟨1,oQ,gQ,(by first|exact rfl |trivial),fun _=>hok.out,fun h=>by omega⟩
     case measure=>simp[intOf]
    ·obtain⟨m,rfl⟩:∃m:Nat,a=m:=⟨a.toNat,oQ⟩
     obtain⟨y,hy⟩:=getx (l:=t) (i:=m) oQ;obtain⟨g,off,rfl,_,z0,_⟩:=nd_at r.out hy;have g0:(0:Int)≤(m:Int):=oQ;have g1:(m:Int)<t.length:=oQ;clear hw;by_cases ht:truthO y.op=wt
     ·have hok:=Hd (show okK t wt m=true by unfold okK;rw[Int.toNat_natCast,opAt_of hy,ht];simp);replace hy:=Hd hy;replace ht:=Hd ht;have hbn:(wt != wt)=false:=by cases wt<;>rfl
      go_wp2_with (go_at_call 158;refine(k1.out _ _).mono ?_;rw[ht.out];rintro e W ⟨rfl,hW⟩;subst W);go_roundw
      case rel=>exact⟨1,oQ,gQ,(by first|exact rfl |trivial),fun _=>hok.out,fun h=>by omega⟩
      case measure=>simp[intOf]
     ·have hf:okK t wt m=false:=by
       unfold okK;rw[Int.toNat_natCast,opAt_of hy,zV oQ,Bool.false_or];rw[xV];exact ht
      have hfin:=Hd (show kb=false by rw[hb.out,hf];rfl);replace hy:=Hd hy;replace hf:=Hd hf;cases wt with
      |true=>
       have ht2:=Hd (show truthO y.op=false by simpa using ht);replace ht:=Hd ht;go_wp2_with (go_at_call 158;refine(k1.out _ _).mono ?_;rw[ht2.out];rintro e W ⟨rfl,hW⟩;subst W);go_ret;exact⟨rtB hfin.out.symm,h0.out⟩
      |false=>
       have ht2:=Hd (show truthO y.op=true by simpa using ht);replace ht:=Hd ht;go_wp2_with (go_at_call 158;refine(k1.out _ _).mono ?_;rw[ht2.out];rintro e W ⟨rfl,hW⟩;subst W);go_ret;exact⟨rtB hfin.out.symm,h0.out⟩
   by_cases hj1:j=1
   ·obtain rfl:=(hi.trans (by rw[hj1];rfl):_=Value.int .i64 1);subst hj1;clear hi;have hA:=Hd (show okK t wt a=true from hp1.out oQ);obtain⟨W1,hw⟩:∃W,W=(w.alloc (.cells ⟨[.int .i64 op,.int .i64 n,.string v,.string at_,.int .i64 a,.int .i64 b]⟩ 96)):=⟨_,rfl⟩
    by_cases hk:b<0
    ·have hok:=Hd (show okK t wt b=true by unfold okK;rw[zW hk];rfl);clear hw;go_wp2;go_roundw
     case rel=>exact⟨2,oQ,gQ,(by first|exact rfl |trivial),fun _=>hA.out,fun _=>hok.out⟩
     case measure=>simp[intOf]
    ·obtain⟨m,rfl⟩:∃m:Nat,b=m:=⟨b.toNat,oQ⟩
     obtain⟨y,hy⟩:=getx (l:=t) (i:=m) oQ;obtain⟨g,off,rfl,_,z0,_⟩:=nd_at r.out hy;have g0:(0:Int)≤(m:Int):=oQ;have g1:(m:Int)<t.length:=oQ;clear hw;by_cases ht:truthO y.op=wt
     ·have hok:=Hd (show okK t wt m=true by unfold okK;rw[Int.toNat_natCast,opAt_of hy,ht];simp);replace hy:=Hd hy;replace ht:=Hd ht;have hbn:(wt != wt)=false:=by cases wt<;>rfl
      go_wp2_with (go_at_call 158;refine(k1.out _ _).mono ?_;rw[ht.out];rintro e W ⟨rfl,hW⟩;subst W);go_roundw
      case rel=>exact⟨2,oQ,gQ,(by first|exact rfl |trivial),fun _=>hA.out,fun _=>hok.out⟩
      case measure=>simp[intOf]
     ·have hf:okK t wt m=false:=by
       unfold okK;rw[Int.toNat_natCast,opAt_of hy,zV oQ,Bool.false_or];rw[xV];exact ht
      have hfin:=Hd (show kb=false by rw[hb.out,hf,Bool.and_false]);replace hy:=Hd hy;replace hf:=Hd hf;cases wt with
      |true=>
       have ht2:=Hd (show truthO y.op=false by simpa using ht);replace ht:=Hd ht;go_wp2_with (go_at_call 158;refine(k1.out _ _).mono ?_;rw[ht2.out];rintro e W ⟨rfl,hW⟩;subst W);go_ret;exact⟨rtB hfin.out.symm,h0.out⟩
      |false=>
       have ht2:=Hd (show truthO y.op=true by simpa using ht);replace ht:=Hd ht;go_wp2_with (go_at_call 158;refine(k1.out _ _).mono ?_;rw[ht2.out];rintro e W ⟨rfl,hW⟩;subst W);go_ret;exact⟨rtB hfin.out.symm,h0.out⟩
   obtain rfl:j=2:=oQ;obtain rfl:=(hi.trans rfl:_=Value.int .i64 2);clear hi;have hfin:kb=true:=by rw[hb.out,hp1.out oQ,hp2.out oQ];rfl
   replace hfin:=Hd hfin;go_wp2;go_ret;exact⟨rtB hfin.out.symm,h0.out⟩
end ckW
def TlPost (L:List Tk)(w:World)(e:Ending)(w':World):Prop:=∃v,e=.returned v∧OL w' w.heap.size NoF 201 4 v L.length (L.flatMap tkD)∧Bw w w'
theorem tkD_map (k:Tk):tkD k=(tkV k).map D.v:=rfl
theorem tks_map (L:List Tk):L.flatMap tkD=(L.flatMap tkV).map D.v:=by
 rw[List.map_flatMap];rfl
theorem OL.tks {W:World}{B g n:Nat}{L:List Tk}(hb:Blk W g 201 (L.flatMap tkV))(hg:B≤g)(hl:L.length=n)(hn:n≤1048576):OL W B NoF 201 4 (.slice (some ⟨g,0,none⟩) n n) L.length (L.flatMap tkD):=by
 subst hl;refine OL.of_blk hg hb nR (by unfold maxLen;omega) (fml (f:=tkV) (m:=4) (fun _=>rfl) _) (tk_len L) fun k d hd=>?_
 rw[tks_map,zG]at hd;obtain⟨u,hu,rfl⟩:=xG.1 hd;refine⟨u,hu,.v _ ?_⟩;obtain⟨x,hx,hu2⟩:=xF.1 (zA hu);simp[tkV]at hu2;rcases hu2 with rfl |rfl |rfl |rfl<;>rfl
theorem TlPost.blk {w W:World}{L:List Tk}{g n:Nat}(hb:Blk W g 201 (L.flatMap tkV))(hg:w.heap.size≤g)(hB:Bw w W)(hl:L.length=n)(hn:n≤1048576):TlPost L w (.returned (.slice (some ⟨g,0,none⟩) n n)) W:=
 ⟨_,rfl,OL.tks hb hg hl hn,hB⟩
theorem _root_.Go.RowKit.Below.and1 {B:Nat}{w W W2:World}(h:Below B w W)(hB:B≤w.heap.size)(h2:Bw W W2):Below B w W2:=h.trans (h2.mono (zU hB h.size))
def tsD (L:List Tk):List D:=[.sl L.length (L.flatMap tkD)]
theorem tks_at {w:World}{F:Nat→Prop}{A:Option Addr}{c i:Nat}{l:List (List Tk)}{x:List Tk}(r:Rd w F (.slice A l.length c) (.sl l.length (l.flatMap tsD)))(hp:l[i]? =some x):∃b off A2 c2,A=some ⟨b,off,none⟩∧F b∧
  w.cell? ⟨b,off+i,none⟩=some (.slice A2 x.length c2)∧Rd w F (.slice A2 x.length c2) (.sl x.length (x.flatMap tkD)):=by
 obtain⟨b,off,e,hF,_,h2⟩:=r.rowv (f:=tsD) (m:=1) (fun _=>rfl) hp oQ;obtain⟨A2,c2,h3,h4⟩:=h2 0 x.length (x.flatMap tkD) rfl;exact⟨b,off,A2,c2,e,hF,by simpa using h3,h4⟩
def GlRel (Ls:List (List Tk))(w:World)(v i:Value)(wr:World):Prop:=∃j:Nat,j≤Ls.length∧i=.int .i64 j∧OL wr w.heap.size NoF 201 4 v (Ls.take j).flatten.length ((Ls.take j).flatten.flatMap tkD)∧Bw w wr
theorem take_flat {Ls:List (List Tk)}{j:Nat}{x:List Tk}(h:Ls[j]? =some x):(Ls.take (j+1)).flatten=(Ls.take j).flatten++x:=by
 rw[zJ,h,List.flatten_append];simp
theorem flat_le {Ls:List (List Tk)}(j:Nat):(Ls.take j).flatten.length≤Ls.flatten.length:=by
 have h:Ls.flatten=(Ls.take j).flatten++(Ls.drop j).flatten:=by rw[←List.flatten_append,List.take_append_drop]
 rw[h,zH];omega
structure NdW (x:Nd)(w W:World):Prop where
 hb:Bw w W
 bx:Blk W w.heap.size 96 (ndV x)
theorem NdW.new (x:Nd)(w:World):NdW x w (w.alloc (.cells ⟨ndV x⟩ 96)):=⟨bA,Blk.new _ _ _⟩
theorem NdW.stay {x:Nd}{w W W2:World}(h:NdW x w W)(hb:Bw W W2):NdW x w W2:=⟨h.hb.and1 nR hb,h.bx.stay hb⟩
theorem NdW.drew {x:Nd}{w W:World}(h:NdW x w W):NdW x w W.drew:=h.stay ((bR).drew)
theorem NdW.alloc {x:Nd}{w W:World}(h:NdW x w W)(o:Obj):NdW x w (W.alloc o):=h.stay bA
theorem NdW.cells {op n a b:Int}{v at_:ByteArray}{w W:World}(h:NdW ⟨op,n,v,at_,a,b⟩ w W):W.cell? ⟨w.heap.size,0,none⟩=some (.int .i64 op)∧W.cell? ⟨w.heap.size,1,none⟩=some (.int .i64 n)∧W.cell? ⟨w.heap.size,2,none⟩=some (.string v)∧W.cell? ⟨w.heap.size,3,none⟩=some (.string at_):=
 ⟨h.bx.cell 0,h.bx.cell 1,h.bx.cell 2,h.bx.cell 3⟩
namespace shW
open nmW
theorem glue_k (A:Option Addr)(c:Nat)(F:Nat→Prop)(Ls:List (List Tk))(w:World)(hl:Ls.length≤1048576)(hs:Ls.flatten.length≤1048576)(hF:∀b,F b→b<w.heap.size)(r:Rd w F (.slice A Ls.length c) (.sl Ls.length (Ls.flatMap tsD))):
  Calls Tryz.prog 181 #[.slice A Ls.length c] w (TlPost Ls.flatten w):=by
 have h0:=Hd (show GlRel Ls w (.slice none 0 0) (.int .i64 0) w from ⟨0,zE _,rfl,OL.nil ..,bR⟩);replace r:=Hd r;replace hF:=Hd hF;go_enter Tryz.func181,Tryz.ntmps181;go_wp2;go_loopw [3,8] (fun v i wr=>GlRel Ls w v i wr) (fun _ i _=>Ls.length- (intOf i).toNat)
 case atStart=>exact h0.out
 case round=>
  clear h0;obtain⟨j,hj,rfl,hO,hB⟩:=hrel;by_cases hlt:j<Ls.length
  ·obtain⟨x,hx⟩:=getx hlt;obtain⟨b,off,A2,c2,rfl,_,x0,r2⟩:=tks_at (r.out.under hB hF.out) hx;have g0:(0:Int)≤(j:Int):=oQ;have g1:(j:Int)<Ls.length:=oQ;have hlen:=flat_le (Ls:=Ls) (j+1);rw[take_flat hx,zH]at hlen;obtain⟨P,hP⟩:∃P,P=(Ls.take j).flatten:=⟨_,rfl⟩
   rw[←hP]at hO hlen;obtain⟨q,hq⟩:∃q,q=Ls.flatten.length:=⟨_,rfl⟩
   rw[←hq]at hs hlen;replace hP:=Hd hP;replace hq:=Hd hq;obtain⟨A1,c1,rfl⟩:=hO.form;replace hO:=Hd hO;have hsr:=Hd (Rd.srcq (G:=fun b=>NoF b∧some b≠(Value.slice A1 P.length c1).ownBlock) (PlainL.flatMap tk_pl x) r2);have hsz:=hB.size;replace hB:=Hd hB;replace hx:=Hd hx;clear r2;go_wp2_with (at_builtin;refine wpa rfl (.tmp 12) (.tmp 13) _ rfl (m:=x.length) (news:=x.flatMap tkD) elTk hO.out rfl rfl hsr.out (tk_len x) oQ oQ hsz ?_;intro v' w1 hO1 hg1 ha1;obtain⟨A3,c3,rfl⟩:=hO1.form;have hB1:=Hd (hB.out.grown hg1 hsz (fun q hq=>(hO.out.lt q hq).1));replace hO1:=Hd hO1;clear hg1 ha1);go_roundw
   case rel=>exact⟨j+1,oQ,gQ,by rw[take_flat hx.out,←hP.out,zH,xD];exact hO1.out,hB1.out⟩
   case measure=>exact mQ
  ·have g1:¬(j:Int)<Ls.length:=oQ;have e:Ls.take j=Ls:=xH oQ;rw[e]at hO;replace hO:=Hd hO;go_wp2;go_ret;exact⟨_,rfl,hO.out,hB⟩
def FdR (x:Nd)(w:World)(s:Value)(W:World):Prop:=∃g,s=.slice (some ⟨g,0,none⟩) 3 3∧w.heap.size≤g∧Blk W g 201 ([nmT x.v,mkT 8,nmT x.at_].flatMap tkV)∧NdW x w W
theorem tk_rd {W:World}{F:Nat→Prop}{g n:Nat}{L:List Tk}(hb:Blk W g 201 (L.flatMap tkV))(hF:F g)(hl:L.length=n)(hn:n≤1048576):Rd W F (.slice (some ⟨g,0,none⟩) n n) (.sl L.length (L.flatMap tkD)):=by
 subst hl;refine .sl _ _ _ g 0 _ (fun k=>((L.flatMap tkV)[k]?).getD undef) nR (by unfold maxLen;omega) (fun _=>⟨rfl,hF⟩) (fun k d hd=>?_) (fun k d hd=>?_)
 all_goals
  rw[tks_map,zG]at hd;obtain⟨u,hu,rfl⟩:=xG.1 hd
 ·rw[Nat.zero_add,hb.cell k,hu];rfl
 ·rw[hu];refine .v _ ?_;obtain⟨x,hx,hu2⟩:=xF.1 (zA hu);simp[tkV]at hu2;rcases hu2 with rfl |rfl |rfl |rfl<;>rfl
theorem ts3_rd {W:World}{F G:Nat→Prop}{t g:Nat}{v1 v2 v3:Value}{L1 L2 L3:List Tk}(hg:W.heap.size=g)(hG:∀b,G b→F b)(hF:F g)(h1:Rd W G v1 (.sl L1.length (L1.flatMap tkD)))(h2:Rd W G v2 (.sl L2.length (L2.flatMap tkD)))(h3:Rd W G v3 (.sl L3.length (L3.flatMap tkD))):
  Rd (W.alloc (.cells ⟨[v1,v2,v3]⟩ t)) F (.slice (some ⟨g,0,none⟩) 3 3) (.sl 3 ([L1,L2,L3].flatMap tsD)):=by
 subst hg;have hb:=Blk.new W t [v1,v2,v3];have key:∀(k:Nat) d,([L1,L2,L3].flatMap tsD)[k]? =some d→∃u,[v1,v2,v3][k]? =some u∧Rd (W.alloc (.cells ⟨[v1,v2,v3]⟩ t)) F u d:=fun k d hd=>by
  match k,hd with
  |0,hd=>simp[tsD]at hd;subst hd;exact⟨v1,rfl,(h1.alloc _).mono fun b h _=>hG b h⟩
  |1,hd=>simp[tsD]at hd;subst hd;exact⟨v2,rfl,(h2.alloc _).mono fun b h _=>hG b h⟩
  |2,hd=>simp[tsD]at hd;subst hd;exact⟨v3,rfl,(h3.alloc _).mono fun b h _=>hG b h⟩
  |k+3,hd=>simp[tsD]at hd
 refine .sl _ _ _ W.heap.size 0 _ (fun k=>([v1,v2,v3][k]?).getD undef) nR (by unfold maxLen;omega) (fun _=>⟨rfl,hF⟩) (fun k d hd=>?_) (fun k d hd=>?_)
 ·obtain⟨u,hu,_⟩:=key k d hd;rw[Nat.zero_add,hb.cell k,hu];rfl
 ·obtain⟨u,hu,hr⟩:=key k d hd;rw[hu];exact hr
theorem glue3_k (x:Nd)(g3:Nat)(w W2 W3:World)(hg3:w.heap.size≤g3)(hA:Blk W3 W2.heap.size 201 ([mkT (41+x.op),mkT 3].flatMap tkV))(h3:Blk W3 g3 201 ([nmT x.v,mkT 8,nmT x.at_].flatMap tkV))(hs:NdW x w W3)(hg:w.heap.size≤W2.heap.size):
  Calls Tryz.prog 181 #[.slice (some ⟨W3.heap.size+1,0,none⟩) 3 3] ((W3.alloc (.cells ⟨[mkT 4].flatMap tkV⟩ 201)).alloc (.cells ⟨[.slice (some ⟨W2.heap.size,0,none⟩) 2 2,.slice (some ⟨g3,0,none⟩) 3 3,.slice (some ⟨W3.heap.size,0,none⟩) 1 1]⟩ 163))
   (TlPost [mkT (41+x.op),mkT 3,nmT x.v,mkT 8,nmT x.at_,mkT 4] ((W3.alloc (.cells ⟨[mkT 4].flatMap tkV⟩ 201)).alloc (.cells ⟨[.slice (some ⟨W2.heap.size,0,none⟩) 2 2,.slice (some ⟨g3,0,none⟩) 3 3,.slice (some ⟨W3.heap.size,0,none⟩) 1 1]⟩ 163))):=by
 have r:=ts3_rd (W:=W3.alloc (.cells ⟨[mkT 4].flatMap tkV⟩ 201)) (F:=fun b=>b<W3.heap.size+1+1) (G:=fun b=>b<W3.heap.size+1) (t:=163) (g:=W3.heap.size+1) sJ (fun b h=>by omega) (by show W3.heap.size+1<W3.heap.size+1+1;omega)
  (tk_rd (hA.alloc _) (by show W2.heap.size<W3.heap.size+1;have:=hA.lt;omega) rfl sJ) (tk_rd (h3.alloc _) (by show g3<W3.heap.size+1;have:=h3.lt;omega) rfl sJ) (tk_rd (g:=W3.heap.size) (Blk.new _ _ _) (by show W3.heap.size<W3.heap.size+1;omega) rfl sJ)
 exact glue_k _ _ _ [[mkT (41+x.op),mkT 3],[nmT x.v,mkT 8,nmT x.at_],[mkT 4]] _ sJ sJ (fun b h=>by simpa using h) r
theorem leaf_k (x:Nd)(w:World)(hx:isLf x.op=true):Calls Tryz.prog 165 #[.agg ⟨ndV x⟩] w (TlPost (leafT x) w):=by
 have km:=Hd mark_k;have kn:=Hd name_k;have ku:=Hd number_k;have k1:=Hd one_k;have ho:=isLf_op hx;have hb0:=Blk.new w 96 (ndV x);have hB0:Bw w (w.alloc (.cells ⟨ndV x⟩ 96)):=bA;obtain⟨R,hR⟩:∃R,R=leafT x:=⟨_,rfl⟩
 rw[←hR];obtain⟨op,n,v,at_,a,b⟩:=x;simp only[ndV]at hb0 hB0 ho ⊢;by_cases c1:op=1
 ·subst c1;have hR2:R=[⟨2,emp,n⟩]:=hR;subst hR2;replace hb0:=Hd hb0;replace hB0:=Hd hB0;clear hR hx ho;go_enter Tryz.func165,Tryz.ntmps165;go_wp2_with (first
   |(go_at_call 179;refine(ku.out _ _).mono ?_;rintro e W ⟨rfl,hW⟩;have hB1:=Hd (hB0.out.and1 nR hW);clear hW;simp only[tkV])
   |(go_at_call 178;refine(k1.out _ _).mono ?_;rintro e W2 ⟨rfl,hW⟩;subst hW))
  go_ret;exact TlPost.blk (L:=[⟨2,emp,n⟩]) (Blk.new _ _ _) hB1.out.size (hB1.out.and1 nR bA) rfl oQ
 by_cases c2:op=2
 ·subst c2;have hR2:R=[mkT 44]:=hR;subst hR2;replace hb0:=Hd hb0;replace hB0:=Hd hB0;clear hR hx ho c1;go_enter Tryz.func165,Tryz.ntmps165;go_wp2_with (first
   |(go_at_call 162;refine(km.out _ _).mono ?_;rintro e W ⟨rfl,hW⟩;have hB1:=Hd (hB0.out.and1 nR hW);clear hW;simp only[tkV,mkT])
   |(go_at_call 178;refine(k1.out _ _).mono ?_;rintro e W2 ⟨rfl,hW⟩;subst hW))
  go_ret;exact TlPost.blk (L:=[mkT 44]) (Blk.new _ _ _) hB1.out.size (hB1.out.and1 nR bA) rfl oQ
 by_cases c3:op=3
 ·subst c3;have hR2:R=[mkT 45]:=hR;subst hR2;replace hb0:=Hd hb0;replace hB0:=Hd hB0;clear hR hx ho c1;go_enter Tryz.func165,Tryz.ntmps165;go_wp2_with (first
   |(go_at_call 162;refine(km.out _ _).mono ?_;rintro e W ⟨rfl,hW⟩;have hB1:=Hd (hB0.out.and1 nR hW);clear hW;simp only[tkV,mkT])
   |(go_at_call 178;refine(k1.out _ _).mono ?_;rintro e W2 ⟨rfl,hW⟩;subst hW))
  go_ret;exact TlPost.blk (L:=[mkT 45]) (Blk.new _ _ _) hB1.out.size (hB1.out.and1 nR bA) rfl oQ
 by_cases c5:op=5
 ·subst c5;have hR2:R=[mkT 46,mkT 3,nmT v,mkT 4]:=hR;subst hR2;have hs:=NdW.new ⟨5,n,v,at_,a,b⟩ w;simp only[ndV]at hs;replace hs:=Hd hs;clear hR hx ho c1 c2 c3 hb0 hB0;go_enter Tryz.func165,Tryz.ntmps165;go_upto_region 9 with fail
  obtain⟨W0,hW0⟩:∃W0,W0=w.alloc (.cells ⟨[.int .i64 5,.int .i64 n,.string v,.string at_,.int .i64 a,.int .i64 b]⟩ 96):=⟨_,rfl⟩
  rw[←hW0]at hs ⊢;clear hW0;obtain⟨y0,y1,y2,y3⟩:=hs.out.cells;go_region_law (first
   |(go_simp;go_at_call 162;refine(km.out _ _).mono ?_;rintro e W ⟨rfl,hW⟩;replace hs:=Hd (NdW.stay (by first|exact hs.out |exact hs.out.drew) hW);clear y0 y1 y2 y3 hW;obtain⟨y0,y1,y2,y3⟩:=hs.out.cells;simp only[tkV,mkT])
   |(go_simp;go_at_call 180;refine(kn.out _ _).mono ?_;rintro e W ⟨rfl,hW⟩;replace hs:=Hd (NdW.stay (by first|exact hs.out |exact hs.out.drew) hW);clear y0 y1 y2 y3 hW;obtain⟨y0,y1,y2,y3⟩:=hs.out.cells;simp only[tkV,nmT])
   |(go_simp;go_at_call 178;refine(k1.out _ _).mono ?_;rintro e W2 ⟨rfl,hW⟩;subst hW))
  all_goals go_wp2
  all_goals go_ret
  all_goals exact TlPost.blk (L:=[mkT 46,mkT 3,nmT v,mkT 4]) (Blk.new _ _ _) hs.out.hb.size (hs.out.alloc _).hb rfl oQ
 by_cases c4:op=4
 ·subst c4;have hR2:R=[nmT v,mkT 8,nmT at_]:=hR;subst hR2;have hs:=NdW.new ⟨4,n,v,at_,a,b⟩ w;simp only[ndV]at hs;replace hs:=Hd hs;clear hR hx ho c1 c2 c3 c5 hb0 hB0;go_enter Tryz.func165,Tryz.ntmps165;go_upto_region 10 with fail
  obtain⟨W0,hW0⟩:∃W0,W0=w.alloc (.cells ⟨[.int .i64 4,.int .i64 n,.string v,.string at_,.int .i64 a,.int .i64 b]⟩ 96):=⟨_,rfl⟩
  rw[←hW0]at hs ⊢;clear hW0;obtain⟨y0,y1,y2,y3⟩:=hs.out.cells;go_region_law (first
   |(go_simp;go_at_call 162;refine(km.out _ _).mono ?_;rintro e W ⟨rfl,hW⟩;replace hs:=Hd (NdW.stay (by first|exact hs.out |exact hs.out.drew) hW);clear y0 y1 y2 y3 hW;obtain⟨y0,y1,y2,y3⟩:=hs.out.cells;simp only[tkV,mkT])
   |(go_simp;go_at_call 180;refine(kn.out _ _).mono ?_;rintro e W ⟨rfl,hW⟩;replace hs:=Hd (NdW.stay (by first|exact hs.out |exact hs.out.drew) hW);clear y0 y1 y2 y3 hW;obtain⟨y0,y1,y2,y3⟩:=hs.out.cells;simp only[tkV,nmT])
   |(go_simp;go_at_call 178;refine(k1.out _ _).mono ?_;rintro e W2 ⟨rfl,hW⟩;subst hW;have hsa:=Hd (hs.out.alloc (.cells ⟨[nmT v,mkT 8,nmT at_].flatMap tkV⟩ 201));obtain⟨z0,z1,z2,z3⟩:=hsa.out.cells;simp only[tkV,nmT,mkT,zK,List.flatMap_nil,List.cons_append,List.nil_append,zT]at z0 z1 z2 z3))
  all_goals go_wp2
  all_goals go_ret
  all_goals exact TlPost.blk (L:=[nmT v,mkT 8,nmT at_]) (Blk.new _ _ _) hs.out.hb.size (hs.out.alloc _).hb rfl oQ
 have hR2:R=[mkT (41+op),mkT 3,nmT v,mkT 8,nmT at_,mkT 4]:=by
  rw[hR];unfold leafT;rw[if_neg c1,if_neg c2,if_neg c3,if_neg c5,if_neg c4]
 subst hR2;have hs:=NdW.new ⟨op,n,v,at_,a,b⟩ w;simp only[ndV]at hs;replace hs:=Hd hs;have o1:=ho.1;have o2:=ho.2;have q1:(op==1)=false:=beqF c1;have q2:(op==2)=false:=beqF c2;have q3:(op==3)=false:=beqF c3;have q4:(op==4)=false:=beqF c4;have q5:(op==5)=false:=beqF c5;have w1:IntKind.i64.wrap (op-6)=op-6:=by rw[xI]<;>omega
 have w2:IntKind.i64.wrap (47+(op-6))=41+op:=by rw[xI]<;>omega
 clear hR hx ho hb0 hB0;go_enter Tryz.func165,Tryz.ntmps165;go_upto_region 10 with fail
 obtain⟨W0,hW0⟩:∃W0,W0=w.alloc (.cells ⟨[.int .i64 op,.int .i64 n,.string v,.string at_,.int .i64 a,.int .i64 b]⟩ 96):=⟨_,rfl⟩
 rw[←hW0]at hs ⊢;clear hW0;obtain⟨y0,y1,y2,y3⟩:=hs.out.cells;go_cut [3] (fun s W=>FdR ⟨op,n,v,at_,a,b⟩ w s W)
 case first=>
  go_region_law (first
   |(go_simp;go_at_call 162;refine(km.out _ _).mono ?_;rintro e W ⟨rfl,hW⟩;replace hs:=Hd (NdW.stay (by first|exact hs.out |exact hs.out.drew) hW);clear y0 y1 y2 y3 hW;obtain⟨y0,y1,y2,y3⟩:=hs.out.cells;simp only[tkV,mkT])
   |(go_simp;go_at_call 180;refine(kn.out _ _).mono ?_;rintro e W ⟨rfl,hW⟩;replace hs:=Hd (NdW.stay (by first|exact hs.out |exact hs.out.drew) hW);clear y0 y1 y2 y3 hW;obtain⟨y0,y1,y2,y3⟩:=hs.out.cells;simp only[tkV,nmT])
   |(go_simp;go_at_call 178;refine(k1.out _ _).mono ?_;rintro e W2 ⟨rfl,hW⟩;subst hW;have hsa:=Hd (hs.out.alloc (.cells ⟨[nmT v,mkT 8,nmT at_].flatMap tkV⟩ 201));obtain⟨z0,z1,z2,z3⟩:=hsa.out.cells;simp only[tkV,nmT,mkT,zK,List.flatMap_nil,List.cons_append,List.nil_append,zT]at z0 z1 z2 z3))
  all_goals(go_wp2;all_goals(go_meet;exact⟨_,rfl,hs.out.hb.size,Blk.new _ _ _,hs.out.alloc _⟩))
 case rest=>
 clear y0 y1 y2 y3 hs;obtain⟨g3,rfl,hg3,hb3,hs⟩:=hcut;obtain⟨y0,y1,y2,y3⟩:=hs.cells;simp only at hb3;replace hs:=Hd hs;replace hb3:=Hd hb3;have tok0:=True.intro;have tok1:=True.intro;have kg:=Hd (fun W2 W3 h1 h2 h3 h4=>glue3_k ⟨op,n,v,at_,a,b⟩ g3 w W2 W3 hg3 h1 h2 h3 h4);simp only[tkV,mkT,nmT,zK,List.flatMap_nil,List.cons_append,List.nil_append,zT]at kg;go_wp2_with (first
  |(go_at_call 162;have _t:=tok0;clear tok0;refine(km.out _ _).mono ?_;rintro e W1 ⟨rfl,hW⟩;replace hs:=Hd (hs.out.stay hW);replace hb3:=Hd (hb3.out.stay hW);clear y0 y1 y2 y3 hW)
  |(go_at_call 162;have _t:=tok1;clear tok1;refine(km.out _ _).mono ?_;rintro e W2 ⟨rfl,hW⟩;replace hs:=Hd (hs.out.stay hW);replace hb3:=Hd (hb3.out.stay hW);clear hW;have hbA:=Hd (Blk.new W2 201 ([mkT (41+op),mkT 3].flatMap tkV));have hsA:=Hd (hs.out.alloc (.cells ⟨[mkT (41+op),mkT 3].flatMap tkV⟩ 201));have hbA3:=Hd (hb3.out.alloc (.cells ⟨[mkT (41+op),mkT 3].flatMap tkV⟩ 201));have hgA:=Hd hs.out.hb.size;simp only[tkV,mkT])
  |(go_at_call 162;refine(km.out _ _).mono ?_;rintro e W3 ⟨rfl,hW⟩;replace hbA:=Hd (hbA.out.stay hW);replace hsA:=Hd (hsA.out.stay hW);replace hbA3:=Hd (hbA3.out.stay hW);clear hW;simp only[tkV,mkT])
  |(go_at_call 178;refine(k1.out _ _).mono ?_;rintro e W9 ⟨rfl,hW⟩;subst hW)
  |(go_at_call 181;refine(kg.out _ _ hbA.out hbA3.out hsA.out hgA.out).mono ?_;rintro e W9 ⟨v9,rfl,hO9,hB9⟩;obtain⟨A9,c9,rfl⟩:=hO9.form;replace hO9:=Hd hO9;replace hB9:=Hd hB9))
 have hbb:Bw w ((W3.alloc (.cells ⟨[mkT 4].flatMap tkV⟩ 201)).alloc (.cells ⟨[.slice (some ⟨W2.heap.size,0,none⟩) 2 2,.slice (some ⟨g3,0,none⟩) 3 3,.slice (some ⟨W3.heap.size,0,none⟩) 1 1]⟩ 163)):=((hsA.out.alloc _).alloc _).hb;go_ret;exact⟨_,rfl,hO9.out.base hbb.size,hbb.and1 nR hB9.out⟩
end shW
end Go.Proofs.YthaabihjeomipaaGreatDoor
