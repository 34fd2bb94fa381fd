/- The document's text of a node. -/
import Derived.Test.YthaabihjeomipaaGreatDoorQL4
namespace Go.Proofs.YthaabihjeomipaaGreatDoor
set_option maxRecDepth 100000
set_option maxHeartbeats 16000000
open Go.RowKit Go.Deep
set_option linter.unusedVariables false
set_option linter.unusedSimpArgs false
structure RT (w:World):Prop where
 si:TabI 7 (siL.map Value.string) w
 cl:TabI 6 (clL.map Value.string) w
theorem RT.stay {w w':World}(h:RT w)(hb:Bw w w'):RT w':=⟨h.si.stay hb,h.cl.stay hb⟩
def ToB (x:To):Prop:=(0≤x.tk∧x.tk≤1048576)∧(0≤x.dp∧x.dp≤1048576)∧x.tx.size≤1048576
theorem opdS_b {x:To}(h:ToB x)(o n:Int):(0≤(opdS x o n).tk∧(opdS x o n).tk≤1048578)∧(0≤(opdS x o n).dp∧(opdS x o n).dp≤1048577)∧(opdS x o n).tx.size≤1048580:=by
 obtain⟨h1,h2,h3⟩:=h;unfold opdS;split
 ·omega
 ·refine⟨by show 0≤x.tk+2∧x.tk+2≤_;omega,by show 0≤x.dp+1∧x.dp+1≤_;omega,?_⟩;show(⟨#[40,32]⟩++x.tx++⟨#[32,41]⟩:ByteArray).size≤_
  rw[ByteArray.size_append,ByteArray.size_append];show 2+x.tx.size+2≤_;omega
def NdS (x:Nd):Prop:=x.v.size≤64∧x.at_.size≤64∧ -9223372036854775808≤x.n∧x.n≤9223372036854775807
def tw (x:Nd)(a b:To)(w:World):World:=(((w.alloc (.cells ⟨ndV x⟩ 96)).alloc (.cells ⟨toV a⟩ 146)).alloc (.cells ⟨toV b⟩ 146)).alloc (.cells ⟨[.string ⟨#[]⟩,.int .i64 0,.int .i64 0]⟩ 146)
theorem tw_b (x:Nd)(a b:To)(w:World):Bw w (tw x a b w):=(((bA).alloc sJ _).alloc (by simp;omega) _).alloc (by simp;omega) _
theorem tw_n (x:Nd)(a b:To)(w:World):Blk (tw x a b w) w.heap.size 96 (ndV x):=(((Blk.new w _ _).alloc _).alloc _).alloc _
theorem tw_x (x:Nd)(a b:To)(w:World):Blk (tw x a b w) (w.heap.size+1) 146 (toV a):=((Blk.new' sJ).alloc _).alloc _
theorem tw_y (x:Nd)(a b:To)(w:World):Blk (tw x a b w) (w.heap.size+1+1) 146 (toV b):=(Blk.new' sJ).alloc _
theorem tw_o (x:Nd)(a b:To)(w:World):Blk (tw x a b w) (w.heap.size+1+1+1) 146 [.string ⟨#[]⟩,.int .i64 0,.int .i64 0]:=Blk.new' sJ
namespace shR
open nmW shW
theorem told1_k (x:Nd)(a b:To)(o p:Int)(w:World)(hN:NdS x)(hT:XT w)(hR:RT w)(hx:x.op=1):Calls Tryz.prog 149 #[.agg ⟨ndV x⟩,.agg ⟨toV a⟩,.int .i64 o,.agg ⟨toV b⟩,.int .i64 p] w (ToP (toldS x a o b p) w):=by
 have hB:=tw_b x a b w;have hbn:=tw_n x a b w;have hbx:=tw_x x a b w;have hby:=tw_y x a b w;have hbo:=tw_o x a b w;have hTA:=hT.stay hB;have hRA:=hR.stay hB;obtain⟨n1,n2,n3,n4⟩:=hN;obtain⟨W0,hW0⟩:∃W0,W0=tw x a b w:=⟨_,rfl⟩
 rw[←hW0]at hB hbn hbx hby hbo hTA hRA;unfold tw at hW0;have kf:=Tryz.strconv_FormatInt_10 x.n n3 n4 W0 hTA.pw;have hS:toldS x a o b p=⟨itoaB x.n,1,0⟩:=by unfold toldS;rw[if_pos hx]
 rw[hS];have e:(.string ⟨(Lib.itoa x.n).toArray⟩:Value)=.string (itoaB x.n):=rfl;rw[e]at kf;clear hS e;obtain⟨op,n,v,at_,na,nb⟩:=x;obtain⟨atx,atk,adp⟩:=a;obtain⟨btx,btk,bdp⟩:=b;simp only[ndV,toV]at hW0 hbn hbx hby n1 n2 n3 n4 ⊢;simp only at hx kf;subst hx;generalize itoaB n=R at kf ⊢;replace kf:=Hd kf;replace hB:=Hd hB;replace hbo:=Hd hbo;replace hTA:=Hd hTA;replace hRA:=Hd hRA;have y0:=hbn.cell 0;have y1:=hbn.cell 1;have y2:=hbn.cell 2;have y3:=hbn.cell 3;simp only[zY,xA]at y0 y1 y2 y3;replace hbn:=Hd hbn;replace hbx:=Hd hbx;replace hby:=Hd hby;clear hT hR;go_enter Tryz.func149,Tryz.ntmps149;go_upto_region 1 with fail
 rw[←hW0];clear hW0;go_wp2_with (first
  |(go_at_call 32;refine kf.out.mono ?_;rintro e W ⟨rfl,q,os,hW⟩;have hX:=hW▸below_grown W0 q os;have hB2:=Hd (hB.out.and1 nR hX);have hbo2:=Hd (hbo.out.stay hX);clear hW hX)
  |(refine at_op (.store 146 (.tmp 10) (.tmp 25)) rfl ?_;refine wsb rfl 146 (.tmp 10) (.tmp 25) rfl (cs':=[.string R,.int .i64 1,.int .i64 0]) hbo2.out aggTo rfl rfl rfl rfl ?_;intro w1 hz1 hg1))
 exact bpa rfl hz1 aggTo rfl rfl ⟨rfl,hB2.out.grown hg1 hB2.out.size (fun q hq=>by injection hq with hq;omega)⟩
theorem told2_k (x:Nd)(a b:To)(o p:Int)(w:World)(hN:NdS x)(hT:XT w)(hR:RT w)(hx:x.op=2):Calls Tryz.prog 149 #[.agg ⟨ndV x⟩,.agg ⟨toV a⟩,.int .i64 o,.agg ⟨toV b⟩,.int .i64 p] w (ToP (toldS x a o b p) w):=by
 have hB:=tw_b x a b w;have hbn:=tw_n x a b w;have hbx:=tw_x x a b w;have hby:=tw_y x a b w;have hbo:=tw_o x a b w;have hTA:=hT.stay hB;have hRA:=hR.stay hB;obtain⟨n1,n2,n3,n4⟩:=hN;obtain⟨W0,hW0⟩:∃W0,W0=tw x a b w:=⟨_,rfl⟩
 rw[←hW0]at hB hbn hbx hby hbo hTA hRA;unfold tw at hW0;have hS:toldS x a o b p=⟨⟨#[84,82,85,69]⟩,1,0⟩:=by unfold toldS;rw[if_neg oQ];rw[if_pos hx]
 rw[hS];clear hS;obtain⟨op,n,v,at_,na,nb⟩:=x;obtain⟨atx,atk,adp⟩:=a;obtain⟨btx,btk,bdp⟩:=b;simp only[ndV,toV]at hW0 hbn hbx hby n1 n2 n3 n4 ⊢;simp only at hx;subst hx;replace hB:=Hd hB;replace hbo:=Hd hbo;replace hTA:=Hd hTA;replace hRA:=Hd hRA;have y0:=hbn.cell 0;have y1:=hbn.cell 1;have y2:=hbn.cell 2;have y3:=hbn.cell 3;simp only[zY,xA]at y0 y1 y2 y3;replace hbn:=Hd hbn;replace hbx:=Hd hbx;replace hby:=Hd hby;clear hT hR;go_enter Tryz.func149,Tryz.ntmps149;go_upto_region 1 with fail
 rw[←hW0];clear hW0;go_wp2_with (refine at_op (.store 146 (.tmp 10) (.tmp 30)) rfl ?_;refine wsb rfl 146 (.tmp 10) (.tmp 30) rfl (cs':=[.string ⟨#[84,82,85,69]⟩,.int .i64 1,.int .i64 0]) hbo.out aggTo rfl rfl rfl rfl ?_;intro w1 hz1 hg1);exact bpa rfl hz1 aggTo rfl rfl ⟨rfl,hB.out.grown hg1 hB.out.size (fun q hq=>by injection hq with hq;omega)⟩
theorem told3_k (x:Nd)(a b:To)(o p:Int)(w:World)(hN:NdS x)(hT:XT w)(hR:RT w)(hx:x.op=3):Calls Tryz.prog 149 #[.agg ⟨ndV x⟩,.agg ⟨toV a⟩,.int .i64 o,.agg ⟨toV b⟩,.int .i64 p] w (ToP (toldS x a o b p) w):=by
 have hB:=tw_b x a b w;have hbn:=tw_n x a b w;have hbx:=tw_x x a b w;have hby:=tw_y x a b w;have hbo:=tw_o x a b w;have hTA:=hT.stay hB;have hRA:=hR.stay hB;obtain⟨n1,n2,n3,n4⟩:=hN;obtain⟨W0,hW0⟩:∃W0,W0=tw x a b w:=⟨_,rfl⟩
 rw[←hW0]at hB hbn hbx hby hbo hTA hRA;unfold tw at hW0;have hS:toldS x a o b p=⟨⟨#[70,65,76,83,69]⟩,1,0⟩:=by unfold toldS;rw[if_neg oQ];rw[if_neg oQ];rw[if_pos hx]
 rw[hS];clear hS;obtain⟨op,n,v,at_,na,nb⟩:=x;obtain⟨atx,atk,adp⟩:=a;obtain⟨btx,btk,bdp⟩:=b;simp only[ndV,toV]at hW0 hbn hbx hby n1 n2 n3 n4 ⊢;simp only at hx;subst hx;replace hB:=Hd hB;replace hbo:=Hd hbo;replace hTA:=Hd hTA;replace hRA:=Hd hRA;have y0:=hbn.cell 0;have y1:=hbn.cell 1;have y2:=hbn.cell 2;have y3:=hbn.cell 3;simp only[zY,xA]at y0 y1 y2 y3;replace hbn:=Hd hbn;replace hbx:=Hd hbx;replace hby:=Hd hby;clear hT hR;go_enter Tryz.func149,Tryz.ntmps149;go_upto_region 1 with fail
 rw[←hW0];clear hW0;go_wp2_with (refine at_op (.store 146 (.tmp 10) (.tmp 35)) rfl ?_;refine wsb rfl 146 (.tmp 10) (.tmp 35) rfl (cs':=[.string ⟨#[70,65,76,83,69]⟩,.int .i64 1,.int .i64 0]) hbo.out aggTo rfl rfl rfl rfl ?_;intro w1 hz1 hg1);exact bpa rfl hz1 aggTo rfl rfl ⟨rfl,hB.out.grown hg1 hB.out.size (fun q hq=>by injection hq with hq;omega)⟩
theorem told4_k (x:Nd)(a b:To)(o p:Int)(w:World)(hN:NdS x)(hT:XT w)(hR:RT w)(hx:x.op=4):Calls Tryz.prog 149 #[.agg ⟨ndV x⟩,.agg ⟨toV a⟩,.int .i64 o,.agg ⟨toV b⟩,.int .i64 p] w (ToP (toldS x a o b p) w):=by
 have hB:=tw_b x a b w;have hbn:=tw_n x a b w;have hbx:=tw_x x a b w;have hby:=tw_y x a b w;have hbo:=tw_o x a b w;have hTA:=hT.stay hB;have hRA:=hR.stay hB;obtain⟨n1,n2,n3,n4⟩:=hN;obtain⟨W0,hW0⟩:∃W0,W0=tw x a b w:=⟨_,rfl⟩
 rw[←hW0]at hB hbn hbx hby hbo hTA hRA;unfold tw at hW0;have hS:toldS x a o b p=⟨x.v++⟨#[32,46,32]⟩++x.at_,3,0⟩:=by unfold toldS;rw[if_neg oQ,if_neg oQ,if_neg oQ,if_pos hx]
 rw[hS];clear hS;obtain⟨op,n,v,at_,na,nb⟩:=x;obtain⟨atx,atk,adp⟩:=a;obtain⟨btx,btk,bdp⟩:=b;simp only[ndV,toV]at hW0 hbn hbx hby n1 n2 n3 n4 ⊢;simp only at hx;subst hx;have s1:v.size+(⟨#[32,46,32]⟩:ByteArray).size≤9223372036854775807:=by show v.size+3≤_;omega
 have s2:(v++(⟨#[32,46,32]⟩:ByteArray)).size+at_.size≤9223372036854775807:=by rw[ByteArray.size_append];show v.size+3+at_.size≤_;omega
 replace hB:=Hd hB;replace hbo:=Hd hbo;replace hTA:=Hd hTA;replace hRA:=Hd hRA;have y0:=hbn.cell 0;have y1:=hbn.cell 1;have y2:=hbn.cell 2;have y3:=hbn.cell 3;simp only[zY,xA]at y0 y1 y2 y3;replace hbn:=Hd hbn;replace hbx:=Hd hbx;replace hby:=Hd hby;clear hT hR;go_enter Tryz.func149,Tryz.ntmps149;go_upto_region 1 with fail
 rw[←hW0];clear hW0;go_wp2_with (refine at_op (.store 146 (.tmp 10) (.tmp 46)) rfl ?_;refine wsb rfl 146 (.tmp 10) (.tmp 46) rfl (cs':=[.string (v++⟨#[32,46,32]⟩++at_),.int .i64 3,.int .i64 0]) hbo.out aggTo rfl rfl rfl rfl ?_;intro w1 hz1 hg1);exact bpa rfl hz1 aggTo rfl rfl ⟨rfl,hB.out.grown hg1 hB.out.size (fun q hq=>by injection hq with hq;omega)⟩
theorem told5_k (x:Nd)(a b:To)(o p:Int)(w:World)(hN:NdS x)(hT:XT w)(hR:RT w)(hx:x.op=5):Calls Tryz.prog 149 #[.agg ⟨ndV x⟩,.agg ⟨toV a⟩,.int .i64 o,.agg ⟨toV b⟩,.int .i64 p] w (ToP (toldS x a o b p) w):=by
 have hB:=tw_b x a b w;have hbn:=tw_n x a b w;have hbx:=tw_x x a b w;have hby:=tw_y x a b w;have hbo:=tw_o x a b w;have hTA:=hT.stay hB;have hRA:=hR.stay hB;obtain⟨n1,n2,n3,n4⟩:=hN;obtain⟨W0,hW0⟩:∃W0,W0=tw x a b w:=⟨_,rfl⟩
 rw[←hW0]at hB hbn hbx hby hbo hTA hRA;unfold tw at hW0;have hS:toldS x a o b p=⟨⟨#[67,79,85,78,84,32,40,32]⟩++x.v++⟨#[32,41]⟩,4,0⟩:=by unfold toldS;rw[if_neg oQ,if_neg oQ,if_neg oQ,if_neg oQ,if_pos hx]
 rw[hS];clear hS;obtain⟨op,n,v,at_,na,nb⟩:=x;obtain⟨atx,atk,adp⟩:=a;obtain⟨btx,btk,bdp⟩:=b;simp only[ndV,toV]at hW0 hbn hbx hby n1 n2 n3 n4 ⊢;simp only at hx;subst hx;have s1:(⟨#[67,79,85,78,84,32,40,32]⟩:ByteArray).size+v.size≤9223372036854775807:=by show 8+v.size≤_;omega
 have s2:((⟨#[67,79,85,78,84,32,40,32]⟩:ByteArray)++v).size+(⟨#[32,41]⟩:ByteArray).size≤9223372036854775807:=by rw[ByteArray.size_append];show 8+v.size+2≤_;omega
 replace hB:=Hd hB;replace hbo:=Hd hbo;replace hTA:=Hd hTA;replace hRA:=Hd hRA;have y0:=hbn.cell 0;have y1:=hbn.cell 1;have y2:=hbn.cell 2;have y3:=hbn.cell 3;simp only[zY,xA]at y0 y1 y2 y3;replace hbn:=Hd hbn;replace hbx:=Hd hbx;replace hby:=Hd hby;clear hT hR;go_enter Tryz.func149,Tryz.ntmps149;go_upto_region 1 with fail
 rw[←hW0];clear hW0;go_wp2_with (refine at_op (.store 146 (.tmp 10) (.tmp 55)) rfl ?_;refine wsb rfl 146 (.tmp 10) (.tmp 55) rfl (cs':=[.string (⟨#[67,79,85,78,84,32,40,32]⟩++v++⟨#[32,41]⟩),.int .i64 4,.int .i64 0]) hbo.out aggTo rfl rfl rfl rfl ?_;intro w1 hz1 hg1);exact bpa rfl hz1 aggTo rfl rfl ⟨rfl,hB.out.grown hg1 hB.out.size (fun q hq=>by injection hq with hq;omega)⟩
theorem told12_k (x:Nd)(a b:To)(o p:Int)(w:World)(hN:NdS x)(hT:XT w)(hR:RT w)(hx:x.op=12)(ha:ToB a)(ho:1≤o∧o≤26):Calls Tryz.prog 149 #[.agg ⟨ndV x⟩,.agg ⟨toV a⟩,.int .i64 o,.agg ⟨toV b⟩,.int .i64 p] w (ToP (toldS x a o b p) w):=by
 have hB:=tw_b x a b w;have hbn:=tw_n x a b w;have hbx:=tw_x x a b w;have hby:=tw_y x a b w;have hbo:=tw_o x a b w;have hTA:=hT.stay hB;have hRA:=hR.stay hB;obtain⟨n1,n2,n3,n4⟩:=hN;obtain⟨W0,hW0⟩:∃W0,W0=tw x a b w:=⟨_,rfl⟩
 rw[←hW0]at hB hbn hbx hby hbo hTA hRA;unfold tw at hW0;obtain⟨X,hX⟩:∃X,X=opdS a o 7:=⟨_,rfl⟩
 have hS:toldS x a o b p=⟨⟨#[45,32]⟩++X.tx,X.tk+1,X.dp+1⟩:=by unfold toldS;rw[if_neg oQ];rw[if_neg oQ];rw[if_neg oQ];rw[if_neg oQ];rw[if_neg oQ];rw[if_pos hx,hX]
 rw[hS];clear hS;have hXb:=opdS_b ha o 7;have ko:=operand_k a o 7 W0 ho.1 ho.2 (by have:=ha.1;omega) (by have:=ha.2.1;omega) (by have:=ha.2.2;omega);rw[←hX]at ko hXb;replace hX:=Hd hX;obtain⟨c1,c2,c3⟩:=hXb;obtain⟨xtx,xtk,xdp⟩:=X;simp only[toV]at ko;simp only at c1 c2 c3 ⊢;obtain⟨op,n,v,at_,na,nb⟩:=x;obtain⟨atx,atk,adp⟩:=a;obtain⟨btx,btk,bdp⟩:=b;simp only[ndV,toV]at hW0 hbn hbx hby n1 n2 n3 n4 ⊢;simp only at hx ko;subst hx;unfold ToP at ko;simp only[toV]at ko;have v0:=hbx.cell 0;have v1:=hbx.cell 1;have v2:=hbx.cell 2;simp only[zY,xA]at v0 v1 v2;have s1:(⟨#[45,32]⟩:ByteArray).size+xtx.size≤9223372036854775807:=by show 2+xtx.size≤_;omega
 have hw1:IntKind.i64.wrap (xtk+1)=xtk+1:=by rw[xI]<;>omega
 have hw2:IntKind.i64.wrap (xdp+1)=xdp+1:=by rw[xI]<;>omega
 clear c1 c2 c3 ha ho;replace ko:=Hd ko;replace hB:=Hd hB;replace hbo:=Hd hbo;replace hTA:=Hd hTA;replace hRA:=Hd hRA;have y0:=hbn.cell 0;have y1:=hbn.cell 1;have y2:=hbn.cell 2;have y3:=hbn.cell 3;simp only[zY,xA]at y0 y1 y2 y3;replace hbn:=Hd hbn;replace hbx:=Hd hbx;replace hby:=Hd hby;clear hT hR;go_enter Tryz.func149,Tryz.ntmps149;go_upto_region 1 with fail
 rw[←hW0];clear hW0;go_wp2_with (first
  |(go_at_call 174;refine ko.out.mono ?_;rintro e W ⟨rfl,hX⟩;have hB2:=Hd ((hB.out.and1 nR hX).alloc (hB.out.and1 nR hX).size (.cells ⟨[.string xtx,.int .i64 xtk,.int .i64 xdp]⟩ 146));have hbo2:=Hd ((hbo.out.stay hX).alloc (.cells ⟨[.string xtx,.int .i64 xtk,.int .i64 xdp]⟩ 146));clear hX y0 y1 y2 y3 v0 v1 v2)
  |(refine at_op (.store 146 (.tmp 10) (.tmp 72)) rfl ?_;refine wsb rfl 146 (.tmp 10) (.tmp 72) rfl (cs':=[.string (⟨#[45,32]⟩++xtx),.int .i64 (xtk+1),.int .i64 (xdp+1)]) hbo2.out aggTo rfl rfl rfl rfl ?_;intro w1 hz1 hg1))
 exact bpa rfl hz1 aggTo rfl rfl ⟨rfl,hB2.out.grown hg1 hB2.out.size (fun q hq=>by injection hq with hq;omega)⟩
theorem told13_k (x:Nd)(a b:To)(o p:Int)(w:World)(hN:NdS x)(hT:XT w)(hR:RT w)(hx:x.op=13)(ha:ToB a)(ho:1≤o∧o≤26):Calls Tryz.prog 149 #[.agg ⟨ndV x⟩,.agg ⟨toV a⟩,.int .i64 o,.agg ⟨toV b⟩,.int .i64 p] w (ToP (toldS x a o b p) w):=by
 have hB:=tw_b x a b w;have hbn:=tw_n x a b w;have hbx:=tw_x x a b w;have hby:=tw_y x a b w;have hbo:=tw_o x a b w;have hTA:=hT.stay hB;have hRA:=hR.stay hB;obtain⟨n1,n2,n3,n4⟩:=hN;obtain⟨W0,hW0⟩:∃W0,W0=tw x a b w:=⟨_,rfl⟩
 rw[←hW0]at hB hbn hbx hby hbo hTA hRA;unfold tw at hW0;obtain⟨X,hX⟩:∃X,X=opdS a o 3:=⟨_,rfl⟩
 have hS:toldS x a o b p=⟨⟨#[78,79,84,32]⟩++X.tx,X.tk+1,X.dp+1⟩:=by unfold toldS;rw[if_neg oQ];rw[if_neg oQ];rw[if_neg oQ];rw[if_neg oQ];rw[if_neg oQ];rw[if_neg oQ];rw[if_pos hx,hX]
 rw[hS];clear hS;have hXb:=opdS_b ha o 3;have ko:=operand_k a o 3 W0 ho.1 ho.2 (by have:=ha.1;omega) (by have:=ha.2.1;omega) (by have:=ha.2.2;omega);rw[←hX]at ko hXb;replace hX:=Hd hX;obtain⟨c1,c2,c3⟩:=hXb;obtain⟨xtx,xtk,xdp⟩:=X;simp only[toV]at ko;simp only at c1 c2 c3 ⊢;obtain⟨op,n,v,at_,na,nb⟩:=x;obtain⟨atx,atk,adp⟩:=a;obtain⟨btx,btk,bdp⟩:=b;simp only[ndV,toV]at hW0 hbn hbx hby n1 n2 n3 n4 ⊢;simp only at hx ko;subst hx;unfold ToP at ko;simp only[toV]at ko;have v0:=hbx.cell 0;have v1:=hbx.cell 1;have v2:=hbx.cell 2;simp only[zY,xA]at v0 v1 v2;have s1:(⟨#[78,79,84,32]⟩:ByteArray).size+xtx.size≤9223372036854775807:=by show 4+xtx.size≤_;omega
 have hw1:IntKind.i64.wrap (xtk+1)=xtk+1:=by rw[xI]<;>omega
 have hw2:IntKind.i64.wrap (xdp+1)=xdp+1:=by rw[xI]<;>omega
 clear c1 c2 c3 ha ho;replace ko:=Hd ko;replace hB:=Hd hB;replace hbo:=Hd hbo;replace hTA:=Hd hTA;replace hRA:=Hd hRA;have y0:=hbn.cell 0;have y1:=hbn.cell 1;have y2:=hbn.cell 2;have y3:=hbn.cell 3;simp only[zY,xA]at y0 y1 y2 y3;replace hbn:=Hd hbn;replace hbx:=Hd hbx;replace hby:=Hd hby;clear hT hR;go_enter Tryz.func149,Tryz.ntmps149;go_upto_region 1 with fail
 rw[←hW0];clear hW0;go_wp2_with (first
  |(go_at_call 174;refine ko.out.mono ?_;rintro e W ⟨rfl,hX⟩;have hB2:=Hd ((hB.out.and1 nR hX).alloc (hB.out.and1 nR hX).size (.cells ⟨[.string xtx,.int .i64 xtk,.int .i64 xdp]⟩ 146));have hbo2:=Hd ((hbo.out.stay hX).alloc (.cells ⟨[.string xtx,.int .i64 xtk,.int .i64 xdp]⟩ 146));clear hX y0 y1 y2 y3 v0 v1 v2)
  |(refine at_op (.store 146 (.tmp 10) (.tmp 89)) rfl ?_;refine wsb rfl 146 (.tmp 10) (.tmp 89) rfl (cs':=[.string (⟨#[78,79,84,32]⟩++xtx),.int .i64 (xtk+1),.int .i64 (xdp+1)]) hbo2.out aggTo rfl rfl rfl rfl ?_;intro w1 hz1 hg1))
 exact bpa rfl hz1 aggTo rfl rfl ⟨rfl,hB2.out.grown hg1 hB2.out.size (fun q hq=>by injection hq with hq;omega)⟩
theorem told6_k (x:Nd)(a b:To)(o p:Int)(w:World)(hN:NdS x)(hT:XT w)(hR:RT w)(h6:6≤x.op)(h11:x.op≤11):Calls Tryz.prog 149 #[.agg ⟨ndV x⟩,.agg ⟨toV a⟩,.int .i64 o,.agg ⟨toV b⟩,.int .i64 p] w (ToP (toldS x a o b p) w):=by
 have hB:=tw_b x a b w;have hbn:=tw_n x a b w;have hbx:=tw_x x a b w;have hby:=tw_y x a b w;have hbo:=tw_o x a b w;have hTA:=hT.stay hB;have hRA:=hR.stay hB;obtain⟨n1,n2,n3,n4⟩:=hN;obtain⟨W0,hW0⟩:∃W0,W0=tw x a b w:=⟨_,rfl⟩
 rw[←hW0]at hB hbn hbx hby hbo hTA hRA;unfold tw at hW0;obtain⟨k,hk⟩:∃k:Nat,x.op=(k:Int)+5:=⟨(x.op-5).toNat,oQ⟩
 obtain⟨cl,hcl⟩:∃cl,clL[k]? =some cl:=⟨_,zI (by show k<7;omega)⟩
 have hcs:cl.size≤64:=(show∀x∈clL,x.size≤64 by decide) cl (zA hcl);have hS:toldS x a o b p=⟨cl++⟨#[32,40,32]⟩++x.v++⟨#[32,46,32]⟩++x.at_++⟨#[32,41]⟩,6,0⟩:=by
  unfold toldS;rw[if_neg oQ];rw[if_neg oQ];rw[if_neg oQ];rw[if_neg oQ];rw[if_neg oQ];rw[if_neg oQ];rw[if_neg oQ];rw[if_pos oQ,hk,show((k:Int)+5-5).toNat=k by omega,hcl];rfl
 rw[hS];clear hS;have hTR:=Hd hR.cl.1;have z6:=hRA.cl.2 k (.string cl) (by rw[zG,hcl];rfl);have z6l:=hRA.cl.1;obtain⟨op,n,v,at_,na,nb⟩:=x;obtain⟨atx,atk,adp⟩:=a;obtain⟨btx,btk,bdp⟩:=b;simp only[ndV,toV]at hW0 hbn hbx hby n1 n2 n3 n4 ⊢;simp only at hk h6 h11;subst hk;have q1:((k:Int)+5==1)=false:=beqF oQ;have r1:¬(k:Int)+5=1:=oQ;have q2:((k:Int)+5==2)=false:=beqF oQ;have r2:¬(k:Int)+5=2:=oQ;have q3:((k:Int)+5==3)=false:=beqF oQ;have r3:¬(k:Int)+5=3:=oQ;have q4:((k:Int)+5==4)=false:=beqF oQ;have r4:¬(k:Int)+5=4:=oQ;have q5:((k:Int)+5==5)=false:=beqF oQ;have r5:¬(k:Int)+5=5:=oQ;have q12:((k:Int)+5==12)=false:=beqF oQ;have r12:¬(k:Int)+5=12:=oQ;have q13:((k:Int)+5==13)=false:=beqF oQ;have r13:¬(k:Int)+5=13:=oQ;have g0:(0:Int)≤(k:Int):=oQ;have g1:(k:Int)<7:=oQ;have g2:(k:Int)+5<14:=oQ;have hw1:IntKind.i64.wrap ((k:Int)+5-5)=k:=by rw[xI]<;>omega
 have hw3:IntKind.i64.wrap (k:Int)=k:=by rw[xI]<;>omega
 have s1:¬9223372036854775807<cl.size+3:=oQ;have s2:¬9223372036854775807<cl.size+3+v.size:=oQ;have s3:¬9223372036854775807<cl.size+3+v.size+3:=oQ;have s4:¬9223372036854775807<cl.size+3+v.size+3+at_.size:=oQ;have s5:¬9223372036854775807<cl.size+3+v.size+3+at_.size+2:=oQ;clear h6 h11 hcl;replace hB:=Hd hB;replace hbo:=Hd hbo;replace hTA:=Hd hTA;replace hRA:=Hd hRA;have y0:=hbn.cell 0;have y1:=hbn.cell 1;have y2:=hbn.cell 2;have y3:=hbn.cell 3;simp only[zY,xA]at y0 y1 y2 y3;replace hbn:=Hd hbn;replace hbx:=Hd hbx;replace hby:=Hd hby;clear hT hR;go_enter Tryz.func149,Tryz.ntmps149;go_upto_region 1 with fail
 rw[←hW0];clear hW0;go_upto_region 18 with fail
 have x0:=hbo.out.cell 0;have x1:=hbo.out.cell 1;have x2:=hbo.out.cell 2;simp only[zY,xA]at x0 x1 x2;have f0:=hbo.out.frozen 0;have f1:=hbo.out.frozen 1;have f2:=hbo.out.frozen 2;have hSS:(W0.drew.cell? ⟨w.heap.size,0,none⟩=some (.int .i64 ((k:Int)+5))∧W0.drew.cell? ⟨w.heap.size,2,none⟩=some (.string v)∧W0.drew.cell? ⟨w.heap.size,3,none⟩=some (.string at_)∧W0.drew.cell? ⟨6,k,none⟩=some (.string cl))∧True:=⟨⟨y0,y2,y3,z6⟩,trivial⟩;refine G_region (p:=100) (S0:=fun W=>W.cell? ⟨w.heap.size,0,none⟩=some (.int .i64 ((k:Int)+5))∧W.cell? ⟨w.heap.size,2,none⟩=some (.string v)∧W.cell? ⟨w.heap.size,3,none⟩=some (.string at_)∧W.cell? ⟨6,k,none⟩=some (.string cl)) (S1:=fun _=>True) kQ ?_;refine' TkB 0 rfl hSS ?_;try go_simp
 refine' TkB 1 rfl hSS ?_;try go_simp
 refine' TkB 2 rfl hSS ?_;try go_simp
 refine' TkB 3 rfl hSS ?_;try go_simp
 refine' TkB 4 rfl hSS ?_;try go_simp
 refine' TkB 5 rfl hSS ?_;try go_simp
 refine' TkB 6 rfl hSS ?_;try go_simp
 refine' TkB 7 rfl hSS ?_;try go_simp
 refine' TkB 8 rfl hSS ?_;try go_simp
 refine' TkB 9 rfl hSS ?_;try go_simp
 refine' TkB 10 rfl hSS ?_;try go_simp
 refine' TkB 11 rfl hSS ?_;try go_simp
 refine' TkB 12 rfl hSS ?_;try go_simp
 refine' TkB 13 rfl hSS ?_;try go_simp
 refine' TkB 14 rfl hSS ?_;try go_simp
 refine G_step (k:=15) kQ rfl (fun K' hK'=>?_);go_simp;have hz:=(((hbo.out.set_ 0 (.string (cl++⟨#[32,40,32]⟩++v++⟨#[32,46,32]⟩++at_++⟨#[32,41]⟩))).set_ 1 (.int .i64 6)).set_ 2 (.int .i64 0)).stay ((bR).drew);have hbb:=(((hB.out.setCell (p:=⟨w.heap.size+1+1+1,0,none⟩) (by show w.heap.size≤w.heap.size+1+1+1;omega) (.string (cl++⟨#[32,40,32]⟩++v++⟨#[32,46,32]⟩++at_++⟨#[32,41]⟩))).setCell (p:=⟨w.heap.size+1+1+1,1,none⟩) (by show w.heap.size≤w.heap.size+1+1+1;omega) (.int .i64 6)).setCell (p:=⟨w.heap.size+1+1+1,2,none⟩) (by show w.heap.size≤w.heap.size+1+1+1;omega) (.int .i64 0)).drew;obtain⟨W1,hW1⟩:∃W1,W1=(((W0.setCell ⟨w.heap.size+1+1+1,0,none⟩ (.string (cl++⟨#[32,40,32]⟩++v++⟨#[32,46,32]⟩++at_++⟨#[32,41]⟩))).setCell ⟨w.heap.size+1+1+1,1,none⟩ (.int .i64 6)).setCell ⟨w.heap.size+1+1+1,2,none⟩ (.int .i64 0)).drew:=⟨_,rfl⟩
 rw[←hW1]at hz hbb ⊢;simp only[List.set_cons_zero,List.set_cons_succ]at hz;refine hK'.out _ _ ⟨?_,fun _=>trivial⟩ ?_
 ·have hf:∀b:Nat,b≠w.heap.size+1+1+1→∀j,W1.cell? ⟨b,j,none⟩=W0.drew.cell? ⟨b,j,none⟩:=fun b hb j=>by
   refine World.cell?_of_block (w:=W0.drew) ?_;rw[hW1];exact(Below.heap_setCell _ _ _ _ (fun e=>hb e)).trans ((Below.heap_setCell _ _ _ _ (fun e=>hb e)).trans (Below.heap_setCell _ _ _ _ (fun e=>hb e)))
  have hgl:6≠w.heap.size+1+1+1:=by have:=hTR.out;omega
  dsimp only;rw[hf _ oQ,hf _ oQ,hf _ oQ,hf _ hgl];exact hSS.1
 refine Gd _ ?_;clear hK' K' hSS;go_wp2;exact bpa rfl hz aggTo rfl rfl ⟨rfl,hbb⟩
theorem told14_k (x:Nd)(a b:To)(o p:Int)(w:World)(hN:NdS x)(hT:XT w)(hR:RT w)(h14:14≤x.op)(h26:x.op≤26)(ha:ToB a)(ho:1≤o∧o≤26)(hb:ToB b)(hp:1≤p∧p≤26):Calls Tryz.prog 149 #[.agg ⟨ndV x⟩,.agg ⟨toV a⟩,.int .i64 o,.agg ⟨toV b⟩,.int .i64 p] w (ToP (toldS x a o b p) w):=by
 have hB:=tw_b x a b w;have hbn:=tw_n x a b w;have hbx:=tw_x x a b w;have hby:=tw_y x a b w;have hbo:=tw_o x a b w;have hTA:=hT.stay hB;have hRA:=hR.stay hB;obtain⟨n1,n2,n3,n4⟩:=hN;obtain⟨W0,hW0⟩:∃W0,W0=tw x a b w:=⟨_,rfl⟩
 rw[←hW0]at hB hbn hbx hby hbo hTA hRA;unfold tw at hW0;obtain⟨k,hk⟩:∃k:Nat,x.op=(k:Int)+14:=⟨(x.op-14).toNat,oQ⟩
 obtain⟨si,hsi⟩:∃si,siL[k]? =some si:=⟨_,zI (by show k<13;omega)⟩
 have hss:si.size≤64:=(show∀x∈siL,x.size≤64 by decide) si (zA hsi);obtain⟨lf,hlf⟩:∃l,l=lfL x.op:=⟨_,rfl⟩
 obtain⟨rg,hrg⟩:∃l,l=levO x.op+1:=⟨_,rfl⟩
 obtain⟨lv,hlv⟩:∃l,l=levO x.op:=⟨_,rfl⟩
 obtain⟨X,hX⟩:∃X,X=opdS a o lf:=⟨_,rfl⟩
 obtain⟨Y,hY⟩:∃Y,Y=opdS b p rg:=⟨_,rfl⟩
 have hS:toldS x a o b p=⟨X.tx++⟨#[32]⟩++si++⟨#[32]⟩++Y.tx,X.tk+1+Y.tk,if X.dp<Y.dp then Y.dp else X.dp⟩:=by
  unfold toldS;rw[if_neg oQ];rw[if_neg oQ];rw[if_neg oQ];rw[if_neg oQ];rw[if_neg oQ];rw[if_neg oQ];rw[if_neg oQ];rw[if_neg oQ];rw[←hlf,←hrg,←hX,←hY,hk,show((k:Int)+14-14).toNat=k by omega,hsi];rfl
 rw[hS];clear hS;have hXb:=opdS_b ha o lf;have hYb:=opdS_b hb p rg;have kx:=operand_k a o lf W0 ho.1 ho.2 (by have:=ha.1;omega) (by have:=ha.2.1;omega) (by have:=ha.2.2;omega);have ky:∀W,Calls Tryz.prog 174 #[.agg ⟨toV b⟩,.int .i64 p,.int .i64 rg] W (ToP (opdS b p rg) W):=fun W=>operand_k b p rg W hp.1 hp.2 (by have:=hb.1;omega) (by have:=hb.2.1;omega) (by have:=hb.2.2;omega)
 have kl:=rlevel_k x.op W0 oQ oQ;rw[←hX]at hXb kx;rw[←hY]at hYb ky;have hcs:(lv=4→lf=5)∧(lv≠4→lf=lv):=by
  rw[hlf,hlv];unfold lfL;exact⟨fun c4=>by rw[if_pos c4],fun c4=>by rw[if_neg c4]⟩
 have hw2:IntKind.i64.wrap (lv+1)=rg:=by
  have:=levO_pos x.op;rw[hrg,hlv,xI]<;>omega
 rw[←hlv]at kl;replace hlv:=Hd hlv;replace hlf:=Hd hlf;replace hrg:=Hd hrg;replace hX:=Hd hX;replace hY:=Hd hY;have hTR:=Hd hR.si.1;have hsg:=Hd (fun W (h:RT W)=>(⟨h.si.2 k (.string si) (by rw[zG,hsi];rfl),h.si.1⟩:W.cell? ⟨7,k,none⟩=some (.string si)∧7<W.heap.size));obtain⟨c1,c2,c3⟩:=hXb;obtain⟨d1,d2,d3⟩:=hYb;obtain⟨xtx,xtk,xdp⟩:=X;obtain⟨ytx,ytk,ydp⟩:=Y;simp only at c1 c2 c3 d1 d2 d3 ⊢;unfold ToP at kx ky;simp only[toV]at kx ky;obtain⟨op,n,v,at_,na,nb⟩:=x;obtain⟨atx,atk,adp⟩:=a;obtain⟨btx,btk,bdp⟩:=b;simp only[ndV,toV]at hW0 hbn hbx hby n1 n2 n3 n4 ⊢;simp only at hk h14 h26 kx ky kl;subst hk;obtain⟨dp,hdp⟩:∃d,d=if xdp<ydp then ydp else xdp:=⟨_,rfl⟩
 rw[←hdp];replace hdp:=Hd hdp;have q1:((k:Int)+14==1)=false:=beqF oQ;have r1:¬(k:Int)+14=1:=oQ;have q2:((k:Int)+14==2)=false:=beqF oQ;have r2:¬(k:Int)+14=2:=oQ;have q3:((k:Int)+14==3)=false:=beqF oQ;have r3:¬(k:Int)+14=3:=oQ;have q4:((k:Int)+14==4)=false:=beqF oQ;have r4:¬(k:Int)+14=4:=oQ;have q5:((k:Int)+14==5)=false:=beqF oQ;have r5:¬(k:Int)+14=5:=oQ;have q12:((k:Int)+14==12)=false:=beqF oQ;have r12:¬(k:Int)+14=12:=oQ;have q13:((k:Int)+14==13)=false:=beqF oQ;have r13:¬(k:Int)+14=13:=oQ;have g0:(0:Int)≤(k:Int):=oQ;have g1:(k:Int)<13:=oQ;have g2:¬(k:Int)+14<14:=oQ;have g3:¬(k:Int)<0:=oQ;have v0:=hbx.cell 0;have v1:=hbx.cell 1;have v2:=hbx.cell 2;simp only[zY,xA]at v0 v1 v2;have hw1:IntKind.i64.wrap ((k:Int)+14-14)=k:=by rw[xI]<;>omega
 have hw3:IntKind.i64.wrap (k:Int)=k:=by rw[xI]<;>omega
 have hw4:IntKind.i64.wrap (xtk+1)=xtk+1:=by rw[xI]<;>omega
 have hw5:IntKind.i64.wrap (xtk+1+ytk)=xtk+1+ytk:=by rw[xI]<;>omega
 have s1:¬9223372036854775807<xtx.size+1:=oQ;have s2:¬9223372036854775807<xtx.size+1+si.size:=oQ;have s3:¬9223372036854775807<xtx.size+1+si.size+1:=oQ;have s4:¬9223372036854775807<xtx.size+1+si.size+1+ytx.size:=oQ;clear h14 h26 hsi ha hb ho hp c1 c2 c3 d1 d2 d3 n1 n2 n3 n4;replace kx:=Hd kx;replace ky:=Hd ky;replace kl:=Hd kl;replace hcs:=Hd hcs;replace hB:=Hd hB;replace hbo:=Hd hbo;replace hTA:=Hd hTA;replace hRA:=Hd hRA;have y0:=hbn.cell 0;have y1:=hbn.cell 1;have y2:=hbn.cell 2;have y3:=hbn.cell 3;simp only[zY,xA]at y0 y1 y2 y3;replace hbn:=Hd hbn;replace hbx:=Hd hbx;replace hby:=Hd hby;clear hT hR;go_enter Tryz.func149,Tryz.ntmps149;go_upto_region 1 with fail
 rw[←hW0];clear hW0;go_upto_region 21 with(go_at_call 175;refine kl.out.mono ?_;rintro e W ⟨rfl,hx⟩;subst W)
 go_cut [115] (fun s wx=>s=.bool (lv==4)∧wx=W0)
 case first=>
  go_wp2;go_meet;exact⟨rfl,rfl⟩
 case rest=>
 obtain⟨rfl,hwc⟩:=hcut;obtain rfl:=hwc.symm;clear hwc;rename_i K2 hK2;refine hK2 _ _ ?_;clear hK2 K2;go_cut [13] (fun s wx=>s=.int .i64 lf∧wx=W0)
 case first=>
  by_cases c:lv=4
  ·have hd:=hcs.out.1 c;have c2:(lv==4)=true:=beqT c;go_wp2;go_meet;exact⟨by rw[hd],rfl⟩
  ·have hd:=hcs.out.2 c;have c2:(lv==4)=false:=beqF c;go_wp2;go_meet;exact⟨by rw[hd],rfl⟩
 case rest=>
 obtain⟨rfl,hwc⟩:=hcut;obtain rfl:=hwc.symm;clear hwc;go_upto_region 24 with(go_at_call 174;refine kx.out.mono ?_;rintro e W1 ⟨rfl,hX1⟩;replace hX1:=Hd hX1)
 have hXa:Bw W0 (W1.alloc (.cells ⟨[.string xtx,.int .i64 xtk,.int .i64 xdp]⟩ 146)):=hX1.out.alloc hX1.out.size _;have hbX:Blk (W1.alloc (.cells ⟨[.string xtx,.int .i64 xtk,.int .i64 xdp]⟩ 146)) W1.heap.size 146 [.string xtx,.int .i64 xtk,.int .i64 xdp]:=Blk.new _ _ _;obtain⟨W2,hW2⟩:∃W2,W2=W1.alloc (.cells ⟨[.string xtx,.int .i64 xtk,.int .i64 xdp]⟩ 146):=⟨_,rfl⟩
 rw[←hW2]at hXa hbX ⊢;obtain⟨gx,hgx⟩:∃gx,gx=W1.heap.size:=⟨_,rfl⟩
 rw[←hgx]at hbX ⊢;have hgxl:W0.heap.size≤gx:=by rw[hgx];exact hX1.out.size
 clear hW2 hgx hX1 W1 y0 y1 y2 y3 v0 v1 v2;have hby2:=hby.out.stay hXa;have hbn2:=hbn.out.stay hXa;have hbo2:=hbo.out.stay hXa;have v0:=hby2.cell 0;have v1:=hby2.cell 1;have v2:=hby2.cell 2;simp only[zY,xA]at v0 v1 v2;replace hbX:=Hd hbX;replace hbn2:=Hd hbn2;replace hbo2:=Hd hbo2;clear hby2;replace hXa:=Hd hXa;go_upto_region 25 with(go_at_call 174;refine(ky.out _).mono ?_;rintro e W3 ⟨rfl,hX3⟩;replace hX3:=Hd hX3)
 have hXb:Bw W2 (W3.alloc (.cells ⟨[.string ytx,.int .i64 ytk,.int .i64 ydp]⟩ 146)):=hX3.out.alloc hX3.out.size _;have hbY:Blk (W3.alloc (.cells ⟨[.string ytx,.int .i64 ytk,.int .i64 ydp]⟩ 146)) W3.heap.size 146 [.string ytx,.int .i64 ytk,.int .i64 ydp]:=Blk.new _ _ _;obtain⟨W4,hW4⟩:∃W4,W4=W3.alloc (.cells ⟨[.string ytx,.int .i64 ytk,.int .i64 ydp]⟩ 146):=⟨_,rfl⟩
 rw[←hW4]at hXb hbY ⊢;obtain⟨gy,hgy⟩:∃gy,gy=W3.heap.size:=⟨_,rfl⟩
 rw[←hgy]at hbY ⊢;have hgyl:W2.heap.size≤gy:=by rw[hgy];exact hX3.out.size
 clear hW4 hgy hX3 W3 v0 v1 v2;have hbX4:=hbX.out.stay hXb;have hbn4:=hbn2.out.stay hXb;have hbo4:=hbo2.out.stay hXb;have hB4:=(hB.out.and1 nR hXa.out).and1 nR hXb;obtain⟨z6,z6l⟩:=hsg.out W4 ((hRA.out.stay hXa.out).stay hXb);have hbol:=hbo.out.lt;have hsz2:=hXa.out.size;have y0:=hbn4.cell 0;have x0:=hbX4.cell 0;have x1:=hbX4.cell 1;have x2:=hbX4.cell 2;have v0:=hbY.cell 0;have v1:=hbY.cell 1;have v2:=hbY.cell 2;simp only[zY,xA]at y0 x0 x1 x2 v0 v1 v2;replace hbX4:=Hd hbX4;replace hbY:=Hd hbY;replace hbn4:=Hd hbn4;replace hbo4:=Hd hbo4;replace hB4:=Hd hB4;replace hXb:=Hd hXb;have hgo:=Hd (xW hgxl (xW hgyl (xW hbol hsz2)));clear hgxl hgyl hbol hsz2;go_upto_region 26 with fail
 go_cut [129] (fun s wx=>s=.bool (decide (xdp<ydp))∧wx=W4)
 case first=>
  go_wp2;go_meet;exact⟨rfl,rfl⟩
 case rest=>
 obtain⟨rfl,rfl⟩:=hcut;rename_i K2 hK2;refine hK2 _ _ ?_;clear hK2 K2;go_cut [17] (fun s wx=>s=.int .i64 dp∧wx=wc)
 case first=>
  by_cases c:xdp<ydp
  ·have hd:=hdp.out;rw[if_pos c]at hd;go_wp2;go_meet;exact⟨by rw[hd],rfl⟩
  ·have hd:=hdp.out;rw[if_neg c]at hd;go_wp2;go_meet;exact⟨by rw[hd],rfl⟩
 case rest=>
 obtain⟨rfl,hwc⟩:=hcut;subst hwc;go_upto_region 28 with fail
 have f0:=hbo4.out.frozen 0;have f1:=hbo4.out.frozen 1;have f2:=hbo4.out.frozen 2;have u0:=hbo4.out.cell 0;have u1:=hbo4.out.cell 1;have u2:=hbo4.out.cell 2;simp only[zY,xA]at u0 u1 u2;have hSS:(wc.drew.cell? ⟨w.heap.size,0,none⟩=some (.int .i64 ((k:Int)+14))∧wc.drew.cell? ⟨gx,0,none⟩=some (.string xtx)∧wc.drew.cell? ⟨gx,1,none⟩=some (.int .i64 xtk)∧wc.drew.cell? ⟨gy,0,none⟩=some (.string ytx)∧wc.drew.cell? ⟨gy,1,none⟩=some (.int .i64 ytk)∧wc.drew.cell? ⟨7,k,none⟩=some (.string si))∧True:=⟨⟨y0,x0,x1,v0,v1,z6⟩,trivial⟩;refine G_region (p:=100) (S0:=fun W=>W.cell? ⟨w.heap.size,0,none⟩=some (.int .i64 ((k:Int)+14))∧W.cell? ⟨gx,0,none⟩=some (.string xtx)∧W.cell? ⟨gx,1,none⟩=some (.int .i64 xtk)∧W.cell? ⟨gy,0,none⟩=some (.string ytx)∧W.cell? ⟨gy,1,none⟩=some (.int .i64 ytk)∧W.cell? ⟨7,k,none⟩=some (.string si)) (S1:=fun _=>True) kQ ?_;refine' TkB 0 rfl hSS ?_;try go_simp
 refine' TkB 1 rfl hSS ?_;try go_simp
 refine' TkB 2 rfl hSS ?_;try go_simp
 refine' TkB 3 rfl hSS ?_;try go_simp
 refine' TkB 4 rfl hSS ?_;try go_simp
 refine' TkB 5 rfl hSS ?_;try go_simp
 refine' TkB 6 rfl hSS ?_;try go_simp
 refine' TkB 7 rfl hSS ?_;try go_simp
 refine' TkB 8 rfl hSS ?_;try go_simp
 refine' TkB 9 rfl hSS ?_;try go_simp
 refine' TkB 10 rfl hSS ?_;try go_simp
 refine' TkB 11 rfl hSS ?_;try go_simp
 refine' TkB 12 rfl hSS ?_;try go_simp
 refine' TkB 13 rfl hSS ?_;try go_simp
 refine' TkB 14 rfl hSS ?_;try go_simp
 refine' TkB 15 rfl hSS ?_;try go_simp
 refine' TkB 16 rfl hSS ?_;try go_simp
 refine' TkB 17 rfl hSS ?_;try go_simp
 refine' TkB 18 rfl hSS ?_;try go_simp
 refine' TkB 19 rfl hSS ?_;try go_simp
 refine' TkB 20 rfl hSS ?_;try go_simp
 refine G_step (k:=21) kQ rfl (fun K' hK'=>?_);go_simp;have hz:=(((hbo4.out.set_ 0 (.string (xtx++⟨#[32]⟩++si++⟨#[32]⟩++ytx))).set_ 1 (.int .i64 (xtk+1+ytk))).set_ 2 (.int .i64 dp)).stay ((bR).drew);have hbb:=(((hB4.out.setCell (p:=⟨w.heap.size+1+1+1,0,none⟩) (by show w.heap.size≤w.heap.size+1+1+1;omega) (.string (xtx++⟨#[32]⟩++si++⟨#[32]⟩++ytx))).setCell (p:=⟨w.heap.size+1+1+1,1,none⟩) (by show w.heap.size≤w.heap.size+1+1+1;omega) (.int .i64 (xtk+1+ytk))).setCell (p:=⟨w.heap.size+1+1+1,2,none⟩) (by show w.heap.size≤w.heap.size+1+1+1;omega) (.int .i64 dp)).drew;obtain⟨W9,hW9⟩:∃W9,W9=(((wc.setCell ⟨w.heap.size+1+1+1,0,none⟩ (.string (xtx++⟨#[32]⟩++si++⟨#[32]⟩++ytx))).setCell ⟨w.heap.size+1+1+1,1,none⟩ (.int .i64 (xtk+1+ytk))).setCell ⟨w.heap.size+1+1+1,2,none⟩ (.int .i64 dp)).drew:=⟨_,rfl⟩
 rw[←hW9]at hz hbb ⊢;simp only[List.set_cons_zero,List.set_cons_succ]at hz;refine hK'.out _ _ ⟨?_,fun _=>trivial⟩ ?_
 ·have hf:∀b:Nat,b≠w.heap.size+1+1+1→∀j,W9.cell? ⟨b,j,none⟩=wc.drew.cell? ⟨b,j,none⟩:=fun b hb j=>by
   refine World.cell?_of_block (w:=wc.drew) ?_;rw[hW9];exact(Below.heap_setCell _ _ _ _ (fun e=>hb e)).trans ((Below.heap_setCell _ _ _ _ (fun e=>hb e)).trans (Below.heap_setCell _ _ _ _ (fun e=>hb e)))
  obtain⟨o1,o2,o3,o4⟩:=hgo.out;have hgl:7≠w.heap.size+1+1+1:=by have:=hTR.out;omega
  dsimp only;rw[hf _ oQ,hf gx oQ,hf gx oQ,hf gy oQ,hf gy oQ,hf _ hgl];exact hSS.1
 refine Gd _ ?_;clear hK' K' hSS y0 x0 x1 x2 v0 v1 v2 u0 u1 u2 f0 f1 f2 z6 z6l;go_wp2;exact bpa rfl hz aggTo rfl rfl ⟨rfl,hbb⟩
theorem told_k (x:Nd)(a b:To)(o p:Int)(w:World)(h1:1≤x.op)(h2:x.op≤26)(hN:NdS x)(hT:XT w)(hR:RT w)(ha:ToB a)(ho:1≤o∧o≤26)(hb:ToB b)(hp:1≤p∧p≤26):
  Calls Tryz.prog 149 #[.agg ⟨ndV x⟩,.agg ⟨toV a⟩,.int .i64 o,.agg ⟨toV b⟩,.int .i64 p] w (ToP (toldS x a o b p) w):=by
 have:x.op=1∨x.op=2∨x.op=3∨x.op=4∨x.op=5∨(6≤x.op∧x.op≤11)∨x.op=12∨x.op=13∨14≤x.op:=oQ;rcases this with h |h |h |h |h |h |h |h |h
 ·exact told1_k x a b o p w hN hT hR h
 ·exact told2_k x a b o p w hN hT hR h
 ·exact told3_k x a b o p w hN hT hR h
 ·exact told4_k x a b o p w hN hT hR h
 ·exact told5_k x a b o p w hN hT hR h
 ·exact told6_k x a b o p w hN hT hR h.1 h.2
 ·exact told12_k x a b o p w hN hT hR h ha ho
 ·exact told13_k x a b o p w hN hT hR h ha ho
 ·exact told14_k x a b o p w hN hT hR h h2 ha ho hb hp
end shR
end Go.Proofs.YthaabihjeomipaaGreatDoor
