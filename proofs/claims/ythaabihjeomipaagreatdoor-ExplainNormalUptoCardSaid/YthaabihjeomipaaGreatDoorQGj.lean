/- The document's findings on a node. -/
import Derived.Test.YthaabihjeomipaaGreatDoorQGh
namespace Go.Proofs.YthaabihjeomipaaGreatDoor
set_option maxRecDepth 100000
set_option maxHeartbeats 16000000
open Go.RowKit Go.Deep Go.Maps
set_option linter.unusedVariables false
set_option linter.unusedSimpArgs false
namespace ckW
open nmW
theorem ofNode_v (A:Option Addr)(c:Nat)(F:Nat→Prop)(l:List Td)(q:Qy)(s:Sl3)(A5:Option Addr)(c5:Nat)(t:List Nd)(i:Nat)(x:Nd)(res:Bool)(hl:SzT l)(hs:SzQ q)(ht:SzN t)(hx:t[i]? =some x)(hxa:x.a<t.length)(hxb:x.b<t.length)(w:World)(hF:∀b,F b→b<w.heap.size)(r:Rd w F (.slice A l.length c) (.sl l.length (l.flatMap tdD)))(R:QR w F q s)
  (rt:Rd w F (.slice A5 t.length c5) (.sl t.length (t.flatMap ndD)))(hcase:¬(bareO x.op=false∧aggO x.op=false))(hu0:itemI q x.v<0):
  Calls Tryz.prog 98 #[.agg ⟨[.slice A l.length c]⟩,.agg ⟨qV q s⟩,.slice A5 t.length c5,.int .i64 i,.bool res] w (NdPost (errs l q t res x) w):=by
 have h0:=NS.new l A c q s x w;have ki:∀W,Bw w W→Calls Tryz.prog 97 #[.agg ⟨qV q s⟩,.string x.v] W fun e w'=>e=.returned (.int .i64 (itemI q x.v))∧Bw W w':=fun W hW=>itemOf_k q s F x.v hs.il W (R.under hW).lt (R.under hW).r1
 have ke:∀(it:It) A2 c2 W,it∈q.items→Bw w W→Rd W F (.slice A2 it.tys.length c2) (.sl it.tys.length (it.tys.flatMap strD))→Calls Tryz.prog 101 #[.agg ⟨[.slice A l.length c]⟩,.agg ⟨itV it (.slice A2 it.tys.length c2)⟩,.string x.at_] W fun e w'=>e=.returned (.bool (hasB l it.tys x.at_))∧Bw W w':=fun it A2 c2 W hx hW rx=>every_k A c F l it A2 c2 x.at_ hl (hs.it it hx).1.1 W (fun b h=>zF (hF b h) hW.size) (r.under hW hF) rx
 have hb4:Bw w ((((w.alloc (.cells ⟨[.slice A l.length c]⟩ 24)).alloc (.cells ⟨qV q s⟩ 31)).alloc (.cells ⟨erV 0 0 0 0⟩ 140)).alloc (.cells ⟨erV 0 0 0 0⟩ 140)):=(((bA).alloc sJ _).alloc (by simp;omega) _).alloc (by simp;omega) _;obtain⟨gt,offt,rfl,hgt,z0,z1,z2,z3,z4,z5⟩:=nd_at (rt.under hb4 hF) hx;have hgl:=hF gt hgt;have hop:∀(j:Nat) W,j<t.length→Bw w W→W.cell? ⟨gt,offt+j*6,none⟩=some (.int .i64 (opAt t j)):=fun j W hj hW=>by
  obtain⟨y,hy⟩:=getx hj;obtain⟨_,_,e,_,q0,_⟩:=nd_at (rt.under hW hF) hy;injection e with e
  injection e with e1 e2
  subst e1 e2;rw[opAt_of hy];exact q0
 have hil:=hs.il;have htl:=ht.1;have hR1:=R.r1;have hit':=(zC.1 hx).1;obtain⟨E,hE⟩:∃E,E=errs l q t res x:=⟨_,rfl⟩
 rw[←hE];unfold errs at hE;obtain⟨ba,hba⟩:∃b,b=bareO x.op:=⟨_,rfl⟩
 obtain⟨ag,hag⟩:∃b,b=aggO x.op:=⟨_,rfl⟩
 rw[←hba,←hag]at hE;have hnn:¬(ba=false∧ag=false):=by rw[hba,hag];exact hcase
 clear hcase;have kb:∀W,Calls Tryz.prog 142 #[.int .i64 x.op] W fun e w'=>e=.returned (.bool ba)∧w'=W:=fun W=>by rw[hba];exact barely_k x.op W
 have ka:∀W,Calls Tryz.prog 143 #[.int .i64 x.op] W fun e w'=>e=.returned (.bool ag)∧w'=W:=fun W=>by rw[hag];exact aggregate_k x.op W
 have kt:∀(o:Int) W,Calls Tryz.prog 99 #[.int .i64 o] W fun e w'=>e=.returned (.bool (truthO o))∧w'=W:=fun o W=>rtruth_k o W
 have hub0:∀it,useBad x it res↔((ag=true∧it.neg=true)∨(x.op=11∧manyB it=false)∨(res=true∧ba=true∧(it.neg=true∨manyB it=true))):=fun it=>by rw[hba,hag];exact Iff.rfl
 have hwt0:∃b,b=wantO x.op:=⟨_,rfl⟩
 have hkx:kindsB t x=(okK t (wantO x.op) x.a&&okK t (wantO x.op) x.b):=rfl;have cc:∀{W a1 a2 a3 a4},NS l A c q s x w W a1 a2 a3 a4→_:=fun {W a1 a2 a3 a4} (h:NS l A c q s x w W a1 a2 a3 a4)=>qbc h.sq.b1
 obtain⟨op,n,v,at_,a,bb⟩:=x;obtain⟨A1,c1,A2,c2,A3,c3⟩:=s;simp only[qV,ndV,erV]at h0 ki ke hub0 hwt0 hkx kb ka hba hag hxa hxb z0 z1 z2 z3 z4 z5 hE ⊢;obtain⟨wt,hwt⟩:=hwt0;rw[←hwt]at hkx;have hg0:(0:Int)≤(i:Int):=oQ;have hg1:(i:Int)<t.length:=oQ;replace h0:=Hd h0;replace kb:=Hd kb;replace ka:=Hd ka;replace ki:=Hd ki;replace ke:=Hd ke;replace kt:=Hd kt;replace hR1:=Hd hR1;replace hF:=Hd hF;replace hop:=Hd hop;replace hE:=Hd hE;replace hba:=Hd hba;replace hag:=Hd hag;replace hub0:=Hd hub0;replace hwt:=Hd hwt;replace hkx:=Hd hkx;replace hx:=Hd hx;clear hs R r rt ht hb4;go_enter Tryz.func98,Tryz.ntmps98;go_upto_region 3 with fail
 clear z0 z1 z2 z3 z4 z5;obtain⟨x0,⟨y0,y2,y3,y4,y5⟩,_⟩:=h0.out.cells;simp only at y0 y2 y3 y4 y5;go_cut [29] (fun s wx=>s=.bool (ba||ag)∧NS l A c q ⟨A1,c1,A2,c2,A3,c3⟩ ⟨op,n,v,at_,a,bb⟩ w wx 0 0 0 0)
 case first=>
  cases ba with
  |true=>
   go_wp2_with (go_at_call 142;refine(kb.out _).mono ?_;rintro e W ⟨rfl,hW⟩;subst W)
   all_goals(go_meet;exact⟨rfl,h0.out⟩)
  |false=>
   go_wp2_with (first
    |(go_at_call 142;refine(kb.out _).mono ?_;rintro e W ⟨rfl,hW⟩;subst W)
    |(go_at_call 143;refine(ka.out _).mono ?_;rintro e W ⟨rfl,hW⟩;subst W))
   all_goals(go_meet;exact⟨rfl,h0.out⟩)
 case rest=>
 obtain⟨hs29,hI⟩:=hcut;clear x0 y0 y2 y3 y4 y5 h0;obtain⟨x0,⟨y0,y2,y3,y4,y5⟩,e0,e1,e2,e3,e4⟩:=hI.cells;obtain⟨q0,q1,q2,q3,q4,q5,q6⟩:=cc hI;simp only at y0 y2 y3 y4 y5;try simp only at q0 q3 q6
 have hIs:=hI.hb.size;have hfz:=hI.b3.frozen;have hlt4:=hI.b4.lt;have hor:(ba||ag)=true:=by cases ba<;>cases ag<;>simp at hnn ⊢
 rw[hor]at hs29;subst hs29;have hE1:E=match itemAt q v with |none=>[68,0,0,0]|some it=>[0,if op≠5∧hasB l it.tys at_=false then 69 else 0,if useBad ⟨op,n,v,at_,a,bb⟩ it res then 76 else 0,0]:=by rw[hE.out];exact if_neg hnn
 clear hnn hor;have kii:=Hd (ki.out wc hI.hb);have hu:itemI q v<0:=hu0;rw[itemAt_none hu]at hE1;replace hE1:=Hd hE1;have hset:∀W,NS l A c q ⟨A1,c1,A2,c2,A3,c3⟩ ⟨op,n,v,at_,a,bb⟩ w W 0 0 0 0→NS l A c q ⟨A1,c1,A2,c2,A3,c3⟩ ⟨op,n,v,at_,a,bb⟩ w (W.setCell ⟨w.heap.size+1+1+1,1,none⟩ (.int .i64 68)) 68 0 0 0:=fun W h=>h.set (i:=1) (v:=68) rfl
 replace hset:=Hd hset;replace hI:=Hd hI;clear hfz;go_wp2_with (first
  |(go_at_call 97;refine kii.out.mono ?_;rintro e W ⟨rfl,hW⟩;have hJ:=hI.out.stay hW;obtain⟨x0,⟨y0,y2,y3,y4,y5⟩,e0,e1,e2,e3,e4⟩:=hJ.cells;have hf1:=hJ.b3.frozen 1;have hK:=Hd (hset.out W hJ);replace hJ:=Hd hJ;clear hW)
  |(refine at_op (.store 140 (.tmp 10) (.tmp 37)) rfl ?_;refine wsb rfl 140 (.tmp 10) (.tmp 37) rfl (cs':=erV 68 0 0 0) hK.out.b2 aggErr rfl rfl rfl rfl ?_;intro w1 hz1 hg1))
 exact bpa rfl hz1 aggErr rfl rfl (NdPost.mk hE1.out (hK.out.fin hg1))
open nmW
theorem ofNode_i (A:Option Addr)(c:Nat)(F:Nat→Prop)(l:List Td)(q:Qy)(s:Sl3)(A5:Option Addr)(c5:Nat)(t:List Nd)(i:Nat)(x:Nd)(res:Bool)(hl:SzT l)(hs:SzQ q)(ht:SzN t)(hx:t[i]? =some x)(hxa:x.a<t.length)(hxb:x.b<t.length)(w:World)(hF:∀b,F b→b<w.heap.size)(r:Rd w F (.slice A l.length c) (.sl l.length (l.flatMap tdD)))(R:QR w F q s)
  (rt:Rd w F (.slice A5 t.length c5) (.sl t.length (t.flatMap ndD)))(hcase:¬(bareO x.op=false∧aggO x.op=false))(hu0:¬itemI q x.v<0):
  Calls Tryz.prog 98 #[.agg ⟨[.slice A l.length c]⟩,.agg ⟨qV q s⟩,.slice A5 t.length c5,.int .i64 i,.bool res] w (NdPost (errs l q t res x) w):=by
 have h0:=NS.new l A c q s x w;have ki:∀W,Bw w W→Calls Tryz.prog 97 #[.agg ⟨qV q s⟩,.string x.v] W fun e w'=>e=.returned (.int .i64 (itemI q x.v))∧Bw W w':=fun W hW=>itemOf_k q s F x.v hs.il W (R.under hW).lt (R.under hW).r1
 have ke:∀(it:It) A2 c2 W,it∈q.items→Bw w W→Rd W F (.slice A2 it.tys.length c2) (.sl it.tys.length (it.tys.flatMap strD))→Calls Tryz.prog 101 #[.agg ⟨[.slice A l.length c]⟩,.agg ⟨itV it (.slice A2 it.tys.length c2)⟩,.string x.at_] W fun e w'=>e=.returned (.bool (hasB l it.tys x.at_))∧Bw W w':=fun it A2 c2 W hx hW rx=>every_k A c F l it A2 c2 x.at_ hl (hs.it it hx).1.1 W (fun b h=>zF (hF b h) hW.size) (r.under hW hF) rx
 have hb4:Bw w ((((w.alloc (.cells ⟨[.slice A l.length c]⟩ 24)).alloc (.cells ⟨qV q s⟩ 31)).alloc (.cells ⟨erV 0 0 0 0⟩ 140)).alloc (.cells ⟨erV 0 0 0 0⟩ 140)):=(((bA).alloc sJ _).alloc (by simp;omega) _).alloc (by simp;omega) _;obtain⟨gt,offt,rfl,hgt,z0,z1,z2,z3,z4,z5⟩:=nd_at (rt.under hb4 hF) hx;have hgl:=hF gt hgt;have hop:∀(j:Nat) W,j<t.length→Bw w W→W.cell? ⟨gt,offt+j*6,none⟩=some (.int .i64 (opAt t j)):=fun j W hj hW=>by
  obtain⟨y,hy⟩:=getx hj;obtain⟨_,_,e,_,q0,_⟩:=nd_at (rt.under hW hF) hy;injection e with e
  injection e with e1 e2
  subst e1 e2;rw[opAt_of hy];exact q0
 have hil:=hs.il;have htl:=ht.1;have hR1:=R.r1;have hit':=(zC.1 hx).1;obtain⟨E,hE⟩:∃E,E=errs l q t res x:=⟨_,rfl⟩
 rw[←hE];unfold errs at hE;obtain⟨ba,hba⟩:∃b,b=bareO x.op:=⟨_,rfl⟩
 obtain⟨ag,hag⟩:∃b,b=aggO x.op:=⟨_,rfl⟩
 rw[←hba,←hag]at hE;have hnn:¬(ba=false∧ag=false):=by rw[hba,hag];exact hcase
 clear hcase;have kb:∀W,Calls Tryz.prog 142 #[.int .i64 x.op] W fun e w'=>e=.returned (.bool ba)∧w'=W:=fun W=>by rw[hba];exact barely_k x.op W
 have ka:∀W,Calls Tryz.prog 143 #[.int .i64 x.op] W fun e w'=>e=.returned (.bool ag)∧w'=W:=fun W=>by rw[hag];exact aggregate_k x.op W
 have kt:∀(o:Int) W,Calls Tryz.prog 99 #[.int .i64 o] W fun e w'=>e=.returned (.bool (truthO o))∧w'=W:=fun o W=>rtruth_k o W
 have hub0:∀it,useBad x it res↔((ag=true∧it.neg=true)∨(x.op=11∧manyB it=false)∨(res=true∧ba=true∧(it.neg=true∨manyB it=true))):=fun it=>by rw[hba,hag];exact Iff.rfl
 have hwt0:∃b,b=wantO x.op:=⟨_,rfl⟩
 have hkx:kindsB t x=(okK t (wantO x.op) x.a&&okK t (wantO x.op) x.b):=rfl;have cc:∀{W a1 a2 a3 a4},NS l A c q s x w W a1 a2 a3 a4→_:=fun {W a1 a2 a3 a4} (h:NS l A c q s x w W a1 a2 a3 a4)=>qbc h.sq.b1
 obtain⟨op,n,v,at_,a,bb⟩:=x;obtain⟨A1,c1,A2,c2,A3,c3⟩:=s;simp only[qV,ndV,erV]at h0 ki ke hub0 hwt0 hkx kb ka hba hag hxa hxb z0 z1 z2 z3 z4 z5 hE ⊢;obtain⟨wt,hwt⟩:=hwt0;rw[←hwt]at hkx;have hg0:(0:Int)≤(i:Int):=oQ;have hg1:(i:Int)<t.length:=oQ;replace h0:=Hd h0;replace kb:=Hd kb;replace ka:=Hd ka;replace ki:=Hd ki;replace ke:=Hd ke;replace kt:=Hd kt;replace hR1:=Hd hR1;replace hF:=Hd hF;replace hop:=Hd hop;replace hE:=Hd hE;replace hba:=Hd hba;replace hag:=Hd hag;replace hub0:=Hd hub0;replace hwt:=Hd hwt;replace hkx:=Hd hkx;replace hx:=Hd hx;clear hs R r rt ht hb4;go_enter Tryz.func98,Tryz.ntmps98;go_upto_region 3 with fail
 clear z0 z1 z2 z3 z4 z5;obtain⟨x0,⟨y0,y2,y3,y4,y5⟩,_⟩:=h0.out.cells;simp only at y0 y2 y3 y4 y5;go_cut [29] (fun s wx=>s=.bool (ba||ag)∧NS l A c q ⟨A1,c1,A2,c2,A3,c3⟩ ⟨op,n,v,at_,a,bb⟩ w wx 0 0 0 0)
 case first=>
  cases ba with
  |true=>
   go_wp2_with (go_at_call 142;refine(kb.out _).mono ?_;rintro e W ⟨rfl,hW⟩;subst W)
   all_goals(go_meet;exact⟨rfl,h0.out⟩)
  |false=>
   go_wp2_with (first
    |(go_at_call 142;refine(kb.out _).mono ?_;rintro e W ⟨rfl,hW⟩;subst W)
    |(go_at_call 143;refine(ka.out _).mono ?_;rintro e W ⟨rfl,hW⟩;subst W))
   all_goals(go_meet;exact⟨rfl,h0.out⟩)
 case rest=>
 obtain⟨hs29,hI⟩:=hcut;clear x0 y0 y2 y3 y4 y5 h0;obtain⟨x0,⟨y0,y2,y3,y4,y5⟩,e0,e1,e2,e3,e4⟩:=hI.cells;obtain⟨q0,q1,q2,q3,q4,q5,q6⟩:=cc hI;simp only at y0 y2 y3 y4 y5;try simp only at q0 q3 q6
 have hIs:=hI.hb.size;have hfz:=hI.b3.frozen;have hlt4:=hI.b4.lt;have hor:(ba||ag)=true:=by cases ba<;>cases ag<;>simp at hnn ⊢
 rw[hor]at hs29;subst hs29;have hE1:E=match itemAt q v with |none=>[68,0,0,0]|some it=>[0,if op≠5∧hasB l it.tys at_=false then 69 else 0,if useBad ⟨op,n,v,at_,a,bb⟩ it res then 76 else 0,0]:=by rw[hE.out];exact if_neg hnn
 clear hnn hor;have kii:=Hd (ki.out wc hI.hb);have hu:¬itemI q v<0:=hu0;obtain⟨k,it,hk,hkl,hit,hia⟩:=itemI_at (Int.not_lt.1 hu);rw[hia]at hE1;replace hE1:E=[0,if op≠5∧hasB l it.tys at_=false then 69 else 0,if useBad ⟨op,n,v,at_,a,bb⟩ it res then 76 else 0,0]:=hE1;rw[hk]at kii;obtain⟨g,off,B2,d2,rfl,hgF,rx,a0,a1,a2,a3,a4⟩:=it_at hR1.out hit;have hgl2:=hF.out g hgF;have hcl:∀W,Bw w W→W.cell? ⟨g,off+k*5,none⟩=some (.bool it.neg)∧W.cell? ⟨g,off+k*5+1,none⟩=some (.slice B2 it.tys.length d2)∧W.cell? ⟨g,off+k*5+2,none⟩=some (.string it.v)∧W.cell? ⟨g,off+k*5+3,none⟩=some (.int .i64 it.lo)∧W.cell? ⟨g,off+k*5+4,none⟩=some (.int .i64 it.hi):=fun W hW=>
  ⟨(hW.cell (p:=⟨g,off+k*5,none⟩) hgl2).trans a0,(hW.cell (p:=⟨g,off+k*5+1,none⟩) hgl2).trans a1,(hW.cell (p:=⟨g,off+k*5+2,none⟩) hgl2).trans a2,(hW.cell (p:=⟨g,off+k*5+3,none⟩) hgl2).trans a3,(hW.cell (p:=⟨g,off+k*5+4,none⟩) hgl2).trans a4⟩
 clear a0 a1 a2 a3 a4;have ke':=fun W (hW:Bw w W)=>ke.out it B2 d2 W (zA hit) hW (rx.under hW hF.out)
 have kr:∀W,Calls Tryz.prog 144 #[.agg ⟨itV it (.slice B2 it.tys.length d2)⟩] W fun e w'=>e=.returned (.bool (manyB it))∧Bw W w':=fun W=>repeated_k it _ W
 have hub:=hub0.out it;obtain⟨hh,hhh⟩:∃b,b=hasB l it.tys at_:=⟨_,rfl⟩
 rw[←hhh]at ke' hE1;obtain⟨mb,hmb⟩:∃b,b=manyB it:=⟨_,rfl⟩
 rw[←hmb]at kr hub;obtain⟨ub,hub2⟩:∃b,b=decide (useBad ⟨op,n,v,at_,a,bb⟩ it res):=⟨_,rfl⟩
 have hE3:E=[0,if op≠5∧hh=false then 69 else 0,if ub=true then 76 else 0,0]:=by rw[hE1,hub2];simp only[decide_eq_true_eq]
 have hub3:ub=(ag&&it.neg||(decide (op=11)&& !mb)||(res&&ba&&(it.neg||mb))):=by
  rw[hub2,Bool.eq_iff_iff,decide_eq_true_iff,hub];cases ag<;>cases it.neg<;>cases mb<;>cases res<;>cases ba<;>simp
 clear hub hub2 hE1;simp only[itV]at ke' kr;have g0:(0:Int)≤(k:Int):=oQ;have g1:(k:Int)<q.items.length:=oQ;replace hk:=Hd hk;replace hit:=Hd hit;replace hia:=Hd hia;replace hhh:=Hd hhh;replace hmb:=Hd hmb;replace hcl:=Hd hcl;replace ke':=Hd ke';replace kr:=Hd kr;replace hE3:=Hd hE3;replace hub3:=Hd hub3;replace rx:=Hd rx;replace hI:=Hd hI;clear hu hfz hkl;generalize hng:it.neg=ng at*;replace hng:=Hd hng;go_upto_region 8 with(go_at_call 97;refine kii.out.mono ?_;rintro e W ⟨rfl,hW⟩;have hJ:=hI.out.stay hW;clear hW)
 clear x0 y0 y2 y3 y4 y5 e0 e1 e2 e3 e4 q0 q1 q2 q3 q4 q5 q6;obtain⟨q0,q1,q2,q3,q4,q5,q6⟩:=cc hJ;try simp only at q0 q3 q6
 obtain⟨a0,a1,a2,a3,a4⟩:=hcl.out W hJ.hb;have hJ2:=hJ.stay (bX (.cells ⟨[.bool ng,.slice B2 it.tys.length d2,.string it.v,.int .i64 it.lo,.int .i64 it.hi]⟩ 53));have hbi:Blk (W.alloc (.cells ⟨[.bool ng,.slice B2 it.tys.length d2,.string it.v,.int .i64 it.lo,.int .i64 it.hi]⟩ 53)) W.heap.size 53 [.bool ng,.slice B2 it.tys.length d2,.string it.v,.int .i64 it.lo,.int .i64 it.hi]:=Blk.new _ _ _;have ke2:=Hd (ke'.out _ hJ2.hb);obtain⟨x0,⟨y0,y2,y3,y4,y5⟩,_⟩:=hJ2.cells;simp only at y0 y3;have hWl:w.heap.size+1+1+1+1<W.heap.size:=hJ.b4.lt;replace hJ:=Hd hJ;replace hJ2:=Hd hJ2;replace hbi:=Hd hbi;obtain⟨gi,hgi⟩:∃g,g=W.heap.size:=⟨_,rfl⟩
 rw[←hgi]at hbi hWl;replace hgi:=Hd hgi.symm;have hgiO:=hgi.out;go_upto_region 10 with(go_at_call 101;refine ke2.out.mono ?_;rintro e W2 ⟨rfl,hW2⟩;have hK:=hJ2.out.stay hW2;have hbi2:=hbi.out.stay hW2;clear hW2)
 clear hgiO x0 y0 y2 y3 y4 y5 q0 q1 q2 q3 q4 q5 q6 a0 a1 a2 a3 a4;obtain⟨x0,⟨y0,y2,y3,y4,y5⟩,e0,e1,e2,e3,e4⟩:=hK.cells;have hf2:=hK.b3.frozen 2;have i0:=hbi2.cell 0;have i1:=hbi2.cell 1;have i2:=hbi2.cell 2;have i3:=hbi2.cell 3;have i4:=hbi2.cell 4;simp only[zY,xA]at y0 i0 i1 i2 i3 i4;replace hK:=Hd hK;replace hbi2:=Hd hbi2;go_cut [54] (fun s wx=>s=.bool (!decide (op=5)&& !hh)∧wx=W2)
 case first=>
  by_cases h5:op=5
  ·subst h5;go_wp2
   all_goals(go_meet;exact⟨rfl,rfl⟩)
  ·have f6:=bneT h5;have hx5:decide (op=5)=false:=zV h5;replace h5:=Hd h5;cases hh with
   |true=>
    go_wp2
    all_goals(go_meet;exact⟨by rw[hx5];rfl,rfl⟩)
   |false=>
    go_wp2
    all_goals(go_meet;exact⟨by rw[hx5];rfl,rfl⟩)
 case rest=>
 obtain⟨hs54,hwx⟩:=hcut;obtain rfl:=hwx.symm;clear hwx;obtain⟨e69,he69⟩:∃e,e=(!decide (op=5)&& !hh):=⟨_,rfl⟩
 rw[←he69]at hs54;subst hs54;have hE4:E=[0,if e69=true then 69 else 0,if ub=true then 76 else 0,0]:=by
  rw[hE3.out,he69];congr 2;by_cases h5:op=5
  ·rw[if_neg (fun h=>h.1 h5),zW h5];rfl
  ·cases hh with
   |true=>rw[if_neg (fun h=>by cases h.2)];simp
   |false=>rw[if_pos ⟨h5,rfl⟩,zV h5];rfl
 replace he69:=Hd he69;replace hE4:=Hd hE4;clear hE3;go_upto_if 54 with fail
 go_cut [15] (fun s wx=>∃d69:Int,Hid (d69=if e69=true then 69 else 0)∧NS l A c q ⟨some ⟨g,off,none⟩,c1,A2,c2,A3,c3⟩ ⟨op,n,v,at_,a,bb⟩ w wx 0 d69 0 0∧Blk wx gi 53 [.bool ng,.slice B2 it.tys.length d2,.string it.v,.int .i64 it.lo,.int .i64 it.hi])
 case first=>
  cases e69 with
  |true=>
   have hK2:=Hd (hK.out.set (i:=2) (v:=69) (e1:=0) (e2:=69) (e3:=0) (e4:=0) rfl);have hb3:=Hd (hbi2.out.far (p:=⟨w.heap.size+1+1+1,2,none⟩) (by show gi≠w.heap.size+1+1+1;omega) (.int .i64 69));go_wp2
   all_goals(go_meet;exact⟨69,rfl,hK2.out,hb3.out⟩)
  |false=>
   go_wp2
   all_goals(go_meet;exact⟨0,rfl,hK.out,hbi2.out⟩)
 case rest=>
 obtain⟨d69,hd69,hK3,hb3⟩:=hcut;rw[←hd69.out]at hE4;clear x0 y0 y2 y3 y4 y5 e0 e1 e2 e3 e4 i0 i1 i2 i3 i4 hf2 hK hbi2;have i0:=hb3.cell 0;have i1:=hb3.cell 1;have i2:=hb3.cell 2;have i3:=hb3.cell 3;have i4:=hb3.cell 4;simp only[zY,xA]at i0 i1 i2 i3 i4;replace hK3:=Hd hK3;replace hb3:=Hd hb3;go_upto_region 13 with(go_at_call 144;refine(kr.out _).mono ?_;rintro e W3 ⟨rfl,hW3⟩;have hK4:=hK3.out.stay hW3;have hb4:=hb3.out.stay hW3;clear hW3)
 clear i0 i1 i2 i3 i4;have i0:=hb4.cell 0;simp only[zY]at i0;obtain⟨x0,⟨y0,y2,y3,y4,y5⟩,e0,e1,e2,e3,e4⟩:=hK4.cells;have hf3:=hK4.b3.frozen 3;simp only at y0;replace hK4:=Hd hK4;replace hb4:=Hd hb4;go_cut [88] (fun s wx=>s=.bool ub∧wx=W3)
 case first=>
  have hub3':=hub3.out;obtain⟨d11,hd11⟩:∃d,d=decide (op=11):=⟨_,rfl⟩
  rw[←hd11]at hub3';cases ag with
  |true=>
   cases ng with
   |true=>
    have hub4:Hid (ub=true):=by show _=_;rw[hub3'];rfl
    clear hub3';go_wp2_with (first
     |(go_at_call 143;refine(ka.out _).mono ?_;rintro e W ⟨rfl,hW⟩;subst W)
     |(go_at_call 142;refine(kb.out _).mono ?_;rintro e W ⟨rfl,hW⟩;subst W))
    all_goals(go_meet;exact⟨by rw[hub4.out],rfl⟩)
   |false=>
    by_cases h11:op=11
    ·obtain rfl:d11=true:=by rw[hd11];exact zW h11
     have f11:=beqT h11;replace h11:=Hd h11;replace hd11:=Hd hd11;cases mb with
     |false=>
      have hub4:Hid (ub=true):=by show _=_;rw[hub3'];rfl
      clear hub3';go_wp2_with (first
       |(go_at_call 143;refine(ka.out _).mono ?_;rintro e W ⟨rfl,hW⟩;subst W)
       |(go_at_call 142;refine(kb.out _).mono ?_;rintro e W ⟨rfl,hW⟩;subst W))
      all_goals(go_meet;exact⟨by rw[hub4.out],rfl⟩)
     |true=>
      cases res with
      |false=>
       have hub4:Hid (ub=false):=by show _=_;rw[hub3'];rfl
       clear hub3';go_wp2_with (first
        |(go_at_call 143;refine(ka.out _).mono ?_;rintro e W ⟨rfl,hW⟩;subst W)
        |(go_at_call 142;refine(kb.out _).mono ?_;rintro e W ⟨rfl,hW⟩;subst W))
       all_goals(go_meet;exact⟨by rw[hub4.out],rfl⟩)
      |true=>
       cases ba with
       |false=>
        have hub4:Hid (ub=false):=by show _=_;rw[hub3'];rfl
        clear hub3';go_wp2_with (first
         |(go_at_call 143;refine(ka.out _).mono ?_;rintro e W ⟨rfl,hW⟩;subst W)
         |(go_at_call 142;refine(kb.out _).mono ?_;rintro e W ⟨rfl,hW⟩;subst W))
        all_goals(go_meet;exact⟨by rw[hub4.out],rfl⟩)
       |true=>
        have hub4:Hid (ub=true):=by show _=_;rw[hub3'];rfl
        clear hub3';go_wp2_with (first
         |(go_at_call 143;refine(ka.out _).mono ?_;rintro e W ⟨rfl,hW⟩;subst W)
         |(go_at_call 142;refine(kb.out _).mono ?_;rintro e W ⟨rfl,hW⟩;subst W))
        all_goals(go_meet;exact⟨by rw[hub4.out],rfl⟩)
    ·obtain rfl:d11=false:=by rw[hd11];exact zV h11
     have f11:=beqF h11;replace h11:=Hd h11;replace hd11:=Hd hd11;cases res with
     |false=>
      have hub4:Hid (ub=false):=by show _=_;rw[hub3'];rfl
      clear hub3';go_wp2_with (first
       |(go_at_call 143;refine(ka.out _).mono ?_;rintro e W ⟨rfl,hW⟩;subst W)
       |(go_at_call 142;refine(kb.out _).mono ?_;rintro e W ⟨rfl,hW⟩;subst W))
      all_goals(go_meet;exact⟨by rw[hub4.out],rfl⟩)
     |true=>
      cases ba with
      |false=>
       have hub4:Hid (ub=false):=by show _=_;rw[hub3'];rfl
       clear hub3';go_wp2_with (first
        |(go_at_call 143;refine(ka.out _).mono ?_;rintro e W ⟨rfl,hW⟩;subst W)
        |(go_at_call 142;refine(kb.out _).mono ?_;rintro e W ⟨rfl,hW⟩;subst W))
       all_goals(go_meet;exact⟨by rw[hub4.out],rfl⟩)
      |true=>
       cases mb with
       |true=>
        have hub4:Hid (ub=true):=by show _=_;rw[hub3'];rfl
        clear hub3';go_wp2_with (first
         |(go_at_call 143;refine(ka.out _).mono ?_;rintro e W ⟨rfl,hW⟩;subst W)
         |(go_at_call 142;refine(kb.out _).mono ?_;rintro e W ⟨rfl,hW⟩;subst W))
        all_goals(go_meet;exact⟨by rw[hub4.out],rfl⟩)
       |false=>
        have hub4:Hid (ub=false):=by show _=_;rw[hub3'];rfl
        clear hub3';go_wp2_with (first
         |(go_at_call 143;refine(ka.out _).mono ?_;rintro e W ⟨rfl,hW⟩;subst W)
         |(go_at_call 142;refine(kb.out _).mono ?_;rintro e W ⟨rfl,hW⟩;subst W))
        all_goals(go_meet;exact⟨by rw[hub4.out],rfl⟩)
  |false=>
   by_cases h11:op=11
   ·obtain rfl:d11=true:=by rw[hd11];exact zW h11
    have f11:=beqT h11;replace h11:=Hd h11;replace hd11:=Hd hd11;cases mb with
    |false=>
     have hub4:Hid (ub=true):=by show _=_;rw[hub3'];rfl
     clear hub3';go_wp2_with (first
      |(go_at_call 143;refine(ka.out _).mono ?_;rintro e W ⟨rfl,hW⟩;subst W)
      |(go_at_call 142;refine(kb.out _).mono ?_;rintro e W ⟨rfl,hW⟩;subst W))
     all_goals(go_meet;exact⟨by rw[hub4.out],rfl⟩)
    |true=>
     cases res with
     |false=>
      have hub4:Hid (ub=false):=by show _=_;rw[hub3'];rfl
      clear hub3';go_wp2_with (first
       |(go_at_call 143;refine(ka.out _).mono ?_;rintro e W ⟨rfl,hW⟩;subst W)
       |(go_at_call 142;refine(kb.out _).mono ?_;rintro e W ⟨rfl,hW⟩;subst W))
      all_goals(go_meet;exact⟨by rw[hub4.out],rfl⟩)
     |true=>
      cases ba with
      |false=>
       have hub4:Hid (ub=false):=by show _=_;rw[hub3'];rfl
       clear hub3';go_wp2_with (first
        |(go_at_call 143;refine(ka.out _).mono ?_;rintro e W ⟨rfl,hW⟩;subst W)
        |(go_at_call 142;refine(kb.out _).mono ?_;rintro e W ⟨rfl,hW⟩;subst W))
       all_goals(go_meet;exact⟨by rw[hub4.out],rfl⟩)
      |true=>
       cases ng with
       |true=>
        have hub4:Hid (ub=true):=by show _=_;rw[hub3'];rfl
        clear hub3';go_wp2_with (first
         |(go_at_call 143;refine(ka.out _).mono ?_;rintro e W ⟨rfl,hW⟩;subst W)
         |(go_at_call 142;refine(kb.out _).mono ?_;rintro e W ⟨rfl,hW⟩;subst W))
        all_goals(go_meet;exact⟨by rw[hub4.out],rfl⟩)
       |false=>
        have hub4:Hid (ub=true):=by show _=_;rw[hub3'];rfl
        clear hub3';go_wp2_with (first
         |(go_at_call 143;refine(ka.out _).mono ?_;rintro e W ⟨rfl,hW⟩;subst W)
         |(go_at_call 142;refine(kb.out _).mono ?_;rintro e W ⟨rfl,hW⟩;subst W))
        all_goals(go_meet;exact⟨by rw[hub4.out],rfl⟩)
   ·obtain rfl:d11=false:=by rw[hd11];exact zV h11
    have f11:=beqF h11;replace h11:=Hd h11;replace hd11:=Hd hd11;cases res with
    |false=>
     have hub4:Hid (ub=false):=by show _=_;rw[hub3'];rfl
     clear hub3';go_wp2_with (first
      |(go_at_call 143;refine(ka.out _).mono ?_;rintro e W ⟨rfl,hW⟩;subst W)
      |(go_at_call 142;refine(kb.out _).mono ?_;rintro e W ⟨rfl,hW⟩;subst W))
     all_goals(go_meet;exact⟨by rw[hub4.out],rfl⟩)
    |true=>
     cases ba with
     |false=>
      have hub4:Hid (ub=false):=by show _=_;rw[hub3'];rfl
      clear hub3';go_wp2_with (first
       |(go_at_call 143;refine(ka.out _).mono ?_;rintro e W ⟨rfl,hW⟩;subst W)
       |(go_at_call 142;refine(kb.out _).mono ?_;rintro e W ⟨rfl,hW⟩;subst W))
      all_goals(go_meet;exact⟨by rw[hub4.out],rfl⟩)
     |true=>
      cases ng with
      |true=>
       have hub4:Hid (ub=true):=by show _=_;rw[hub3'];rfl
       clear hub3';go_wp2_with (first
        |(go_at_call 143;refine(ka.out _).mono ?_;rintro e W ⟨rfl,hW⟩;subst W)
        |(go_at_call 142;refine(kb.out _).mono ?_;rintro e W ⟨rfl,hW⟩;subst W))
       all_goals(go_meet;exact⟨by rw[hub4.out],rfl⟩)
      |false=>
       cases mb with
       |true=>
        have hub4:Hid (ub=true):=by show _=_;rw[hub3'];rfl
        clear hub3';go_wp2_with (first
         |(go_at_call 143;refine(ka.out _).mono ?_;rintro e W ⟨rfl,hW⟩;subst W)
         |(go_at_call 142;refine(kb.out _).mono ?_;rintro e W ⟨rfl,hW⟩;subst W))
        all_goals(go_meet;exact⟨by rw[hub4.out],rfl⟩)
       |false=>
        have hub4:Hid (ub=false):=by show _=_;rw[hub3'];rfl
        clear hub3';go_wp2_with (first
         |(go_at_call 143;refine(ka.out _).mono ?_;rintro e W ⟨rfl,hW⟩;subst W)
         |(go_at_call 142;refine(kb.out _).mono ?_;rintro e W ⟨rfl,hW⟩;subst W))
        all_goals(go_meet;exact⟨by rw[hub4.out],rfl⟩)
 case rest=>
 obtain⟨rfl,hwx⟩:=hcut;obtain rfl:=hwx.symm;clear hwx;have hK5:=Hd (hK4.out.set (i:=3) (v:=76) (e1:=0) (e2:=d69) (e3:=76) (e4:=0) rfl);cases ub with
 |true=>
  go_wp2_with (refine at_op (.store 140 (.tmp 10) (.tmp 90)) rfl ?_;refine wsb rfl 140 (.tmp 10) (.tmp 90) rfl (cs':=erV 0 d69 76 0) hK5.out.b2 aggErr rfl rfl rfl rfl ?_;intro w1 hz1 hg1);exact bpa rfl hz1 aggErr rfl rfl (NdPost.mk hE4.out (hK5.out.fin hg1))
 |false=>
  go_wp2_with (refine at_op (.store 140 (.tmp 10) (.tmp 90)) rfl ?_;refine wsb rfl 140 (.tmp 10) (.tmp 90) rfl (cs':=erV 0 d69 0 0) hK4.out.b2 aggErr rfl rfl rfl rfl ?_;intro w1 hz1 hg1);exact bpa rfl hz1 aggErr rfl rfl (NdPost.mk hE4.out (hK4.out.fin hg1))
theorem ofNode_k (A:Option Addr)(c:Nat)(F:Nat→Prop)(l:List Td)(q:Qy)(s:Sl3)(A5:Option Addr)(c5:Nat)(t:List Nd)(i:Nat)(x:Nd)(res:Bool)(hl:SzT l)(hs:SzQ q)(ht:SzN t)(hx:t[i]? =some x)(hxa:x.a<t.length)(hxb:x.b<t.length)(w:World)(hF:∀b,F b→b<w.heap.size)(r:Rd w F (.slice A l.length c) (.sl l.length (l.flatMap tdD)))(R:QR w F q s)
  (rt:Rd w F (.slice A5 t.length c5) (.sl t.length (t.flatMap ndD))):
  Calls Tryz.prog 98 #[.agg ⟨[.slice A l.length c]⟩,.agg ⟨qV q s⟩,.slice A5 t.length c5,.int .i64 i,.bool res] w (NdPost (errs l q t res x) w):=by
 by_cases h:bareO x.op=false∧aggO x.op=false
 ·exact ofNode_n A c F l q s A5 c5 t i x res hl hs ht hx hxa hxb w hF r R rt h
 ·by_cases h2:itemI q x.v<0
  ·exact ofNode_v A c F l q s A5 c5 t i x res hl hs ht hx hxa hxb w hF r R rt h h2
  ·exact ofNode_i A c F l q s A5 c5 t i x res hl hs ht hx hxa hxb w hF r R rt h h2
end ckW
end Go.Proofs.YthaabihjeomipaaGreatDoor
