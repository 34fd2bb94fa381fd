/- What is wrong with a node's variable. -/
import Derived.Test.YthaabihjeomipaaGreatDoorQG1
namespace Go.Proofs.YthaabihjeomipaaGreatDoor
set_option maxRecDepth 100000
set_option maxHeartbeats 16000000
open Go.RowKit Go.Deep Go.Maps
set_option linter.unusedVariables false
set_option linter.unusedSimpArgs false
theorem itemI_at {q:Qy}{v:ByteArray}(h:0≤itemI q v):∃(k:Nat)(it:It),itemI q v=k∧k<q.items.length∧q.items[k]? =some it∧itemAt q v=some it:=by
 have h1:=placeI_lt (vrs q) v;rw[vrs_len]at h1;obtain⟨k,hk⟩:∃k:Nat,itemI q v=k:=⟨(itemI q v).toNat,oQ⟩
 have h2:k<q.items.length:=by unfold itemI at hk;omega
 obtain⟨it,hit⟩:=getx h2;refine⟨k,it,hk,h2,hit,?_⟩;unfold itemAt;rw[if_neg oQ,hk,Int.toNat_natCast,hit]
theorem itemAt_none {q:Qy}{v:ByteArray}(h:itemI q v<0):itemAt q v=none:=if_pos h
structure MS (l:List Td)(A:Option Addr)(c:Nat)(q:Qy)(s:Sl3)(x:Nd)(w wr:World):Prop where
 hb:Bw w wr
 b0:Blk wr w.heap.size 24 [.slice A l.length c]
 b1:Blk wr (w.heap.size+1) 31 (qV q s)
 b2:Blk wr (w.heap.size+1+1) 96 (ndV x)
theorem MS.stay {l:List Td}{A:Option Addr}{c:Nat}{q:Qy}{s:Sl3}{x:Nd}{w wr W:World}(h:MS l A c q s x w wr)(hb:Bw wr W):MS l A c q s x w W:=
 ⟨h.hb.trans (hb.mono h.hb.size),h.b0.stay hb,h.b1.stay hb,h.b2.stay hb⟩
theorem MS.new (l:List Td)(A:Option Addr)(c:Nat)(q:Qy)(s:Sl3)(x:Nd)(w:World):MS l A c q s x w (((w.alloc (.cells ⟨[.slice A l.length c]⟩ 24)).alloc (.cells ⟨qV q s⟩ 31)).alloc (.cells ⟨ndV x⟩ 96)):=
 ⟨((bA).alloc sJ _).alloc (by simp;omega) _,(((Blk.new w _ _).alloc _).alloc _),(((Blk.new' sJ).alloc _)),(Blk.new' sJ)⟩
theorem MS.cells {l:List Td}{A:Option Addr}{c:Nat}{q:Qy}{s:Sl3}{x:Nd}{w wr:World}(h:MS l A c q s x w wr):wr.cell? ⟨w.heap.size,0,none⟩=some (.slice A l.length c)∧wr.cell? ⟨w.heap.size+1,0,none⟩=some (.slice s.a1 q.items.length s.c1)∧
  wr.cell? ⟨w.heap.size+1+1,0,none⟩=some (.int .i64 x.op)∧wr.cell? ⟨w.heap.size+1+1,2,none⟩=some (.string x.v)∧wr.cell? ⟨w.heap.size+1+1,3,none⟩=some (.string x.at_):=
 ⟨h.b0.cell 0,h.b1.cell 0,h.b2.cell 0,h.b2.cell 2,h.b2.cell 3⟩
structure MI (l:List Td)(A:Option Addr)(c:Nat)(q:Qy)(s:Sl3)(x:Nd)(it:It)(u:Value)(w wr:World):Prop where
 ms:MS l A c q s x w wr
 bi:Blk wr (w.heap.size+1+1+1) 53 (itV it u)
theorem MI.stay {l:List Td}{A:Option Addr}{c:Nat}{q:Qy}{s:Sl3}{x:Nd}{it:It}{u:Value}{w wr W:World}(h:MI l A c q s x it u w wr)(hb:Bw wr W):MI l A c q s x it u w W:=⟨h.ms.stay hb,h.bi.stay hb⟩
theorem MI.new {l:List Td}{A:Option Addr}{c:Nat}{q:Qy}{s:Sl3}{x:Nd}{w wr:World}(h:MS l A c q s x w wr)(hw:wr.heap.size=w.heap.size+1+1+1)(it:It)(u:Value):MI l A c q s x it u w (wr.alloc (.cells ⟨itV it u⟩ 53)):=⟨h.stay bA,Blk.new' hw⟩
theorem MI.cells {l:List Td}{A:Option Addr}{c:Nat}{q:Qy}{s:Sl3}{x:Nd}{it:It}{u:Value}{w wr:World}(h:MI l A c q s x it u w wr):wr.cell? ⟨w.heap.size+1+1+1,0,none⟩=some (.bool it.neg)∧wr.cell? ⟨w.heap.size+1+1+1,1,none⟩=some u∧wr.cell? ⟨w.heap.size+1+1+1,2,none⟩=some (.string it.v)∧
 wr.cell? ⟨w.heap.size+1+1+1,3,none⟩=some (.int .i64 it.lo)∧wr.cell? ⟨w.heap.size+1+1+1,4,none⟩=some (.int .i64 it.hi):=⟨h.bi.cell 0,h.bi.cell 1,h.bi.cell 2,h.bi.cell 3,h.bi.cell 4⟩
namespace ckW
open nmW
theorem mention_k (A:Option Addr)(c:Nat)(F:Nat→Prop)(l:List Td)(q:Qy)(s:Sl3)(x:Nd)(res:Bool)(m:Nat)(f:Lit→Option Int)(hl:SzT l)(hs:SzQ q)(hxv:x.v.size≤1048576)(w:World)(hF:∀b,F b→b<w.heap.size)(r:Rd w F (.slice A l.length c) (.sl l.length (l.flatMap tdD)))(R:QR w F q s)
  (hM:MapG 9 w m q.items.length f)(hN:NmIs (vrs q) f):
  Calls Tryz.prog 71 #[.agg ⟨[.slice A l.length c]⟩,.agg ⟨qV q s⟩,.map (some m),.agg ⟨ndV x⟩,.bool res] w fun e w'=>e=.returned (.int .i64 (mentC l q res x))∧Bw w w':=by
 have h0:=MS.new l A c q s x w;have lk:=(hM.stay h0.hb).look hxv;rw[hN x.v,optP_isSome]at lk;obtain⟨b,hc⟩:∃b,b=mentC l q res x:=⟨_,rfl⟩
 rw[←hc];unfold mentC at hc;obtain⟨ba,hba⟩:∃b,b=bareO x.op:=⟨_,rfl⟩
 obtain⟨ag,hag⟩:∃b,b=aggO x.op:=⟨_,rfl⟩
 rw[←hba,←hag]at hc;have kb:∀W,Calls Tryz.prog 84 #[.int .i64 x.op] W fun e w'=>e=.returned (.bool ba)∧w'=W:=fun W=>by rw[hba];exact isBare_k x.op W
 have ka:∀W,Calls Tryz.prog 85 #[.int .i64 x.op] W fun e w'=>e=.returned (.bool ag)∧w'=W:=fun W=>by rw[hag];exact isAgg_k x.op W
 have r1:=R.r1;have kh:∀(it:It) A2 c2 W,it∈q.items→Bw w W→Rd W F (.slice A2 it.tys.length c2) (.sl it.tys.length (it.tys.flatMap strD))→Calls Tryz.prog 113 #[.agg ⟨[.slice A l.length c]⟩,.agg ⟨itV it (.slice A2 it.tys.length c2)⟩,.string x.at_] W fun e w'=>e=.returned (.bool (hasB l it.tys x.at_))∧Bw W w':=fun it A2 c2 W hx hW rx=>has_k A c F l it A2 c2 x.at_ hl (hs.it it hx).1.1 W (fun b h=>zF (hF b h) hW.size) (r.under hW hF) rx
 obtain⟨n0,n1,n2,n3,n4⟩:=h0.cells;obtain⟨op,n,v,at_,a,bb⟩:=x;obtain⟨A1,c1,A2,c2,A3,c3⟩:=s;simp only[qV,ndV]at h0 hc hba hag kb ka lk n0 n1 n2 n3 n4 r1 kh ⊢;replace h0:=Hd h0;replace kb:=Hd kb;replace ka:=Hd ka;replace kh:=Hd kh;replace r1:=Hd r1;replace hF:=Hd hF;clear hs R r hM hxv hN;by_cases hnn:ba=false∧ag=false
 ·rw[if_pos hnn]at hc;obtain⟨rfl,rfl⟩:=hnn;replace hc:=Hd hc;replace hba:=Hd hba;replace hag:=Hd hag;clear n0 n1 n2 n3 n4 lk;go_enter Tryz.func71,Tryz.ntmps71;go_wp2_with (first
   |(go_at_call 84;refine(kb.out _).mono ?_;rintro e W ⟨rfl,hW⟩;subst W)
   |(go_at_call 85;refine(ka.out _).mono ?_;rintro e W ⟨rfl,hW⟩;subst W))
  go_ret;exact⟨rtI hc.out.symm,h0.out.hb⟩
 rw[if_neg hnn]at hc;by_cases hu:itemI q v<0
 ·rw[itemAt_none hu]at hc;rw[show decide (0≤placeI (vrs q) v)=false from zV (by unfold itemI at hu;omega)]at lk;replace hc:=Hd hc;replace hba:=Hd hba;replace hag:=Hd hag;replace hu:=Hd hu;clear n0 n1;cases ba with
  |true=>
   clear hnn;go_enter Tryz.func71,Tryz.ntmps71;go_wp2_with (first
    |(go_at_call 84;refine(kb.out _).mono ?_;rintro e W ⟨rfl,hW⟩;subst W))
   go_ret;exact⟨rtI hc.out.symm,h0.out.hb⟩
  |false=>
   obtain rfl:ag=true:=by simpa using hnn
   clear hnn;go_enter Tryz.func71,Tryz.ntmps71;go_wp2_with (first
    |(go_at_call 84;refine(kb.out _).mono ?_;rintro e W ⟨rfl,hW⟩;subst W)
    |(go_at_call 85;refine(ka.out _).mono ?_;rintro e W ⟨rfl,hW⟩;subst W))
   go_ret;exact⟨rtI hc.out.symm,h0.out.hb⟩
 obtain⟨k,it,hk,hkl,hit,hia⟩:=itemI_at (Int.not_lt.1 hu);rw[hia]at hc;replace hc:b=if op≠5∧hasB l it.tys at_=false then 69 else if useBad ⟨op,n,v,at_,a,bb⟩ it res then 76 else 0:=hc
 unfold itemI at hk;rw[hk,optP_getD oQ,show decide (0≤(k:Int))=true from zW oQ]at lk;obtain⟨g,off,B2,d2,rfl,hgF,rx,a0,a1,a2,a3,a4⟩:=it_at r1.out hit;have hgl:=hF.out g hgF;have hbl:=fun(i:Nat)=>h0.out.hb.cell (p:=⟨g,i,none⟩) hgl
 rw[←hbl]at a0 a1 a2 a3 a4;clear hbl hgF hgl;have hI:=MI.new h0.out sJ it (.slice B2 it.tys.length d2);have kh':=fun W (hW:Bw w W)=>kh.out it B2 d2 W (zA hit) hW (rx.under hW hF.out)
 obtain⟨y0,y1,y2,y3,y4⟩:=hI.cells;obtain⟨z0,z1,z2,z3,z4⟩:=hI.ms.cells;obtain⟨hh,hhh⟩:∃b,b=hasB l it.tys at_:=⟨_,rfl⟩
 rw[←hhh]at kh' hc;obtain⟨mb,hmb⟩:∃b,b=manyB it:=⟨_,rfl⟩
 have hub:useBad ⟨op,n,v,at_,a,bb⟩ it res↔((ag=true∧it.neg=true)∨(op=11∧mb=false)∨(res=true∧ba=true∧(it.neg=true∨mb=true))):=by rw[hba,hag,hmb];exact Iff.rfl
 simp only[itV,ndV,qV]at hI kh' y0 y1 y2 y3 y4 z0 z1 z2 z3 z4;have h69:op≠5→hh=false→b=69:=fun h1 h2=>by rw[hc];exact if_pos ⟨h1,h2⟩
 have h76:(op=5∨hh=true)→useBad ⟨op,n,v,at_,a,bb⟩ it res→b=76:=fun h1 h2=>by rw[hc,if_neg (fun h=>h1.elim h.1 (fun e=>by rw[h.2]at e;cases e))];exact if_pos h2
 have h00:(op=5∨hh=true)→¬useBad ⟨op,n,v,at_,a,bb⟩ it res→b=0:=fun h1 h2=>by rw[hc,if_neg (fun h=>h1.elim h.1 (fun e=>by rw[h.2]at e;cases e))];exact if_neg h2
 rw[hub]at h76 h00;clear hub hc;have g0:(0:Int)≤(k:Int):=oQ;have g1:(k:Int)<q.items.length:=oQ;replace hI:=Hd hI;replace kh':=Hd kh';replace h69:=Hd h69;replace h76:=Hd h76;replace h00:=Hd h00;replace hba:=Hd hba;replace hag:=Hd hag;replace hk:=Hd hk;replace hit:=Hd hit;replace hia:=Hd hia;replace hhh:=Hd hhh;replace hmb:=Hd hmb;replace rx:=Hd rx;clear hu hkl;have hor:(ba||ag)=true:=by cases ba<;>cases ag<;>simp at hnn ⊢
 clear hnn;replace hor:=Hd hor;have hms:=h0.out;have hsz:(((w.alloc (.cells ⟨[.slice A l.length c]⟩ 24)).alloc (.cells ⟨[.slice (some ⟨g,off,none⟩) q.items.length c1,.int .i64 q.mode,.int .i64 q.after,.slice A2 q.wh.length c2,.int .i64 q.within,.string q.by_,.slice A3 q.ret.length c3]⟩ 31)).alloc (.cells ⟨[.int .i64 op,.int .i64 n,.string v,.string at_,.int .i64 a,.int .i64 bb]⟩ 96)).heap.size=w.heap.size+1+1+1:=sJ;generalize hW0:(((w.alloc (.cells ⟨[.slice A l.length c]⟩ 24)).alloc (.cells ⟨[.slice (some ⟨g,off,none⟩) q.items.length c1,.int .i64 q.mode,.int .i64 q.after,.slice A2 q.wh.length c2,.int .i64 q.within,.string q.by_,.slice A3 q.ret.length c3]⟩ 31)).alloc (.cells ⟨[.int .i64 op,.int .i64 n,.string v,.string at_,.int .i64 a,.int .i64 bb]⟩ 96))=W0 at*;replace hms:=Hd hms;replace hW0:=Hd hW0;have hszH:=Hd hsz;clear hsz;go_enter Tryz.func71,Tryz.ntmps71;go_upto_region 1 with fail
 rw[hW0.out];go_cut [24] (fun s wx=>s=.bool false∧wx=W0)
 case first=>
  cases ba with
  |true=>
   go_wp2_with (first
    |(go_at_call 84;refine(kb.out _).mono ?_;rintro e W ⟨rfl,hW⟩;subst W))
   all_goals(go_meet;exact⟨rfl,rfl⟩)
  |false=>
   have hag1:ag=true:=by simpa using hor.out
   subst hag1;go_wp2_with (first
    |(go_at_call 84;refine(kb.out _).mono ?_;rintro e W ⟨rfl,hW⟩;subst W)
    |(go_at_call 85;refine(ka.out _).mono ?_;rintro e W ⟨rfl,hW⟩;subst W))
   all_goals(go_meet;exact⟨rfl,rfl⟩)
 case rest=>
 obtain⟨rfl,hwx⟩:=hcut;obtain rfl:=hwx.symm;clear hwx;have hsz:=hszH.out;have hX:∀W,Bw W0 W→Bw w W:=fun W hW=>hms.out.hb.trans (hW.mono hms.out.hb.size)
 replace hX:=Hd hX;go_upto_region 7 with fail
 go_cut [14] (fun s wx=>s=.bool mb∧MI l A c q ⟨some ⟨g,off,none⟩,c1,A2,c2,A3,c3⟩ ⟨op,n,v,at_,a,bb⟩ it (.slice B2 it.tys.length d2) w wx)
 case first=>
  obtain⟨neg,tys,iv,lo,hi⟩:=it;cases neg with
  |true=>
   have hmf:mb=false:=by rw[hmb.out];rfl
   subst hmf;go_wp2
   all_goals(go_meet;exact⟨rfl,hI.out⟩)
  |false=>
   by_cases h1:1<hi
   ·have hmf:mb=true:=(by rw[hmb.out];exact zW h1);subst hmf;go_wp2
    all_goals(go_meet;exact⟨rfl,hI.out⟩)
   ·have hmf:mb=false:=(by rw[hmb.out];exact zV h1);subst hmf;go_wp2
    all_goals(go_meet;exact⟨rfl,hI.out⟩)
 case rest=>
 obtain⟨rfl,hIx⟩:=hcut;clear y0 y1 y2 y3 y4 z0 z1 z2 z3 z4 a0 a1 a2 a3 a4 hI hsz hX lk n0 n1 n2 n3 n4;obtain⟨z0,_,z2,z3,z4⟩:=hIx.ms.cells;obtain⟨y0,y1,y2,y3,y4⟩:=hIx.cells;simp only at z2 z3 z4;have kh2:=Hd (kh'.out wc hIx.ms.hb);replace hIx:=Hd hIx;go_upto_region 8 with fail
 go_cut [47] (fun s wy=>s=.bool (!decide (op=5)&& !hh)∧MI l A c q ⟨some ⟨g,off,none⟩,c1,A2,c2,A3,c3⟩ ⟨op,n,v,at_,a,bb⟩ it (.slice B2 it.tys.length d2) w wy)
 case first=>
  by_cases h5:op=5
  ·subst h5;go_wp2
   all_goals(go_meet;exact⟨rfl,hIx.out⟩)
  ·have f5:=beqF h5;have f6:=bneT h5;have hx5:decide (op=5)=false:=zV h5;replace h5:=Hd h5;cases hh with
   |true=>
    go_wp2_with (go_at_call 113;refine kh2.out.mono ?_;rintro e W ⟨rfl,hW⟩;replace hIx:=Hd (hIx.out.stay hW);clear hW)
    all_goals(go_meet;exact⟨by rw[hx5];rfl,hIx.out⟩)
   |false=>
    go_wp2_with (go_at_call 113;refine kh2.out.mono ?_;rintro e W ⟨rfl,hW⟩;replace hIx:=Hd (hIx.out.stay hW);clear hW)
    all_goals(go_meet;exact⟨by rw[hx5];rfl,hIx.out⟩)
 case rest=>
 obtain⟨hs47,hIy⟩:=hcut;clear y0 y1 y2 y3 y4 z0 z2 z3 z4 hIx kh2;obtain⟨z0,_,z2,z3,z4⟩:=hIy.ms.cells;obtain⟨y0,y1,y2,y3,y4⟩:=hIy.cells;simp only at z2 z3 z4;replace hIy:=Hd hIy;by_cases h8:op≠5∧hh=false
 ·have e8:(!decide (op=5)&& !hh)=true:=by rw[h8.2,zV h8.1];rfl
  rw[e8]at hs47;subst hs47;have hfin:=Hd (h69.out h8.1 h8.2);clear h8 e8;go_wp2;go_ret;exact⟨rtI hfin.out.symm,hIy.out.ms.hb⟩
 have h8':op=5∨hh=true:=by
  by_cases h5:op=5
  ·exact .inl h5
  ·cases hh with
   |true=>exact .inr rfl
   |false=>exact absurd ⟨h5,rfl⟩ h8
 have e8:(!decide (op=5)&& !hh)=false:=by rcases h8' with h |h<;>simp[h]
 rw[e8]at hs47;subst hs47;have h76':=Hd (h76.out h8');have h00':=Hd (h00.out h8');clear h8 e8 h8' h69 h76 h00;go_upto_region 10 with fail
 go_cut [59] (fun s wy2=>s=.bool (ag&&it.neg)∧MI l A c q ⟨some ⟨g,off,none⟩,c1,A2,c2,A3,c3⟩ ⟨op,n,v,at_,a,bb⟩ it (.slice B2 it.tys.length d2) w wy2)
 case first=>
  cases ag with
  |true=>
   go_wp2_with (go_at_call 85;refine(ka.out _).mono ?_;rintro e W ⟨rfl,hW⟩;subst W)
   all_goals(go_meet;exact⟨rfl,hIy.out⟩)
  |false=>
   go_wp2_with (go_at_call 85;refine(ka.out _).mono ?_;rintro e W ⟨rfl,hW⟩;subst W)
   all_goals(go_meet;exact⟨rfl,hIy.out⟩)
 case rest=>
 obtain⟨hs59,hIz⟩:=hcut;clear y0 y1 y2 y3 y4 z0 z2 z3 z4 hIy;obtain⟨z0,_,z2,z3,z4⟩:=hIz.ms.cells;obtain⟨y0,y1,y2,y3,y4⟩:=hIz.cells;simp only at z2 z3 z4;have hIy:=Hd hIz;clear hIz;cases h10:(ag&&it.neg)with
 |true=>
  rw[h10]at hs59;subst hs59;have hfin:=Hd (h76'.out (.inl (by simpa using h10)));replace h10:=Hd h10;go_wp2;go_ret;exact⟨rtI hfin.out.symm,hIy.out.ms.hb⟩
 |false=>
 rw[h10]at hs59;subst hs59;have hna:¬(ag=true∧it.neg=true):=by intro h;rw[h.1,h.2]at h10;cases h10
 replace hna:=Hd hna;clear h10;by_cases h11:op=11∧mb=false
 ·obtain⟨h11,rfl⟩:=h11;have hfin:=Hd (h76'.out (.inr (.inl ⟨h11,rfl⟩)));have f11:=beqT h11;replace h11:=Hd h11;go_wp2;go_ret;exact⟨rtI hfin.out.symm,hIy.out.ms.hb⟩
 have hpiece:res=true∧ba=true∧(it.neg=true∨mb=true)∨¬(res=true∧ba=true∧(it.neg=true∨mb=true)):=Classical.em _;obtain⟨rv,hrv⟩:∃b,b=(res&&(ba&&(it.neg||mb))):=⟨_,rfl⟩
 have hfin:b=if rv=true then 76 else 0:=by
  by_cases hr:res=true∧ba=true∧(it.neg=true∨mb=true)
  ·rw[h76'.out (.inr (.inr hr)),if_pos (by rw[hrv,hr.1,hr.2.1];simpa using hr.2.2)]
  ·rw[h00'.out (fun h=>h.elim hna.out (fun h=>h.elim h11 hr)),if_neg (fun h=>hr (by rw[hrv]at h;simpa using h))]
 clear hpiece;replace hfin:=Hd hfin;replace hrv:=Hd hrv;have kend:op=11→mb=true:=fun h=>by cases mb with
  |true=>rfl
  |false=>exact absurd ⟨h,rfl⟩ h11
 replace kend:=Hd kend;clear h11;go_upto_region 11 with fail
 go_cut [59] (fun s wy2=>s=.bool false∧MI l A c q ⟨some ⟨g,off,none⟩,c1,A2,c2,A3,c3⟩ ⟨op,n,v,at_,a,bb⟩ it (.slice B2 it.tys.length d2) w wy2)
 case first=>
  by_cases h11:op=11
  ·obtain rfl:mb=true:=kend.out h11;subst h11;go_wp2
   all_goals(go_meet;exact⟨rfl,hIy.out⟩)
  ·have f11:=beqF h11;replace h11:=Hd h11;go_wp2
   all_goals(go_meet;exact⟨rfl,hIy.out⟩)
 case rest=>
 obtain⟨rfl,hIz⟩:=hcut;clear y0 y1 y2 y3 y4 z0 z2 z3 z4 hIy;obtain⟨z0,_,z2,z3,z4⟩:=hIz.ms.cells;obtain⟨y0,y1,y2,y3,y4⟩:=hIz.cells;simp only at z2 z3 z4;replace hIz:=Hd hIz;generalize hng:it.neg=ng at y0;rw[hng]at hrv;replace hng:=Hd hng;cases res with
 |false=>
  have hr0:rv=false:=hrv.out;subst hr0;go_wp2;go_ret;exact⟨rtI hfin.out.symm,hIz.out.ms.hb⟩
 |true=>
  cases ba with
  |false=>
   have hr0:rv=false:=hrv.out;subst hr0;go_wp2_with (go_at_call 84;refine(kb.out _).mono ?_;rintro e W ⟨rfl,hW⟩;subst W);go_ret;exact⟨rtI hfin.out.symm,hIz.out.ms.hb⟩
  |true=>
   cases ng with
   |true=>
    have hr0:rv=true:=hrv.out;subst hr0;go_wp2_with (go_at_call 84;refine(kb.out _).mono ?_;rintro e W ⟨rfl,hW⟩;subst W);go_ret;exact⟨rtI hfin.out.symm,hIz.out.ms.hb⟩
   |false=>
    cases mb with
    |true=>
     have hr0:rv=true:=hrv.out;subst hr0;go_wp2_with (go_at_call 84;refine(kb.out _).mono ?_;rintro e W ⟨rfl,hW⟩;subst W);go_ret;exact⟨rtI hfin.out.symm,hIz.out.ms.hb⟩
    |false=>
     have hr0:rv=false:=hrv.out;subst hr0;go_wp2_with (go_at_call 84;refine(kb.out _).mono ?_;rintro e W ⟨rfl,hW⟩;subst W);go_ret;exact⟨rtI hfin.out.symm,hIz.out.ms.hb⟩
end ckW
structure SQ (l:List Td)(A:Option Addr)(c:Nat)(q:Qy)(s:Sl3)(w wr:World):Prop where
 hb:Bw w wr
 b0:Blk wr w.heap.size 24 [.slice A l.length c]
 b1:Blk wr (w.heap.size+1) 31 (qV q s)
theorem SQ.stay {l:List Td}{A:Option Addr}{c:Nat}{q:Qy}{s:Sl3}{w wr W:World}(h:SQ l A c q s w wr)(hb:Bw wr W):SQ l A c q s w W:=⟨h.hb.trans (hb.mono h.hb.size),h.b0.stay hb,h.b1.stay hb⟩
theorem SQ.new (l:List Td)(A:Option Addr)(c:Nat)(q:Qy)(s:Sl3)(w:World):SQ l A c q s w ((w.alloc (.cells ⟨[.slice A l.length c]⟩ 24)).alloc (.cells ⟨qV q s⟩ 31)):=
 ⟨(bA).alloc sJ _,(Blk.new w _ _).alloc _,Blk.new' sJ⟩
theorem SQ.cells {l:List Td}{A:Option Addr}{c:Nat}{q:Qy}{s:Sl3}{w wr:World}(h:SQ l A c q s w wr):wr.cell? ⟨w.heap.size,0,none⟩=some (.slice A l.length c)∧wr.cell? ⟨w.heap.size+1,0,none⟩=some (.slice s.a1 q.items.length s.c1)∧wr.cell? ⟨w.heap.size+1,5,none⟩=some (.string q.by_):=⟨h.b0.cell 0,h.b1.cell 0,h.b1.cell 5⟩
structure AB (l:List Td)(A:Option Addr)(c:Nat)(q:Qy)(s:Sl3)(F:Nat→Prop)(bs bq bv m:Nat)(W:World):Prop where
 b0:Blk W bs 24 [.slice A l.length c]
 b1:Blk W bq 31 (qV q s)
 b2:Blk W bv 118 [.map (some m)]
 mp:∃f,MapG 9 W m q.items.length f∧NmIs (vrs q) f
 rd:Rd W F (.slice A l.length c) (.sl l.length (l.flatMap tdD))
 qr:QR W F q s
theorem AB.stay {l:List Td}{A:Option Addr}{c:Nat}{q:Qy}{s:Sl3}{F:Nat→Prop}{bs bq bv m:Nat}{W W':World}(h:AB l A c q s F bs bq bv m W)(hb:Bw W W'):AB l A c q s F bs bq bv m W':=
 ⟨h.b0.stay hb,h.b1.stay hb,h.b2.stay hb,let ⟨f,h1,h2⟩:=h.mp;⟨f,h1.stay hb,h2⟩,h.rd.under hb h.qr.lt,h.qr.under hb⟩
def WkPost (t:List Nd)(g:Nd→Int)(w:World)(e:Ending)(w':World):Prop:=∃i c:Int,e=.returned (.tuple #[.int .i64 i,.int .i64 c])∧c=fz (t.map fun x=>fz [g x,if kindsB t x=true then 0 else 75])∧Bw w w'
theorem WkPost.mk {t:List Nd}{g:Nd→Int}{w w':World}{i c:Int}(h:c=fz (t.map fun x=>fz [g x,if kindsB t x=true then 0 else 75]))(hb:Bw w w'):WkPost t g w (.returned (.tuple #[.int .i64 i,.int .i64 c])) w':=⟨i,c,rfl,h,hb⟩
theorem fz_map_at {α:Type}{g:α→Int}{l:List α}{j:Nat}{x:α}(hx:l[j]? =some x)(h:∀(i:Nat) y,l[i]? =some y→i<j→g y=0)(hne:g x≠0):fz (l.map g)=g x:=by
 rw[←mapI_map g l 0];exact fz_mapI_at (g:=fun _ x=>g x) hx h rfl hne
theorem fz_map_all {α:Type}{g:α→Int}{l:List α}(h:∀(i:Nat) y,l[i]? =some y→i<l.length→g y=0):fz (l.map g)=0:=by
 rw[←mapI_map g l 0];exact fz_mapI_all (g:=fun _ x=>g x) fun i x hx=>h i x hx (zC.1 hx).1
theorem fz2 (a b:Int):fz [a,b]=if a=0 then b else a:=by unfold fz;rw[fz_one]
namespace ckW
open nmW
theorem partable_k (A:Option Addr)(c:Nat)(F:Nat→Prop)(l:List Td)(q:Qy)(s:Sl3)(hl:SzT l)(hs:SzQ q)(w:World)(hF:∀b,F b→b<w.heap.size)(r:Rd w F (.slice A l.length c) (.sl l.length (l.flatMap tdD)))(R:QR w F q s):
  Calls Tryz.prog 73 #[.agg ⟨[.slice A l.length c]⟩,.agg ⟨qV q s⟩] w fun e w'=>e=.returned (.bool (partB l q))∧Bw w w':=by
 have h0:=SQ.new l A c q s w;have kh:∀(it:It) A2 c2 W,it∈q.items→Bw w W→Rd W F (.slice A2 it.tys.length c2) (.sl it.tys.length (it.tys.flatMap strD))→Calls Tryz.prog 113 #[.agg ⟨[.slice A l.length c]⟩,.agg ⟨itV it (.slice A2 it.tys.length c2)⟩,.string q.by_] W fun e w'=>e=.returned (.bool (hasB l it.tys q.by_))∧Bw W w':=fun it A2 c2 W hx hW rx=>has_k A c F l it A2 c2 q.by_ hl (hs.it it hx).1.1 W (fun b h=>zF (hF b h) hW.size) (r.under hW hF) rx
 have hil:=hs.il;obtain⟨b,hc⟩:∃b,b=partB l q:=⟨_,rfl⟩
 rw[←hc];unfold partB at hc;obtain⟨A1,c1,A2,c2,A3,c3⟩:=s;have hR1:=R.r1;obtain⟨x0,x1,x2⟩:=h0.cells;simp only[qV]at h0 hR1 x0 x1 x2 ⊢;replace hR1:=Hd hR1;replace hF:=Hd hF;replace kh:=Hd kh;replace h0:=Hd h0;clear hs R r;by_cases p0:q.by_=tsB
 ·have hfin:b=false:=by rw[hc,zW p0];rfl
  have hu':=ts_true p0;replace hfin:=Hd hfin;replace p0:=Hd p0;clear hc x0 x1;go_enter Tryz.func73,Tryz.ntmps73;go_wp2;go_ret;exact⟨rtB hfin.out.symm,h0.out.hb⟩
 have hu':=ts_false p0;have hc2:b=q.items.all fun x=>hasB l x.tys q.by_:=by rw[hc,zV p0];rfl
 replace p0:=Hd p0;replace hc2:=Hd hc2;clear hc;go_enter Tryz.func73,Tryz.ntmps73;go_wp2;clear x0 x1 x2;go_loopw [13] (fun i wr=>∃j:Nat,j≤q.items.length∧i=.int .i64 j∧SQ l A c q ⟨A1,c1,A2,c2,A3,c3⟩ w wr∧Hid ((q.items.take j).all (fun x=>hasB l x.tys q.by_)=true)) (fun i _=>q.items.length- (intOf i).toNat)
 case atStart=>exact⟨0,zE _,rfl,h0.out,rfl⟩
 case round=>
  clear h0;obtain⟨j,hj,rfl,hI,hp⟩:=hrel;by_cases hlt:j<q.items.length
  ·obtain⟨x,hx⟩:=getx hlt;obtain⟨g,off,B2,d2,rfl,_,rx,a0,a1,a2,a3,a4⟩:=it_at (hR1.out.under hI.hb hF.out) hx;have g1:(0:Int)≤(j:Int):=oQ;have g2:(j:Int)<q.items.length:=oQ;have hbI:Bw wr (wr.alloc (.cells ⟨itV x (.slice B2 x.tys.length d2)⟩ 53)):=bA;have hI1:=hI.stay hbI;have kx:=kh.out x B2 d2 _ (zA hx) hI1.hb (rx.alloc _);obtain⟨x0,x1,x2⟩:=hI1.cells;simp only[itV]at hI1 kx x0 x1 x2;replace rx:=Hd rx;replace hI1:=Hd hI1;replace hI:=Hd hI;replace hbI:=Hd hbI;replace hx:=Hd hx;cases hb:hasB l x.tys q.by_ with
   |false=>
    rw[hb]at kx;have hfin:b=false:=by rw[hc2.out];exact all_fail hx.out hb
    replace hb:=Hd hb;replace kx:=Hd kx;replace hfin:=Hd hfin;go_wp2_with (go_at_call 113;refine kx.out.mono ?_;rintro e W ⟨rfl,hW⟩;replace hI1:=Hd (hI1.out.stay hW);clear hW);go_ret;exact⟨rtB hfin.out.symm,hI1.out.hb⟩
   |true=>
    rw[hb]at kx;have hp2:=Hd (all_next hx.out hp.out hb);replace hb:=Hd hb;replace kx:=Hd kx;go_wp2_with (go_at_call 113;refine kx.out.mono ?_;rintro e W ⟨rfl,hW⟩;replace hI1:=Hd (hI1.out.stay hW);clear hW);go_roundw
    case rel=>exact⟨j+1,oQ,gQ,hI1.out,hp2⟩
    case measure=>exact mQ
  ·have g1:¬(j:Int)<q.items.length:=oQ;obtain rfl:j=q.items.length:=oQ;have hfin:b=true:=by rw[hc2.out];exact all_end hp.out
   replace hfin:=Hd hfin;replace hI:=Hd hI;go_wp2;go_ret;exact⟨rtB hfin.out.symm,hI.out.hb⟩
theorem ask_k {A:Option Addr}{c:Nat}{F:Nat→Prop}{l:List Td}{q:Qy}{s:Sl3}{bs bq bv m:Nat}(hl:SzT l)(hs:SzQ q)(x:Nd)(res:Bool)(hxv:x.v.size≤1048576){w:World}(h:AB l A c q s F bs bq bv m w):
  Calls Tryz.prog 70 #[.agg ⟨ndV x⟩,.bool res,.pointer (some ⟨bs,0,none⟩),.pointer (some ⟨bq,0,none⟩),.pointer (some ⟨bv,0,none⟩)] w fun e w'=>e=.returned (.int .i64 (mentC l q res x))∧Bw w w':=by
 have hb:Bw w (w.alloc (.cells ⟨ndV x⟩ 96)):=bA;have h1:=h.stay hb;obtain⟨f,hM,hN⟩:=h1.mp;have km:=mention_k A c F l q s x res m f hl hs hxv _ h1.qr.lt h1.rd h1.qr hM hN;have y0:=h1.b0.cell 0;have y1:∀i,_:=fun i=>h1.b1.cell i
 have z0:=y1 0;have z1:=y1 1;have z2:=y1 2;have z3:=y1 3;have z4:=y1 4;have z5:=y1 5;have z6:=y1 6;have y2:=h1.b2.cell 0;obtain⟨op,n,v,at_,a,bb⟩:=x;obtain⟨A1,c1,A2,c2,A3,c3⟩:=s;simp only[qV,ndV,zY,xA]at km hb y0 z0 z1 z2 z3 z4 z5 z6 y2 ⊢;replace km:=Hd km;replace hb:=Hd hb;clear h h1 hM hN y1;go_enter Tryz.func70,Tryz.ntmps70;go_wp2_with (go_at_call 71;refine km.out.mono ?_;rintro e W ⟨rfl,hW⟩;replace hW:=Hd (hb.out.trans (hW.mono hb.out.size)));go_ret;exact⟨rfl,hW.out⟩
theorem askfalse_k {A:Option Addr}{c:Nat}{F:Nat→Prop}{l:List Td}{q:Qy}{s:Sl3}{bs bq bv m ba:Nat}(hl:SzT l)(hs:SzQ q)(x:Nd)(hxv:x.v.size≤1048576){w:World}(h:AB l A c q s F bs bq bv m w)(ha:Blk w ba 121 [.func (.func 70) #[] #[.pointer (some ⟨bs,0,none⟩),.pointer (some ⟨bq,0,none⟩),.pointer (some ⟨bv,0,none⟩)]]):
  Calls Tryz.prog 115 #[.agg ⟨ndV x⟩,.pointer (some ⟨ba,0,none⟩)] w fun e w'=>e=.returned (.int .i64 (mentC l q false x))∧Bw w w':=by
 have hb:Bw w (w.alloc (.cells ⟨ndV x⟩ 96)):=bA;have h1:=h.stay hb;have km:=ask_k hl hs x false hxv h1;have y0:=(ha.stay hb).cell 0;obtain⟨op,n,v,at_,a,bb⟩:=x;simp only[ndV,zY,xA]at km hb y0 ⊢;replace km:=Hd km;replace hb:=Hd hb;clear h h1 ha;go_enter Tryz.func115,Tryz.ntmps115;go_wp2_with (go_at_call 70;refine km.out.mono ?_;rintro e W ⟨rfl,hW⟩;replace hW:=Hd (hb.out.trans (hW.mono hb.out.size)));go_ret;exact⟨rfl,hW.out⟩
theorem walkfalse_k (A:Option Addr)(c:Nat)(F:Nat→Prop)(t:List Nd)(g:Nd→Int)(ba:Nat)(hl:t.length≤1048576)(hab:∀x∈t,x.a<t.length∧x.b<t.length)(w:World)(hF:∀b,F b→b<w.heap.size)(r:Rd w F (.slice A t.length c) (.sl t.length (t.flatMap ndD)))
  (hk:∀x∈t,∀W,Bw w W→Calls Tryz.prog 115 #[.agg ⟨ndV x⟩,.pointer (some ⟨ba,0,none⟩)] W fun e w'=>e=.returned (.int .i64 (g x))∧Bw W w'):
  Calls Tryz.prog 114 #[.slice A t.length c,.func (.func 115) #[] #[.pointer (some ⟨ba,0,none⟩)]] w (WkPost t g w):=by
 have k2:∀x∈t,∀W,Bw w W→Calls Tryz.prog 157 #[.slice A t.length c,.agg ⟨ndV x⟩] W fun e w'=>e=.returned (.bool (kindsB t x))∧Bw W w':=fun x hx W hW=>kinds_k A c F t x hl (hab x hx).1 (hab x hx).2 W (fun b h=>zF (hF b h) hW.size) (r.under hW hF)
 replace r:=Hd r;replace hF:=Hd hF;replace hk:=Hd hk;replace k2:=Hd k2;clear hab;go_enter Tryz.func114,Tryz.ntmps114;go_wp2;go_loopw [11] (fun i wr=>∃j:Nat,j≤t.length∧i=.int .i64 j∧Bw w wr∧Hid (∀(i:Nat) y,t[i]? =some y→i<j→fz [g y,if kindsB t y=true then 0 else 75]=0)) (fun i _=>t.length- (intOf i).toNat)
 case atStart=>exact⟨0,zE _,rfl,bR,fun i y hy hi=>by omega⟩
 case round=>
  obtain⟨j,hj,rfl,hI,hp⟩:=hrel;by_cases hlt:j<t.length
  ·obtain⟨x,hx⟩:=getx hlt;have hxm:=zA hx;obtain⟨b,off,rfl,_,a0,a1,a2,a3,a4,a5⟩:=nd_at (r.out.under hI hF.out) hx;have g1:(0:Int)≤(j:Int):=oQ;have g2:(j:Int)<t.length:=oQ;have hbI:Bw wr (wr.alloc (.cells ⟨ndV x⟩ 96)):=bA;have hI1:=hI.trans (hbI.mono hI.size);have k1':=hk.out x hxm _ hI1;have hbn:Blk (wr.alloc (.cells ⟨ndV x⟩ 96)) wr.heap.size 96 (ndV x):=Blk.new _ _ _;have k2':=fun W hW=>k2.out x hxm W hW
   have hfx:∀c:Int,c≠0→fz [g x,if kindsB t x=true then 0 else 75]=c→c=fz (t.map fun x=>fz [g x,if kindsB t x=true then 0 else 75]):=fun c hne hc=>by
    rw[←hc];exact(fz_map_at hx hp.out (by rw[hc];exact hne)).symm
   have hpx:fz [g x,if kindsB t x=true then 0 else 75]=0→∀(i:Nat) y,t[i]? =some y→i<j+1→fz [g y,if kindsB t y=true then 0 else 75]=0:=fun h i y hy hi=>by
    by_cases e:i=j
    ·subst e;obtain rfl:x=y:=by rw[hy]at hx;exact(zq9 hx).symm
     exact h
    ·exact hp.out i y hy oQ
   rw[fz2]at hfx hpx;obtain⟨gx,hgx⟩:∃a,a=g x:=⟨_,rfl⟩
   obtain⟨kb,hkb⟩:∃a,a=kindsB t x:=⟨_,rfl⟩
   rw[←hgx]at k1' hfx hpx;rw[←hkb]at k2' hfx hpx;simp only[ndV]at k1' k2' hI1 hbI hbn;replace k1':=Hd k1';replace k2':=Hd k2';replace hfx:=Hd hfx;replace hpx:=Hd hpx;replace hgx:=Hd hgx;replace hkb:=Hd hkb;replace hx:=Hd hx;replace hI1:=Hd hI1;replace hbI:=Hd hbI;replace hbn:=Hd hbn;replace hI:=Hd hI;by_cases hz:gx=0
   ·subst hz;cases kb with
    |true=>
     have hp2:=Hd (hpx.out rfl);go_wp2_with (first
      |(go_at_call 115;refine k1'.out.mono ?_;rintro e W ⟨rfl,hW⟩;have hI2:=hI1.out.trans (hW.mono hI1.out.size);have k3:=k2'.out W hI2;have hbn2:=hbn.out.stay hW;have c0:=hbn2.cell 0;have c1:=hbn2.cell 1;have c2:=hbn2.cell 2;have c3:=hbn2.cell 3;have c4:=hbn2.cell 4;have c5:=hbn2.cell 5;simp only[zY,xA]at c0 c1 c2 c3 c4 c5;replace hI2:=Hd hI2;replace k3:=Hd k3;clear hbn2 hW)
      |(go_at_call 157;refine k3.out.mono ?_;rintro e W ⟨rfl,hW⟩;have hI3:=Hd (hI2.out.trans (hW.mono hI2.out.size));clear hW))
     go_roundw
     case rel=>exact⟨j+1,oQ,gQ,hI3.out,hp2⟩
     case measure=>exact mQ
    |false=>
     have hfin:=Hd (hfx.out 75 dQ rfl);go_wp2_with (first
      |(go_at_call 115;refine k1'.out.mono ?_;rintro e W ⟨rfl,hW⟩;have hI2:=hI1.out.trans (hW.mono hI1.out.size);have k3:=k2'.out W hI2;have hbn2:=hbn.out.stay hW;have c0:=hbn2.cell 0;have c1:=hbn2.cell 1;have c2:=hbn2.cell 2;have c3:=hbn2.cell 3;have c4:=hbn2.cell 4;have c5:=hbn2.cell 5;simp only[zY,xA]at c0 c1 c2 c3 c4 c5;replace hI2:=Hd hI2;replace k3:=Hd k3;clear hbn2 hW)
      |(go_at_call 157;refine k3.out.mono ?_;rintro e W ⟨rfl,hW⟩;have hI3:=Hd (hI2.out.trans (hW.mono hI2.out.size));clear hW))
     go_ret2;exact WkPost.mk hfin.out hI3.out
   ·have hfin:=Hd (hfx.out gx hz (if_neg hz));have f1:=beqF hz;have f2:=bneT hz;replace hz:=Hd hz;go_wp2_with (first
     |(go_at_call 115;refine k1'.out.mono ?_;rintro e W ⟨rfl,hW⟩;have hI2:=Hd (hI1.out.trans (hW.mono hI1.out.size));clear hW))
    go_ret2;exact WkPost.mk hfin.out hI2.out
  ·have g1:¬(j:Int)<t.length:=oQ;obtain rfl:j=t.length:=oQ;have hfin:=Hd (fz_map_all hp.out);replace hI:=Hd hI;go_wp2;go_ret2;exact WkPost.mk hfin.out.symm hI.out
theorem asktrue_k {A:Option Addr}{c:Nat}{F:Nat→Prop}{l:List Td}{q:Qy}{s:Sl3}{bs bq bv m ba:Nat}(hl:SzT l)(hs:SzQ q)(x:Nd)(hxv:x.v.size≤1048576){w:World}(h:AB l A c q s F bs bq bv m w)(ha:Blk w ba 121 [.func (.func 70) #[] #[.pointer (some ⟨bs,0,none⟩),.pointer (some ⟨bq,0,none⟩),.pointer (some ⟨bv,0,none⟩)]]):
  Calls Tryz.prog 118 #[.agg ⟨ndV x⟩,.pointer (some ⟨ba,0,none⟩)] w fun e w'=>e=.returned (.int .i64 (mentC l q true x))∧Bw w w':=by
 have hb:Bw w (w.alloc (.cells ⟨ndV x⟩ 96)):=bA;have h1:=h.stay hb;have km:=ask_k hl hs x true hxv h1;have y0:=(ha.stay hb).cell 0;obtain⟨op,n,v,at_,a,bb⟩:=x;simp only[ndV,zY,xA]at km hb y0 ⊢;replace km:=Hd km;replace hb:=Hd hb;clear h h1 ha;go_enter Tryz.func118,Tryz.ntmps118;go_wp2_with (go_at_call 70;refine km.out.mono ?_;rintro e W ⟨rfl,hW⟩;replace hW:=Hd (hb.out.trans (hW.mono hb.out.size)));go_ret;exact⟨rfl,hW.out⟩
theorem walktrue_k (A:Option Addr)(c:Nat)(F:Nat→Prop)(t:List Nd)(g:Nd→Int)(ba:Nat)(hl:t.length≤1048576)(hab:∀x∈t,x.a<t.length∧x.b<t.length)(w:World)(hF:∀b,F b→b<w.heap.size)(r:Rd w F (.slice A t.length c) (.sl t.length (t.flatMap ndD)))
  (hk:∀x∈t,∀W,Bw w W→Calls Tryz.prog 118 #[.agg ⟨ndV x⟩,.pointer (some ⟨ba,0,none⟩)] W fun e w'=>e=.returned (.int .i64 (g x))∧Bw W w'):
  Calls Tryz.prog 114 #[.slice A t.length c,.func (.func 118) #[] #[.pointer (some ⟨ba,0,none⟩)]] w (WkPost t g w):=by
 have k2:∀x∈t,∀W,Bw w W→Calls Tryz.prog 157 #[.slice A t.length c,.agg ⟨ndV x⟩] W fun e w'=>e=.returned (.bool (kindsB t x))∧Bw W w':=fun x hx W hW=>kinds_k A c F t x hl (hab x hx).1 (hab x hx).2 W (fun b h=>zF (hF b h) hW.size) (r.under hW hF)
 replace r:=Hd r;replace hF:=Hd hF;replace hk:=Hd hk;replace k2:=Hd k2;clear hab;go_enter Tryz.func114,Tryz.ntmps114;go_wp2;go_loopw [11] (fun i wr=>∃j:Nat,j≤t.length∧i=.int .i64 j∧Bw w wr∧Hid (∀(i:Nat) y,t[i]? =some y→i<j→fz [g y,if kindsB t y=true then 0 else 75]=0)) (fun i _=>t.length- (intOf i).toNat)
 case atStart=>exact⟨0,zE _,rfl,bR,fun i y hy hi=>by omega⟩
 case round=>
  obtain⟨j,hj,rfl,hI,hp⟩:=hrel;by_cases hlt:j<t.length
  ·obtain⟨x,hx⟩:=getx hlt;have hxm:=zA hx;obtain⟨b,off,rfl,_,a0,a1,a2,a3,a4,a5⟩:=nd_at (r.out.under hI hF.out) hx;have g1:(0:Int)≤(j:Int):=oQ;have g2:(j:Int)<t.length:=oQ;have hbI:Bw wr (wr.alloc (.cells ⟨ndV x⟩ 96)):=bA;have hI1:=hI.trans (hbI.mono hI.size);have k1':=hk.out x hxm _ hI1;have hbn:Blk (wr.alloc (.cells ⟨ndV x⟩ 96)) wr.heap.size 96 (ndV x):=Blk.new _ _ _;have k2':=fun W hW=>k2.out x hxm W hW
   have hfx:∀c:Int,c≠0→fz [g x,if kindsB t x=true then 0 else 75]=c→c=fz (t.map fun x=>fz [g x,if kindsB t x=true then 0 else 75]):=fun c hne hc=>by
    rw[←hc];exact(fz_map_at hx hp.out (by rw[hc];exact hne)).symm
   have hpx:fz [g x,if kindsB t x=true then 0 else 75]=0→∀(i:Nat) y,t[i]? =some y→i<j+1→fz [g y,if kindsB t y=true then 0 else 75]=0:=fun h i y hy hi=>by
    by_cases e:i=j
    ·subst e;obtain rfl:x=y:=by rw[hy]at hx;exact(zq9 hx).symm
     exact h
    ·exact hp.out i y hy oQ
   rw[fz2]at hfx hpx;obtain⟨gx,hgx⟩:∃a,a=g x:=⟨_,rfl⟩
   obtain⟨kb,hkb⟩:∃a,a=kindsB t x:=⟨_,rfl⟩
   rw[←hgx]at k1' hfx hpx;rw[←hkb]at k2' hfx hpx;simp only[ndV]at k1' k2' hI1 hbI hbn;replace k1':=Hd k1';replace k2':=Hd k2';replace hfx:=Hd hfx;replace hpx:=Hd hpx;replace hgx:=Hd hgx;replace hkb:=Hd hkb;replace hx:=Hd hx;replace hI1:=Hd hI1;replace hbI:=Hd hbI;replace hbn:=Hd hbn;replace hI:=Hd hI;by_cases hz:gx=0
   ·subst hz;cases kb with
    |true=>
     have hp2:=Hd (hpx.out rfl);go_wp2_with (first
      |(go_at_call 118;refine k1'.out.mono ?_;rintro e W ⟨rfl,hW⟩;have hI2:=hI1.out.trans (hW.mono hI1.out.size);have k3:=k2'.out W hI2;have hbn2:=hbn.out.stay hW;have c0:=hbn2.cell 0;have c1:=hbn2.cell 1;have c2:=hbn2.cell 2;have c3:=hbn2.cell 3;have c4:=hbn2.cell 4;have c5:=hbn2.cell 5;simp only[zY,xA]at c0 c1 c2 c3 c4 c5;replace hI2:=Hd hI2;replace k3:=Hd k3;clear hbn2 hW)
      |(go_at_call 157;refine k3.out.mono ?_;rintro e W ⟨rfl,hW⟩;have hI3:=Hd (hI2.out.trans (hW.mono hI2.out.size));clear hW))
     go_roundw
     case rel=>exact⟨j+1,oQ,gQ,hI3.out,hp2⟩
     case measure=>exact mQ
    |false=>
     have hfin:=Hd (hfx.out 75 dQ rfl);go_wp2_with (first
      |(go_at_call 118;refine k1'.out.mono ?_;rintro e W ⟨rfl,hW⟩;have hI2:=hI1.out.trans (hW.mono hI1.out.size);have k3:=k2'.out W hI2;have hbn2:=hbn.out.stay hW;have c0:=hbn2.cell 0;have c1:=hbn2.cell 1;have c2:=hbn2.cell 2;have c3:=hbn2.cell 3;have c4:=hbn2.cell 4;have c5:=hbn2.cell 5;simp only[zY,xA]at c0 c1 c2 c3 c4 c5;replace hI2:=Hd hI2;replace k3:=Hd k3;clear hbn2 hW)
      |(go_at_call 157;refine k3.out.mono ?_;rintro e W ⟨rfl,hW⟩;have hI3:=Hd (hI2.out.trans (hW.mono hI2.out.size));clear hW))
     go_ret2;exact WkPost.mk hfin.out hI3.out
   ·have hfin:=Hd (hfx.out gx hz (if_neg hz));have f1:=beqF hz;have f2:=bneT hz;replace hz:=Hd hz;go_wp2_with (first
     |(go_at_call 118;refine k1'.out.mono ?_;rintro e W ⟨rfl,hW⟩;have hI2:=Hd (hI1.out.trans (hW.mono hI1.out.size));clear hW))
    go_ret2;exact WkPost.mk hfin.out hI2.out
  ·have g1:¬(j:Int)<t.length:=oQ;obtain rfl:j=t.length:=oQ;have hfin:=Hd (fz_map_all hp.out);replace hI:=Hd hI;go_wp2;go_ret2;exact WkPost.mk hfin.out.symm hI.out
end ckW
end Go.Proofs.YthaabihjeomipaaGreatDoor
