/- The program's Uses and mixed. -/
import Derived.Test.YthaabihjeomipaaGreatDoorQG7
namespace Go.Proofs.YthaabihjeomipaaGreatDoor
set_option maxRecDepth 100000
set_option maxHeartbeats 16000000
open Go.RowKit Go.Deep Go.Maps
set_option linter.unusedVariables false
set_option linter.unusedSimpArgs false
def CN (q:Qy)(t:List Nd)(P:Nd→Bool)(j:Nat)(f:Lit→Option Int):Prop:=∀k:Nat,0≤(f (ki k)).getD 0∧(f (ki k)).getD 0≤(j:Int)∧(0<(f (ki k)).getD 0↔(t.take j).any (fun x=>decide (itemI q x.v=(k:Int))&&P x)=true)
theorem CN.zero (q:Qy)(t:List Nd)(P:Nd→Bool):CN q t P 0 (fun _=>none):=fun k=>by simp
theorem anyNd_take {t:List Nd}{j:Nat}{x:Nd}(p:Nd→Bool)(h:t[j]? =some x):(t.take (j+1)).any p=((t.take j).any p||p x):=by
 rw[zJ,h,List.any_append];simp
theorem CN.skip {q:Qy}{t:List Nd}{P:Nd→Bool}{j:Nat}{f:Lit→Option Int}{x:Nd}(h:CN q t P j f)(hx:t[j]? =some x)(hn:P x=false∨itemI q x.v<0):CN q t P (j+1) f:=fun k=>by
 obtain⟨h1,h2,h3⟩:=h k;refine⟨h1,oQ,?_⟩;rw[anyNd_take _ hx,h3];have:(decide (itemI q x.v=(k:Int))&&P x)=false:=by
  rcases hn with hn |hn
  ·rw[hn,Bool.and_false]
  ·rw[zV oQ,Bool.false_and]
 rw[this,Bool.or_false]
theorem CN.put {q:Qy}{t:List Nd}{P:Nd→Bool}{j i:Nat}{f:Lit→Option Int}{x:Nd}(h:CN q t P j f)(hx:t[j]? =some x)(hi:itemI q x.v=(i:Int))(hp:P x=true):CN q t P (j+1) (putM f (ki i) ((f (ki i)).getD 0+1)):=fun k=>by
 rw[anyNd_take _ hx];by_cases e:k=i
 ·subst e;obtain⟨h1,h2,h3⟩:=h k;rw[putM_same];refine⟨by show 0≤(f (ki k)).getD 0+1;omega,by show(f (ki k)).getD 0+1≤_;omega,?_⟩;constructor
  ·intro _;rw[zW hi,hp];simp
  ·intro _;show 0<(f (ki k)).getD 0+1;omega
 ·obtain⟨h1,h2,h3⟩:=h k;rw[putM_other (ki_ne e)];refine⟨h1,oQ,?_⟩;rw[h3,zV (by omega:¬itemI q x.v=(k:Int)),Bool.false_and,Bool.or_false]
def is11 (x:Nd):Bool:=decide (x.op=11)
structure US (q:Qy)(s:Sl3)(w wr:World)(m0 m1 m2 m3:Nat)(f1 f2 f3:Lit→Option Int)(n1 n2 n3:Nat):Prop where
 hb:Bw w wr
 b0:Blk wr w.heap.size 31 (qV q s)
 b1:Blk wr (w.heap.size+1) 82 [.slice none 0 0,.slice none 0 0,.slice none 0 0]
 nm:∃f,MapG 9 wr m0 q.items.length f∧NmIs (vrs q) f
 p1:MapG 3 wr m1 n1 f1
 p2:MapG 3 wr m2 n2 f2
 p3:MapG 3 wr m3 n3 f3
 lo:w.heap.size+1<m0∧m0<m1∧m1<m2∧m2<m3
section
variable {q:Qy}{s:Sl3}{w wr W w1:World}{m0 m1 m2 m3 n1 n2 n3:Nat}{f1 f2 f3 g:Lit→Option Int}
theorem US.stay (h:US q s w wr m0 m1 m2 m3 f1 f2 f3 n1 n2 n3)(hb:Bw wr W):US q s w W m0 m1 m2 m3 f1 f2 f3 n1 n2 n3:=
 ⟨h.hb.trans (hb.mono h.hb.size),h.b0.stay hb,h.b1.stay hb,let ⟨f,a,b⟩:=h.nm;⟨f,a.stay hb,b⟩,h.p1.stay hb,h.p2.stay hb,h.p3.stay hb,h.lo⟩
theorem US.mono {a b c:Nat}(h:US q s w wr m0 m1 m2 m3 f1 f2 f3 n1 n2 n3)(h1:n1≤a)(h2:n2≤b)(h3:n3≤c):US q s w wr m0 m1 m2 m3 f1 f2 f3 a b c:=⟨h.hb,h.b0,h.b1,h.nm,h.p1.mono h1,h.p2.mono h2,h.p3.mono h3,h.lo⟩
theorem US.put1 (h:US q s w wr m0 m1 m2 m3 f1 f2 f3 n1 n2 n3)(hm:MapG 3 w1 m1 (n1+1) g)(hg:wr.grownBy w1 (some m1)):US q s w w1 m0 m1 m2 m3 g f2 f3 (n1+1) n2 n3:=by
 obtain⟨l0,l1,l2,l3⟩:=h.lo;exact⟨h.hb.grown hg h.hb.size (fun q hq=>by injection hq with hq;omega),h.b0.grown hg (fun e=>by injection e with e;omega),h.b1.grown hg (fun e=>by injection e with e;omega),let ⟨f,a,b⟩:=h.nm;⟨f,a.kept hg (fun e=>by injection e with e;omega),b⟩,hm,h.p2.kept hg (fun e=>by injection e with e;omega),h.p3.kept hg (fun e=>by injection e with e;omega),h.lo⟩
theorem US.put2 (h:US q s w wr m0 m1 m2 m3 f1 f2 f3 n1 n2 n3)(hm:MapG 3 w1 m2 (n2+1) g)(hg:wr.grownBy w1 (some m2)):US q s w w1 m0 m1 m2 m3 f1 g f3 n1 (n2+1) n3:=by
 obtain⟨l0,l1,l2,l3⟩:=h.lo;exact⟨h.hb.grown hg h.hb.size (fun q hq=>by injection hq with hq;omega),h.b0.grown hg (fun e=>by injection e with e;omega),h.b1.grown hg (fun e=>by injection e with e;omega),let ⟨f,a,b⟩:=h.nm;⟨f,a.kept hg (fun e=>by injection e with e;omega),b⟩,h.p1.kept hg (fun e=>by injection e with e;omega),hm,h.p3.kept hg (fun e=>by injection e with e;omega),h.lo⟩
theorem US.put3 (h:US q s w wr m0 m1 m2 m3 f1 f2 f3 n1 n2 n3)(hm:MapG 3 w1 m3 (n3+1) g)(hg:wr.grownBy w1 (some m3)):US q s w w1 m0 m1 m2 m3 f1 f2 g n1 n2 (n3+1):=by
 obtain⟨l0,l1,l2,l3⟩:=h.lo;exact⟨h.hb.grown hg h.hb.size (fun q hq=>by injection hq with hq;omega),h.b0.grown hg (fun e=>by injection e with e;omega),h.b1.grown hg (fun e=>by injection e with e;omega),let ⟨f,a,b⟩:=h.nm;⟨f,a.kept hg (fun e=>by injection e with e;omega),b⟩,h.p1.kept hg (fun e=>by injection e with e;omega),h.p2.kept hg (fun e=>by injection e with e;omega),hm,h.lo⟩
theorem US.new (h:Bw w wr)(b0:Blk wr w.heap.size 31 (qV q s))(b1:Blk wr (w.heap.size+1) 82 [.slice none 0 0,.slice none 0 0,.slice none 0 0])(nm:∃f,MapG 9 wr m0 q.items.length f∧NmIs (vrs q) f)(l0:w.heap.size+1<m0):
  US q s w (((wr.alloc (.map #[] 0)).alloc (.map #[] 0)).alloc (.map #[] 0)) m0 wr.heap.size (wr.heap.size+1) (wr.heap.size+1+1) (fun _=>none) (fun _=>none) (fun _=>none) 0 0 0:=by
 have hb:=h.size;obtain⟨f,hm,hn⟩:=nm;have hml:=hm.lt;have h3:Bw wr (((wr.alloc (.map #[] 0)).alloc (.map #[] 0)).alloc (.map #[] 0)):=((bA).alloc sJ _).alloc (by simp;omega) _;refine⟨h.trans (h3.mono hb),b0.stay h3,b1.stay h3,⟨f,hm.stay h3,hn⟩,?_,?_,MapG.made' sJ,l0,hml,oQ,oQ⟩
 ·exact(MapG.made _ wr).stay ((bA).alloc sJ _)
 ·exact(MapG.made' sJ).stay bA
end
structure UI (q:Qy)(s:Sl3)(t:List Nd)(w wr:World)(m0 m1 m2 m3:Nat)(j:Nat)(f1 f2 f3:Lit→Option Int):Prop where
 us:US q s w wr m0 m1 m2 m3 f1 f2 f3 j j j
 c1:CN q t (fun x=>bareO x.op) j f1
 c2:CN q t is11 j f2
 c3:CN q t (fun x=>aggO x.op) j f3
def URel (q:Qy)(s:Sl3)(t:List Nd)(w wr:World)(m0 m1 m2 m3:Nat)(i:Value):Prop:=∃(j:Nat)(f1 f2 f3:Lit→Option Int),j≤t.length∧i=.int .i64 j∧UI q s t w wr m0 m1 m2 m3 j f1 f2 f3
theorem CN.list {q:Qy}{t:List Nd}{P:Nd→Bool}{f:Lit→Option Int}(h:CN q t P t.length f)(n:Nat):(List.range n).filter (posM f)=(List.range n).filter fun(i:Nat)=>t.any fun x=>decide (itemI q x.v=(i:Int))&&P x:=by
 apply List.filter_congr;intro i _;have:=(h i).2.2;rw[zL]at this;unfold posM;rw[Bool.eq_iff_iff,decide_eq_true_iff];exact this
def UsPost (q:Qy)(t:List Nd)(w:World)(e:Ending)(w':World):Prop:=∃(v1 v2 v3:Value)(L2 L3:List Nat),e=.returned (.agg #[v1,v2,v3])∧OL w' w.heap.size NoF 3 1 v1 (bares q t).length ((bares q t).map cjD)∧OL w' w.heap.size NoF 3 1 v2 L2.length (L2.map cjD)∧OL w' w.heap.size NoF 3 1 v3 L3.length (L3.map cjD)∧Bw w w'
def uL (q:Qy)(t:List Nd)(P:Nd→Bool):List Nat:=(List.range q.items.length).filter fun(i:Nat)=>t.any fun x=>decide (itemI q x.v=(i:Int))&&P x
def UsP2 (q:Qy)(t:List Nd)(w:World)(e:Ending)(w':World):Prop:=∃(v1 v2 v3:Value),e=.returned (.agg #[v1,v2,v3])∧OL w' w.heap.size NoF 3 1 v1 (bares q t).length ((bares q t).map cjD)∧OL w' w.heap.size NoF 3 1 v2 (uL q t is11).length ((uL q t is11).map cjD)∧OL w' w.heap.size NoF 3 1 v3 (uL q t fun x=>aggO x.op).length ((uL q t fun x=>aggO x.op).map cjD)∧Bw w w'
theorem aggUse:AggT Tryz.prog 82 3:=⟨_,Tryz.underlying82,rfl,kQ⟩
theorem UsPost.mk {q:Qy}{t:List Nd}{w w':World}{v1 v2 v3:Value}{L1 L2 L3:List Nat}(h0:L1=bares q t)(h1:OL w' w.heap.size NoF 3 1 v1 L1.length (L1.map cjD))(h2:OL w' w.heap.size NoF 3 1 v2 L2.length (L2.map cjD))(h3:OL w' w.heap.size NoF 3 1 v3 L3.length (L3.map cjD))(hb:Bw w w'):UsPost q t w (.returned (.agg ⟨[v1,v2,v3]⟩)) w':=
 ⟨v1,v2,v3,L2,L3,rfl,h0▸h1,h2,h3,hb⟩
theorem UsP2.mk {q:Qy}{t:List Nd}{w w':World}{v1 v2 v3:Value}{L1 L2 L3:List Nat}(h0:L1=bares q t∧L2=uL q t is11∧L3=uL q t fun x=>aggO x.op)(h1:OL w' w.heap.size NoF 3 1 v1 L1.length (L1.map cjD))(h2:OL w' w.heap.size NoF 3 1 v2 L2.length (L2.map cjD))(h3:OL w' w.heap.size NoF 3 1 v3 L3.length (L3.map cjD))(hb:Bw w w'):UsP2 q t w (.returned (.agg ⟨[v1,v2,v3]⟩)) w':=by
 obtain⟨rfl,rfl,rfl⟩:=h0;exact⟨v1,v2,v3,rfl,h1,h2,h3,hb⟩
namespace ckW
open nmW
theorem uses2_k (q:Qy)(s:Sl3)(A:Option Addr)(c:Nat)(F G:Nat→Prop)(t:List Nd)(hs:SzQ q)(ht:SzN t)(w:World)(R:QR w G q s)(hF:∀b,F b→b<w.heap.size)(r:Rd w F (.slice A t.length c) (.sl t.length (t.flatMap ndD))):
  Calls Tryz.prog 41 #[.agg ⟨qV q s⟩,.slice A t.length c] w (UsP2 q t w):=by
 have h0:Bw w ((w.alloc (.cells ⟨qV q s⟩ 31)).alloc (.cells ⟨[.slice none 0 0,.slice none 0 0,.slice none 0 0]⟩ 82)):=(bA).alloc sJ _;have b0:Blk ((w.alloc (.cells ⟨qV q s⟩ 31)).alloc (.cells ⟨[.slice none 0 0,.slice none 0 0,.slice none 0 0]⟩ 82)) w.heap.size 31 (qV q s):=(Blk.new w _ _).alloc _;have b1:Blk ((w.alloc (.cells ⟨qV q s⟩ 31)).alloc (.cells ⟨[.slice none 0 0,.slice none 0 0,.slice none 0 0]⟩ 82)) (w.heap.size+1) 82 [.slice none 0 0,.slice none 0 0,.slice none 0 0]:=Blk.new' sJ;have kn:=byName_k q s G hs.il (fun x hx=>(hs.it x hx).2) _ (R.under h0).lt (R.under h0).r1;have hsz:((w.alloc (.cells ⟨qV q s⟩ 31)).alloc (.cells ⟨[.slice none 0 0,.slice none 0 0,.slice none 0 0]⟩ 82)).heap.size=w.heap.size+1+1:=sJ;unfold Bw at kn;rw[hsz]at kn;have hUN:∀W,Below (w.heap.size+1+1) ((w.alloc (.cells ⟨qV q s⟩ 31)).alloc (.cells ⟨[.slice none 0 0,.slice none 0 0,.slice none 0 0]⟩ 82)) W→(∃f,MapG 9 W (w.heap.size+1+1+1) q.items.length f∧NmIs (vrs q) f)→
   US q s w (((W.alloc (.map #[] 0)).alloc (.map #[] 0)).alloc (.map #[] 0)) (w.heap.size+1+1+1) W.heap.size (W.heap.size+1) (W.heap.size+1+1) (fun _=>none) (fun _=>none) (fun _=>none) 0 0 0:=fun W hW nm=>
  US.new (h0.trans (hW.mono oQ)) (b0.under hW oQ) (b1.under hW oQ) nm oQ
 have hmm:∀w:World,(Instr.makeMap 128 none).run Tryz.prog w=.ok (.map (some w.heap.size)) (w.alloc (.map #[] 0)):=fun w=>by simp[Instr.makeMap,run_underlying Tryz.underlying128,asInt,asIntOf,Result.andThen]
 have hmf:∀(fn:Fn) (first cap:Array Value) (w:World),(Instr.makeFunc fn first cap).run Tryz.prog w=.ok (.func fn first cap) w:=fun _ _ _ _=>rfl
 have kr:∀(m n:Nat) f W,Blk W w.heap.size 31 (qV q s)→MapG 3 W m n f→Calls Tryz.prog 86 #[.map (some m),.pointer (some ⟨w.heap.size,0,none⟩)] W (IlPost ((List.range q.items.length).filter (posM f)) W):=fun m n f W hq hM=>rising_k q s w.heap.size m n f hs.il W hq hM
 have cc:∀W,Blk W w.heap.size 31 (qV q s)→W.cell? ⟨w.heap.size,0,none⟩=some (.slice s.a1 q.items.length s.c1):=fun W h=>h.cell 0
 have y0:=b0.cell 0;have y1:=b0.cell 1;have y2:=b0.cell 2;have y3:=b0.cell 3;have y4:=b0.cell 4;have y5:=b0.cell 5;have y6:=b0.cell 6;have hl:=ht.1;have hxv:∀x∈t,x.v.size≤1048576:=fun x hx=>(ht.2 x hx).1
 have hil:=hs.il;obtain⟨A1,c1,A2,c2,A3,c3⟩:=s;simp only[qV,zY,xA]at kn y0 y1 y2 y3 y4 y5 y6 ⊢;replace r:=Hd r;replace hF:=Hd hF;replace kn:=Hd kn;replace hUN:=Hd hUN;replace kr:=Hd kr;replace hxv:=Hd hxv;replace cc:=Hd cc;clear hs ht R h0 b0 b1 hsz;go_enter Tryz.func41,Tryz.ntmps41;go_wp2_with (go_at_call 69;refine kn.out.mono ?_;rintro e W ⟨rfl,hm,hW⟩;have hU0:=hUN.out W hW hm;have hWm:w.heap.size+1+1+1<W.heap.size:=let ⟨_,hm,_⟩:=hm;hm.lt;replace hU0:=Hd hU0;clear hW hm);clear y0 y1 y2 y3 y4 y5 y6;go_loopw [21] (fun i wr=>URel q ⟨A1,c1,A2,c2,A3,c3⟩ t w wr (w.heap.size+1+1+1) W.heap.size (W.heap.size+1) (W.heap.size+1+1) i) (fun i _=>t.length- (intOf i).toNat)
 case atStart=>exact⟨0,_,_,_,zE _,rfl,hU0.out,CN.zero _ _ _,CN.zero _ _ _,CN.zero _ _ _⟩
 case round=>
  clear hU0;obtain⟨j,f1,f2,f3,hj,rfl,hI⟩:=hrel;have hbw:=hI.us.hb.size;by_cases hlt:j<t.length
  ·obtain⟨x,hx⟩:=getx hlt;obtain⟨g,off,rfl,_,a0,a1,a2,a3,a4,a5⟩:=nd_at (r.out.under hI.us.hb hF.out) hx;have g1:(0:Int)≤(j:Int):=oQ;have g2:(j:Int)<t.length:=oQ;have hxs:=hxv.out x (zA hx);have hbn:Blk (wr.alloc (.cells ⟨ndV x⟩ 96)) wr.heap.size 96 (ndV x):=Blk.new _ _ _;have hU1:=hI.us.stay (bX (.cells ⟨ndV x⟩ 96));obtain⟨f,hM,hN⟩:=hU1.nm;have lk:=hM.look hxs;rw[hN x.v,optP_isSome]at lk;have hm3:=hI.us.p3.lt;obtain⟨ba,hba⟩:∃b,b=bareO x.op:=⟨_,rfl⟩
   obtain⟨ag,hag⟩:∃b,b=aggO x.op:=⟨_,rfl⟩
   have kb:∀W,Calls Tryz.prog 84 #[.int .i64 x.op] W fun e w'=>e=.returned (.bool ba)∧w'=W:=fun W=>by rw[hba];exact isBare_k x.op W
   have ka:∀W,Calls Tryz.prog 85 #[.int .i64 x.op] W fun e w'=>e=.returned (.bool ag)∧w'=W:=fun W=>by rw[hag];exact isAgg_k x.op W
   have hjl:j≤1048576:=oQ;by_cases hu:itemI q x.v<0
   ·rw[show decide (0≤placeI (vrs q) x.v)=false from zV (by unfold itemI at hu;omega)]at lk;have hI2:UI q ⟨A1,c1,A2,c2,A3,c3⟩ t w (wr.alloc (.cells ⟨ndV x⟩ 96)) (w.heap.size+1+1+1) W.heap.size (W.heap.size+1) (W.heap.size+1+1) (j+1) f1 f2 f3:=⟨hU1.mono oQ oQ oQ,hI.c1.skip hx (.inr hu),hI.c2.skip hx (.inr hu),hI.c3.skip hx (.inr hu)⟩;simp only[ndV]at hI2 lk;replace hI2:=Hd hI2;replace hu:=Hd hu;replace hx:=Hd hx;replace hba:=Hd hba;replace hag:=Hd hag;clear kb ka hM hN hI hU1 hbn;go_wp2_with fail;go_roundw
    case rel=>exact⟨j+1,f1,f2,f3,oQ,gQ,hI2.out⟩
    case measure=>exact mQ
   obtain⟨i,it,hi,hil2,hit,_⟩:=itemI_at (Int.not_lt.1 hu);have hi2:=hi;unfold itemI at hi2;rw[hi2,optP_getD oQ,show decide (0≤(i:Int))=true from zW oQ]at lk;have hi4:i≤4194304:=oQ;have lk1:=hU1.p1.lookI hi4;have lk2:=hU1.p2.lookI hi4;have lk3:=hU1.p3.lookI hi4;obtain⟨e1,e2,_⟩:=hI.c1 i;obtain⟨e3,e4,_⟩:=hI.c2 i;obtain⟨e5,e6,_⟩:=hI.c3 i;obtain⟨c1v,hc1v⟩:∃c,c=(f1 (ki i)).getD 0:=⟨_,rfl⟩
   obtain⟨c2v,hc2v⟩:∃c,c=(f2 (ki i)).getD 0:=⟨_,rfl⟩
   obtain⟨c3v,hc3v⟩:∃c,c=(f3 (ki i)).getD 0:=⟨_,rfl⟩
   rw[←hc1v]at lk1 e1 e2;rw[←hc2v]at lk2 e3 e4;rw[←hc3v]at lk3 e5 e6;have v1:(Lit.int .i64 (c1v+1)).wf=true:=WalkArith.wf_i64 oQ;have v2:(Lit.int .i64 (c2v+1)).wf=true:=WalkArith.wf_i64 oQ;have v3:(Lit.int .i64 (c3v+1)).wf=true:=WalkArith.wf_i64 oQ;have cp1:=fun(h:bareO x.op=true)=>hI.c1.put hx hi h
   have cp2:=fun(h:is11 x=true)=>hI.c2.put hx hi h
   have cp3:=fun(h:aggO x.op=true)=>hI.c3.put hx hi h
   have cs1:=fun(h:bareO x.op=false)=>hI.c1.skip hx (.inl h)
   have cs2:=fun(h:is11 x=false)=>hI.c2.skip hx (.inl h)
   have cs3:=fun(h:aggO x.op=false)=>hI.c3.skip hx (.inl h)
   rw[←hc1v]at cp1;rw[←hc2v]at cp2;rw[←hc3v]at cp3;have z0:=hbn.cell 0;simp only[ndV,zY]at hU1 lk lk1 lk2 lk3 hbn z0;replace hU1:=Hd hU1;replace hbn:=Hd hbn;replace cp1:=Hd cp1;replace cp2:=Hd cp2;replace cp3:=Hd cp3;replace cs1:=Hd cs1;replace cs2:=Hd cs2;replace cs3:=Hd cs3;replace hI:=Hd hI;replace hx:=Hd hx;replace hba:=Hd hba;replace hag:=Hd hag;replace hi:=Hd hi;replace hi2:=Hd hi2;replace hit:=Hd hit;replace hc1v:=Hd hc1v;replace hc2v:=Hd hc2v;replace hc3v:=Hd hc3v;replace kb:=Hd kb;replace ka:=Hd ka;clear hM hN hu;by_cases h4:x.op=4
   ·have hb4:bareO x.op=true:=(by rw[h4];rfl);have ha4:aggO x.op=false:=by rw[h4];rfl
    have h11:is11 x=false:=(by unfold is11;rw[h4];rfl);obtain rfl:ba=true:=hba.out.trans hb4;obtain rfl:ag=false:=hag.out.trans ha4;have q11:(x.op==11)=false:=beqF oQ;have hT:=Hd (xW (cp1.out hb4) (xW (cs2.out h11) (cs3.out ha4)));replace h4:=Hd h4;clear hb4 ha4 h11 hba hag;go_wp2_with (first
     |(go_at_call 84;refine(kb.out _).mono ?_;rintro e W2 ⟨rfl,hW⟩;subst W2)
     |(go_at_call 85;refine(ka.out _).mono ?_;rintro e W2 ⟨rfl,hW⟩;subst W2)
     |(refine at_op (.mapUpdate 128 (.tmp 37) (.tmp 38) (.tmp 40)) rfl ?_;refine wpList_putI rfl (.tmp 37) (.tmp 38) (.tmp 40) rfl rfl hU1.out.p1 hjl rfl rfl hi4 v1 ?_;intro w1 hm1x hg1x;have hU2:=hU1.out.put1 hm1x hg1x;have hbn2:=hbn.out.grown hg1x (fun e=>by injection e with e;omega);have z0:=hbn2.cell 0;simp only[zY]at z0;have lk2:=hU2.p2.lookI hi4;have lk3:=hU2.p3.lookI hi4;rw[←hc2v.out]at lk2;rw[←hc3v.out]at lk3;replace hU2:=Hd hU2;replace hbn2:=Hd hbn2;clear hm1x hg1x))
    go_roundw
    case rel=>exact⟨j+1,_,_,_,oQ,gQ,hU2.out.mono oQ oQ oQ,hT.out.1,hT.out.2.1,hT.out.2.2⟩
    case measure=>exact mQ
   by_cases h11:x.op=11
   ·have hb4:bareO x.op=true:=(by rw[h11];rfl);have ha4:aggO x.op=false:=by rw[h11];rfl
    have h11':is11 x=true:=(by unfold is11;rw[h11];rfl);obtain rfl:ba=true:=hba.out.trans hb4;obtain rfl:ag=false:=hag.out.trans ha4;have q11:(x.op==11)=true:=beqT h11;have hT:=Hd (xW (cp1.out hb4) (xW (cp2.out h11') (cs3.out ha4)));replace h4:=Hd h4;replace h11:=Hd h11;clear hb4 ha4 h11' hba hag;go_wp2_with (first
     |(go_at_call 84;refine(kb.out _).mono ?_;rintro e W2 ⟨rfl,hW⟩;subst W2)
     |(go_at_call 85;refine(ka.out _).mono ?_;rintro e W2 ⟨rfl,hW⟩;subst W2)
     |(refine at_op (.mapUpdate 128 (.tmp 37) (.tmp 38) (.tmp 40)) rfl ?_;refine wpList_putI rfl (.tmp 37) (.tmp 38) (.tmp 40) rfl rfl hU1.out.p1 hjl rfl rfl hi4 v1 ?_;intro w1 hm1x hg1x;have hU2:=hU1.out.put1 hm1x hg1x;have hbn2:=hbn.out.grown hg1x (fun e=>by injection e with e;omega);have z0:=hbn2.cell 0;simp only[zY]at z0;have lk2:=hU2.p2.lookI hi4;have lk3:=hU2.p3.lookI hi4;rw[←hc2v.out]at lk2;rw[←hc3v.out]at lk3;replace hU2:=Hd hU2;replace hbn2:=Hd hbn2;clear hm1x hg1x)
     |(refine at_op (.mapUpdate 128 (.tmp 44) (.tmp 45) (.tmp 47)) rfl ?_;refine wpList_putI rfl (.tmp 44) (.tmp 45) (.tmp 47) rfl rfl hU2.out.p2 hjl rfl rfl hi4 v2 ?_;intro w2 hm2x hg2x;have hU3:=hU2.out.put2 hm2x hg2x;have hbn3:=hbn2.out.grown hg2x (fun e=>by injection e with e;omega);have z0:=hbn3.cell 0;simp only[zY]at z0;have lk3:=hU3.p3.lookI hi4;rw[←hc3v.out]at lk3;replace hU3:=Hd hU3;replace hbn3:=Hd hbn3;clear hm2x hg2x))
    go_roundw
    case rel=>exact⟨j+1,_,_,_,oQ,gQ,hU3.out.mono oQ oQ oQ,hT.out.1,hT.out.2.1,hT.out.2.2⟩
    case measure=>exact mQ
   have hb4:bareO x.op=false:=by unfold bareO;rw[zV h4,zV h11];rfl
   have h11':is11 x=false:=zV h11;obtain rfl:ba=false:=hba.out.trans hb4;have q11:(x.op==11)=false:=beqF h11;replace h4:=Hd h4;replace h11:=Hd h11;cases ag with
   |true=>
    have hT:=Hd (xW (cs1.out hb4) (xW (cs2.out h11') (cp3.out hag.out.symm)));clear hb4 h11' hba hag;go_wp2_with (first
     |(go_at_call 84;refine(kb.out _).mono ?_;rintro e W2 ⟨rfl,hW⟩;subst W2)
     |(go_at_call 85;refine(ka.out _).mono ?_;rintro e W2 ⟨rfl,hW⟩;subst W2)
     |(refine at_op (.mapUpdate 128 (.tmp 51) (.tmp 52) (.tmp 54)) rfl ?_;refine wpList_putI rfl (.tmp 51) (.tmp 52) (.tmp 54) rfl rfl hU1.out.p3 hjl rfl rfl hi4 v3 ?_;intro w3 hm3x hg3x;have hU2:=hU1.out.put3 hm3x hg3x;have hbn2:=hbn.out.grown hg3x (fun e=>by injection e with e;omega);have z0:=hbn2.cell 0;simp only[zY]at z0;replace hU2:=Hd hU2;replace hbn2:=Hd hbn2;clear hm3x hg3x))
    go_roundw
    case rel=>exact⟨j+1,_,_,_,oQ,gQ,hU2.out.mono oQ oQ oQ,hT.out.1,hT.out.2.1,hT.out.2.2⟩
    case measure=>exact mQ
   |false=>
    have hT:=Hd (xW (cs1.out hb4) (xW (cs2.out h11') (cs3.out hag.out.symm)));clear hb4 h11' hba hag;go_wp2_with (first
     |(go_at_call 84;refine(kb.out _).mono ?_;rintro e W2 ⟨rfl,hW⟩;subst W2)
     |(go_at_call 85;refine(ka.out _).mono ?_;rintro e W2 ⟨rfl,hW⟩;subst W2))
    go_roundw
    case rel=>exact⟨j+1,_,_,_,oQ,gQ,hU1.out.mono oQ oQ oQ,hT.out.1,hT.out.2.1,hT.out.2.2⟩
    case measure=>exact mQ
  ·have g1:¬(j:Int)<t.length:=oQ;obtain rfl:j=t.length:=oQ;have hB1:(List.range q.items.length).filter (posM f1)=bares q t∧(List.range q.items.length).filter (posM f2)=uL q t is11∧(List.range q.items.length).filter (posM f3)=uL q t fun x=>aggO x.op:=⟨hI.c1.list q.items.length,hI.c2.list q.items.length,hI.c3.list q.items.length⟩
   replace hB1:=Hd hB1;have k1:=Hd (kr.out _ _ _ wr hI.us.b0 hI.us.p1);have k2:=Hd (fun W2 (hW:Bw wr W2)=>kr.out _ _ _ W2 (hI.us.b0.stay hW) (hI.us.p2.stay hW));have k3:=Hd (fun W2 (hW:Bw wr W2)=>kr.out _ _ _ W2 (hI.us.b0.stay hW) (hI.us.p3.stay hW));have hus:=Hd hI.us;clear hI;have tok1:=True.intro;have tok2:=True.intro;go_wp2_with (first
    |(go_at_call 86;have _t:=tok1;clear tok1;refine k1.out.mono ?_;rintro e W2 ⟨v1,rfl,hO1,hX1⟩;obtain⟨D1,d1,rfl⟩:=hO1.form;replace hO1:=Hd hO1;replace hX1:=Hd hX1)
    |(go_at_call 86;have _t:=tok2;clear tok2;refine(k2.out W2 hX1.out).mono ?_;rintro e W3 ⟨v2,rfl,hO2,hX2⟩;obtain⟨D2,d2,rfl⟩:=hO2.form;replace hO2:=Hd hO2;replace hX2:=Hd hX2)
    |(go_at_call 86;refine(k3.out W3 (hX1.out.trans (hX2.out.mono hX1.out.size))).mono ?_;rintro e W4 ⟨v3,rfl,hO3,hX3⟩;obtain⟨D3,d3,rfl⟩:=hO3.form;replace hO3:=Hd hO3;replace hX3:=Hd hX3;have hX4:=hX1.out.trans (hX2.out.mono hX1.out.size);have hX5:=hX4.trans (hX3.out.mono hX4.size);have hbu:=Hd (hus.out.b1.stay hX5);replace hX5:=Hd hX5;clear hX4)
    |(refine at_op (.store 82 (.tmp 4) (.tmp 66)) rfl ?_;refine wsb rfl 82 (.tmp 4) (.tmp 66) rfl (cs':=[.slice D1 ((List.range q.items.length).filter (posM f1)).length d1,.slice D2 ((List.range q.items.length).filter (posM f2)).length d2,.slice D3 ((List.range q.items.length).filter (posM f3)).length d3]) hbu.out aggUse rfl rfl rfl rfl ?_;intro w1 hz1 hg1))
   have hs1:=hX1.out.size;have hs2:=hX2.out.size;have hne:∀{v:Value}{B n:Nat}{ds:List D},OL W4 B NoF 3 1 v n ds→v.ownBlock=none∨v.ownBlock≠some (w.heap.size+1):=fun h=>.inr (h.neBlk hbu.out dQ)
   have h1:=((hO1.out.stay hX2.out).stay hX3.out);have h2:=(hO2.out.stay hX3.out);have h3:=hO3.out;refine bpa rfl hz1 aggUse rfl rfl (UsP2.mk hB1.out ((h1.kept hg1 (hne h1) (fun b h=>h.elim)).base hbw) ((h2.kept hg1 (hne h2) (fun b h=>h.elim)).base oQ) ((h3.kept hg1 (hne h3) (fun b h=>h.elim)).base oQ) ?_);have hbb:=hus.out.hb.trans (hX5.out.mono hbw);exact hbb.grown hg1 hbb.size (fun q hq=>by injection hq with hq;omega)
theorem uses_k (q:Qy)(s:Sl3)(A:Option Addr)(c:Nat)(F G:Nat→Prop)(t:List Nd)(hs:SzQ q)(ht:SzN t)(w:World)(R:QR w G q s)(hF:∀b,F b→b<w.heap.size)(r:Rd w F (.slice A t.length c) (.sl t.length (t.flatMap ndD))):
  Calls Tryz.prog 41 #[.agg ⟨qV q s⟩,.slice A t.length c] w (UsPost q t w):=by
 refine(uses2_k q s A c F G t hs ht w R hF r).mono ?_;rintro e w' ⟨v1,v2,v3,rfl,h1,h2,h3,hb⟩;exact⟨v1,v2,v3,_,_,rfl,h1,h2,h3,hb⟩
theorem mixed_k (q:Qy)(s:Sl3)(t:List Nd)(G F:Nat→Prop)(v1 v2 v3:Value)(hs:SzQ q)(w:World)(R:QR w G q s)(hF:∀b,F b→b<w.heap.size)(r:Rd w F v1 (.sl (bares q t).length ((bares q t).map cjD)))(h2:∃A n c,v2=.slice A n c)(h3:∃A n c,v3=.slice A n c):
  Calls Tryz.prog 117 #[.agg ⟨qV q s⟩,.agg #[v1,v2,v3]] w fun e w'=>e=.returned (.bool (mixB q t))∧Bw w w':=by
 obtain⟨A4,c4,rfl,_,_⟩:=r.sl_inv;obtain⟨B2,m2,d2,rfl⟩:=h2;obtain⟨B3,m3,d3,rfl⟩:=h3;have hb0:Bw w ((w.alloc (.cells ⟨qV q s⟩ 31)).alloc (.cells ⟨[.slice A4 (bares q t).length c4,.slice B2 m2 d2,.slice B3 m3 d3]⟩ 82)):=(bA).alloc sJ _;have b0:Blk ((w.alloc (.cells ⟨qV q s⟩ 31)).alloc (.cells ⟨[.slice A4 (bares q t).length c4,.slice B2 m2 d2,.slice B3 m3 d3]⟩ 82)) w.heap.size 31 (qV q s):=(Blk.new w _ _).alloc _;have b1:Blk ((w.alloc (.cells ⟨qV q s⟩ 31)).alloc (.cells ⟨[.slice A4 (bares q t).length c4,.slice B2 m2 d2,.slice B3 m3 d3]⟩ 82)) (w.heap.size+1) 82 [.slice A4 (bares q t).length c4,.slice B2 m2 d2,.slice B3 m3 d3]:=Blk.new' sJ;have hbl:(bares q t).length≤1048576:=zU (filt_len (p:=fun i=>t.any fun x=>decide (itemI q x.v=(i:Int))&&bareO x.op) q.items.length) hs.il;have hlt:∀(j i:Nat),(bares q t)[j]? =some i→i<q.items.length:=fun j i h=>by
  have:=zA h;unfold bares at this;exact List.mem_range.1 (List.mem_filter.1 this).1
 have hR:=(R.under hb0).r1;replace r:=r.under hb0 hF;have y0:=b0.cell 0;have u0:=b1.cell 0;obtain⟨b,hb⟩:∃b,b=mixB q t:=⟨_,rfl⟩
 rw[←hb];unfold mixB at hb;have htl:touN q (bares q t) (bares q t).length=((bares q t).filter (touchy q)).length:=by unfold touN;rw[zL]
 rw[←htl]at hb;clear htl;generalize bares q t=L at*;obtain⟨A1,c1,A2,c2,A3,c3⟩:=s;simp only[qV,zY]at hb0 y0 u0 hR r ⊢;have htle:∀j,touN q L j≤j:=fun j=>zU (List.length_filter_le _ _) (List.length_take_le _ _)
 replace hb:=Hd hb;replace hb0:=Hd hb0;replace hR:=Hd hR;replace r:=Hd r;replace hlt:=Hd hlt;replace htle:=Hd htle;clear R hs b0 b1 hF;go_enter Tryz.func117,Tryz.ntmps117;go_wp2;go_loopw [5,6,12] (fun n m i wr=>∃j a b:Nat,j≤L.length∧i=.int .i64 j∧n=.int .i64 a∧m=.int .i64 b∧a+b≤j∧Hid (a+b=touN q L j)∧wr=((w.alloc (.cells ⟨[.slice A1 q.items.length c1,.int .i64 q.mode,.int .i64 q.after,.slice A2 q.wh.length c2,.int .i64 q.within,.string q.by_,.slice A3 q.ret.length c3]⟩ 31)).alloc (.cells ⟨[.slice A4 L.length c4,.slice B2 m2 d2,.slice B3 m3 d3]⟩ 82))) (fun _ _ i _=>L.length- (intOf i).toNat)
 case atStart=>exact⟨0,0,0,zE _,rfl,rfl,rfl,nR,rfl,rfl⟩
 case round=>
  obtain⟨j,a,b2,hj,rfl,rfl,rfl,hab,hcnt,rfl⟩:=hrel;by_cases hl:j<L.length
  ·obtain⟨i,hi⟩:=getx hl;have hil:=hlt.out j i hi;obtain⟨it,hit⟩:=getx (l:=q.items) hil;obtain⟨g,off,D2,e2,rfl,_,_,a0,a1,a2,a3,a4⟩:=it_at hR.out hit;obtain⟨g4,off4,rfl,_,q0⟩:=r.out.at1 (i:=j) (y:=.int .i64 i) (by rw[zG,hi];rfl);have g1:(0:Int)≤(j:Int):=oQ;have g2:(j:Int)<L.length:=oQ;have g3:(0:Int)≤(i:Int):=oQ;have g4':(i:Int)<q.items.length:=oQ;have hnx:=touN_next (q:=q) hi;have htt:touchy q i=(it.neg||decide (1<it.hi)):=by unfold touchy;rw[hit]
   rw[htt]at hnx;have hb3:a≤1048576:=oQ;have hb4:b2≤1048576:=oQ;replace hi:=Hd hi;replace hit:=Hd hit;replace htt:=Hd htt;generalize it.neg=ng at*;cases ng with
   |true=>
    have hcn:Hid (a+1+b2=touN q L (j+1)):=by show a+1+b2=_;rw[hnx,←hcnt.out];simp;omega
    clear hnx;go_wp2;go_roundw
    case rel=>exact⟨j+1,a+1,b2,oQ,gQ,gQ,rfl,oQ,hcn,(by first|exact rfl |trivial)⟩
    case measure=>exact mQ
   |false=>
    by_cases h1:1<it.hi
    ·have hcn:Hid (a+(b2+1)=touN q L (j+1)):=by show a+(b2+1)=_;rw[hnx,←hcnt.out];simp[h1];omega
     clear hnx;go_wp2;go_roundw
     case rel=>exact⟨j+1,a,b2+1,oQ,gQ,rfl,gQ,oQ,hcn,(by first|exact rfl |trivial)⟩
     case measure=>exact mQ
    ·have hcn:Hid (a+b2=touN q L (j+1)):=by show a+b2=_;rw[hnx,←hcnt.out];simp[h1]
     clear hnx;go_wp2;go_roundw
     case rel=>exact⟨j+1,a,b2,oQ,gQ,rfl,rfl,oQ,hcn,(by first|exact rfl |trivial)⟩
     case measure=>exact mQ
  ·have g1:¬(j:Int)<L.length:=oQ;obtain rfl:j=L.length:=oQ;have hb3:a≤1048576:=oQ;have hb4:b2≤1048576:=oQ;have hfin:b=decide ((1:Int)<(a:Int)+(b2:Int)):=by
    rw[hb.out,←hcnt.out];rw[decide_eq_decide];omega
   replace hfin:=Hd hfin;go_wp2;go_ret;exact⟨rtB hfin.out.symm,hb0.out⟩
end ckW
end Go.Proofs.YthaabihjeomipaaGreatDoor
