/- The law's copies. -/
import Derived.Test.YtfiodnlgiglhfaaGreatDoorR8
namespace Go.Proofs.YtfiodnlgiglhfaaGreatDoor
set_option maxRecDepth 100000
set_option maxHeartbeats 16000000
open Go.RowKit Go.Deep
set_option linter.unusedVariables false
set_option linter.unusedSimpArgs false
theorem nd_tk {t:List Nd}{j:Nat}{x:Nd}(h:t[j]? =some x):(t.take (j+1)).flatMap ndD=(t.take j).flatMap ndD++ndD x:=by rw[zJ,h];simp
theorem RW.offB {α:Type}{K:RK α}{w:World}{B g t k:Nat}{v x:Value}{l:List (α×Value)}{cs:List Value}(h:RW K w B v l)(hb:Blk w g t cs)(h1:K.e≠t)(h2:K.es≠t):RW K (w.setCell ⟨g,k,none⟩ x) B v l:=
 ⟨h.kr.setCell (p:=⟨g,k,none⟩) (h.kr.neBlk hb h1) (fun h=>h) _,fun q hq=>(h.fr q hq).setCell (p:=⟨g,k,none⟩) ((h.fr q hq).neBlk hb h2) (fun h=>h) _,h.ne⟩
theorem OQ.offB {w:World}{B g k:Nat}{v1 v2 v3 x:Value}{l:List (It×Value)}{wh:List Nd}{rl:List (List Nd×Value)}{cs:List Value}(h:OQ w B v1 v2 v3 l wh rl)(hb:Blk w g 32 cs):OQ (w.setCell ⟨g,k,none⟩ x) B v1 v2 v3 l wh rl:=
 ⟨h.i.offB hb (by decide) (by decide),h.wr.setCell (p:=⟨g,k,none⟩) (h.wr.neBlk hb (by decide)) (fun h=>h) _,h.r.offB hb (by decide) (by decide),h.ne⟩
structure Y5 (q:Qy)(s:Sl3)(w0 w:World)(g:Nat)(vs:List Value):Prop where
 hb:Bw w0 w
 b1:Blk w w0.heap.size 32 (qV q s)
 b2:Blk w (w0.heap.size+1) 32 zqV
 b4:Blk w g 32 vs
 lt:w0.heap.size+1<g
section
variable {q:Qy}{s:Sl3}{w0 w W w1:World}{g:Nat}{vs:List Value}
theorem Y5.stay (h:Y5 q s w0 w g vs)(hb:Bw w W):Y5 q s w0 W g vs:=⟨h.hb.trans (hb.mono h.hb.size),h.b1.stay hb,h.b2.stay hb,h.b4.stay hb,h.lt⟩
theorem Y5.grown {row:Option Nat}(h:Y5 q s w0 w g vs)(hg:w.grownBy w1 row)(hr:∀q,row=some q→w0.heap.size+1+1≤q∧q≠g):Y5 q s w0 w1 g vs:=
 ⟨h.hb.grown hg h.hb.size (fun q hq=>by have:=hr q hq;omega),h.b1.grown hg (fun e=>by have:=hr _ e.symm;omega),h.b2.grown hg (fun e=>by have:=hr _ e.symm;omega),h.b4.grown hg (fun e=>(hr _ e.symm).2 rfl),h.lt⟩
theorem Y5.put (h:Y5 q s w0 w g vs)(k:Nat)(x:Value):Y5 q s w0 (w.setCell ⟨g,k,none⟩ x) g (vs.set k x):=
 have hl:=h.lt
 ⟨h.hb.setCell (by show w0.heap.size≤g;omega) _,h.b1.far (by show w0.heap.size≠g;omega) _,h.b2.far (by show w0.heap.size+1≠g;omega) _,h.b4.set_ k x,hl⟩
end
structure N1 (q:Qy)(s:Sl3)(w0 w:World)(g:Nat)(v2:Value)(j:Nat)(v1:Value)(l:List (It×Value)):Prop where
 q5:Y5 q s w0 w g (quV q v1 v2 (.slice none 0 0) q.by_)
 it:RW KI w (w0.heap.size+1+1) v1 l
 wr:OL w (w0.heap.size+1+1) NoB 81 6 v2 q.wh.length (q.wh.flatMap ndD)
 eq:l.map (·.1)=q.items.take j
structure N2 (q:Qy)(s:Sl3)(w0 w:World)(g:Nat)(v1 v2 v3:Value)(l:List (It×Value))(rl:List (List Nd×Value)):Prop where
 q5:Y5 q s w0 w g (quV q v1 v2 v3 q.by_)
 oq:OQ w (w0.heap.size+1+1) v1 v2 v3 l q.wh rl
section
variable {q:Qy}{s:Sl3}{w0 w W w1:World}{g j:Nat}{v1 v2 v3 v' v3' u:Value}{l:List (It×Value)}{t:List Nd}{rl:List (List Nd×Value)}
theorem N1.stay (h:N1 q s w0 w g v2 j v1 l)(hb:Bw w W):N1 q s w0 W g v2 j v1 l:=⟨h.q5.stay hb,h.it.stay hb,h.wr.stay hb,h.eq⟩
theorem N2.stay (h:N2 q s w0 w g v1 v2 v3 l rl)(hb:Bw w W):N2 q s w0 W g v1 v2 v3 l rl:=⟨h.q5.stay hb,h.oq.stay hb⟩
theorem N1.item {o:Obj}{it:It}(h:N1 q s w0 w g v2 j v1 l)(hi:q.items[j]? =some it)(hu:OL (w.alloc o) (w0.heap.size+1+1) NoB 9 1 u it.tys.length (it.tys.flatMap strD))(hud:∀q,u.ownBlock=some q→∀p∈l,p.2.ownBlock≠some q)
  (hg:(w.alloc o).grownBy w1 v1.ownBlock)(hO:OL w1 (w0.heap.size+1+1) NoB 54 5 v' (l.length+1) (l.flatMap icD++icD (it,u))):
  w1.cell? ⟨g,0,none⟩=some v1∧w1.frozen? ⟨g,0,none⟩=false∧N1 q s w0 (w1.setCell ⟨g,0,none⟩ v') g v2 (j+1) v' (l++[(it,u)]):=by
 have ha:=h.stay ((bR).alloc nR o);have hq1:=ha.q5.grown hg (fun q hq=>⟨(ha.it.kr.lt q hq).1,fun e=>ha.it.kr.neBlk ha.q5.b4 (by decide) (e▸hq)⟩);have hdis:∀p∈l,u.ownBlock=none∨u.ownBlock≠p.2.ownBlock:=fun p hp=>by
  cases hq:u.ownBlock with
  |none=>exact .inl rfl
  |some q=>exact .inr fun e=>hud q hq p hp e.symm
 have hr2:RW KI w1 (w0.heap.size+1+1) v' (l++[(it,u)]):=ha.it.snoc KI_ne hg hO hu hdis;have hw1:OL w1 (w0.heap.size+1+1) NoB 81 6 v2 q.wh.length (q.wh.flatMap ndD):=ha.wr.kept hg (ha.wr.ne ha.it.kr (by decide)) (fun _ hb=>hb.elim);refine⟨hq1.b4.cell 0,hq1.b4.frozen 0,hq1.put 0 v',hr2.offB hq1.b4 (by decide) (by decide),hw1.setCell (p:=⟨g,0,none⟩) (hw1.neBlk hq1.b4 (by decide)) (fun h=>h) _,?_⟩;rw[xR,h.eq,zJ,hi];rfl
theorem N2.put {o:Obj}{b:Nat}(h:N2 q s w0 w g v1 v2 v3 l rl)(hu:OL (w.alloc o) b NoB 81 6 u t.length (t.flatMap ndD))(hub:∀q,u.ownBlock=some q→(∀p∈rl,p.2.ownBlock≠some q)∧v2.ownBlock≠some q)(hb:w0.heap.size+1+1≤b)
  (hg:(w.alloc o).grownBy w1 v3.ownBlock)(hO:OL w1 (w0.heap.size+1+1) NoB 29 1 v3' (rl.length+1) (rl.flatMap rcD++rcD (t,u))):
  w1.cell? ⟨g,6,none⟩=some v3∧w1.frozen? ⟨g,6,none⟩=false∧N2 q s w0 (w1.setCell ⟨g,6,none⟩ v3') g v1 v2 v3' l (rl++[(t,u)]):=by
 have ha:=h.stay ((bR).alloc nR o);have hq1:=ha.q5.grown hg (fun q hq=>⟨(ha.oq.r.kr.lt q hq).1,fun e=>ha.oq.r.kr.neBlk ha.q5.b4 (by decide) (e▸hq)⟩);have hdis:∀p∈rl,u.ownBlock=none∨u.ownBlock≠p.2.ownBlock:=fun p hp=>by
  cases hq:u.ownBlock with
  |none=>exact .inl rfl
  |some q=>exact .inr fun e=>(hub q hq).1 p hp e.symm
 have hr2:RW KR w1 (w0.heap.size+1+1) v3' (rl++[(t,u)]):=ha.oq.r.snoc KR_ne hg hO (hu.base hb) hdis;have hi1:RW KI w1 (w0.heap.size+1+1) v1 l:=ha.oq.i.kept hg (ha.oq.i.kr.ne ha.oq.r.kr (by decide)) (fun p hp=>(ha.oq.i.fr p hp).ne ha.oq.r.kr (by decide));have hw1:OL w1 (w0.heap.size+1+1) NoB 81 6 v2 q.wh.length (q.wh.flatMap ndD):=ha.oq.wr.kept hg (ha.oq.wr.ne ha.oq.r.kr (by decide)) (fun _ hb=>hb.elim);refine⟨hq1.b4.cell 6,hq1.b4.frozen 6,hq1.put 6 v3',OQ.offB ⟨hi1,hw1,hr2,fun p hp=>?_⟩ hq1.b4⟩;rcases zM.1 hp with hp |hp
 ·exact h.oq.ne p hp
 ·rw[xB]at hp;subst hp;cases hq:v2.ownBlock with
  |none=>exact .inl rfl
  |some q=>exact .inr fun e=>(hub q e.symm).2 hq
end
namespace lawW
open nmW ckW
theorem twinTree_k (A:Option Addr)(c:Nat)(F:Nat→Prop)(t:List Nd)(hl:t.length≤1048576)(w:World)(hF:∀b,F b→b<w.heap.size)(r:Rd w F (.slice A t.length c) (.sl t.length (t.flatMap ndD))):
  Calls Tryz.prog 16 #[.slice A t.length c] w (TrPost t w):=by
 replace r:=Hd r;replace hF:=Hd hF;go_enter Tryz.func16,Tryz.ntmps16;go_wp2;go_loopw [3,4] (fun v x wr=>∃(j:Nat)(s3:Value),s3=v∧j≤t.length∧x=.int .i64 j∧OL wr w.heap.size NoF 81 6 s3 j ((t.take j).flatMap ndD)∧Bw w wr) (fun _ x _=>t.length- (intOf x).toNat)
 case atStart=>exact⟨0,_,rfl,zE _,rfl,.nil _ _ _ _ _,bR⟩
 case round=>
  obtain⟨j,s3,rfl,hj,rfl,hO,hB⟩:=hrel;by_cases hlt:j<t.length
  ·obtain⟨x,hx⟩:=getx hlt;obtain⟨g,off,rfl,_,a0,a1,a2,a3,a4,a5⟩:=nd_at (r.out.under hB hF.out) hx;have g0:(0:Int)≤(j:Int):=by omega
   have g1:(j:Int)<t.length:=by omega
   have hfk:=Hd (nd_tk hx);have hsz:=hB.size;replace hB:=Hd hB;clear hx;go_wp2_with (at_builtin;refine wpa rfl (.tmp 11) (.tmp 16) _ rfl (m:=1) (news:=ndD x) elNd (hO.alloc (.cells ⟨ndV x⟩ 81)) rfl rfl (Src.lit (nd_rdl wr _ x)) rfl (by omega) (by omega) (by simp;omega) ?_;intro v' w1 hO1 hg1 ha1);go_roundw
   case rel=>exact⟨j+1,_,rfl,by omega,by go_num,by rw[hfk.out];exact hO1,(hB.out.alloc hB.out.size (.cells ⟨ndV x⟩ 81)).grown hg1 (by simp;omega) (fun q hq=>(hO.lt q hq).1)⟩
   case measure=>simp[intOf];omega
  ·obtain rfl:j=t.length:=by omega
   rw[zL]at hO;replace hO:=Hd hO;replace hB:=Hd hB;go_wp2;go_ret;exact⟨_,rfl,hO.out,hB.out⟩
theorem twinQuery_k (F:Nat→Prop)(q:Qy)(s:Sl3)(hs:SzQ q)(w:World)(R:QR w F q s):
  Calls Tryz.prog 7 #[.agg ⟨qV q s⟩] w (RQPost q w):=by
 have hF:=R.lt;have kit:=fun(i:Nat) it (hi:q.items[i]? =some it)=>it_at R.r1 hi
 have kre:=fun(i:Nat) t (hi:q.ret[i]? =some t)=>re_at R.r3 hi
 have kw:=fun(Ax:Option Addr)(cx:Nat) t (hl:t.length≤1048576)(rx:Rd w F (.slice Ax t.length cx) (.sl t.length (t.flatMap ndD))) W (hW:Bw w W)=>twinTree_k Ax cx F t hl W (fun b h=>zF (hF b h) hW.size) (rx.under hW hF)
 have kx:=fun(Ax:Option Addr)(cx:Nat)(t:List ByteArray)(hl:t.length≤1048576)(rx:Rd w F (.slice Ax t.length cx) (.sl t.length (t.flatMap strD))) W (hW:Bw w W)=>evW.twinTexts_k Ax cx F t hl W (fun b h=>zF (hF b h) hW.size) (rx.under hW hF)
 have kww:=kw s.a2 s.c2 q.wh hs.wh.1 R.r2;have hil:=hs.il;have hrl:=hs.rl;have hits:=hs.it;have hres:=hs.re;obtain⟨W0,hW0⟩:∃W0,W0=((w.alloc (.cells ⟨qV q s⟩ 32)).alloc (.cells ⟨zqV⟩ 32)):=⟨_,rfl⟩
 have hb0:Bw w W0:=by rw[hW0];exact(bA).alloc (by simp) _
 have hb1:Blk W0 w.heap.size 32 (qV q s):=by rw[hW0];exact(Blk.new _ _ _).alloc _
 have hb2:Blk W0 (w.heap.size+1) 32 zqV:=by rw[hW0];exact Blk.new' (by simp)
 have hs0:W0.heap.size=w.heap.size+1+1:=by rw[hW0];simp
 replace hs0:=Hd hs0;obtain⟨A1,c1,A2,c2,A3,c3⟩:=s;obtain⟨y0,y1,y2,y3,y4,y5,y6⟩:=qbc hb1;simp only[zY]at y0 y1 y2 y3 y4 y5 y6;simp only[qV,zqV]at hW0 ⊢;try simp only at kit kre kww
 have hWW:=Hd hW0;replace hF:=Hd hF;replace kit:=Hd kit;replace kre:=Hd kre;replace kw:=Hd kw;replace kx:=Hd kx;replace kww:=Hd kww;replace hits:=Hd hits;replace hres:=Hd hres;replace hb0:=Hd hb0;replace hb1:=Hd hb1;replace hb2:=Hd hb2;clear R hs hW0;go_enter Tryz.func7,Tryz.ntmps7;go_upto_region 1 with fail
 rw[←hWW.out];have kS:=fun W (hW:Bw W0 W)=>xW ((hb1.out.stay hW).cell 1) (xW ((hb1.out.stay hW).cell 2) (xW ((hb1.out.stay hW).cell 4) (xW ((hb1.out.stay hW).cell 5) ((hb1.out.stay hW).cell 3))))
 have hSS:=xW (kS W0.drew (bR).drew) trivial;replace kS:=Hd kS;clear y0 y1 y2 y3 y4 y5 y6;go_cut [3] (fun v wx=>∃g v2,v=.pointer (some ⟨g,0,none⟩)∧N1 q ⟨A1,c1,A2,c2,A3,c3⟩ w wx g v2 0 (.slice none 0 0) [])
 case first=>
  have hfin:∀(g:Nat)(W:World)(v2:Value),Bw W0 W→Blk W g 32 (quV q (.slice none 0 0) v2 (.slice none 0 0) q.by_)→w.heap.size+1<g→OL W (w.heap.size+1+1) NoB 81 6 v2 q.wh.length (q.wh.flatMap ndD)→N1 q ⟨A1,c1,A2,c2,A3,c3⟩ w W g v2 0 (.slice none 0 0) []:=fun g W v2 hW hb hlt hO=>
   ⟨⟨hb0.out.trans (hW.mono hb0.out.size),hb1.out.stay hW,hb2.out.stay hW,hb,hlt⟩,RW.nil _ _ _,hO,rfl⟩
  replace hfin:=Hd hfin;refine G_region (p:=100) (S0:=fun W=>W.cell? ⟨w.heap.size,1,none⟩=some (.int .i64 q.mode)∧W.cell? ⟨w.heap.size,2,none⟩=some (.int .i64 q.after)∧W.cell? ⟨w.heap.size,4,none⟩=some (.int .i64 q.within)∧W.cell? ⟨w.heap.size,5,none⟩=some (.string q.by_)∧W.cell? ⟨w.heap.size,3,none⟩=some (.slice A2 q.wh.length c2)) (S1:=fun _=>True) (by kernel_rfl) ?_;refine' TkA 0 rfl hSS ?_;refine' TkA 1 rfl hSS ?_;refine' TkA 2 rfl hSS ?_;refine' TkA 3 rfl hSS ?_;refine' TkA 4 rfl hSS ?_;refine' TkA 5 rfl hSS ?_;refine' TkA 6 rfl hSS ?_;refine' TkA 7 rfl hSS ?_;refine' TkA 8 rfl hSS ?_;refine' TkA 9 rfl hSS ?_;try simp only[Act.put,TkS]
  refine G_fork (k1:=10) (k2:=12) (by kernel_rfl) rfl rfl (fun K hK=>?_) (fun K hK=>?_)
  ·go_simp;go_at_call 16;refine(kww.out W0.drew (hb0.out.trans ((zB W0.heap.size W0).drew.mono hb0.out.size))).mono ?_;rintro e W4 ⟨v4,rfl,hO4,hB4⟩;obtain⟨A4,d4,rfl⟩:=hO4.form;have hW4:=Hd ((zB W0.heap.size W0).drew.trans hB4);have hO5:=Hd (hO4.base (B':=w.heap.size+1+1) (by have:=hs0.out;simp;omega));have hs4:W0.heap.size≤W4.heap.size:=hW4.out.size;have hs5:w.heap.size+1<W4.heap.size:=by have:=hs0.out;omega
   refine hK.out _ _ ⟨kS.out _ hW4.out,fun _=>trivial⟩ ?_;have hST:=xW (kS.out _ hW4.out) trivial;clear hK K hSS hB4 hO4;refine' TkA 11 rfl hST ?_;try simp only[Act.put,TkS]
   refine Gs 12 rfl fun K hK=>?_
   go_simp;refine hK.out _ _ ⟨kS.out _ (by first|exact hW4.out.alloc hW4.out.size _ |exact(hW4.out.alloc hW4.out.size _).drew),fun _=>trivial⟩ ?_;clear hK K;refine Gs 13 rfl fun K hK=>?_
   go_simp;refine hK.out _ _ ⟨kS.out _ (by first|exact hW4.out.alloc hW4.out.size _ |exact(hW4.out.alloc hW4.out.size _).drew),fun _=>trivial⟩ ?_;clear hK K hST;refine Gd _ ?_;try simp only[Act.put,TkS]
   go_wp2
   all_goals(go_meet;exact⟨W4.heap.size,_,rfl,hfin.out _ _ _ (hW4.out.alloc hW4.out.size _) (Blk.new _ _ _) (by omega) (hO5.out.alloc _)⟩)
  ·go_simp;have hZ:Blk (W0.alloc (.cells ⟨zqV⟩ 32)).drew W0.heap.size 32 zqV:=(Blk.new W0 32 zqV).stay (bR).drew;have hW5:=Hd (((zB W0.heap.size W0).alloc nR (.cells ⟨zqV⟩ 32)).drew);simp only[zqV]at hZ hW5;refine hK.out _ _ ⟨kS.out _ hW5.out,fun _=>trivial⟩ ?_;generalize (W0.alloc (.cells ⟨[.slice none 0 0,.int .i64 0,.int .i64 0,.slice none 0 0,.int .i64 0,.string ⟨#[]⟩,.slice none 0 0]⟩ 32)).drew=W5 at*;replace hZ:=Hd hZ;have hz5:=hZ.out.lt;clear hK K hSS;try simp only[Act.put,TkS]
   refine Gs 10 rfl fun K hK=>?_
   go_simp;go_at_call 16;refine(kww.out W5 (hb0.out.trans (hW5.out.mono hb0.out.size))).mono ?_;rintro e W4 ⟨v4,rfl,hO4,hB4⟩;obtain⟨A4,d4,rfl⟩:=hO4.form;have hW4:=Hd (hW5.out.trans (hB4.mono hW5.out.size));have hZ4:=Hd (hZ.out.stay hB4);have hO5:=Hd (hO4.base (B':=w.heap.size+1+1) (by have:=hs0.out;omega));refine hK.out _ _ ⟨kS.out _ hW4.out,fun _=>trivial⟩ ?_;have hST:=xW (kS.out _ hW4.out) trivial;clear hK K hB4 hO4;refine' TkA 11 rfl hST ?_;try simp only[Act.put,TkS]
   refine Gs 13 rfl fun K hK=>?_
   refine step_store_blk (by rfl) 32 _ _ (by rfl) (cs':=quV q (.slice none 0 0) (.slice A4 q.wh.length d4) (.slice none 0 0) q.by_) hZ4.out aggQu rfl (by rfl) (by rfl) rfl ?_;intro w6 hb6 hg6;have hW6:=Hd (hW4.out.grown hg6 hW4.out.size (fun q hq=>by injection hq with hq;omega));have hO6:=Hd (hO5.out.kept hg6 (.inr (hO5.out.neBlk hZ4.out (by decide))) (fun _ hb=>hb.elim));refine hK.out _ _ ⟨kS.out _ hW6.out,fun _=>trivial⟩ ?_;replace hb6:=Hd hb6;clear hK K hST hg6;refine Gd _ ?_;go_simp;go_wp2
   all_goals(go_meet;exact⟨W0.heap.size,_,rfl,hfin.out _ _ _ hW6.out hb6.out (by have:=hs0.out;omega) hO6.out⟩)
 case rest=>
 obtain⟨g,v2,rfl,hN0⟩:=hcut;obtain⟨Aw,cw,rfl⟩:=hN0.wr.form;replace hN0:=Hd hN0;clear hSS kS;go_wp2;go_loopw [4] (fun i wr=>∃(j:Nat)(v1:Value)(l:List (It×Value)),j≤q.items.length∧i=.int .i64 j∧N1 q ⟨A1,c1,A2,c2,A3,c3⟩ w wr g (.slice Aw q.wh.length cw) j v1 l) (fun i _=>q.items.length- (intOf i).toNat)
 case atStart=>exact⟨0,.slice none 0 0,[],zE _,rfl,hN0.out⟩
 case round=>
  clear hN0;obtain⟨j,v1,l,hj,rfl,hL⟩:=hrel;obtain⟨Ai,ci,rfl⟩:=hL.it.kr.form;have hB:=hL.q5.hb;have hbw:=hB.size;have hb4:=hL.q5.b4.lt;have hlg:=hL.q5.lt;have hll:l.length≤q.items.length:=by
   have:=congrArg List.length hL.eq;rw[xC,zO]at this;omega
  have y0:wr.cell? ⟨w.heap.size,0,none⟩=some (.slice A1 q.items.length c1):=hL.q5.b1.cell 0;by_cases hlt:j<q.items.length
  ·obtain⟨it,hi⟩:=getx hlt;have him:=zA hi;have htl:=(hits.out it him).1.1;obtain⟨gI,oI,A5,c5,eI,hFI,rx0,b0,b1,b2,b3,b4⟩:=kit.out j it hi;try simp only at eI
   subst eI;have hgI:=hF.out gI hFI;have a0:=(hB.cell (p:=⟨gI,oI+j*5,none⟩) hgI).trans b0;have a1:=(hB.cell (p:=⟨gI,oI+j*5+1,none⟩) hgI).trans b1;have a2:=(hB.cell (p:=⟨gI,oI+j*5+2,none⟩) hgI).trans b2;have a3:=(hB.cell (p:=⟨gI,oI+j*5+3,none⟩) hgI).trans b3;have a4:=(hB.cell (p:=⟨gI,oI+j*5+4,none⟩) hgI).trans b4;clear b0 b1 b2 b3 b4;have g0:(0:Int)≤(j:Int):=by omega
   have g1:(j:Int)<q.items.length:=by omega
   obtain⟨wo,hwo⟩:∃wo:World,wo=wr:=⟨_,rfl⟩
   subst hwo;obtain⟨W1,hW1⟩:∃W1,W1=wo.alloc (.cells ⟨itV it (.slice A5 it.tys.length c5)⟩ 54):=⟨_,rfl⟩
   have hB1:Bw wo W1:=by rw[hW1];exact bA
   have hb9:Blk W1 wo.heap.size 54 (itV it (.slice A5 it.tys.length c5)):=by rw[hW1];exact Blk.new wo _ _
   have hs1:wo.heap.size<W1.heap.size:=hb9.lt;have hL1:=hL.stay hB1;have hne9:(Value.slice Ai l.length ci).ownBlock≠some wo.heap.size:=fun e=>by have:=(hL.it.kr.lt _ e).2;omega
   replace hne9:=Hd hne9;have kxx:=kx.out A5 c5 it.tys htl rx0 W1.drew (hB.trans ((hB1.mono hB.size).trans ((zB W1.heap.size W1).drew.mono hL1.q5.hb.size)));have kS:=fun W (hW:Bw W1 W)=>xW ((hb9.stay hW).cell 0) (xW ((hb9.stay hW).cell 1) (xW ((hb9.stay hW).cell 2) (xW ((hb9.stay hW).cell 3) ((hb9.stay hW).cell 4))))
   have kS1:=fun W (hW:Bw W1 W)=>(hL1.q5.stay hW).b4.cell 0
   have hSS:=xW (kS W1.drew (bR).drew) (kS1 W1.drew (bR).drew);simp only[itV]at hW1;have hWW1:=Hd hW1;replace kS:=Hd kS;replace kS1:=Hd kS1;replace kxx:=Hd kxx;replace hi:=Hd hi;replace him:=Hd him;replace rx0:=Hd rx0;replace hL1:=Hd hL1;replace hB:=Hd hB;replace hB1:=Hd hB1;replace hb9:=Hd hb9;clear hW1 hL;go_upto_region 6 with fail
   rw[←hWW1.out];clear a0 a1 a2 a3 a4 y0;refine G_region (p:=15) (S0:=fun W=>W.cell? ⟨wo.heap.size,0,none⟩=some (.bool it.neg)∧W.cell? ⟨wo.heap.size,1,none⟩=some (.slice A5 it.tys.length c5)∧W.cell? ⟨wo.heap.size,2,none⟩=some (.string it.v)∧W.cell? ⟨wo.heap.size,3,none⟩=some (.int .i64 it.lo)∧W.cell? ⟨wo.heap.size,4,none⟩=some (.int .i64 it.hi)) (S1:=fun W=>W.cell? ⟨g,0,none⟩=some (.slice Ai l.length ci)) (by kernel_rfl) ?_;refine' TkA 0 rfl hSS ?_;try simp only[Act.put,TkS]
   refine' G_take1 (i:=1) (v:=_) rfl (by decide) (by kernel_rfl) (by kernel_rfl) (by kernel_rfl) rfl (by kernel_rfl) (by kernel_rfl) (fun _ _ _ h=>h) hSS (.inl ⟨by first|(with_reducible rfl)|go_simp,?hyd1⟩) ?restd1
   case hyd1=>(intro W hW;(try dsimp only at hW);go_simp<;>with_reducible rfl)
   refine' TkA 2 rfl hSS ?_;refine' TkA 3 rfl hSS ?_;refine' TkA 4 rfl hSS ?_;refine' TkA 5 rfl hSS ?_;refine' TkA 6 rfl hSS ?_;refine' TkA 7 rfl hSS ?_;refine' TkA 8 rfl hSS ?_;refine' TkA 9 rfl hSS ?_;refine' TkA 10 rfl hSS ?_;refine' TkA 11 rfl hSS ?_;try simp only[Act.put,TkS]
   refine Gs 12 rfl fun K hK=>?_
   go_simp;go_at_call 15;refine kxx.out.mono ?_;rintro e W4 ⟨v4,rfl,hO4,hB4⟩;obtain⟨Au,cu,rfl⟩:=hO4.form;have hU4:=Hd ((zB W1.heap.size W1).drew.trans hB4);have hL4:=hL1.out.stay hU4.out;have hs4:=hU4.out.size;refine hK.out _ _ ⟨kS.out _ hU4.out,fun _=>kS1.out _ hU4.out⟩ ?_;have hST:=xW (kS.out _ hU4.out) (kS1.out _ hU4.out);have hu:OL W4 (w.heap.size+1+1) NoB 9 1 (.slice Au it.tys.length cu) it.tys.length (it.tys.flatMap strD):=hO4.base (by simp;omega);have hud:∀qq,(Value.slice Au it.tys.length cu).ownBlock=some qq→∀p∈l,p.2.ownBlock≠some qq:=fun qq hq p hp e=>by
    have h1:=(hO4.lt qq hq).1;have:=((hL1.out.it.fr p hp).lt qq e).2;simp at h1;omega
   have hpost2:=fun w1 v' (hg:(W4.alloc (.cells ⟨[.bool it.neg,.slice Au it.tys.length cu,.string it.v,.int .i64 it.lo,.int .i64 it.hi]⟩ 54)).grownBy w1 (Value.slice Ai l.length ci).ownBlock)(hO:OL w1 (w.heap.size+1+1) NoB 54 5 v' (l.length+1) (l.flatMap icD++icD (it,.slice Au it.tys.length cu)))=>N1.item hL4 hi.out (hu.alloc _) hud hg hO
   have hkr:=Hd (hL4.it.kr.alloc (.cells ⟨[.bool it.neg,.slice Au it.tys.length cu,.string it.v,.int .i64 it.lo,.int .i64 it.hi]⟩ 54));have hb9a:=Hd (hb9.out.stay (hU4.out.alloc hU4.out.size (.cells ⟨[.bool it.neg,.slice Au it.tys.length cu,.string it.v,.int .i64 it.lo,.int .i64 it.hi]⟩ 54)));replace hpost2:=Hd hpost2;clear hK K hSS hB4 hO4 hL4 hu hud;refine' TkA 13 rfl hST ?_;try simp only[Act.put,TkS]
   refine Gs 14 rfl fun K hK=>?_
   go_simp;refine hK.out _ _ ⟨kS.out _ (hU4.out.alloc hU4.out.size _),fun _=>kS1.out _ (hU4.out.alloc hU4.out.size _)⟩ ?_;clear hK K hST;refine Gs 15 rfl fun K hK=>?_
   refine step_app (by rfl) (.tmp 33) (.tmp 46) _ (by rfl) (m:=1) (news:=icD (it,.slice Au it.tys.length cu)) elIt (by exact hkr.out) (by rfl) (by rfl) (by exact Src.lit (ic_rd W4 _ it Au it.tys.length cu)) rfl (by omega) (by omega) (by simp;omega) ?_;intro v7 w7 hO7 hg7 ha7;obtain⟨B7,d7,rfl⟩:=hO7.form;obtain⟨t1,t2,t3⟩:=hpost2.out _ _ hg7 hO7;have hb97:=hb9a.out.grown hg7 (fun e=>hne9.out e.symm);have hb98:=Hd (hb97.far (p:=⟨g,0,none⟩) (by show wo.heap.size≠g;omega) (.slice B7 (l.length+1) d7));replace t3:=Hd t3;refine hK.out _ _ ⟨⟨hb97.cell 0,hb97.cell 1,hb97.cell 2,hb97.cell 3,hb97.cell 4⟩,fun _=>t1⟩ ?_;have hSX:=xW (show _∧_∧_∧_∧_ from⟨hb97.cell 0,hb97.cell 1,hb97.cell 2,hb97.cell 3,hb97.cell 4⟩) t1;clear hK K hO7 hg7 ha7;refine' TkA 16 rfl hSX ?_;try simp only[Act.put,TkS]
   refine Gs 17 rfl fun K hK=>?_
   go_simp;refine hK.out _ _ ⟨?_,fun h=>absurd (h.symm.trans (by kernel_rfl:_=true)) (by simp)⟩ ?_
   ·exact⟨hb98.out.cell 0,hb98.out.cell 1,hb98.out.cell 2,hb98.out.cell 3,hb98.out.cell 4⟩
   clear hK K hSX;refine Gd _ ?_;try simp only[Act.put,TkS]
   go_wp2;go_roundw
   case rel=>exact⟨j+1,_,_,by omega,by go_num,t3.out⟩
   case measure=>simp[intOf];omega
  ·obtain rfl:j=q.items.length:=by omega
   have hleq:=hL.eq;rw[zL]at hleq;have hM0:=Hd (show N2 q ⟨A1,c1,A2,c2,A3,c3⟩ w wr g (.slice Ai l.length ci) (.slice Aw q.wh.length cw) (.slice none 0 0) l [] from ⟨hL.q5,hL.it,hL.wr,RW.nil _ _ _,fun p hp=>by simp at hp⟩);replace hleq:=Hd hleq;clear hL hll;go_wp2;clear y0;go_loopw [6] (fun i wr=>∃(kj:Nat)(v3:Value)(rl:List (List Nd×Value)),kj≤q.ret.length∧rl.length=kj∧i=.int .i64 kj∧N2 q ⟨A1,c1,A2,c2,A3,c3⟩ w wr g (.slice Ai l.length ci) (.slice Aw q.wh.length cw) v3 l rl∧Hid (rl.map (·.1)=q.ret.take kj)) (fun i _=>q.ret.length- (intOf i).toNat)
   case atStart=>exact⟨0,.slice none 0 0,[],zE _,rfl,rfl,hM0.out,rfl⟩
   case round=>
    clear hM0;obtain⟨kj,v3,rl,hkj,hrll,rfl,hM,hp3⟩:=hrel;obtain⟨Ar,cr,rfl⟩:=hM.oq.r.kr.form;have hBr:=hM.q5.hb;have hbr:=hBr.size;have hlg3:=hM.q5.lt;have y6:wr.cell? ⟨w.heap.size,6,none⟩=some (.slice A3 q.ret.length c3):=hM.q5.b1.cell 6;by_cases hlt3:kj<q.ret.length
    ·obtain⟨t,ht⟩:=getx hlt3;have htm:=zA ht;obtain⟨gR,oR,At5,ct5,eR,hFR,rt0,r0⟩:=kre.out kj t ht;try simp only at eR
     subst eR;have hgR:=hF.out gR hFR;have p0:(0:Int)≤(kj:Int):=by omega
     have p1:(kj:Int)<q.ret.length:=(by omega);have r1:=(hBr.cell (p:=⟨gR,oR+kj,none⟩) hgR).trans r0;have ktt:=kw.out At5 ct5 t (hres.out t htm).1 rt0 wr hBr;have hst:(rl.map (·.1)++[t])=q.ret.take (kj+1):=by rw[zJ,ht,←hp3.out];rfl
     have hrl2:rl.length≤1048576:=(by omega);replace hst:=Hd hst;replace ktt:=Hd ktt;replace hrll:=Hd hrll;replace ht:=Hd ht;replace htm:=Hd htm;replace rt0:=Hd rt0;replace hM:=Hd hM;replace hBr:=Hd hBr;clear r0;go_upto_region 11 with(go_at_call 16;refine ktt.out.mono ?_;rintro e W8 ⟨v8,rfl,hO8,hB8⟩;obtain⟨A8,c8,rfl⟩:=hO8.form)
     have hM8:=hM.out.stay hB8;have q6:W8.cell? ⟨g,6,none⟩=some (.slice Ar rl.length cr):=hM8.q5.b4.cell 6;have q6l:=hM8.q5.b4.lt;have hz8:=hM8.q5.hb.size;have hpost3:=fun w1 v' (hg:(W8.alloc (.cells ⟨[.slice A8 t.length c8]⟩ 29)).grownBy w1 (Value.slice Ar rl.length cr).ownBlock) hO=>N2.put (t:=t) (u:=.slice A8 t.length c8) (b:=wr.heap.size) (v3':=v') hM8 (hO8.alloc (.cells ⟨[.slice A8 t.length c8]⟩ 29)) (fun qq hq=>⟨fun p hp e=>(by have h1:=(hO8.lt qq hq).1;have h2:=((hM.out.oq.r.fr p hp).lt qq e).2;omega),fun e=>(by have h1:=(hO8.lt qq hq).1;have h2:=(hM.out.oq.wr.lt qq e).2;omega)⟩) (by have:=hM.out.q5.b2.lt;omega) hg hO
     have hkr:=Hd (hM8.oq.r.kr.alloc (.cells ⟨[.slice A8 t.length c8]⟩ 29));replace hpost3:=Hd hpost3;clear hM8 hO8 hB8 r1 y6;go_wp2_with (at_builtin;refine wpa rfl (.tmp 63) (.tmp 65) _ rfl (m:=1) (news:=rcD (t,.slice A8 t.length c8)) elRe hkr.out rfl rfl (Src.lit (rc_rd W8 _ t A8 t.length c8)) rfl (by omega) (by omega) (by simp;omega) ?_;intro v' w9 hO9 hg9 ha9;obtain⟨B9,d9,rfl⟩:=hO9.form;obtain⟨t1,t2,t3⟩:=hpost3.out _ _ hg9 hO9;replace t3:=Hd t3;clear hO9 hg9 ha9);go_roundw
     case rel=>exact⟨kj+1,_,rl++[(t,.slice A8 t.length c8)],by omega,by rw[zH,hrll.out];rfl,by go_num,t3.out,by show _=_;rw[←hst.out];simp⟩
     case measure=>simp[intOf];omega
    ·obtain rfl:kj=q.ret.length:=by omega
     have hret:=hp3.out;rw[zL]at hret;have b0:wr.cell? ⟨g,0,none⟩=some (.slice Ai l.length ci):=hM.q5.b4.cell 0;have b1:wr.cell? ⟨g,1,none⟩=some (.int .i64 q.mode):=hM.q5.b4.cell 1;have b2:wr.cell? ⟨g,2,none⟩=some (.int .i64 q.after):=hM.q5.b4.cell 2;have b3:wr.cell? ⟨g,3,none⟩=some (.slice Aw q.wh.length cw):=hM.q5.b4.cell 3;have b4:wr.cell? ⟨g,4,none⟩=some (.int .i64 q.within):=hM.q5.b4.cell 4;have b5:wr.cell? ⟨g,5,none⟩=some (.string q.by_):=hM.q5.b4.cell 5;have b6:wr.cell? ⟨g,6,none⟩=some (.slice Ar rl.length cr):=hM.q5.b4.cell 6;replace hret:=Hd hret;replace hrll:=Hd hrll;replace hM:=Hd hM;go_wp2_with (refine at_op (.store 32 (.tmp 2) (.tmp 68)) rfl ?_;refine wsb rfl 32 (.tmp 2) (.tmp 68) rfl (cs':=quV q (.slice Ai l.length ci) (.slice Aw q.wh.length cw) (.slice Ar rl.length cr) q.by_) hM.out.q5.b2 aggQu rfl rfl rfl rfl ?_;intro w8 hz8 hg8);exact bpa rfl hz8 aggQu rfl rfl ⟨_,_,_,l,rl,rfl,(hM.out.oq.under hg8 (show w.heap.size+1<w.heap.size+1+1 by omega)).base (by omega),hleq.out,hret.out,hM.out.q5.hb.grown hg8 hM.out.q5.hb.size (fun qq hq=>by injection hq with hq;omega)⟩
end lawW
theorem eqNd (w:World)(x y:Nd):(Op.equalIn 10000 81 (.agg ⟨ndV x⟩) (.agg ⟨ndV y⟩)).run Tryz.prog w=.ok (x.op==y.op&&(x.n==y.n&&(x.v.toList==y.v.toList&&(x.at_.toList==y.at_.toList&&(x.a==y.a&&(x.b==y.b&&true)))))) w:=by
 rw[run_equalIn_struct w 9999 81 _ _ (by kernel_rfl) (by kernel_rfl)];rw[show(Tryz.prog.fieldsOf 81).toList=[{name:= "Op",type:=79,offset:=0,embedded:=false,tag:= "",pkgPath:= "",byteOffset:=0},{name:= "N",type:=2,offset:=1,embedded:=false,tag:= "",pkgPath:= "",byteOffset:=8},
  {name:= "Var",type:=9,offset:=2,embedded:=false,tag:= "",pkgPath:= "",byteOffset:=16},{name:= "Attr",type:=9,offset:=3,embedded:=false,tag:= "",pkgPath:= "",byteOffset:=32},
  {name:= "A",type:=3,offset:=4,embedded:=false,tag:= "",pkgPath:= "",byteOffset:=48},{name:= "B",type:=3,offset:=5,embedded:=false,tag:= "",pkgPath:= "",byteOffset:=56}] by kernel_rfl]
 exact eqF_cons w (by decide) (by kernel_rfl) (by kernel_rfl) (run_equalIn_int w _ 79 .i64 .i64 _ _ Tryz.underlying79)
  (eqF_cons w (by decide) (by kernel_rfl) (by kernel_rfl) (run_equalIn_int w _ 2 .i64 .i64 _ _ Tryz.underlying2)
   (eqF_cons w (by decide) (by kernel_rfl) (by kernel_rfl) (run_equalIn_string w _ 9 _ _ Tryz.underlying9)
    (eqF_cons w (by decide) (by kernel_rfl) (by kernel_rfl) (run_equalIn_string w _ 9 _ _ Tryz.underlying9)
     (eqF_cons w (by decide) (by kernel_rfl) (by kernel_rfl) (run_equalIn_int w _ 3 .i64 .i64 _ _ Tryz.underlying3)
      (eqF_cons w (by decide) (by kernel_rfl) (by kernel_rfl) (run_equalIn_int w _ 3 .i64 .i64 _ _ Tryz.underlying3) rfl)))))
theorem neq_nd (w:World)(x:Nd):(binOp .neq 81 (.agg ⟨ndV x⟩) (.agg ⟨ndV x⟩)).run Tryz.prog w=.ok (.bool false) w:=by
 simp only[binOp];simp[Op.equal,Op.maxDepth,eqNd w x x]
namespace lawW
open nmW ckW
theorem sameTree_k (A B:Option Addr)(c d:Nat)(F G:Nat→Prop)(t:List Nd)(hl:t.length≤1048576)(w:World)(hF:∀b,F b→b<w.heap.size)(hG:∀b,G b→b<w.heap.size)(r:Rd w F (.slice A t.length c) (.sl t.length (t.flatMap ndD)))(s:Rd w G (.slice B t.length d) (.sl t.length (t.flatMap ndD))):
  Calls Tryz.prog 27 #[.slice A t.length c,.slice B t.length d] w fun e w'=>e=.returned (.bool true)∧Bw w w':=by
 replace r:=Hd r;replace s:=Hd s;replace hF:=Hd hF;replace hG:=Hd hG;go_enter Tryz.func27,Tryz.ntmps27;go_wp2;go_loopw [5] (fun x wr=>∃k:Nat,k≤t.length∧x=.int .i64 k∧Bw w wr) (fun x _=>t.length- (intOf x).toNat)
 case atStart=>exact⟨0,zE _,rfl,bR⟩
 case round=>
  obtain⟨k,hk,rfl,hB⟩:=hrel;by_cases hlt:k<t.length
  ·obtain⟨x,hx⟩:=getx hlt;obtain⟨gN,oN,rfl,hFN,n0,n1,n2,n3,n4,n5⟩:=nd_at r.out hx;obtain⟨gM,oM,rfl,hGM,m0,m1,m2,m3,m4,m5⟩:=nd_at s.out hx;have hgN:=hF.out gN hFN;have hgM:=hG.out gM hGM;have g0:(0:Int)≤(k:Int):=by omega
   have g1:(k:Int)<t.length:=by omega
   have a0:=(hB.cell (p:=⟨gN,oN+k*6,none⟩) hgN).trans n0;have a1:=(hB.cell (p:=⟨gN,oN+k*6+1,none⟩) hgN).trans n1;have a2:=(hB.cell (p:=⟨gN,oN+k*6+2,none⟩) hgN).trans n2;have a3:=(hB.cell (p:=⟨gN,oN+k*6+3,none⟩) hgN).trans n3;have a4:=(hB.cell (p:=⟨gN,oN+k*6+4,none⟩) hgN).trans n4;have a5:=(hB.cell (p:=⟨gN,oN+k*6+5,none⟩) hgN).trans n5;have b0:=(hB.cell (p:=⟨gM,oM+k*6,none⟩) hgM).trans m0;have b1:=(hB.cell (p:=⟨gM,oM+k*6+1,none⟩) hgM).trans m1;have b2:=(hB.cell (p:=⟨gM,oM+k*6+2,none⟩) hgM).trans m2;have b3:=(hB.cell (p:=⟨gM,oM+k*6+3,none⟩) hgM).trans m3;have b4:=(hB.cell (p:=⟨gM,oM+k*6+4,none⟩) hgM).trans m4;have b5:=(hB.cell (p:=⟨gM,oM+k*6+5,none⟩) hgM).trans m5;have hne:=fun W=>neq_nd W x
   simp only[ndV]at hne;replace hB:=Hd hB;clear hx n0 n1 n2 n3 n4 n5 m0 m1 m2 m3 m4 m5;go_wp2;go_quiet (fail);clear hne;go_wp2;go_roundw
   case rel=>exact⟨k+1,by omega,by go_num,hB.out.trans ((below_drewN bR _).mono hB.out.size)⟩
   case measure=>simp[intOf];omega
  ·obtain rfl:k=t.length:=by omega
   replace hB:=Hd hB;go_wp2;go_ret;exact⟨rfl,hB.out⟩
structure SQ2 (q:Qy)(s s':Sl3)(w wr:World):Prop where
 hb:Bw w wr
 b1:Blk wr w.heap.size 32 (qV q s)
 b2:Blk wr (w.heap.size+1) 32 (qV q s')
theorem SQ2.stay {q:Qy}{s s':Sl3}{w wr W:World}(h:SQ2 q s s' w wr)(hb:Bw wr W):SQ2 q s s' w W:=⟨h.hb.trans (hb.mono h.hb.size),h.b1.stay hb,h.b2.stay hb⟩
theorem sameQuery_k (F G:Nat→Prop)(q:Qy)(s s':Sl3)(hs:SzQ q)(w:World)(R:QR w F q s)(R':QR w G q s'):
  Calls Tryz.prog 10 #[.agg ⟨qV q s⟩,.agg ⟨qV q s'⟩] w fun e w'=>e=.returned (.bool true)∧Bw w w':=by
 have h0:SQ2 q s s' w ((w.alloc (.cells ⟨qV q s⟩ 32)).alloc (.cells ⟨qV q s'⟩ 32)):=⟨(bA).alloc (by simp) _,(Blk.new _ _ _).alloc _,Blk.new' (by simp)⟩;obtain⟨W0,hW0⟩:∃W0,W0=((w.alloc (.cells ⟨qV q s⟩ 32)).alloc (.cells ⟨qV q s'⟩ 32)):=⟨_,rfl⟩
 rw[←hW0]at h0;have hF:=R.lt;have hG:=R'.lt;have kit:=fun(i:Nat) it (hi:q.items[i]? =some it)=>it_at R.r1 hi
 have kre:=fun(i:Nat) t (hi:q.ret[i]? =some t)=>re_at R.r3 hi
 have kit':=fun(i:Nat) it (hi:q.items[i]? =some it)=>it_at R'.r1 hi
 have kre':=fun(i:Nat) t (hi:q.ret[i]? =some t)=>re_at R'.r3 hi
 have kt:=fun(A B:Option Addr)(c d:Nat) t (hl:t.length≤1048576)(r1:Rd w F (.slice A t.length c) (.sl t.length (t.flatMap ndD)))(r2:Rd w G (.slice B t.length d) (.sl t.length (t.flatMap ndD))) W (hW:Bw w W)=>sameTree_k A B c d F G t hl W (fun b h=>zF (hF b h) hW.size) (fun b h=>zF (hG b h) hW.size) (r1.under hW hF) (r2.under hW hG)
 have kx:=fun(A B:Option Addr)(c d:Nat)(t:List ByteArray)(hl:t.length≤1048576)(r1:Rd w F (.slice A t.length c) (.sl t.length (t.flatMap strD)))(r2:Rd w G (.slice B t.length d) (.sl t.length (t.flatMap strD))) W (hW:Bw w W)=>evW.sameTexts_q A B c d F G t hl W (r1.under hW hF) (r2.under hW hG)
 have kw:=kt s.a2 s'.a2 s.c2 s'.c2 q.wh hs.wh.1 R.r2 R'.r2 W0 h0.hb;have hil:=hs.il;have hrl:=hs.rl;have hits:=hs.it;have hres:=hs.re;obtain⟨A1,c1,A2,c2,A3,c3⟩:=s;obtain⟨B1,d1,B2,d2,B3,d3⟩:=s';obtain⟨y0,y1,y2,y3,y4,y5,y6⟩:=qbc h0.b1;obtain⟨z0,z1,z2,z3,z4,z5,z6⟩:=qbc h0.b2;simp only[zY]at y0 y1 y2 y3 y4 y5 y6 z0 z1 z2 z3 z4 z5 z6;simp only[qV]at hW0 ⊢;try simp only at kit kre kit' kre' kw
 have hWW:=Hd hW0;replace hF:=Hd hF;replace hG:=Hd hG;replace kit:=Hd kit;replace kre:=Hd kre;replace kit':=Hd kit';replace kre':=Hd kre';replace kt:=Hd kt;replace kx:=Hd kx;replace kw:=Hd kw;replace hits:=Hd hits;replace hres:=Hd hres;replace h0:=Hd h0;clear R R' hs hW0;go_enter Tryz.func10,Tryz.ntmps10;go_upto_region 1 with fail
 rw[←hWW.out];go_upto_region 3 with(go_at_call 27;refine kw.out.mono ?_;rintro e W1 ⟨rfl,hB1⟩)
 have hQ1:=Hd (h0.out.stay hB1);clear y0 y1 y2 y3 y4 y5 y6 z0 z1 z2 z3 z4 z5 z6 hB1 kw h0;go_wp2;go_loopw [5] (fun i wr=>∃j:Nat,j≤q.items.length∧i=.int .i64 j∧SQ2 q ⟨A1,c1,A2,c2,A3,c3⟩ ⟨B1,d1,B2,d2,B3,d3⟩ w wr) (fun i _=>q.items.length- (intOf i).toNat)
 case atStart=>exact⟨0,zE _,rfl,hQ1.out⟩
 case round=>
  clear hQ1;obtain⟨j,hj,rfl,hQ⟩:=hrel;have hB:=hQ.hb;have hb2:=hQ.b2.lt;have y0:wr.cell? ⟨w.heap.size,0,none⟩=some (.slice A1 q.items.length c1):=hQ.b1.cell 0;have z0:wr.cell? ⟨w.heap.size+1,0,none⟩=some (.slice B1 q.items.length d1):=hQ.b2.cell 0;by_cases hlt:j<q.items.length
  ·obtain⟨it,hi⟩:=getx hlt;have him:=zA hi;have htl:=(hits.out it him).1.1;obtain⟨gI,oI,A5,c5,eI,hFI,rx0,b0,b1,b2,b3,b4⟩:=kit.out j it hi;obtain⟨gJ,oJ,B5,d5,eJ,hGJ,ry0,e0,e1,e2,e3,e4⟩:=kit'.out j it hi;try simp only at eI
   try simp only at eJ
   subst eI;subst eJ;have hgI:=hF.out gI hFI;have hgJ:=hG.out gJ hGJ;have hws:=hB.size;have hgJr:gJ<wr.heap.size:=by omega
   have hgIr:gI<wr.heap.size:=by omega
   have a0:=(hB.cell (p:=⟨gI,oI+j*5,none⟩) hgI).trans b0;have a1:=(hB.cell (p:=⟨gI,oI+j*5+1,none⟩) hgI).trans b1;have a2:=(hB.cell (p:=⟨gI,oI+j*5+2,none⟩) hgI).trans b2;have a3:=(hB.cell (p:=⟨gI,oI+j*5+3,none⟩) hgI).trans b3;have a4:=(hB.cell (p:=⟨gI,oI+j*5+4,none⟩) hgI).trans b4;have f0:=(hB.cell (p:=⟨gJ,oJ+j*5,none⟩) hgJ).trans e0;have f1:=(hB.cell (p:=⟨gJ,oJ+j*5+1,none⟩) hgJ).trans e1;have f2:=(hB.cell (p:=⟨gJ,oJ+j*5+2,none⟩) hgJ).trans e2;have f3:=(hB.cell (p:=⟨gJ,oJ+j*5+3,none⟩) hgJ).trans e3;have f4:=(hB.cell (p:=⟨gJ,oJ+j*5+4,none⟩) hgJ).trans e4;clear b0 b1 b2 b3 b4 e0 e1 e2 e3 e4;have g0:(0:Int)≤(j:Int):=by omega
   have g1:(j:Int)<q.items.length:=by omega
   obtain⟨W2,hW2⟩:∃W2,W2=(wr.alloc (.cells ⟨itV it (.slice A5 it.tys.length c5)⟩ 54)).alloc (.cells ⟨itV it (.slice B5 it.tys.length d5)⟩ 54):=⟨_,rfl⟩
   have hB2:Bw wr W2:=by rw[hW2];exact(bA).alloc (by simp) _
   have h6:Blk W2 wr.heap.size 54 (itV it (.slice A5 it.tys.length c5)):=by rw[hW2];exact(Blk.new wr _ _).alloc _
   have h7:Blk W2 (wr.heap.size+1) 54 (itV it (.slice B5 it.tys.length d5)):=by rw[hW2];exact Blk.new' (by simp)
   have hQ2:=hQ.stay hB2;have i0:W2.cell? ⟨wr.heap.size,0,none⟩=some (.bool it.neg):=h6.cell 0;have i1:W2.cell? ⟨wr.heap.size,1,none⟩=some (.slice A5 it.tys.length c5):=h6.cell 1;have i2:W2.cell? ⟨wr.heap.size,2,none⟩=some (.string it.v):=h6.cell 2;have i3:W2.cell? ⟨wr.heap.size,3,none⟩=some (.int .i64 it.lo):=h6.cell 3;have i4:W2.cell? ⟨wr.heap.size,4,none⟩=some (.int .i64 it.hi):=h6.cell 4;have k0:W2.cell? ⟨wr.heap.size+1,0,none⟩=some (.bool it.neg):=h7.cell 0;have k1:W2.cell? ⟨wr.heap.size+1,1,none⟩=some (.slice B5 it.tys.length d5):=h7.cell 1;have k2:W2.cell? ⟨wr.heap.size+1,2,none⟩=some (.string it.v):=h7.cell 2;have k3:W2.cell? ⟨wr.heap.size+1,3,none⟩=some (.int .i64 it.lo):=h7.cell 3;have k4:W2.cell? ⟨wr.heap.size+1,4,none⟩=some (.int .i64 it.hi):=h7.cell 4;have kxx:=kx.out A5 B5 c5 d5 it.tys htl rx0 ry0 W2 hQ2.hb;simp only[itV]at hW2;have hWW2:=Hd hW2;replace kxx:=Hd kxx;replace hi:=Hd hi;replace him:=Hd him;replace rx0:=Hd rx0;replace ry0:=Hd ry0;replace hQ2:=Hd hQ2;replace hB:=Hd hB;replace hB2:=Hd hB2;replace h6:=Hd h6;replace h7:=Hd h7;clear hW2 hQ;go_upto_region 8 with fail
   rw[←hWW2.out];clear a0 a1 a2 a3 a4 f0 f1 f2 f3 f4 y0 z0;go_wp2_with (go_at_call 28;refine kxx.out.mono ?_;rintro e W3 ⟨rfl,nq,rfl⟩);go_roundw
   case rel=>exact⟨j+1,by omega,by go_num,hQ2.out.stay (below_drewN bR _)⟩
   case measure=>simp[intOf];omega
  ·obtain rfl:j=q.items.length:=by omega
   have hM0:=Hd hQ;clear hQ;go_wp2;clear y0 z0;go_loopw [8] (fun i wr=>∃k:Nat,k≤q.ret.length∧i=.int .i64 k∧SQ2 q ⟨A1,c1,A2,c2,A3,c3⟩ ⟨B1,d1,B2,d2,B3,d3⟩ w wr) (fun i _=>q.ret.length- (intOf i).toNat)
   case atStart=>exact⟨0,zE _,rfl,hM0.out⟩
   case round=>
    clear hM0;obtain⟨k,hk,rfl,hQ⟩:=hrel;have hBr:=hQ.hb;have hbr:=hBr.size;have y6:wr.cell? ⟨w.heap.size,6,none⟩=some (.slice A3 q.ret.length c3):=hQ.b1.cell 6;by_cases hlt3:k<q.ret.length
    ·obtain⟨t,ht⟩:=getx hlt3;have htm:=zA ht;obtain⟨gR,oR,A6,c6,eR,hFR,rt0,r0⟩:=kre.out k t ht;obtain⟨gS,oS,B6,d6,eS,hGS,rs0,s0⟩:=kre'.out k t ht;try simp only at eR
     try simp only at eS
     subst eR;subst eS;have hgR:=hF.out gR hFR;have hgS:=hG.out gS hGS;have p0:(0:Int)≤(k:Int):=by omega
     have p1:(k:Int)<q.ret.length:=(by omega);have ktt:=kt.out A6 B6 c6 d6 t (hres.out t htm).1 rt0 rs0 wr.drew hBr.drew;have kS:=fun W (hW:Bw wr W)=>xW ((hQ.stay hW).b1.cell 6) (xW ((hQ.stay hW).b2.cell 6) (xW ((hW.cell (p:=⟨gR,oR+k,none⟩) (by show gR<_;omega)).trans ((hBr.cell (p:=⟨gR,oR+k,none⟩) hgR).trans r0)) ((hW.cell (p:=⟨gS,oS+k,none⟩) (by show gS<_;omega)).trans ((hBr.cell (p:=⟨gS,oS+k,none⟩) hgS).trans s0))))
     have hSS:=xW (kS wr.drew (bR).drew) trivial;replace kS:=Hd kS;replace ktt:=Hd ktt;replace ht:=Hd ht;replace htm:=Hd htm;replace rt0:=Hd rt0;replace rs0:=Hd rs0;replace hQ:=Hd hQ;replace hBr:=Hd hBr;go_upto_region 13 with fail
     clear y6 r0 s0;refine G_region (p:=100) (S0:=fun W=>W.cell? ⟨w.heap.size,6,none⟩=some (.slice (some ⟨gR,oR,none⟩) q.ret.length c3)∧W.cell? ⟨w.heap.size+1,6,none⟩=some (.slice (some ⟨gS,oS,none⟩) q.ret.length d3)∧W.cell? ⟨gR,oR+k,none⟩=some (.slice A6 t.length c6)∧W.cell? ⟨gS,oS+k,none⟩=some (.slice B6 t.length d6)) (S1:=fun _=>True) (by kernel_rfl) ?_;refine' TkA 0 rfl hSS ?_;refine' TkA 1 rfl hSS ?_;refine' TkA 2 rfl hSS ?_;refine' TkA 3 rfl hSS ?_;refine' TkA 4 rfl hSS ?_;refine' TkA 5 rfl hSS ?_;refine' TkA 6 rfl hSS ?_;refine' TkA 7 rfl hSS ?_;refine' TkA 8 rfl hSS ?_;refine' TkA 9 rfl hSS ?_;try simp only[Act.put,TkS]
     refine Gs 10 rfl fun K hK=>?_
     go_simp;go_at_call 27;refine ktt.out.mono ?_;rintro e W4 ⟨rfl,hBW4⟩;have hU4:=Hd ((zB wr.heap.size wr).drew.trans hBW4);refine hK.out _ _ ⟨kS.out W4 hU4.out,fun _=>trivial⟩ ?_;have hST:=xW (kS.out W4 hU4.out) trivial;clear hK K hSS hBW4;refine' TkA 11 rfl hST ?_;try simp only[Act.put,TkS]
     clear hST;refine Gd _ ?_;try simp only[Act.put,TkS]
     go_wp2;go_roundw
     case rel=>exact⟨k+1,by omega,by go_num,hQ.out.stay hU4.out⟩
     case measure=>simp[intOf];omega
    ·obtain rfl:k=q.ret.length:=by omega
     replace hQ:=Hd hQ;replace hBr:=Hd hBr;go_wp2;go_ret;exact⟨rfl,hBr.out⟩
end lawW
end Go.Proofs.YtfiodnlgiglhfaaGreatDoor
