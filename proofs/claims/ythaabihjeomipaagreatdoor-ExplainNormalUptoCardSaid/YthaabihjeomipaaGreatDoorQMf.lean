/- The program's Lines. -/
import Derived.Test.YthaabihjeomipaaGreatDoorQMd
import Derived.Test.YthaabihjeomipaaGreatDoorQN9
namespace Go.Proofs.YthaabihjeomipaaGreatDoor
set_option maxRecDepth 100000
set_option maxHeartbeats 16000000
open Go.RowKit Go.Deep Go.Maps
set_option linter.unusedVariables false
set_option linter.unusedSimpArgs false
def moL:List ByteArray:=[⟨#[65,78,89]⟩,⟨#[78,69,88,84]⟩,⟨#[83,84,82,73,67,84]⟩]
def afL:List ByteArray:=[⟨#[65,76,76]⟩,⟨#[78,69,88,84]⟩,⟨#[80,65,83,84]⟩,⟨#[79,78,67,69]⟩]
structure MT (w:World):Prop where
 mo:TabI 0 (moL.map Value.string) w
 af:TabI 1 (afL.map Value.string) w
theorem MT.stay {w w':World}(h:MT w)(hb:Bw w w'):MT w':=⟨h.mo.stay hb,h.af.stay hb⟩
theorem mo_at {m:Nat}(h:m<3):(moL.map Value.string)[m]? =some (.string (modW m)):=by
 match m,h with
 |0,_=>rfl
 |1,_=>rfl
 |2,_=>rfl
theorem af_at {m:Nat}(h:m<4):(afL.map Value.string)[m]? =some (.string (aftW m)):=by
 match m,h with
 |0,_=>rfl
 |1,_=>rfl
 |2,_=>rfl
 |3,_=>rfl
theorem ln_md {l:List Td}{q:Qy}(h:checkC (scC l) l q=0):∃m a:Nat,q.mode=m∧q.after=a∧m<3∧a<4:=by
 have z2:(if shapedB q=true then(0:Int)else 50)=0:=fz_inv h _ sJ;have hsh:shapedB q=true:=by
  by_cases h1:shapedB q=true
  ·exact h1
  ·rw[if_neg h1]at z2;omega
 unfold shapedB at hsh;simp only[xK,Bool.or_eq_true,decide_eq_true_eq]at hsh;obtain⟨_,h1,h2,h3,h4,_⟩:=hsh;exact⟨q.mode.toNat,q.after.toNat,oQ,oQ,oQ,oQ⟩
theorem home_bd {q:Qy}{t:List Nd}(hn:0<q.items.length): -1≤(homeP q t).1∧(homeP q t).1<q.items.length:=by
 unfold homeP;by_cases c:bares q t=[]∧aggs q t=[]
 ·rw[if_pos c];exact⟨Int.le_refl _,by show(-1:Int)<_;omega⟩
 ·rw[if_neg c];have hne:bares q t++aggs q t≠ []:=fun h=>c (List.append_eq_nil_iff.1 h)
  cases hf:(bares q t).find? (negAt q)with
  |some i=>
   have hi:=(mem_uses.1 (List.mem_of_find?_eq_some hf:i∈usesL q t fun x=>bareO x.op)).1;dsimp only;omega
  |none=>
   have hz:minL (bares q t++aggs q t)<q.items.length:=by
    rcases zM.1 (minL_mem hne)with e |e
    ·exact(mem_uses.1 (e:_∈usesL q t fun x=>bareO x.op)).1
    ·exact(mem_uses.1 e).1
   dsimp only;omega
theorem PI.zero {B m:Nat}{W:World}{H:Nat→Nat}(hm:W.heap.size=m)(hB:B≤m):PI B m 0 (fun _=>True) H (fun _=>.slice none 0 0) [] (W.alloc (.map #[] 0)):=by
 have e:hfN 0 H=fun _=>none:=by
  funext i
  unfold hfN;rw[if_neg oQ]
 exact⟨e▸MapP.made hm,hB,fun k h=>by omega,fun k h=>by omega,fun k _ h=>by omega,fun s h=>by omega,fun s _ h=>by omega⟩
theorem SQ.put {l:List Td}{A:Option Addr}{c:Nat}{q:Qy}{s:Sl3}{w W W':World}{m n:Nat}{f:Int→Option Nat}(h:SQ l A c q s w W)(hg:W.grownBy W' (some m))(hm:MapP W m n f)(hB:w.heap.size≤m):SQ l A c q s w W':=
 ⟨h.hb.grown hg h.hb.size (fun k hk=>by injection hk with hk;omega),h.b0.grown hg (fun e=>by injection e with e;exact hm.neBlk h.b0 e.symm),h.b1.grown hg (fun e=>by injection e with e;exact hm.neBlk h.b1 e.symm)⟩
def PR0 (l:List Td)(A:Option Addr)(c:Nat)(q:Qy)(s:Sl3)(w:World)(m:Nat)(i:Value)(wr:World):Prop:=
 ∃(k:Nat)(H:Nat→Nat),k≤q.items.length+1∧i=.int .i64 ((k:Int) -1)∧SQ l A c q s w wr∧PI w.heap.size m k (fun _=>True) H (fun _=>.slice none 0 0) [] wr
structure PJ (l:List Td)(A:Option Addr)(c:Nat)(q:Qy)(s:Sl3)(v8:Value)(w:World)(m:Nat)(H:Nat→Nat)(V:Nat→Value)(j:Nat)(W:World):Prop where
 sq:SQ l A c q s w W
 o8:OL W w.heap.size NoF 3 1 v8 (rootsQ q).length ((rootsQ q).map cjD)
 pi:PI w.heap.size m (q.items.length+1) (fun _=>True) H V (RQ q j) W
section
variable {l:List Td}{A:Option Addr}{c:Nat}{q:Qy}{s:Sl3}{w W W' w1:World}{m j r k:Nat}{H:Nat→Nat}{V:Nat→Value}{v8 v':Value}
theorem PJ.stay (h:PJ l A c q s v8 w m H V j W)(hb:Bw W W'):PJ l A c q s v8 w m H V j W':=⟨h.sq.stay hb,h.o8.stay hb,h.pi.stay hb⟩
theorem PJ.app {o:Nat}(ho:o<2)(h:PJ l A c q s v8 w m H V j W)(hr:(rootsQ q)[j]? =some r)(hk:(rowQ q r).at_=(k:Int) -1)(hkn:k<q.items.length+1)(hown:(rowQ q r).own=(o==0))(hg:W.grownBy w1 (V (2*k+o)).ownBlock)
  (hO:OL w1 w.heap.size NoF 9 1 v' ((slR (RQ q j) (2*k+o)).length+1) ((slR (RQ q j) (2*k+o)).flatMap strD++strD (rowQ q r).tx))(ha:v'.ownBlock=(V (2*k+o)).ownBlock∨v'.ownBlock=some W.heap.size):
  PJ l A c q s v8 w m H (updV V (2*k+o) v') (j+1) (w1.setCell ⟨H k,o,none⟩ v'):=by
 have hs2:2*k+o<2*(q.items.length+1):=oQ;have hT:slT (rowQ q r)=2*k+o:=by
  unfold slT;rw[hk,hown,show((k:Int) -1+1).toNat=k by omega];match o,ho with
  |0,_=>rfl
  |1,_=>rfl
 have hOs:=h.pi.ol _ hs2 trivial;have hp:=h.pi.app hs2 hT rfl (by rw[hk];omega) hg hO ha;rw[show(2*k+o) / 2=k by omega,show(2*k+o) % 2=o by omega]at hp;rw[←RQ_next hr]at hp;have hbk:=h.pi.bk k hkn;have nb:∀(b t:Nat) cs,t≠9→Blk W b t cs→some b≠(V (2*k+o)).ownBlock:=fun b t cs h1 h2 e=>hOs.neBlk h2 (fun e=>h1 e.symm) e.symm
 have hB:=h.pi.hB k hkn;refine⟨⟨(h.sq.hb.grown hg h.sq.hb.size (fun q hq=>(hOs.lt q hq).1)).setCell (p:=⟨H k,o,none⟩) hB _,(h.sq.b0.grown hg (nb _ _ _ dQ h.sq.b0)).far (p:=⟨H k,o,none⟩) (blk_ne h.sq.b0 hbk dQ) _,(h.sq.b1.grown hg (nb _ _ _ dQ h.sq.b1)).far (p:=⟨H k,o,none⟩) (blk_ne h.sq.b1 hbk dQ) _⟩,?_,hp⟩;have h8:=h.o8.kept hg (h.o8.ne hOs dQ) (fun b hb=>hb.elim);exact h8.setCell (p:=⟨H k,o,none⟩) (h8.neBlk (hbk.grown hg (nb _ _ _ dQ hbk)) dQ) (fun h=>h) _
end
def PR1 (l:List Td)(A:Option Addr)(c:Nat)(q:Qy)(s:Sl3)(v8:Value)(w:World)(m:Nat)(H:Nat→Nat)(i:Value)(wr:World):Prop:=
 ∃(j:Nat)(V:Nat→Value),j≤(rootsQ q).length∧i=.int .i64 j∧PJ l A c q s v8 w m H V j wr∧Hid (∀i∈(rootsQ q).take j,rcC q i=0)
def lvS (p t:Nat):Prop:=t<2∨p≤t
def PR2 (l:List Td)(A:Option Addr)(c:Nat)(q:Qy)(s:Sl3)(w:World)(m g:Nat)(H:Nat→Nat)(V:Nat→Value)(cm ng i:Value)(wr:World):Prop:=
 ∃(j:Nat)(v:Value),j≤q.items.length∧i=.int .i64 j∧cm=.int .i64 (cmpN q j)∧ng=.int .i64 (ngN q j)∧PW l A c q s w m g H V (lvS (2*(j+1))) v (L2 q j) wr
def PR3 (l:List Td)(A:Option Addr)(c:Nat)(q:Qy)(s:Sl3)(w:World)(m g:Nat)(H:Nat→Nat)(V:Nat→Value)(i:Value)(wr:World):Prop:=
 ∃(k:Nat)(v:Value),k≤q.ret.length∧i=.int .i64 k∧PW l A c q s w m g H V (fun _=>False) v (L3 q k) wr∧Hid (∀u∈q.ret.take k,tcC q u=0)
theorem PW.new {l:List Td}{A:Option Addr}{c:Nat}{q:Qy}{s:Sl3}{w W:World}{m g:Nat}{H:Nat→Nat}{V:Nat→Value}{p:Nat}(hS:SQ l A c q s w W)(hP:PI w.heap.size m (q.items.length+1) (fun _=>True) H V (rowsQ q) W)(hg:W.heap.size=g):
  PW l A c q s w m g H V (lvS p) (.slice none 0 0) [] (W.alloc (.cells ⟨[.slice none 0 0]⟩ 86)):=by
 have hb:Bw W (W.alloc (.cells ⟨[.slice none 0 0]⟩ 86)):=bA;exact⟨hS.stay hb,hP.chg (Chg.of_below hb) (fun _ _=>trivial) id (fun _ _=>id) (fun _ _ _ _ _=>id),⟨hg▸Blk.new _ _ _,OL.nil _ _ _ _ _,hg▸hS.hb.size⟩,fun _ _ _=>.inl rfl⟩
namespace shW
open nmW ckW shR
theorem lines_k (A:Option Addr)(c:Nat)(F:Nat→Prop)(l:List Td)(q:Qy)(s:Sl3)(hl:SzT l)(hs:SzQ q)(hmw:SzM q.wh)(hmr:∀t∈q.ret,SzM t)(w:World)(hT:XT w)(hM:MT w)(R:QR w F q s)(r:Rd w F (.slice A l.length c) (.sl l.length (l.flatMap tdD))):
  Calls Tryz.prog 16 #[.agg ⟨[.slice A l.length c]⟩,.agg ⟨qV q s⟩] w (LnP l q w):=by
 have h0:=SQ.new l A c q s w;have hb0:=h0.hb;obtain⟨W0,hW0⟩:∃W0,W0=((w.alloc (.cells ⟨[.slice A l.length c]⟩ 24)).alloc (.cells ⟨qV q s⟩ 31)):=⟨_,rfl⟩
 rw[←hW0]at h0 hb0;obtain⟨y0,y1,y2,y3,y4,y5,y6⟩:=qbc h0.b1;have x0:=h0.b0.cell 0;have k1:=check_k A c F l q s hl hs W0 (hT.stay hb0).kw (R.under hb0) (r.under hb0 R.lt);have kcc:checkC (scC l) l q=0→∀W,Bw w W→Calls Tryz.prog 37 #[.slice s.a2 q.wh.length s.c2] W (IlPost (rootsQ q) W):=fun h W hW=>by
  have hok:=ln_ok h;unfold rootsQ;by_cases hne:q.wh=[]
  ·rw[if_pos hne];have:=(R.under hW).r2;rw[hne]at this ⊢;exact conjE_k W (hT.stay hW).kw _ _ F (R.under hW).lt this
  ·rw[if_neg hne];exact conj_k s.a2 s.c2 F q.wh hs.wh W (hT.stay hW).kw (R.under hW).lt (R.under hW).r2 (hok.wh.resolve_left hne)
 have ksx:LnOk l q→∀W (j r:Nat),Bw w W→(rootsQ q)[j]? =some r→Calls Tryz.prog 38 #[.slice s.a2 q.wh.length s.c2,.int .i64 r] W (TrPost (subT q.wh r) W):=fun hok W j r hW hj=>by
  obtain⟨hne,ht,b,hsp,e,_⟩:=conj_at hok hj;rw[e];exact sub_k s.a2 s.c2 F q.wh hs.wh W (hT.stay hW).kw (R.under hW).lt (R.under hW).r2 ht hsp
 have kpx:LnOk l q→∀W (j r:Nat) A' c',Bw w W→(rootsQ q)[j]? =some r→Rd W (fun b=>b<W.heap.size) (.slice A' (subT q.wh r).length c') (.sl (subT q.wh r).length ((subT q.wh r).flatMap ndD))→Calls Tryz.prog 39 #[.agg ⟨qV q s⟩,.slice A' (subT q.wh r).length c'] W (ExP (pln q (subT q.wh r)) W):=fun hok W j r A' c' hW hj rd=>by
  obtain⟨hne,ht,b,hsp,e,_⟩:=conj_at hok hj;rw[e]at rd ⊢;exact plain_k q s A' c' _ F (subL q.wh b r) hs (subL_sz hsp hs.wh) (ndok_sub (nd_ok ht hmw)) (fields_sub (treeB_sp ht).2.2) W (hT.stay hW) (R.under hW) (fun b h=>h) rd
 have kux:LnOk l q→∀W (j r:Nat) A' c',Bw w W→(rootsQ q)[j]? =some r→Rd W (fun b=>b<W.heap.size) (.slice A' (subT q.wh r).length c') (.sl (subT q.wh r).length ((subT q.wh r).flatMap ndD))→Calls Tryz.prog 41 #[.agg ⟨qV q s⟩,.slice A' (subT q.wh r).length c'] W (UsP2 q (subT q.wh r) W):=fun hok W j r A' c' hW hj rd=>by
  obtain⟨hne,ht,b,hsp,e,hm⟩:=conj_at hok hj;rw[e]at rd ⊢;exact uses2_k q s A' c' _ F (subL q.wh b r) hs (subL_sz hsp hs.wh) W (R.under hW) (fun b h=>h) rd
 have khx:∀W (t:List Nd) v1 v2 v3,Bw w W→OL W 0 NoF 3 1 v1 (bares q t).length ((bares q t).map cjD)→OL W 0 NoF 3 1 v2 (uL q t is11).length ((uL q t is11).map cjD)→OL W 0 NoF 3 1 v3 (uL q t fun x=>aggO x.op).length ((uL q t fun x=>aggO x.op).map cjD)→Calls Tryz.prog 40 #[.agg ⟨qV q s⟩,.agg #[v1,v2,v3]] W (HmP (homeP q t) W):=fun W t v1 v2 v3 hW o1 o2 o3=>
  home_k q s t F v1 v2 v3 hs W (R.under hW) (o1.rd (fun b h _=>h.elim) (fun _ _ h=>h)) (o2.rd (fun b h _=>h.elim) (fun _ _ h=>h)) (o3.rd (fun b h _=>h.elim) (fun _ _ h=>h))
 have hrl:LnOk l q→(rootsQ q).length≤1048576:=fun hok=>zU (roots_len hok) hs.wh.1
 have cc:=fun W (h:SQ l A c q s w W)=>qbc h.b1
 obtain⟨b,hc⟩:∃b,b=checkC (scC l) l q:=⟨_,rfl⟩
 have hL:=fun h:b≠0=>(lin_chk (hc▸h)).trans hc.symm
 obtain⟨A1,c1,A2,c2,A3,c3⟩:=s;simp only[qV,zY]at hW0 y0 y1 y2 y3 y4 y5 y6 x0 k1 kcc ksx kpx kux khx cc ⊢;rw[←hc]at k1 kcc;have hmf:∀(fn:Fn) (first cap:Array Value) (w:World),(Instr.makeFunc fn first cap).run Tryz.prog w=.ok (.func fn first cap) w:=fun _ _ _ _=>rfl
 have hmm:∀w:World,(Instr.makeMap 76 none).run Tryz.prog w=.ok (.map (some w.heap.size)) (w.alloc (.map #[] 0)):=fun w=>by simp[Instr.makeMap,run_underlying Tryz.underlying76,asInt,asIntOf,Result.andThen]
 replace k1:=Hd k1;replace kcc:=Hd kcc;replace ksx:=Hd ksx;replace kpx:=Hd kpx;replace kux:=Hd kux;replace khx:=Hd khx;replace cc:=Hd cc;replace hrl:=Hd hrl;have hWW:=Hd hW0;replace h0:=Hd h0;replace hc:=Hd hc;replace hb0:=Hd hb0;replace hL:=Hd hL;clear hW0;go_enter Tryz.func16,Tryz.ntmps16;go_upto_region 1 with fail
 rw[←hWW.out];go_upto_region 2 with(first
  |(go_at_call 36;refine k1.out.mono ?_;rintro e W1 ⟨fp,fi,fs,rfl,_,hX1⟩;have h1:=Hd (h0.out.stay hX1);clear hX1 x0 y0 y1 y2 y3 y4 y5 y6)
  |(refine at_op (.store 59 (.tmp 6) (.tmp 31)) rfl ?_;refine wsb rfl 59 (.tmp 6) (.tmp 31) rfl (cs':=flV b fp fi fs) (Blk.new _ _ _) aggFl rfl rfl rfl rfl ?_;intro w2 hz2 hg2))
 have hX2:Bw W1 w2:=by
  have h2:Bw W1 (W1.alloc (.cells ⟨flV 0 0 0 0⟩ 59)):=bA;exact h2.grown hg2 h2.size (fun q hq=>by injection hq with hq;omega)
 have h2:=h1.out.stay hX2;have e0:=hz2.cell 0;simp only[flV,zY]at e0;obtain⟨gf,hgf⟩:∃gf,gf=W1.heap.size:=⟨_,rfl⟩
 rw[←hgf]at e0 ⊢;clear hX2 hz2 hg2 h1 hgf hb0 h0 hWW;by_cases hs0:b=0
 case neg=>
  have f2:=bneT hs0;have f1:=beqF hs0;have hfin:=Hd (fun(W:World)(hW:Bw w W)=>LnP.err (w':=W) (hL.out hs0) hs0 hW);have hbb:=Hd h2.hb;replace hs0:=Hd hs0;clear h2 kcc k1;go_upto_region 3 with fail
  go_quiet (fail);go_wp2;refine bodyPost_ret (results_tmp2 rfl _ _ _) rfl ?_;first|exact hfin.out _ hbb.out |exact hfin.out _ hbb.out.drew |exact hfin.out _ (below_drewN hbb.out _)
 subst hs0;have hok:=ln_ok hc.out.symm;have hmd:=Hd (ln_md hc.out.symm);have hnd:=Hd (ln_nd hc.out.symm);have hin:=hok.il;have hrl':=hrl.out hok;have ks1:=Hd (ksx.out hok);have kp1:=Hd (kpx.out hok);have ku1:=Hd (kux.out hok);have hi0:=hok.i0;clear ksx kpx kux hrl;replace hok:=Hd hok;have kcx:=Hd (kcc.out rfl);clear kcc k1 hL;obtain⟨m,hm⟩:∃m,m=w2.heap.size:=⟨_,rfl⟩
 have hP0:=Hd (PI.zero (H:=fun _=>0) hm.symm (by have:=h2.hb.size;omega:w.heap.size≤m));have h3:=Hd (h2.stay ((zB _ w2).alloc nR (.map #[] 0)));clear h2;go_upto_region 5 with fail
 rw[←hm];clear hm e0;go_wp2;go_loopw [8] (fun i wr=>PR0 l A c q ⟨A1,c1,A2,c2,A3,c3⟩ w m i wr) (fun i _=>q.items.length+1- (intOf i+1).toNat)
 case atStart=>exact⟨0,fun _=>0,zE _,rfl,h3.out,hP0.out⟩
 case round=>
 clear h3 hP0;obtain⟨k,H,hk,rfl,hS,hP⟩:=hrel;obtain⟨y0,y1,y2,y3,y4,y5,y6⟩:=cc.out wr hS;by_cases hlt:k<q.items.length+1
 ·have g1:(k:Int) -1<q.items.length:=oQ;have hwz:IntKind.i64.wrap ((k:Int) -1+1)=k:=by rw[xI]<;>omega
  have hB1:Bw wr (wr.alloc (.cells ⟨[.slice none 0 0,.slice none 0 0]⟩ 79)):=bA;have hP1:=hP.stay hB1;have hS1:=hS.stay hB1;have hbn:Blk (wr.alloc (.cells ⟨[.slice none 0 0,.slice none 0 0]⟩ 79)) wr.heap.size 79 [.slice none 0 0,.slice none 0 0]:=Blk.new _ _ _;have hM1:=Hd hP1.mp;have hfin:=fun w1 (h1:MapP w1 m (k+1) (fun j=>if j=(k:Int) -1 then some wr.heap.size else hfN k H j))(h2:(wr.alloc (.cells ⟨[.slice none 0 0,.slice none 0 0]⟩ 79)).grownBy w1 (some m))=>xW (hS1.put h2 hM1.out hP.mB) (hP.grow hB1 nR hbn h1 h2 hS.hb.size)
  replace hfin:=Hd hfin;clear hS hP hB1 hP1 hS1 hbn;go_wp2_with (at_mapUpdate;refine wpList_putP rfl (.tmp 45) (.tmp 46) (.tmp 48) rfl rfl hM1.out oQ rfl rfl oQ oQ ?_;intro w1 hm1 hg1;have hF1:=Hd (hfin.out w1 hm1 hg1);clear hm1 hg1);go_roundw
  case rel=>exact⟨k+1,_,oQ,by rw[show((k+1:Nat):Int) -1=k by omega],hF1.out.1,hF1.out.2⟩
  case measure=>exact mQ
 obtain rfl:k=q.items.length+1:=oQ;have g1:¬((q.items.length+1:Nat):Int) -1<q.items.length:=oQ;have kc1:=Hd (kcx.out wr hS.hb);replace hS:=Hd hS;replace hP:=Hd hP;clear kcx hlt;go_wp2_with (go_at_call 37;refine kc1.out.mono ?_;rintro e W3 ⟨v8,rfl,hO8,hX3⟩;have hJ3:PJ l A c q ⟨A1,c1,A2,c2,A3,c3⟩ v8 w m H (fun _=>.slice none 0 0) 0 W3:=⟨hS.out.stay hX3,hO8.base hS.out.hb.size,hP.out.stay hX3⟩;obtain⟨A8,c8,rfl⟩:=hO8.form;replace hJ3:=Hd hJ3;clear hO8 hX3 hS hP kc1 y0 y1 y2 y3 y4 y5 y6 g1 hk);go_loopw [53] (fun i wr=>PR1 l A c q ⟨A1,c1,A2,c2,A3,c3⟩ (.slice A8 (rootsQ q).length c8) w m H i wr) (fun i _=>(rootsQ q).length- (intOf i).toNat)
 case atStart=>exact⟨0,_,zE _,rfl,hJ3.out,fun i hi=>by rw[List.take_zero]at hi;cases hi⟩
 case round=>
 clear hJ3;obtain⟨j,V,hj,rfl,hJ,hz⟩:=hrel;by_cases hlt:j<(rootsQ q).length
 ·obtain⟨r,hr⟩:=getx hlt;obtain⟨b8,o8,rfl,u8⟩:=cj_at (hJ.o8.rd (G:=fun _=>True) (fun _ h _=>h.elim) (fun _ _ _=>trivial)) hr;obtain⟨y0,y1,y2,y3,y4,y5,y6⟩:=cc.out wr hJ.sq;have ks2:=ks1.out wr j r hJ.sq.hb hr;have kp2:=fun W A' c' h1 h2=>kp1.out W j r A' c' h1 hr h2
  have ku2:=fun W A' c' h1 h2=>ku1.out W j r A' c' h1 hr h2
  have kh2:=fun W=>khx.out W (subT q.wh r)
  have hap:=fun(o k:Nat)(ho:o<2)(v':Value) W w1 (h:PJ l A c q ⟨A1,c1,A2,c2,A3,c3⟩ (.slice (some ⟨b8,o8,none⟩) (rootsQ q).length c8) w m H V j W) hk hkn hown hg hO ha=>h.app (o:=o) (k:=k) (w1:=w1) (v':=v') ho hr hk hkn hown hg hO ha
  have hlin:=fun h=>lin_root hc.out.symm hr hz.out h
  have hz2:rcC q r=0→∀i∈(rootsQ q).take (j+1),rcC q i=0:=fun h i hi=>by
   rw[zJ,hr]at hi;rcases zM.1 hi with h2 |h2
   ·exact hz.out i h2
   ·rw[Option.toList_some,xB]at h2;rw[h2];exact h
  have hrw:rowQ q r=⟨exT (pln q (subT q.wh r)),(homeP q (subT q.wh r)).1,(homeP q (subT q.wh r)).2⟩:=rfl;have hrc:rcC q r=exC (pln q (subT q.wh r)):=rfl;have hbd:=home_bd (q:=q) (t:=subT q.wh r) hi0;have g0:(0:Int)≤(j:Int):=oQ;have g1:(j:Int)<(rootsQ q).length:=oQ;rw[hrw]at hap;rw[hrc]at hlin hz2;generalize subT q.wh r=t' at ks2 kp2 ku2 kh2 hap hlin hz2 hbd;replace ks2:=Hd ks2;replace kp2:=Hd kp2;replace ku2:=Hd ku2;replace kh2:=Hd kh2;replace hap:=Hd hap;replace hlin:=Hd hlin;replace hz2:=Hd hz2;replace hr:=Hd hr;have hJH:=Hd hJ;clear hJ hrw hrc hz;go_upto_region 13 with(go_at_call 38;refine ks2.out.mono ?_;rintro e W1 ⟨vt,rfl,hTt,hX1⟩)
  obtain⟨At,ct,rfl⟩:=hTt.form;have hrt:=hTt.rd (G:=fun b=>b<W1.heap.size) (fun b h=>h.elim) (fun b _ h=>h);have hJ1:=hJH.out.stay hX1;have kp3:=Hd (kp2.out W1 At ct hJ1.sq.hb hrt);clear u8 y0 y1 y2 y3 y4 y5 y6 ks2;obtain⟨y0,y1,y2,y3,y4,y5,y6⟩:=cc.out W1 hJ1.sq;replace hJ1:=Hd hJ1;replace hrt:=Hd hrt;clear hTt hX1 kp2 hJH;go_upto_region 14 with(go_at_call 39;refine kp3.out.mono ?_;rintro e W2 ⟨rfl,hX2⟩)
  have hJ2:=hJ1.out.stay hX2;have hrt2:=Hd ((hrt.out.under hX2 (fun b h=>h)).mono (G:=fun b=>b<W2.heap.size) (fun b h _=>zF h hX2.size));have ku3:=fun W hW=>ku2.out W At ct (hJ2.sq.hb.trans (Below.mono hW hJ2.sq.hb.size)) ((hrt2.out.under hW (fun b h=>h)).mono (G:=fun b=>b<W.heap.size) (fun b h _=>zF h hW.size))
  clear y0 y1 y2 y3 y4 y5 y6;have hes:Hid (exC (pln q t')=exC (pln q t')):=rfl;clear hrt ku2 hJ1 hX2 kp3;generalize exC (pln q t')=ec at hlin hz2 ⊢;generalize exT (pln q t')=et at hap ⊢;generalize homeP q t'=hm at hap kh2 hbd;obtain⟨hi,ow⟩:=hm;simp only at hap kh2 hbd;by_cases hec:ec=0
  case neg=>
   have f2:=bneT hec;have hfin:=Hd (fun(W:World)(hW:Bw w W)=>LnP.err (w':=W) (hlin.out hec) hec hW);have hbb:=Hd hJ2.sq.hb;replace hec:=Hd hec;clear hJ2 hap hz2 ku3 kh2;go_wp2;refine bodyPost_ret (results_tmp2 rfl _ _ _) rfl ?_;first|exact hfin.out _ hbb.out |exact hfin.out _ hbb.out.drew |exact hfin.out _ (below_drewN hbb.out _)
  have f2:=bneF hec;have hz3:=Hd (hz2.out hec);subst hec;obtain⟨k,hk⟩:∃k:Nat,hi=(k:Int) -1:=⟨(hi+1).toNat,oQ⟩
  have hkn:k<q.items.length+1:=oQ;replace hk:=Hd hk;have hs4:∀W,Bw W2 W→W.cell? ⟨w.heap.size+1,0,none⟩=some (.slice A1 q.items.length c1)∧W.cell? ⟨w.heap.size+1,1,none⟩=some (.int .i64 q.mode)∧W.cell? ⟨w.heap.size+1,2,none⟩=some (.int .i64 q.after)∧W.cell? ⟨w.heap.size+1,3,none⟩=some (.slice A2 q.wh.length c2)∧W.cell? ⟨w.heap.size+1,4,none⟩=some (.int .i64 q.within)∧W.cell? ⟨w.heap.size+1,5,none⟩=some (.string q.by_)∧W.cell? ⟨w.heap.size+1,6,none⟩=some (.slice A3 q.ret.length c3):=fun W hW=>cc.out W (hJ2.sq.stay hW)
  have hSS:=xW (hs4 W2.drew (bR).drew) trivial;replace hs4:=Hd hs4;have ku4:=Hd (ku3 W2.drew (bR).drew);have hJ2b:=Hd hJ2.sq.hb;replace hJ2:=Hd hJ2;clear hlin hz2 hes ku3 hrt2;go_upto_region 16 with fail
  refine G_region (p:=100) (S0:=fun W=>W.cell? ⟨w.heap.size+1,0,none⟩=some (.slice A1 q.items.length c1)∧W.cell? ⟨w.heap.size+1,1,none⟩=some (.int .i64 q.mode)∧W.cell? ⟨w.heap.size+1,2,none⟩=some (.int .i64 q.after)∧W.cell? ⟨w.heap.size+1,3,none⟩=some (.slice A2 q.wh.length c2)∧W.cell? ⟨w.heap.size+1,4,none⟩=some (.int .i64 q.within)∧W.cell? ⟨w.heap.size+1,5,none⟩=some (.string q.by_)∧W.cell? ⟨w.heap.size+1,6,none⟩=some (.slice A3 q.ret.length c3)) (S1:=fun _=>True) kQ ?_;refine' TkB 0 rfl hSS ?_;try go_simp
  refine' TkB 1 rfl hSS ?_;try go_simp
  refine' TkB 2 rfl hSS ?_;try go_simp
  refine G_step (k:=3) kQ rfl (fun K' hK'=>?_);go_simp;go_at_call 41;refine ku4.out.mono ?_;rintro e W3 ⟨v1,v2,v3,rfl,o1,o2,o3,hX3⟩;have hb3:=Hd ((zB W2.heap.size W2).drew.trans hX3);have kh3:=Hd (kh2.out W3 v1 v2 v3 (hJ2b.out.trans (hb3.out.mono hJ2b.out.size)) (o1.base (zE _)) (o2.base (zE _)) (o3.base (zE _)));clear o1 o2 o3 hX3;try go_simp
  refine hK'.out _ _ ⟨hs4.out _ hb3.out,fun _=>trivial⟩ ?_;clear hK' K';refine G_step (k:=4) kQ rfl (fun K' hK'=>?_);go_simp;go_at_call 40;refine kh3.out.mono ?_;rintro e W4 ⟨rfl,hX4⟩;have hb4:=Hd (hb3.out.trans (hX4.mono hb3.out.size));clear hX4 kh3 hSS;try go_simp
  have hSS:=xW (hs4.out _ hb4.out) trivial;refine hK'.out _ _ ⟨hSS.1,fun _=>trivial⟩ ?_;clear hK' K' hb3;refine' TkB 5 rfl hSS ?_;try go_simp
  refine' TkB 6 rfl hSS ?_;try go_simp
  refine' TkB 7 rfl hSS ?_;try go_simp
  refine' TkB 8 rfl hSS ?_;try go_simp
  refine' TkB 9 rfl hSS ?_;try go_simp
  refine Gd _ ?_;clear hSS;obtain⟨W5,hW5,hX5⟩:∃W5,W5=W4∧Bw W2 W5:=⟨_,rfl,hb4.out⟩
  subst hW5;have hJ5:=hJ2.out.stay hX5;clear hs4 ku4 hJ2b hJ2 hb4 hX5 kh2;obtain rfl:=hk.out;have hbk:=hJ5.pi.bk k hkn;have hlk:∀W,MapP W m (q.items.length+1) (hfN (q.items.length+1) H)→(Instr.lookup 76 (.map (some m)) (.int .i64 ((k:Int) -1)) false).run Tryz.prog W=.ok (.pointer (some ⟨H k,0,none⟩)) W:=fun W h=>h.look (by rw[hfN_at oQ oQ,show((k:Int) -1+1).toNat=k by omega]) oQ oQ
  have hB4:Bw W5 (W5.drew.alloc (.cells ⟨[.string et]⟩ 9)):=(bR).drew.alloc nR _;replace hk:=Hd trivial;cases ow with
  |true=>
   as_aux_lemma=>
    have hcell:W5.cell? ⟨H k,0,none⟩=some (V (2*k+0)):=hbk.cell 0;have hO:=hJ5.pi.ol (2*k+0) oQ trivial;obtain⟨AV,cV,hV⟩:=hO.form;have hNl:(slR (RQ q j) (2*k+0)).length≤1048576:=zU (slR_len _ _) (by rw[RQ_len hj];omega);have hap2:=fun v' W w1 h hg hO ha=>hap.out 0 k oQ v' W w1 h rfl hkn rfl hg hO ha
    have hJa:=hJ5.stay hB4;have hOa:=hJa.pi.ol (2*k+0) oQ trivial;have hSa2:(W5.drew.alloc (.cells ⟨[.string et]⟩ 9)).cell? ⟨H k,0,none⟩=some (V (2*k+0)):=(hJa.pi.bk k hkn).cell 0;have hSa:=xW (hlk _ hJa.pi.mp) hSa2;clear hSa2;have hka:=fun w1 (hg:(W5.drew.alloc (.cells ⟨[.string et]⟩ 9)).grownBy w1 (V (2*k+0)).ownBlock)=>xW (hlk w1 (hJa.pi.mp.kept hg (fun e=>hJa.pi.mp.neRow hOa e.symm))) ((hJa.pi.bk k hkn).grown hg (fun e=>hOa.neBlk (hJa.pi.bk k hkn) dQ e.symm))
    rw[hV]at hcell hO hap2 hOa hSa hka;obtain⟨NV,hNV⟩:∃N,N=(slR (RQ q j) (2*k+0)).length:=⟨_,rfl⟩
    rw[←hNV]at hcell hO hap2 hOa hSa hka hNl;have hSS:=xW (hlk W5.drew (hJ5.pi.stay (bR).drew).mp) (hcell:W5.drew.cell? ⟨H k,0,none⟩=_);have hsr:=Hd (SrcLit (w:=W5.drew) (t:=9) (G:=fun b=>NoF b∧some b≠(Value.slice AV NV cV).ownBlock) rfl (show RdL W5.drew (fun b=>NoF b∧some b≠(Value.slice AV NV cV).ownBlock) [.string et] (strD et)from⟨.v _ rfl,trivial⟩));have hsz:=hJa.sq.hb.size;have hlk2:=fun w1 o (h:PJ l A c q ⟨A1,c1,A2,c2,A3,c3⟩ (.slice (some ⟨b8,o8,none⟩) (rootsQ q).length c8) w m H o (j+1) w1)=>hlk w1 h.pi.mp
    replace hlk2:=Hd hlk2;replace hNV:=Hd hNV;replace hV:=Hd hV;replace hap2:=Hd hap2;replace hJa:=Hd hJa;replace hOa:=Hd hOa;replace hka:=Hd hka;have hSaH:=Hd hSa;clear hO hcell hJ5 hlk hap hB4 hbk hSa;go_upto_region 18 with fail
    refine G_region (p:=11) (S0:=fun W=>(Instr.lookup 76 (.map (some m)) (.int .i64 ((k:Int) -1)) false).run Tryz.prog W=.ok (.pointer (some ⟨H k,0,none⟩)) W) (S1:=fun W=>W.cell? ⟨H k,0,none⟩=some (.slice AV NV cV)) kQ ?_;refine' TkB 0 rfl hSS ?_;try go_simp
    refine' TkB 1 rfl hSS ?_;try go_simp
    refine' TkB 2 rfl hSS ?_;try go_simp
    refine' TkB 3 rfl hSS ?_;try go_simp
    refine' TkB 4 rfl hSS ?_;try go_simp
    refine' TkB 5 rfl hSS ?_;try go_simp
    refine' TkB 6 rfl hSS ?_;try go_simp
    refine' TkB 7 rfl hSS ?_;try go_simp
    refine' G_take1 (i:=8) (v:=_) rfl dQ kQ kQ kQ rfl kQ kQ (fun _ _ _ h=>h) hSS (.inl ⟨by rfl,?hyc08⟩) ?restc08
    case hyc08=>(intro W hW;(try dsimp only at hW);go_simp<;>with_reducible rfl)
    try go_simp
    refine' TkB 9 rfl hSS ?_;try go_simp
    clear hSS;refine G_step (k:=10) kQ rfl (fun K' hK'=>?_);go_simp;refine hK'.out _ _ ⟨hSaH.out.1,fun _=>hSaH.out.2⟩ ?_;clear hK' K';refine G_step (k:=11) kQ rfl (fun K' hK'=>?_);refine step_app (by rfl) (.tmp 87) (.tmp 89) _ (by rfl) (m:=1) (news:=strD et) elStr (by exact hOa.out) (by rfl) (by rfl) (by exact hsr.out) rfl oQ oQ (by exact hsz) ?_;intro v' w1 hO2 hg2 ha2;obtain⟨B9,d9,rfl⟩:=hO2.form;have hF:=hap2.out _ _ w1 hJa.out hg2 hO2 ha2;have hS3:=hlk2.out _ _ hF;obtain⟨hS2,hbw⟩:=hka.out w1 hg2;have z0:=hbw.cell 0;have fz0:=hbw.frozen 0;simp only[zY,xA]at z0;replace hF:=Hd hF;clear hO2 hg2 ha2 hbw;refine hK'.out _ _ ⟨hS2,fun h=>absurd (h.symm.trans (by kernel_rfl:_=true)) sJ⟩ ?_;clear hK' K';replace hS2:=Hd hS2;try go_simp
    refine G_step (k:=12) kQ rfl (fun K' hK'=>?_);go_simp;refine hK'.out _ _ ⟨hS2.out,fun h=>absurd (h.symm.trans (by kernel_rfl:_=true)) sJ⟩ ?_;clear hK' K';refine G_step (k:=13) kQ rfl (fun K' hK'=>?_);go_simp;refine hK'.out _ _ ⟨hS2.out,fun h=>absurd (h.symm.trans (by kernel_rfl:_=true)) sJ⟩ ?_;clear hK' K' hS2;refine G_step (k:=14) kQ rfl (fun K' hK'=>?_);replace hS3:=Hd hS3;go_simp;refine hK'.out _ _ ⟨hS3.out,fun h=>absurd (h.symm.trans (by kernel_rfl:_=true)) sJ⟩ ?_;clear hK' K' hS3;refine Gd _ ?_;go_wp2;go_roundw
    case rel=>exact⟨j+1,_,oQ,gQ,hF.out,hz3.out⟩
    case measure=>exact mQ
  |false=>
   as_aux_lemma=>
    have hcell:W5.cell? ⟨H k,1,none⟩=some (V (2*k+1)):=hbk.cell 1;have hO:=hJ5.pi.ol (2*k+1) oQ trivial;obtain⟨AV,cV,hV⟩:=hO.form;have hNl:(slR (RQ q j) (2*k+1)).length≤1048576:=zU (slR_len _ _) (by rw[RQ_len hj];omega);have hap2:=fun v' W w1 h hg hO ha=>hap.out 1 k oQ v' W w1 h rfl hkn rfl hg hO ha
    have hJa:=hJ5.stay hB4;have hOa:=hJa.pi.ol (2*k+1) oQ trivial;have hSa2:(W5.drew.alloc (.cells ⟨[.string et]⟩ 9)).cell? ⟨H k,1,none⟩=some (V (2*k+1)):=(hJa.pi.bk k hkn).cell 1;have hSa:=xW (hlk _ hJa.pi.mp) hSa2;clear hSa2;have hka:=fun w1 (hg:(W5.drew.alloc (.cells ⟨[.string et]⟩ 9)).grownBy w1 (V (2*k+1)).ownBlock)=>xW (hlk w1 (hJa.pi.mp.kept hg (fun e=>hJa.pi.mp.neRow hOa e.symm))) ((hJa.pi.bk k hkn).grown hg (fun e=>hOa.neBlk (hJa.pi.bk k hkn) dQ e.symm))
    rw[hV]at hcell hO hap2 hOa hSa hka;obtain⟨NV,hNV⟩:∃N,N=(slR (RQ q j) (2*k+1)).length:=⟨_,rfl⟩
    rw[←hNV]at hcell hO hap2 hOa hSa hka hNl;have hSS:=xW (hlk W5.drew (hJ5.pi.stay (bR).drew).mp) (hcell:W5.drew.cell? ⟨H k,1,none⟩=_);have hsr:=Hd (SrcLit (w:=W5.drew) (t:=9) (G:=fun b=>NoF b∧some b≠(Value.slice AV NV cV).ownBlock) rfl (show RdL W5.drew (fun b=>NoF b∧some b≠(Value.slice AV NV cV).ownBlock) [.string et] (strD et)from⟨.v _ rfl,trivial⟩));have hsz:=hJa.sq.hb.size;have hlk2:=fun w1 o (h:PJ l A c q ⟨A1,c1,A2,c2,A3,c3⟩ (.slice (some ⟨b8,o8,none⟩) (rootsQ q).length c8) w m H o (j+1) w1)=>hlk w1 h.pi.mp
    replace hlk2:=Hd hlk2;replace hNV:=Hd hNV;replace hV:=Hd hV;replace hap2:=Hd hap2;replace hJa:=Hd hJa;replace hOa:=Hd hOa;replace hka:=Hd hka;have hSaH:=Hd hSa;clear hO hcell hJ5 hlk hap hB4 hbk hSa;go_upto_region 19 with fail
    refine G_region (p:=11) (S0:=fun W=>(Instr.lookup 76 (.map (some m)) (.int .i64 ((k:Int) -1)) false).run Tryz.prog W=.ok (.pointer (some ⟨H k,0,none⟩)) W) (S1:=fun W=>W.cell? ⟨H k,1,none⟩=some (.slice AV NV cV)) kQ ?_;refine' TkB 0 rfl hSS ?_;try go_simp
    refine' TkB 1 rfl hSS ?_;try go_simp
    refine' TkB 2 rfl hSS ?_;try go_simp
    refine' TkB 3 rfl hSS ?_;try go_simp
    refine' TkB 4 rfl hSS ?_;try go_simp
    refine' TkB 5 rfl hSS ?_;try go_simp
    refine' TkB 6 rfl hSS ?_;try go_simp
    refine' TkB 7 rfl hSS ?_;try go_simp
    refine' G_take1 (i:=8) (v:=_) rfl dQ kQ kQ kQ rfl kQ kQ (fun _ _ _ h=>h) hSS (.inl ⟨by rfl,?hyc18⟩) ?restc18
    case hyc18=>(intro W hW;(try dsimp only at hW);go_simp<;>with_reducible rfl)
    try go_simp
    refine' TkB 9 rfl hSS ?_;try go_simp
    clear hSS;refine G_step (k:=10) kQ rfl (fun K' hK'=>?_);go_simp;refine hK'.out _ _ ⟨hSaH.out.1,fun _=>hSaH.out.2⟩ ?_;clear hK' K';refine G_step (k:=11) kQ rfl (fun K' hK'=>?_);refine step_app (by rfl) (.tmp 101) (.tmp 103) _ (by rfl) (m:=1) (news:=strD et) elStr (by exact hOa.out) (by rfl) (by rfl) (by exact hsr.out) rfl oQ oQ (by exact hsz) ?_;intro v' w1 hO2 hg2 ha2;obtain⟨B9,d9,rfl⟩:=hO2.form;have hF:=hap2.out _ _ w1 hJa.out hg2 hO2 ha2;have hS3:=hlk2.out _ _ hF;obtain⟨hS2,hbw⟩:=hka.out w1 hg2;have z0:=hbw.cell 1;have fz0:=hbw.frozen 1;simp only[zY,xA]at z0;replace hF:=Hd hF;clear hO2 hg2 ha2 hbw;refine hK'.out _ _ ⟨hS2,fun h=>absurd (h.symm.trans (by kernel_rfl:_=true)) sJ⟩ ?_;clear hK' K';replace hS2:=Hd hS2;try go_simp
    refine G_step (k:=12) kQ rfl (fun K' hK'=>?_);go_simp;refine hK'.out _ _ ⟨hS2.out,fun h=>absurd (h.symm.trans (by kernel_rfl:_=true)) sJ⟩ ?_;clear hK' K';refine G_step (k:=13) kQ rfl (fun K' hK'=>?_);go_simp;refine hK'.out _ _ ⟨hS2.out,fun h=>absurd (h.symm.trans (by kernel_rfl:_=true)) sJ⟩ ?_;clear hK' K' hS2;refine G_step (k:=14) kQ rfl (fun K' hK'=>?_);replace hS3:=Hd hS3;go_simp;refine hK'.out _ _ ⟨hS3.out,fun h=>absurd (h.symm.trans (by kernel_rfl:_=true)) sJ⟩ ?_;clear hK' K' hS3;refine Gd _ ?_;go_wp2;go_roundw
    case rel=>exact⟨j+1,_,oQ,gQ,hF.out,hz3.out⟩
    case measure=>exact mQ
 obtain rfl:j=(rootsQ q).length:=oQ;have g1:¬((rootsQ q).length:Int)<(rootsQ q).length:=oQ;have hz:∀i∈rootsQ q,rcC q i=0:=by
  have:=hz.out;rw[zL]at this;exact this
 have hPI:PI w.heap.size m (q.items.length+1) (fun _=>True) H V (rowsQ q) wr:=by
  have h:=hJ.pi;have e:RQ q (rootsQ q).length=rowsQ q:=by unfold RQ;rw[zL];rfl
  rw[e]at h;exact h
 have hS:=hJ.sq;obtain⟨g,hg⟩:∃g,g=wr.heap.size:=⟨_,rfl⟩
 have hW5:=PW.new (p:=2) hS hPI hg.symm;obtain⟨w5,hw5⟩:∃w5,w5=wr.alloc (.cells ⟨[.slice none 0 0]⟩ 86):=⟨_,rfl⟩
 rw[←hw5]at hW5;have hb5:=hW5.sq.hb;obtain⟨mn,an,hmn,han,hm3,ha4⟩:=hmd.out;have kfi:∀W,Bw w W→Calls Tryz.prog 32 #[.int .i64 q.within,.int .i64 10] W (StP (itoaB q.within) W):=fun W h=>by
  have hb:=hok.out.wi;refine(Tryz.strconv_FormatInt_10 q.within oQ oQ W (hT.stay h).pw).mono ?_;rintro e w' ⟨rfl,k,os,rfl⟩;exact⟨rfl,below_grown W k os⟩
 have zm:=modW_size (mn:Int);have za:=aftW_size (an:Int);have zi:=itoaB_size q.within (by have:=hok.out.wi;omega) (by have:=hok.out.wi;omega);have zk:=keyT_size hs.by_;have hH:=headL_eq q;rw[hmn,han]at hH;have hSI:=fun W (h:SQ l A c q ⟨A1,c1,A2,c2,A3,c3⟩ w W)=>(show W.cell? ⟨w.heap.size+1,1,none⟩=some (.int .i64 (mn:Int))∧W.cell? ⟨w.heap.size+1,2,none⟩=some (.int .i64 (an:Int))∧W.cell? ⟨w.heap.size+1,4,none⟩=some (.int .i64 q.within)∧W.cell? ⟨0,mn,none⟩=some (.string (modW mn))∧W.cell? ⟨1,an,none⟩=some (.string (aftW an))from by
  obtain⟨_,e1,e2,_,e4,_,_⟩:=cc.out W h;rw[hmn]at e1;rw[han]at e2;exact⟨e1,e2,e4,(hM.stay h.hb).mo.2 mn _ (mo_at hm3),(hM.stay h.hb).af.2 an _ (af_at ha4)⟩)
 obtain⟨y0,y1,y2,y3,y4,y5,y6⟩:=cc.out wr hS;obtain⟨K,hK⟩:∃K,K=keyT q:=⟨_,rfl⟩
 rw[←hK]at hH zk;unfold keyT at hK;generalize modW (mn:Int)=M at zm hH hSI;generalize aftW (an:Int)=AF at za hH hSI;generalize itoaB q.within=I at kfi zi hH;have hS5:=Hd hW5.sq;obtain⟨z0,z1,z2,z3,z4,z5,z6⟩:=cc.out w5 hW5.sq;have zz5:=z5;rw[hw5]at zz5;replace hW5:=Hd hW5;replace hb5:=Hd hb5;replace hz:=Hd hz;replace kfi:=Hd kfi;replace hH:=Hd hH;replace hK:=Hd hK;replace hSI:=Hd hSI;replace hmn:=Hd hmn;replace han:=Hd han;replace hmd:=Hd trivial;clear hJ ks1 kp1 ku1 khx hS hPI;replace hw5:=Hd hw5;replace hg:=Hd hg;go_upto_region 24 with fail
 rw[←hw5.out];rw[←hg.out];clear hw5 hg zz5 y0 y1 y2 y3 y4 y5 y6 hlt hj g1;go_cut [115] (fun v W=>v=.bool (decide (q.by_=emp))∧W=w5)
 case first=>
  go_wp2;go_meet;exact⟨by rw[emp_b],rfl⟩
 case rest=>
 obtain⟨rfl,hwc⟩:=hcut;obtain rfl:=hwc.symm;clear hwc;rename_i K2 hK2;refine hK2 _ _ ?_;clear hK2 K2;go_cut [18] (fun v W=>v=.string K∧W=w5)
 case first=>
  by_cases h:q.by_=emp
  ·have hd:=hK.out;rw[if_pos h]at hd;have h3:=zW h;replace h:=Hd h;generalize decide (q.by_=emp)=bb at h3;subst h3;go_wp2;go_meet;exact⟨by rw[hd];rfl,rfl⟩
  ·have hd:=hK.out;rw[if_neg h]at hd;have h3:=zV h;replace h:=Hd h;generalize decide (q.by_=emp)=bb at h3;subst h3;go_wp2;go_meet;exact⟨by rw[hd],rfl⟩
 case rest=>
 obtain⟨rfl,hwc⟩:=hcut;obtain rfl:=hwc.symm;clear hwc z0 z1 z2 z3 z4 z5 z6;go_upto_region 26 with fail
 go_cut [17] (fun v W=>v=.func (.func 42) #[.pointer (some ⟨g,0,none⟩)] #[]∧∃v6,PW l A c q ⟨A1,c1,A2,c2,A3,c3⟩ w m g H V (lvS 2) v6 (L2 q 0) W)
 case first=>
  as_aux_lemma=>
   obtain⟨T8,hT8⟩:∃T,T=(⟨#[109,111,100,101,32]⟩++M++⟨#[32,97,102,116,101,114,32]⟩++AF:ByteArray):=⟨_,rfl⟩
   obtain⟨HD,hHD⟩:∃T,T=(T8++⟨#[32,119,105,110,100,111,119,32]⟩++I++⟨#[32,107,101,121,32]⟩++K:ByteArray):=⟨_,rfl⟩
   have q1:(⟨#[109,111,100,101,32]⟩:ByteArray).size=5:=rfl;have q2:(⟨#[32,97,102,116,101,114,32]⟩:ByteArray).size=7:=rfl;have q3:(⟨#[32,119,105,110,100,111,119,32]⟩:ByteArray).size=8:=rfl;have q4:(⟨#[32,107,101,121,32]⟩:ByteArray).size=5:=rfl;have hT8z:T8.size≤100:=by rw[hT8];simp only[ByteArray.size_append,q1,q2];omega
   have hHDe:=Hd (show HD=headL q by rw[hHD,hT8,hH.out]);replace hT8:=Hd hT8;replace hHD:=Hd hHD;have hi2:(0:Int)≤(mn:Int):=oQ;have hi3:(mn:Int)<3:=oQ;have hi4:(0:Int)≤(an:Int):=oQ;have hi5:(an:Int)<4:=oQ;have hSS:=xW (hSI.out w5.drew (hS5.out.stay (bR).drew)) trivial;refine G_region (p:=100) (S0:=fun W=>W.cell? ⟨w.heap.size+1,1,none⟩=some (.int .i64 (mn:Int))∧W.cell? ⟨w.heap.size+1,2,none⟩=some (.int .i64 (an:Int))∧W.cell? ⟨w.heap.size+1,4,none⟩=some (.int .i64 q.within)∧W.cell? ⟨0,mn,none⟩=some (.string M)∧W.cell? ⟨1,an,none⟩=some (.string AF)) (S1:=fun _=>True) kQ ?_;refine' TkB 0 rfl hSS ?_;try go_simp
   refine' TkB 1 rfl hSS ?_;try go_simp
   refine' TkB 2 rfl hSS ?_;try go_simp
   refine' TkB 3 rfl hSS ?_;try go_simp
   refine' TkB 4 rfl hSS ?_;try go_simp
   refine' TkB 7 rfl hSS ?_;try go_simp
   refine' TkB 8 rfl hSS ?_;try go_simp
   refine' TkB 9 rfl hSS ?_;try go_simp
   refine' TkB 10 rfl hSS ?_;try go_simp
   refine' TkB 13 rfl hSS ?_;try go_simp
   refine' TkB 14 rfl hSS ?_;try go_simp
   refine' TkB 18 rfl hSS ?_;try go_simp
   refine G_some (m:=1) [(5,121),(6,122),(11,127),(12,128),(15,131),(16,132),(17,133),(19,135)] (fun k=>match k with |5=>.string (⟨#[109,111,100,101,32]⟩++M)|6=>.string (⟨#[109,111,100,101,32]⟩++M++⟨#[32,97,102,116,101,114,32]⟩)|11=>.string T8 |12=>.string (T8++⟨#[32,119,105,110,100,111,119,32]⟩)|15=>.string I |16=>.string (T8++⟨#[32,119,105,110,100,111,119,32]⟩++I)|17=>.string (T8++⟨#[32,119,105,110,100,111,119,32]⟩++I++⟨#[32,107,101,121,32]⟩)|19=>.string HD |_=>undef) (fun W=>Bw w5 W) kQ kQ kQ (fun W h=>⟨hSI.out W (hS5.out.stay h),trivial⟩) ((bR).drew) ?Hd ?Ed
   case Hd=>
    intro p hp;simp only[List.mem_cons,List.not_mem_nil,or_false]at hp;rcases hp with rfl |rfl |rfl |rfl |rfl |rfl |rfl |rfl
    ·(intro o ho b W hW hag hT K hK;obtain rfl:_=o:=zq9 ho;exact⟨by rfl,op_cat _ (.tmp 120) _ _ rfl rfl (hag 120 dQ) (by simp only[ByteArray.size_append,q1,q2,q3,q4];omega) (rfl) (hK.out _ hW)⟩)
    ·(intro o ho b W hW hag hT K hK;obtain rfl:_=o:=zq9 ho;exact⟨by rfl,op_cat (.tmp 121) _ _ _ rfl (hT (5,121) dQ kQ) rfl (by simp only[ByteArray.size_append,q1,q2,q3,q4];omega) (rfl) (hK.out _ hW)⟩)
    ·(intro o ho b W hW hag hT K hK;obtain rfl:_=o:=zq9 ho;exact⟨by rfl,op_cat (.tmp 122) (.tmp 126) _ _ rfl (hT (6,122) dQ kQ) (hag 126 dQ) (by simp only[ByteArray.size_append,q1,q2,q3,q4];omega) (hT8.out.symm) (hK.out _ hW)⟩)
    ·(intro o ho b W hW hag hT K hK;obtain rfl:_=o:=zq9 ho;exact⟨by rfl,op_cat (.tmp 127) _ _ _ rfl (hT (11,127) dQ kQ) rfl (by simp only[ByteArray.size_append,q1,q2,q3,q4];omega) (rfl) (hK.out _ hW)⟩)
    ·(intro o ho b W hW hag hT K hK;obtain rfl:_=o:=zq9 ho;exact⟨by rfl,op_c [(130,.int .i64 q.within)] 32 #[.int .i64 q.within,.int .i64 10] (fun p hp=>by simp only[List.mem_cons,List.not_mem_nil,or_false]at hp;rcases hp with rfl;exact hag 130 dQ) kQ (kfi.out W (hb5.out.trans (hW.mono hb5.out.size))) (fun e w' h=>by obtain⟨rfl,hX⟩:=h;exact⟨_,rfl,hK.out _ (hW.trans (hX.mono hW.size))⟩)⟩)
    ·(intro o ho b W hW hag hT K hK;obtain rfl:_=o:=zq9 ho;exact⟨by rfl,op_cat (.tmp 128) (.tmp 131) _ _ rfl (hT (12,128) dQ kQ) (hT (15,131) dQ kQ) (by simp only[ByteArray.size_append,q1,q2,q3,q4];omega) (rfl) (hK.out _ hW)⟩)
    ·(intro o ho b W hW hag hT K hK;obtain rfl:_=o:=zq9 ho;exact⟨by rfl,op_cat (.tmp 132) _ _ _ rfl (hT (16,132) dQ kQ) rfl (by simp only[ByteArray.size_append,q1,q2,q3,q4];omega) (rfl) (hK.out _ hW)⟩)
    ·(intro o ho b W hW hag hT K hK;obtain rfl:_=o:=zq9 ho;exact⟨by rfl,op_cat (.tmp 133) (.tmp 134) _ _ rfl (hT (17,133) dQ kQ) (hag 134 dQ) (by simp only[ByteArray.size_append,q1,q2,q3,q4];omega) (hHD.out.symm) (hK.out _ hW)⟩)
   case Ed=>
   intro W hW;have hPW:=hW5.out.stay hW;have ka:=Hd (eadd_k w.heap.size g (.slice none 0 0) [] HD W hPW.ew sJ);replace hPW:=Hd hPW;simp only[upP,putP,List.foldl];clear hSS;try go_simp
   refine G_step (k:=20) kQ rfl (fun K' hK'=>?_);go_simp;go_at_call 42;refine ka.out.mono ?_;rintro e W6 ⟨rfl,v6,he6,⟨hb6,_⟩,hf6⟩;have hW6:=hPW.out.add he6 hf6;have hL0:L2 q 0=[]++[HD]:=by
    rw[hHDe.out];unfold L2;rw[List.take_zero];rfl
   rw[←hL0]at hW6;have hS6:=hSI.out _ hW6.sq;have hW6H:=Hd hW6;clear hW6 he6 hb6 hf6 hL0 ka hPW;try go_simp
   refine hK'.out _ _ ⟨hS6,fun _=>trivial⟩ ?_;clear hK' K' hS6;refine Gd _ ?_;go_wp2;go_meet;exact⟨rfl,v6,hW6H.out⟩
 case rest=>
 obtain⟨rfl,v6,hW6⟩:=hcut;clear kfi zm za zi zk hH hK hSI hW5 hb5 hS5;obtain⟨y0,y1,y2,y3,y4,y5,y6⟩:=cc.out _ hW6.sq;have hW6H:=Hd hW6;clear hW6;have hRl:(rowsQ q).length≤1048576:=by unfold rowsQ;rw[xC];exact hrl'
 have hTl:=fun t=>zU (slR_len (rowsQ q) t) hRl
 have hRz:=row_size hok.out hs hmw;have hTz:∀t,∀x∈slR (rowsQ q) t,x.size≤1048576:=fun t x hx=>by
  unfold slR selR at hx;obtain⟨r,hr,rfl⟩:=List.mem_map.1 hx;have:=hRz r (List.mem_filter.1 hr).1;omega
 have ksd:=fun(t:Nat)(v:Value)(L:List ByteArray)(h:ByteArray)(lv:Nat→Prop) W (hW:PW l A c q ⟨A1,c1,A2,c2,A3,c3⟩ w m g H V lv v L W)(ht:t<2*(q.items.length+1))(hl:lv t)(hL:L.length≤33554432)(hh:h.size≤1048576)=>sorted_k w.heap.size g v (V t) L (slR (rowsQ q) t) h W hW.ew (hW.pi.ol t ht hl) (hW.sp t ht hl) hL (hTl t) (hTz t) hh
 have hlk:∀(i:Int)(k:Nat),i=(k:Int) -1→k<q.items.length+1→∀W,MapP W m (q.items.length+1) (hfN (q.items.length+1) H)→(Instr.lookup 76 (.map (some m)) (.int .i64 i) false).run Tryz.prog W=.ok (.pointer (some ⟨H k,0,none⟩)) W:=fun i k hi hk W h=>by
  subst hi;exact h.look (by rw[hfN_at oQ oQ,show((k:Int) -1+1).toNat=k by omega]) oQ oQ
 have ki:∀(n:Int) W,Bw w W→ -9223372036854775808≤n→n≤9223372036854775807→Calls Tryz.prog 33 #[.int .i64 n] W (StP (itoaB n) W):=fun n W h h1 h2=>by
  refine(Tryz.strconv_Itoa n h1 h2 W (hT.stay h).pw).mono ?_;rintro e w' ⟨rfl,k,os,rfl⟩;exact⟨rfl,below_grown W k os⟩
 replace hTl:=Hd hTl;replace hTz:=Hd hTz;replace hRz:=Hd hRz;replace ksd:=Hd ksd;replace hlk:=Hd hlk;replace ki:=Hd ki;go_wp2;go_loopw [19,20,140] (fun cm ng i wr=>PR2 l A c q ⟨A1,c1,A2,c2,A3,c3⟩ w m g H V cm ng i wr) (fun _ _ i _=>q.items.length- (intOf i).toNat)
 case atStart=>exact⟨0,v6,zE _,rfl,rfl,rfl,hW6H.out⟩
 case round=>
 clear hW6H y0 y1 y2 y3 y4 y5 y6;obtain⟨j,v,hj,rfl,rfl,rfl,hI⟩:=hrel;obtain⟨y0,y1,y2,y3,y4,y5,y6⟩:=cc.out _ hI.sq;by_cases hlt:j<q.items.length
 ·obtain⟨x,hx⟩:=getx hlt;obtain⟨gi,off,At,ct,rfl,hFi,hrt,a0,a1,a2,a3,a4⟩:=it_at ((R.under hI.sq.hb).r1) hx;have g0:(0:Int)≤(j:Int):=oQ;have g1:(j:Int)<q.items.length:=oQ;have hB1:Bw wr (wr.alloc (.cells ⟨itV x (.slice At x.tys.length ct)⟩ 53)):=bA;have hI1:=hI.stay hB1;have hbi:Blk (wr.alloc (.cells ⟨itV x (.slice At x.tys.length ct)⟩ 53)) wr.heap.size 53 (itV x (.slice At x.tys.length ct)):=Blk.new _ _ _;obtain⟨ng,tys,vv,lo,hi⟩:=x;simp only[itV]at hB1 hI1 hbi;simp only at hrt a0 a1 a2 a3 a4;obtain⟨W0',hW0'⟩:∃W0',W0'=wr.alloc (.cells ⟨[.bool ng,.slice At tys.length ct,.string vv,.int .i64 lo,.int .i64 hi]⟩ 53):=⟨_,rfl⟩
  rw[←hW0']at hB1 hI1 hbi;have hrl2:=(R.under hI.sq.hb).lt;clear hI;go_upto_region 31 with fail
  rw[←hW0'];have hxm:=zA hx;have hnt:=hok.out.nt _ hxm;have htz:=tysT_size (hok.out.ty _ hxm);have htl:tys.length≤1048576:=(hs.it _ hxm).1.1;have hcn1:=cmpN_next hx;have hnn1:=ngN_next hx;have hng:=cmp_ng q j oQ;have hjz:(tysT ⟨ng,tys,vv,lo,hi⟩).size≤17825792:=by simp only at htz;omega
  have hndx:=hnd.out _ hxm;simp only at hndx hnt hcn1 hnn1;have hjs:szS (srt tys)≤140737488355328:=by
   have h1:=szS_le (l:=srt tys) (b:=16) (fun y hy=>hok.out.ty _ hxm y (mem_srt.1 hy));have h2:=srt_len tys;omega
  have hsl:(srt tys).length=tys.length:=by rw[←ms_srt hndx,msB_len]
  have kc:=Hd (cloneSt_k At ct F tys htl W0' (hrt.under hB1 hrl2));have hLL:=L2_len (q:=q) j oQ hin hRl;have hnx:=L2_next hx;obtain⟨gI,hgI⟩:∃gI,gI=wr.heap.size:=⟨_,rfl⟩
  rw[←hgI]at hbi ⊢;have b1:=hbi.cell 1;simp only[zY,xA]at b1;have hI1':=Hd hI1;replace hbi:=Hd hbi;replace hnx:=Hd hnx;replace hx:=Hd hx;replace hxm:=Hd hxm;have ks:=fun(v:Value) W (hB:W0'.heap.size≤W.heap.size) hO=>sort_k W0'.heap.size v tys W hB htl hO
  rw[ms_srt hndx]at ks;have kj:=fun(v:Value) W hO=>(show Calls Tryz.prog 23 #[v,.string ⟨#[124]⟩] W (StP (tysT ⟨ng,tys,vv,lo,hi⟩) W)from join_s W0'.heap.size v (srt tys) barB W rfl hO oQ hjs)
  rw[hsl]at kj;replace ks:=Hd ks;replace kj:=Hd kj;replace hndx:=Hd hndx;replace hW0':=Hd hW0';clear hI1 hB1 hgI y0 y1 y2 y3 y4 y5 y6 a0 a1 a2 a3 a4 htz hrt hrl2 hjs;go_upto_region 32 with(go_at_call 43;refine kc.out.mono ?_;rintro e W1 ⟨vt,rfl,hOt,hX1⟩)
  obtain⟨A9,c9,rfl⟩:=hOt.form;have ks1:=Hd (ks.out (.slice A9 tys.length c9) W1 hX1.size hOt);have hOt1:=Hd hOt.lt;replace hX1:=Hd hX1;clear hOt kc b1;go_upto_region 33 with(go_at_call 44;refine ks1.out.mono ?_;rintro e W2 ⟨rfl,hO2,hg2⟩)
  have hX2:=Hd (hX1.out.grown hg2 hX1.out.size (fun k hk=>(hOt1.out k hk).1));rw[hsl]at hO2;have kj1:=Hd (kj.out (.slice A9 tys.length c9) W2 hO2);clear hO2 hg2 ks1 ks kj hOt1 hX1;have hbi2:=hbi.out.stay hX2.out;have b0:=hbi2.cell 0;simp only[zY]at b0;replace hbi2:=Hd hbi2;go_upto_region 34 with(go_at_call 23;refine kj1.out.mono ?_;rintro e W3 ⟨rfl,hX3⟩)
  have hX:=hX2.out.trans (hX3.mono hX2.out.size);have hI3:=hI1'.out.stay hX;replace hbi:=hbi.out.stay hX;clear b0;have b0:=hbi.cell 0;simp only[zY]at b0;have kI:∀(n:Int),-9223372036854775808≤n→n≤9223372036854775807→∀W,Bw W3 W→Calls Tryz.prog 33 #[.int .i64 n] W (StP (itoaB n) W):=fun n h1 h2 W hW=>ki.out n W (hI3.sq.hb.trans (hW.mono hI3.sq.hb.size)) h1 h2
  replace kI:=Hd kI;replace hI3:=Hd hI3;replace hbi:=Hd hbi;clear hX hX3 hX2 hI1' hW0' kj1 hbi2;go_cut [153] (fun v W=>v=.bool ng∧W=W3)
  case first=>
   go_wp2;go_meet;exact⟨rfl,rfl⟩
  case rest=>
  obtain⟨rfl,hwc⟩:=hcut;obtain rfl:=hwc.symm;clear hwc b0;rename_i K2 hK2;refine hK2 _ _ ?_;clear hK2 K2;obtain⟨LN,hLN⟩:∃LN,LN=itemL q j ⟨ng,tys,vv,lo,hi⟩:=⟨_,rfl⟩
  rw[←hLN]at hnx;go_cut [19,20] (fun cm nn W=>cm=.int .i64 (cmpN q (j+1))∧nn=.int .i64 (ngN q (j+1))∧∃v',PW l A c q ⟨some ⟨gi,off,none⟩,c1,A2,c2,A3,c3⟩ w m g H V (lvS (2*(j+1))) v' (L2 q j++[LN]) W)
  case first=>
   have hw2:IntKind.i64.wrap ((cmpN q j:Int)+1)=((cmpN q j+1:Nat):Int):=by rw[xI]<;>omega
   have hw1:IntKind.i64.wrap ((ngN q j:Int)+1)=((ngN q j+1:Nat):Int):=by rw[xI]<;>omega
   have q1:(⟨#[110,101,103,97,116,101,100,32]⟩:ByteArray).size=8:=rfl;have q2:(⟨#[32]⟩:ByteArray).size=1:=rfl;have q3:(⟨#[99,111,109,112,111,110,101,110,116,32]⟩:ByteArray).size=10:=rfl;have kad:=fun W (h:PW l A c q ⟨some ⟨gi,off,none⟩,c1,A2,c2,A3,c3⟩ w m g H V (lvS (2*(j+1))) v (L2 q j) W)=>eadd_k w.heap.size g v (L2 q j) LN W h.ew oQ
   replace kad:=Hd kad;cases ng with
   |true=>
    as_aux_lemma=>
     have hcn:cmpN q (j+1)=cmpN q j:=(by rw[hcn1];rfl);have hnn:ngN q (j+1)=ngN q j+1:=by rw[hnn1];rfl
     have zI:=itoaB_size (ngN q j:Nat) oQ oQ;have hLN2:⟨#[110,101,103,97,116,101,100,32]⟩++itoaB (ngN q j:Nat)++⟨#[32]⟩++tysT ⟨true,tys,vv,lo,hi⟩=LN:=hLN.symm;rw[←hLN2]at kad;have kI1:=Hd (kI.out (ngN q j:Nat) oQ oQ _ bR);generalize itoaB (ngN q j:Nat)=I at*;generalize tysT ⟨true,tys,vv,lo,hi⟩=T at*;replace hLN:=Hd hLN;replace hLN2:=Hd hLN2;replace hcn1:=Hd hcn1;replace hnn1:=Hd hnn1;replace hcn:=Hd hcn;replace hnn:=Hd hnn;have s1:(⟨#[110,101,103,97,116,101,100,32]⟩:ByteArray).size+I.size≤9223372036854775807:=by rw[q1];omega
     have s2:(⟨#[110,101,103,97,116,101,100,32]⟩++I:ByteArray).size+(⟨#[32]⟩:ByteArray).size≤9223372036854775807:=(by rw[ByteArray.size_append,q1,q2];omega);have s3:(⟨#[110,101,103,97,116,101,100,32]⟩++I++⟨#[32]⟩:ByteArray).size+T.size≤9223372036854775807:=by rw[ByteArray.size_append,ByteArray.size_append,q1,q2];omega
     clear q1 q2 q3;go_upto_region 36 with(first
      |(go_at_call 33;refine kI1.out.mono ?_;rintro e W4 ⟨rfl,hX4⟩;have hI4:=hI3.out.stay hX4;have ka:=Hd (kad.out W4 hI4);replace hI4:=Hd hI4;clear hX4)
      |(go_at_call 42;refine ka.out.mono ?_;rintro e W5 ⟨rfl,v5,he5,⟨hb5,_⟩,hf5⟩;have hI5:=hI4.out.add he5 hf5;rw[hLN2.out]at hI5;replace hI5:=Hd hI5;clear he5 hb5 hf5))
     go_wp2;go_meet;exact⟨by rw[hcn.out],by rw[hnn.out];rfl,v5,hI5.out⟩
   |false=>
    as_aux_lemma=>
     have hcn:cmpN q (j+1)=cmpN q j+1:=(by rw[hcn1];rfl);have hnn:ngN q (j+1)=ngN q j:=by rw[hnn1];rfl
     have zI:=itoaB_size (cmpN q j:Nat) oQ oQ;have zL:=itoaB_size lo oQ oQ;have zH:=itoaB_size hi oQ oQ;obtain⟨T2,hT2⟩:∃T2,T2=⟨#[99,111,109,112,111,110,101,110,116,32]⟩++itoaB (cmpN q j:Nat)++⟨#[32]⟩++tysT ⟨false,tys,vv,lo,hi⟩:=⟨_,rfl⟩
     have hLN2:T2++⟨#[32]⟩++itoaB lo++⟨#[32]⟩++itoaB hi=LN:=(by rw[hT2];exact hLN.symm);have zT2:T2.size≤17825900:=by rw[hT2];simp only[ByteArray.size_append,q2,q3];omega
     replace hT2:=Hd hT2.symm;have kIL:=Hd (kI.out lo oQ oQ);have kIH:=Hd (kI.out hi oQ oQ);replace kI:=Hd (kI.out (cmpN q j:Nat) oQ oQ);generalize itoaB (cmpN q j:Nat)=I at*;generalize itoaB lo=IL at*;generalize itoaB hi=IH at*;generalize tysT ⟨false,tys,vv,lo,hi⟩=T at*;replace hLN:=Hd hLN;replace hLN2:=Hd hLN2;replace hcn1:=Hd hcn1;replace hnn1:=Hd hnn1;replace hcn:=Hd hcn;replace hnn:=Hd hnn;have hSI:=Hd (fun W (h:Blk W gI 53 [.bool false,.slice At tys.length ct,.string vv,.int .i64 lo,.int .i64 hi])=>(show W.cell? ⟨gI,3,none⟩=some (.int .i64 lo)∧W.cell? ⟨gI,4,none⟩=some (.int .i64 hi)from⟨h.cell 3,h.cell 4⟩));have hSS:=xW (hSI.out W3.drew (hbi.out.stay (bR).drew)) trivial;go_upto_region 37 with fail
     refine G_region (p:=100) (S0:=fun W=>W.cell? ⟨gI,3,none⟩=some (.int .i64 lo)∧W.cell? ⟨gI,4,none⟩=some (.int .i64 hi)) (S1:=fun _=>True) kQ ?_;refine' TkB 0 rfl hSS ?_;try go_simp
     refine' TkB 1 rfl hSS ?_;try go_simp
     refine' TkB 5 rfl hSS ?_;try go_simp
     refine' TkB 8 rfl hSS ?_;try go_simp
     refine' TkB 9 rfl hSS ?_;try go_simp
     refine' TkB 13 rfl hSS ?_;try go_simp
     refine' TkB 14 rfl hSS ?_;try go_simp
     refine G_some (m:=1) [(2,166),(3,167),(4,168),(6,170),(7,171),(10,174),(11,175),(12,176),(15,179),(16,180)] (fun k=>match k with |2=>.string I |3=>.string (⟨#[99,111,109,112,111,110,101,110,116,32]⟩++I)|4=>.string (⟨#[99,111,109,112,111,110,101,110,116,32]⟩++I++⟨#[32]⟩)|6=>.string T2 |7=>.string (T2++⟨#[32]⟩)|10=>.string IL |11=>.string (T2++⟨#[32]⟩++IL)|12=>.string (T2++⟨#[32]⟩++IL++⟨#[32]⟩)|15=>.string IH |16=>.string LN |_=>undef) (fun W=>Bw W3 W) kQ kQ kQ (fun W h=>⟨hSI.out W (hbi.out.stay h),trivial⟩) (bR).drew ?He ?Ee
     case He=>
      intro p hp;simp only[List.mem_cons,List.not_mem_nil,or_false]at hp;rcases hp with rfl |rfl |rfl |rfl |rfl |rfl |rfl |rfl |rfl |rfl
      ·(intro o ho b W hW hag hT K hK;obtain rfl:_=o:=zq9 ho;exact⟨by rfl,op_c [(165,.int .i64 (cmpN q j:Nat))] 33 #[.int .i64 (cmpN q j:Nat)] (fun p hp=>by simp only[List.mem_cons,List.not_mem_nil,or_false]at hp;rcases hp with rfl;exact hag 165 dQ) kQ (kI.out W hW) (fun e w' h=>by obtain⟨rfl,hX⟩:=h;exact⟨_,rfl,hK.out _ (hW.trans (hX.mono hW.size))⟩)⟩)
      ·(intro o ho b W hW hag hT K hK;obtain rfl:_=o:=zq9 ho;exact⟨by rfl,op_cat _ (.tmp 166) _ _ rfl rfl (hT (2,166) dQ kQ) (by simp only[ByteArray.size_append,q1,q2,q3];omega) (rfl) (hK.out _ hW)⟩)
      ·(intro o ho b W hW hag hT K hK;obtain rfl:_=o:=zq9 ho;exact⟨by rfl,op_cat (.tmp 167) _ _ _ rfl (hT (3,167) dQ kQ) rfl (by simp only[ByteArray.size_append,q1,q2,q3];omega) (rfl) (hK.out _ hW)⟩)
      ·(intro o ho b W hW hag hT K hK;obtain rfl:_=o:=zq9 ho;exact⟨by rfl,op_cat (.tmp 168) (.tmp 169) _ _ rfl (hT (4,168) dQ kQ) (hag 169 dQ) (by simp only[ByteArray.size_append,q1,q2,q3];omega) (hT2.out) (hK.out _ hW)⟩)
      ·(intro o ho b W hW hag hT K hK;obtain rfl:_=o:=zq9 ho;exact⟨by rfl,op_cat (.tmp 170) _ _ _ rfl (hT (6,170) dQ kQ) rfl (by simp only[ByteArray.size_append,q1,q2,q3];omega) (rfl) (hK.out _ hW)⟩)
      ·(intro o ho b W hW hag hT K hK;obtain rfl:_=o:=zq9 ho;exact⟨by rfl,op_c [(173,.int .i64 lo)] 33 #[.int .i64 lo] (fun p hp=>by simp only[List.mem_cons,List.not_mem_nil,or_false]at hp;rcases hp with rfl;exact hag 173 dQ) kQ (kIL.out W hW) (fun e w' h=>by obtain⟨rfl,hX⟩:=h;exact⟨_,rfl,hK.out _ (hW.trans (hX.mono hW.size))⟩)⟩)
      ·(intro o ho b W hW hag hT K hK;obtain rfl:_=o:=zq9 ho;exact⟨by rfl,op_cat (.tmp 171) (.tmp 174) _ _ rfl (hT (7,171) dQ kQ) (hT (10,174) dQ kQ) (by simp only[ByteArray.size_append,q1,q2,q3];omega) (rfl) (hK.out _ hW)⟩)
      ·(intro o ho b W hW hag hT K hK;obtain rfl:_=o:=zq9 ho;exact⟨by rfl,op_cat (.tmp 175) _ _ _ rfl (hT (11,175) dQ kQ) rfl (by simp only[ByteArray.size_append,q1,q2,q3];omega) (rfl) (hK.out _ hW)⟩)
      ·(intro o ho b W hW hag hT K hK;obtain rfl:_=o:=zq9 ho;exact⟨by rfl,op_c [(178,.int .i64 hi)] 33 #[.int .i64 hi] (fun p hp=>by simp only[List.mem_cons,List.not_mem_nil,or_false]at hp;rcases hp with rfl;exact hag 178 dQ) kQ (kIH.out W hW) (fun e w' h=>by obtain⟨rfl,hX⟩:=h;exact⟨_,rfl,hK.out _ (hW.trans (hX.mono hW.size))⟩)⟩)
      ·(intro o ho b W hW hag hT K hK;obtain rfl:_=o:=zq9 ho;exact⟨by rfl,op_cat (.tmp 176) (.tmp 179) _ _ rfl (hT (12,176) dQ kQ) (hT (15,179) dQ kQ) (by simp only[ByteArray.size_append,q1,q2,q3];omega) (hLN2.out) (hK.out _ hW)⟩)
     case Ee=>
     intro W hW;have hPW:=hI3.out.stay hW;have ka:=Hd (kad.out W hPW);have hbW:=hbi.out.stay hW;simp only[upP,putP,List.foldl];clear hSS;try go_simp
     refine G_step (k:=17) kQ rfl (fun K' hK'=>?_);go_simp;go_at_call 42;refine ka.out.mono ?_;rintro e W6 ⟨rfl,v6,he6,⟨hb6,_⟩,hf6⟩;have hPW6:=hPW.add he6 hf6;have hb61:=hPW.ew.ol.neBlk hbW dQ;have hbW6:Blk W6 gI 53 [.bool false,.slice At tys.length ct,.string vv,.int .i64 lo,.int .i64 hi]:=by
      have h1:=hf6.2.2.1 gI hbW.lt (blk_ne hbW hPW.ew.bx dQ) (fun e=>hb61 e.symm);exact h1.trans hbW
     have hS6:=hSI.out W6 hbW6;replace hPW6:=Hd hPW6;clear hPW ka he6 hb6 hf6 hbW hbW6 hb61;try go_simp
     refine hK'.out _ _ ⟨hS6,fun _=>trivial⟩ ?_;clear hK' K' hS6;refine Gd _ ?_;go_wp2;go_meet;exact⟨by rw[hcn.out];rfl,by rw[hnn.out],v6,hPW6.out⟩
  case rest=>
  obtain⟨rfl,rfl,v4,hI4⟩:=hcut;clear hI3 hbi kI hnt hcn1 hnn1 hng hjz hLN hndx htl hsl;have hjn:j+1<q.items.length+1:=oQ;have e1:slR (rowsQ q) (2*(j+1))=selR (rowsQ q) (j:Int) true:=by
   unfold slR slI slO;rw[show 2*(j+1) / 2=j+1 by omega,show 2*(j+1) % 2=0 by omega,show((j+1:Nat):Int) -1=j by omega];rfl
  have e2:slR (rowsQ q) (2*(j+1)+1)=selR (rowsQ q) (j:Int) false:=by
   unfold slR slI slO;rw[show(2*(j+1)+1) / 2=j+1 by omega,show(2*(j+1)+1) % 2=1 by omega,show((j+1:Nat):Int) -1=j by omega];rfl
  have hll:=fun(L:List ByteArray)(h:L.length≤1+2097153*j+1+1048576)=>(show L.length≤33554432 by omega)
  have hl1:=lay_len (rowsQ q) j true ownB;have hlk1:=hlk.out (j:Int) (j+1) oQ hjn;have sd1:=ksd.out (2*(j+1)) v4 _ ⟨#[32,32,111,119,110,32]⟩ _ wc hI4 oQ (.inr nR) (by simp only[zH,List.length_singleton];omega) dQ;have hbk:=hI4.pi.bk (j+1) hjn;obtain⟨AV,cV,hV⟩:=(hI4.pi.ol (2*(j+1)) oQ (.inr nR)).form;have z0:=hbk.cell 0;simp only[zY]at z0;rw[hV]at z0 sd1;have lk0:=hlk1 wc hI4.pi.mp;have hlay1:=fun W5 v5 he hb ho hf=>hI4.lay (W':=W5) (v':=v5) (B:=w.heap.size) (lv':=lvS (2*(j+1)+1)) (t:=2*(j+1)) (L':=L2 q j++[LN]++(srt (slR (rowsQ q) (2*(j+1)))).map ((⟨#[32,32,111,119,110,32]⟩:ByteArray)++ ·)) oQ (.inr nR) (by unfold lvS;omega) (fun t ht=>by unfold lvS at ht ⊢;omega) he hb ho hf
  rw[hV]at hlay1;obtain⟨N1,hN1⟩:∃N,N=(slR (rowsQ q) (2*(j+1))).length:=⟨_,rfl⟩
  rw[←hN1]at z0 sd1 hlay1;rw[e1]at sd1 hlay1;replace hN1:=Hd hN1;replace hlay1:=Hd hlay1;replace sd1:=Hd sd1;replace hlk1:=Hd hlk1;replace hI4:=Hd hI4;replace hV:=Hd hV;clear hbk;go_upto_region 40 with(go_at_call 45;refine sd1.out.mono ?_;rintro e W5 ⟨rfl,v5,he5,hb5,ho5,hf5⟩)
  have hI5:=hlay1.out W5 v5 he5 hb5 ho5 hf5;clear he5 hb5 ho5 hf5 lk0 z0 hlay1 sd1 hI4 hV;have sd2:=ksd.out (2*(j+1)+1) v5 _ ⟨#[32,32,97,115,107,115,32]⟩ _ W5 hI5 oQ (.inr nR) (by
   have:((srt (selR (rowsQ q) (j:Int) true)).map ((⟨#[32,32,111,119,110,32]⟩:ByteArray)++ ·)).length≤1048576:=zU hl1 hRl;simp only[zH,List.length_singleton];omega) dQ
  have hbk:=hI5.pi.bk (j+1) hjn;obtain⟨AU,cU,hV⟩:=(hI5.pi.ol (2*(j+1)+1) oQ (.inr nR)).form;have z1:=hbk.cell 1;simp only[zY,xA]at z1;rw[hV]at z1 sd2;have lk1:=hlk1.out W5 hI5.pi.mp;have hlay2:=fun W6 v6 he hb ho hf=>hI5.lay (W':=W6) (v':=v6) (B:=w.heap.size) (lv':=lvS (2*(j+1+1))) (t:=2*(j+1)+1) (L':=L2 q j++[LN]++(srt (selR (rowsQ q) (j:Int) true)).map ((⟨#[32,32,111,119,110,32]⟩:ByteArray)++ ·)++(srt (slR (rowsQ q) (2*(j+1)+1))).map ((⟨#[32,32,97,115,107,115,32]⟩:ByteArray)++ ·)) oQ (.inr nR) (by unfold lvS;omega) (fun t ht=>by unfold lvS at ht ⊢;omega) he hb ho hf
  rw[hV]at hlay2;obtain⟨N2,hN2⟩:∃N,N=(slR (rowsQ q) (2*(j+1)+1)).length:=⟨_,rfl⟩
  rw[←hN2]at z1 sd2 hlay2;rw[e2]at sd2 hlay2;replace hN2:=Hd hN2;replace hlay2:=Hd hlay2;replace sd2:=Hd sd2;replace hI5:=Hd hI5;replace hV:=Hd hV;clear hbk e1 e2 hlk1;have hfin:=fun W6 v6 he6 hb6 ho6 hf6=>(show PW l A c q ⟨some ⟨gi,off,none⟩,c1,A2,c2,A3,c3⟩ w m g H V (lvS (2*(j+1+1))) v6 (L2 q (j+1)) W6 from by
   rw[hnx.out];exact hlay2.out W6 v6 he6 hb6 ho6 hf6)
  replace hfin:=Hd hfin;clear hI5 hV hlay2 hnx hll hl1;go_wp2_with (go_at_call 45;refine sd2.out.mono ?_;rintro e W6 ⟨rfl,v6,he6,hb6,ho6,hf6⟩;have hI7:=Hd (hfin.out W6 v6 he6 hb6 ho6 hf6);clear he6 hb6 ho6 hf6 hfin sd2 z1 lk1);go_roundw
  case rel=>exact⟨j+1,v6,oQ,gQ,rfl,rfl,hI7.out⟩
  case measure=>exact mQ
 obtain rfl:j=q.items.length:=oQ;have g1:¬(q.items.length:Int)<q.items.length:=oQ;have hll:=L2_len (q:=q) q.items.length nR hin hRl;have e1:slR (rowsQ q) 1=selR (rowsQ q) (-1) false:=rfl;have sd1:=ksd.out 1 v _ ⟨#[97,108,119,97,121,115,32]⟩ _ _ hI oQ (.inl oQ) oQ dQ;have hbk:=hI.pi.bk 0 oQ;obtain⟨AV,cV,hV⟩:=(hI.pi.ol 1 oQ (.inl oQ)).form;have z1:=hbk.cell 1;simp only[zY,xA,Nat.mul_zero,Nat.zero_add]at z1;rw[hV]at z1 sd1;have lk0:=hlk.out (-1) 0 oQ oQ _ hI.pi.mp;have hlay1:=fun W5 v5 he hb ho hf=>hI.lay (W':=W5) (v':=v5) (B:=w.heap.size) (lv':=fun _=>False) (t:=1) (L':=L2 q q.items.length++(srt (slR (rowsQ q) 1)).map ((⟨#[97,108,119,97,121,115,32]⟩:ByteArray)++ ·)) oQ (.inl oQ) (fun h=>h) (fun t ht=>ht.elim) he hb ho hf
 rw[hV]at hlay1;obtain⟨N1,hN1⟩:∃N,N=(slR (rowsQ q) 1).length:=⟨_,rfl⟩
 rw[←hN1]at z1 sd1 hlay1;rw[e1]at sd1 hlay1;replace hN1:=Hd hN1;have kpr:∀(t:List Nd)(A':Option Addr)(c':Nat) W,t∈q.ret→Bw w W→Rd W F (.slice A' t.length c') (.sl t.length (t.flatMap ndD))→Calls Tryz.prog 39 #[.agg ⟨qV q ⟨A1,c1,A2,c2,A3,c3⟩⟩,.slice A' t.length c'] W (ExP (pln q t) W):=fun t A' c' W ht hW rd=>
  plain_k q ⟨A1,c1,A2,c2,A3,c3⟩ A' c' F F t hs (hs.re t ht) (nd_ok (hok.out.re t ht) (hmr t ht)) (treeB_sp (hok.out.re t ht)).2.2 W (hT.stay hW) (R.under hW) (R.under hW).lt rd
 simp only[qV]at kpr;have hrz:∀t∈q.ret,(exT (pln q t)).size≤26000:=fun t ht=>exT_size (pln_ok (q:=q) hs.il (hs.re t ht) (nd_ok (hok.out.re t ht) (hmr t ht))).2
 replace kpr:=Hd kpr;replace hrz:=Hd hrz;replace hlay1:=Hd hlay1;replace sd1:=Hd sd1;replace hI:=Hd hI;replace hV:=Hd hV;clear hbk e1 ki ksd hlk hlt hj;go_upto_region 43 with(go_at_call 45;refine sd1.out.mono ?_;rintro e W4 ⟨rfl,v4,he4,hb4,ho4,hf4⟩)
 have hI4:PW l A c q ⟨A1,c1,A2,c2,A3,c3⟩ w m g H V (fun _=>False) v4 (L3 q 0) W4:=by
  have:L3 q 0=L2 q q.items.length++layL (rowsQ q) (-1) false alwB:=by unfold L3;rw[List.take_zero];simp
  rw[this];exact hlay1.out W4 v4 he4 hb4 ho4 hf4
 clear he4 hb4 ho4 hf4 lk0 z1 hlay1 sd1 hI hV y0 y1 y2 y3 y4 y5 y6 g1 hll;obtain⟨y0,y1,y2,y3,y4,y5,y6⟩:=cc.out W4 hI4.sq;replace hI4:=Hd hI4;obtain⟨w7,hw7⟩:∃w7:World,w7=wr:=⟨_,rfl⟩
 subst hw7;go_wp2;go_loopw [211] (fun i wr=>PR3 l A c q ⟨A1,c1,A2,c2,A3,c3⟩ w m g H V i wr) (fun i _=>q.ret.length- (intOf i).toNat)
 case atStart=>exact⟨0,v4,zE _,rfl,hI4.out,fun i hi=>by rw[List.take_zero]at hi;cases hi⟩
 case round=>
 clear hI4 y0 y1 y2 y3 y4 y5 y6;obtain⟨k,v,hk,rfl,hI,hzr⟩:=hrel;obtain⟨y0,y1,y2,y3,y4,y5,y6⟩:=cc.out wr hI.sq;have hret8:=hok.out.rl;by_cases hlt:k<q.ret.length
 ·obtain⟨t,ht⟩:=getx hlt;have htm:=zA ht;obtain⟨gr,off,At,ct,rfl,hFr,hrt,a0⟩:=re_at ((R.under hI.sq.hb).r3) ht;have g0:(0:Int)≤(k:Int):=oQ;have g1:(k:Int)<q.ret.length:=oQ;have kp1:=kpr.out t At ct wr htm hI.sq.hb hrt;have hnx:=L3_next ht;have hln:=L3_len (q:=q) k hin oQ hRl;have htz:=hrz.out t htm;have hlr:=fun h=>lin_ret hc.out.symm hz.out ht hzr.out h
  have hz2:tcC q t=0→∀u∈q.ret.take (k+1),tcC q u=0:=fun h u hu=>by
   rw[zJ,ht]at hu;rcases zM.1 hu with h2 |h2
   ·exact hzr.out u h2
   ·rw[Option.toList_some,xB]at h2;rw[h2];exact h
  have htc:tcC q t=exC (pln q t):=rfl;rw[htc]at hlr hz2;have hq1:(⟨#[114,101,115,117,108,116,32]⟩:ByteArray).size+(exT (pln q t)).size≤9223372036854775807:=by show 7+_≤_;omega
  unfold ExP at kp1;generalize exC (pln q t)=ec at hlr hz2 kp1;generalize exT (pln q t)=et at hnx htz hq1 kp1;have hIH:=Hd hI;replace hlr:=Hd hlr;replace hz2:=Hd hz2;replace hnx:=Hd hnx;replace kp1:=Hd kp1;replace ht:=Hd ht;clear hI hrt htc hzr;go_upto_region 47 with(go_at_call 39;refine kp1.out.mono ?_;rintro e W1 ⟨rfl,hX1⟩)
  have hI1:=hIH.out.stay hX1;clear hIH hX1 kp1 y0 y1 y2 y3 y4 y5 y6 a0;by_cases hec:ec=0
  ·have f2:=bneF hec;have hz3:=Hd (hz2.out hec);subst hec;have ka:=Hd (eadd_k w.heap.size g v (L3 q k) (⟨#[114,101,115,117,108,116,32]⟩++et) W1 hI1.ew oQ);replace hI1:=Hd hI1;clear hlr hz2;go_wp2_with (go_at_call 42;refine ka.out.mono ?_;rintro e W2 ⟨rfl,v2,he2,⟨hb2,_⟩,hf2⟩;have hI2:=Hd (hI1.out.add he2 hf2);clear he2 hb2 hf2);go_roundw
   case rel=>exact⟨k+1,v2,oQ,gQ,by rw[hnx.out];exact hI2.out,hz3.out⟩
   case measure=>exact mQ
  ·have f2:=bneT hec;have hfin:=Hd (fun(W:World)(hW:Bw w W)=>LnP.err (w':=W) (hlr.out hec) hec hW);have hbb:=Hd hI1.sq.hb;replace hec:=Hd hec;clear hI1 hz2 hlr;go_wp2;refine bodyPost_ret (results_tmp2 rfl _ _ _) rfl ?_;first|exact hfin.out _ hbb.out |exact hfin.out _ hbb.out.drew |exact hfin.out _ (below_drewN hbb.out _)
 obtain rfl:k=q.ret.length:=oQ;have g1:¬(q.ret.length:Int)<q.ret.length:=oQ;have hlin:=lin_ok hc.out.symm hz.out (by have:=hzr.out;rw[zL]at this;exact this);have zz:=hI.ew.bx.cell 0;simp only[zY]at zz;obtain⟨A5,c5,rfl⟩:=hI.ew.ol.form;have hfin:=Hd (show LnP l q w (.returned (.tuple #[.slice A5 (L3 q q.ret.length).length c5,.int .i64 0])) wr from LnP.ok hlin (by have:=hI.ew.ol;rw[L3_all]at this ⊢;exact this) hI.sq.hb);clear hI hlin;go_wp2;refine bodyPost_ret (results_tmp2 rfl _ _ _) rfl ?_;exact hfin.out
end shW
end Go.Proofs.YthaabihjeomipaaGreatDoor
