/- What a query that passes Check gives to its. -/
import Derived.Test.YthaabihjeomipaaGreatDoorQM7
import Derived.Test.YthaabihjeomipaaGreatDoorQGo
namespace Go.Proofs.YthaabihjeomipaaGreatDoor
set_option maxRecDepth 100000
set_option maxHeartbeats 16000000
open Go.RowKit Go.Deep
set_option linter.unusedVariables false
set_option linter.unusedSimpArgs false
theorem fz_inv {a:List Int}(h:fz a=0):∀c∈a,c=0:=by
 induction a with
 |nil=>intro c hc;cases hc
 |cons x r ih=>
  unfold fz at h;by_cases hx:x=0
  ·rw[if_pos hx]at h;intro c hc;rcases List.mem_cons.1 hc with rfl |hc
   ·exact hx
   ·exact ih h c hc
  ·rw[if_neg hx]at h;exact absurd h hx
theorem mapI_mem {α β:Type}{f:Nat→α→List β}:∀{l:List α}{n i:Nat}{x:α}{b:β},l[i]? =some x→b∈f (n+i) x→b∈mapI f n l
 | [],_,_,_,_,h,_=>by cases h
 |y::r,n,0,x,b,h,hb=>by
  injection h with h;subst h
  exact List.mem_append_left _ hb
 |y::r,n,i+1,x,b,h,hb=>xN _ (mapI_mem (n:=n+1) (i:=i) h (by rw[show n+1+i=n+(i+1) by omega];exact hb))
theorem items_ok {S:List Td}{q:Qy}(h:itemsC S q=0):q.items.length≤10∧∀(i:Nat) x,q.items[i]? =some x→itemC S x=0∧(i:Int)≤itemI q x.v:=by
 unfold itemsC at h;by_cases h1:10<q.items.length
 ·rw[if_pos h1]at h;omega
 rw[if_neg h1,fz_app]at h;refine⟨oQ,fun i x hx=>?_⟩;have h2:fz (mapI (fun i x=>[if itemC S x≠0 then itemC S x else if itemI q x.v<(i:Int)then 64 else 0]) 0 q.items)=0:=by
  split at h
  ·assumption
  ·assumption
 have h3:=fz_inv h2 _ (mapI_mem (f:=fun(i:Nat) x=>[if itemC S x≠0 then itemC S x else if itemI q x.v<(i:Int)then 64 else 0]) (n:=0) hx (xB.2 rfl));by_cases h4:itemC S x=0
 ·rw[if_neg (by simpa using h4)]at h3;refine⟨h4,?_⟩;by_cases h5:itemI q x.v<((0+i:Nat):Int)
  ·rw[if_pos h5]at h3;omega
  ·omega
 ·rw[if_pos h4]at h3;exact absurd h3 h4
theorem itemI_le {q:Qy}{i:Nat}{x:It}(h:q.items[i]? =some x):itemI q x.v≤i:=placeI_le (j:=i) (by unfold vrs;rw[zG,h];rfl)
theorem walk_ok {S:List Td}{q:Qy}{t:List Nd}{res:Bool}(h:walkC S q t res=0):∀x∈t,mentC S q res x=0:=fun x hx=>by
 have h1:=fz_inv h _ (xJ hx);unfold nodeC at h1;exact fz_inv h1 _ xS
theorem nm_le {s:ByteArray}(h:isNm s=true):s.size≤16:=by
 by_cases c:IsNm s
 ·exact c.le
 ·rw[isNm_false c]at h;cases h
def SzM (t:List Nd):Prop:=∀x∈t,x.n≤9223372036854775807
structure LnOk (l:List Td)(q:Qy):Prop where
 i0:0<q.items.length
 il:q.items.length≤10
 rl:q.ret.length≤8
 wh:q.wh=[]∨treeB q.wh=true
 re:∀t∈q.ret,treeB t=true
 wv:∀x∈q.wh,isVar x.op=true→0≤itemI q x.v∧itemI q x.v<(q.items.length:Int)
 mx:q.wh≠ []→∀r∈conjs q.wh,mixB q (subT q.wh r)=false
 wi:0≤q.within∧q.within≤1099511627776
 ty:∀x∈q.items,∀y∈x.tys,y.size≤16
 nt:∀x∈q.items,(0≤x.lo∧x.lo≤4)∧(0≤x.hi∧x.hi≤4)
theorem itemI_lt (q:Qy)(v:ByteArray):itemI q v<(q.items.length:Int):=by
 have:=placeI_lt (vrs q) v;unfold vrs at this;rw[xC]at this;exact this
theorem ln_ok {S:List Td}{q:Qy}(h:checkC (scC S) S q=0):LnOk S q:=by
 have hz:=fz_inv h;have z2:(if shapedB q=true then(0:Int)else 50)=0:=hz _ sJ;have z3:itemsC S q=0:=hz _ sJ;have z4:whereC S q=0:=hz _ sJ;have z7:withinC q=0:=hz _ sJ;have z6:retC S q=0:=hz _ sJ;have hsh:shapedB q=true:=by
  by_cases h1:shapedB q=true
  ·exact h1
  ·rw[if_neg h1]at z2;omega
 unfold shapedB at hsh;simp only[xK,Bool.or_eq_true,decide_eq_true_eq]at hsh;obtain⟨i0,_,_,_,_,hwi,hi,hw,hby,hr⟩:=hsh;obtain⟨hil,hit⟩:=items_ok z3;have r8:¬8<q.ret.length:=fun h8=>by unfold retC at z6;rw[if_pos h8]at z6;omega
 have hitm:∀x∈q.items,itemB x=true∧itemC S x=0:=fun x hx=>by
  obtain⟨i,hxi⟩:=zN hx;exact⟨xP.1 hi x hx,(hit i x hxi).1⟩
 have hwh:q.wh≠ []→walkC S q q.wh false=0∧((conjs q.wh).any fun r=>mixB q (subT q.wh r))=false:=fun hne=>by
  unfold whereC at z4;rw[if_neg hne]at z4;have h1:=fz_inv z4;refine⟨h1 _ sJ,?_⟩;have h2:(if((conjs q.wh).any fun r=>mixB q (subT q.wh r))=true then(77:Int)else 0)=0:=h1 _ sJ;by_cases h3:((conjs q.wh).any fun r=>mixB q (subT q.wh r))=true
  ·rw[if_pos h3]at h2;omega
  ·simpa using h3
 refine⟨i0,hil,oQ,hw.imp List.eq_nil_of_length_eq_zero id,fun t ht=>xP.1 hr t ht,fun x hx hv=>?_,fun hne r hr=>?_,⟨hwi,?_⟩,fun x hx y hy=>?_,fun x hx=>?_⟩
 ·have hne:q.wh≠ []:=fun e=>by rw[e]at hx;cases hx
  have h1:=walk_ok (hwh hne).1 x hx;unfold mentC at h1;rw[if_neg (fun e=>by rcases var_or hv with h2 |h2<;>simp[h2]at e)]at h1;unfold itemAt at h1;by_cases hn:itemI q x.v<0
  ·rw[if_pos hn]at h1;simp at h1
  ·exact⟨oQ,itemI_lt q x.v⟩
 ·have h1:=(hwh hne).2;rw[List.any_eq_false]at h1;simpa using h1 r hr
 ·unfold withinC at z7;by_cases h1:1099511627776<q.within
  ·rw[if_pos h1]at z7;omega
  ·omega
 ·have h1:=(hitm x hx).1;unfold itemB at h1;simp only[xK,decide_eq_true_eq]at h1;have h2:=xP.1 h1.2.2.2.2.1 y hy;exact(nm_le h2)
 ·obtain⟨h1,h2⟩:=hitm x hx;unfold itemB at h1;simp only[xK,decide_eq_true_eq]at h1;obtain⟨_,_,h3,h4,_,h5⟩:=h1;unfold itemC at h2;by_cases c1:(x.tys.any fun n=>decide (noTy S n))=true
  ·rw[if_pos c1]at h2;omega
  rw[if_neg c1]at h2;by_cases c2:¬x.tys.Nodup
  ·rw[if_pos c2]at h2;omega
  rw[if_neg c2]at h2;by_cases c3:repBad x
  ·rw[if_pos c3]at h2;omega
  unfold repBad at c3;omega
theorem nd_ok {t:List Nd}(h:treeB t=true)(hm:SzM t):NdOk t:=fun x hx=>by
 have hf:=(treeB_sp h).2.2 x hx;have hm1:=hm x hx;have he:emp.size=0:=rfl;unfold fieldsB at hf;simp only[xK]at hf;obtain⟨⟨h1,h2⟩,h3⟩:=hf;refine⟨?_,?_,?_,hm1⟩
 ·by_cases c:isVar x.op=true
  ·rw[if_pos c]at h2;have:=nm_le h2;omega
  ·rw[if_neg c]at h2;rw[of_decide_eq_true h2,he];omega
 ·by_cases c:isAtt x.op=true
  ·rw[if_pos c]at h3;have:=nm_le h3;omega
  ·rw[if_neg c]at h3;rw[of_decide_eq_true h3,he];omega
 ·by_cases c:x.op=1
  ·rw[if_pos c]at h1;have:=of_decide_eq_true h1;omega
  ·rw[if_neg c]at h1;have:=of_decide_eq_true h1;omega
theorem szm_sub {t:List Nd}{b r:Nat}(h:SzM t):SzM (subL t b r):=fun x hx=>by
 unfold subL at hx;obtain⟨y,hy,rfl⟩:=List.mem_map.1 hx;exact h y (List.mem_of_mem_drop (List.mem_of_mem_take hy))
theorem ndok_sub {t:List Nd}{b r:Nat}(h:NdOk t):NdOk (subL t b r):=fun x hx=>by
 unfold subL at hx;obtain⟨y,hy,rfl⟩:=List.mem_map.1 hx;exact h y (List.mem_of_mem_drop (List.mem_of_mem_take hy))
theorem wv_sub {q:Qy}{t:List Nd}{b r:Nat}(h:∀x∈t,isVar x.op=true→0≤itemI q x.v∧itemI q x.v<(q.items.length:Int)):∀x∈subL t b r,isVar x.op=true→0≤itemI q x.v∧itemI q x.v<(q.items.length:Int):=fun x hx=>by
 unfold subL at hx;obtain⟨y,hy,rfl⟩:=List.mem_map.1 hx;exact h y (List.mem_of_mem_drop (List.mem_of_mem_take hy))
theorem conj_at {S:List Td}{q:Qy}(h:LnOk S q){j r:Nat}(hj:(rootsQ q)[j]? =some r):q.wh≠ []∧treeB q.wh=true∧∃b,Sp q.wh b r∧subT q.wh r=subL q.wh b r∧mixB q (subL q.wh b r)=false:=by
 unfold rootsQ at hj;by_cases hne:q.wh=[]
 ·rw[if_pos hne]at hj;cases hj
 ·rw[if_neg hne]at hj;have ht:=h.wh.resolve_left hne;have hm:=zA hj;obtain⟨b,hb⟩:=conjs_sp ht hm;have e:subT q.wh r=subL q.wh b r:=by unfold subT;rw[bg_sp hb]
  exact⟨hne,ht,b,hb,e,by rw[←e];exact h.mx hne r hm⟩
theorem roots_len {S:List Td}{q:Qy}(h:LnOk S q):(rootsQ q).length≤q.wh.length:=by
 unfold rootsQ;by_cases hne:q.wh=[]
 ·rw[if_pos hne];exact zE _
 ·rw[if_neg hne];obtain⟨⟨n,hn,hsp⟩,_,_⟩:=treeB_sp (h.wh.resolve_left hne);unfold conjs;have:=cj_len hsp (n:=q.wh.length) oQ;rw[show q.wh.length-1=n by omega];omega
theorem exT_size {t:List Nd}(hN:NdOk t):(exT t).size≤26000:=by
 unfold exT;by_cases hc:exC t=0
 ·rw[if_pos hc];unfold exC at hc;by_cases c1:treeB t=false
  ·rw[if_pos c1]at hc;omega
  rw[if_neg c1]at hc;by_cases c2:400<t.length
  ·rw[if_pos c2]at hc;omega
  rw[if_neg c2]at hc;by_cases c3:400<(tkW t (t.length-1)).1.length
  ·rw[if_pos c3]at hc;omega
  have ht:treeB t=true:=by simpa using c1
  obtain⟨⟨n,hn,hsp⟩,_,_⟩:=treeB_sp ht;have hk:=tkW_ok hN hsp;rw[show t.length-1=n by omega]at c3 ⊢;have:=jn_size hk (tkW t n).1.length;rw[zL]at this;omega
 ·rw[if_neg hc];exact zE _
def Kpe (w w':World):Prop:=∀(k t:Nat)(cs:List Value),t≠9→t≠86→Blk w k t cs→Blk w' k t cs
theorem Kpe.of {w w':World}(hb:Bw w w'):Kpe w w':=fun _ _ _ _ _ h=>h.stay hb
theorem Kpe.trans {w w1 w2:World}(h:Kpe w w1)(h2:Kpe w1 w2):Kpe w w2:=fun k t cs a b x=>h2 k t cs a b (h k t cs a b x)
theorem Kpe.set {w:World}{g:Nat}{cs:List Value}(h:Blk w g 86 cs)(j:Nat)(x:Value):Kpe w (w.setCell ⟨g,j,none⟩ x):=fun k t c _ a hx=>hx.far (blk_ne h hx a).symm _
structure EW (B g:Nat)(W:World)(v:Value)(L:List ByteArray):Prop where
 bx:Blk W g 86 [v]
 ol:OL W B NoF 9 1 v L.length (L.flatMap strD)
 lo:B≤g
section
variable {B g:Nat}{W W' w1:World}{v v':Value}{L:List ByteArray}{x:ByteArray}
theorem EW.stay (h:EW B g W v L)(hb:Bw W W'):EW B g W' v L:=⟨h.bx.stay hb,h.ol.stay hb,h.lo⟩
theorem EW.size (h:EW B g W v L):B≤W.heap.size:=zU h.lo (Nat.le_of_lt h.bx.lt)
theorem EW.app (h:EW B g W v L)(hg:W.grownBy w1 v.ownBlock)(hO:OL w1 B NoF 9 1 v' (L.length+1) (L.flatMap strD++strD x)):
  Blk w1 g 86 [v]∧EW B g (w1.setCell ⟨g,0,none⟩ v') v' (L++[x])∧Below B W (w1.setCell ⟨g,0,none⟩ v')∧Kpe W (w1.setCell ⟨g,0,none⟩ v'):=by
 have h1:=h.bx.grown hg (fun e=>h.ol.neBlk h.bx dQ e.symm);have hbb:Below B W w1:=(zB B W).grown hg h.size (fun q hq=>(h.ol.lt q hq).1);refine⟨h1,⟨h1.set_ 0 _,?_,h.lo⟩,hbb.setCell (p:=⟨g,0,none⟩) h.lo _,Kpe.trans (fun k t cs a b x=>x.grown hg (fun e=>h.ol.neBlk x (fun e=>a e.symm) e.symm)) (Kpe.set h1 0 v')⟩;have:=hO.setCell (p:=⟨g,0,none⟩) (hO.neBlk h1 dQ) (fun h=>h) v';rw[zH,xD];exact this
end
def EwF (g:Nat)(v v':Value)(w w':World):Prop:=(v'.ownBlock=v.ownBlock∨∃k,v'.ownBlock=some k∧w.heap.size≤k)∧w.heap.size≤w'.heap.size∧(∀k,k<w.heap.size→k≠g→some k≠v.ownBlock→w'.heap[k]? =w.heap[k]?)∧∃wm,w.grownBy wm v.ownBlock∧w'=wm.setCell ⟨g,0,none⟩ v'
theorem EwF.mk {g:Nat}{v v':Value}{w w1:World}{o:Obj}(hg:(w.alloc o).grownBy w1 v.ownBlock)(ha:v'.ownBlock=v.ownBlock∨v'.ownBlock=some (w.alloc o).heap.size):EwF g v v' w (w1.setCell ⟨g,0,none⟩ v'):=by
 have hs:=hg.size;refine⟨ha.imp id fun h=>⟨_,h,sJ⟩,?_,fun k hk hkg hkv=>?_,w1,(show w.grownBy (w.alloc o) v.ownBlock from⟨rfl,rfl,rfl,sJ,fun k hk _=>Below.heap_alloc w o k hk⟩).trans hg,rfl⟩
 ·have e:(w1.setCell ⟨g,0,none⟩ v').heap.size=w1.heap.size:=by simp[World.setCell]
  rw[e];simp at hs;omega
 ·rw[Below.heap_setCell w1 ⟨g,0,none⟩ v' k (fun e=>hkg e),hg.block k (by simp;omega) hkv];exact Below.heap_alloc w o k hk
def EwP (B g:Nat)(v:Value)(w:World)(L:List ByteArray)(e:Ending)(w':World):Prop:=e=.returned (.tuple #[])∧∃v',EW B g w' v' L∧(Below B w w'∧Kpe w w')∧EwF g v v' w w'
theorem EwP.mk {B g:Nat}{w w':World}{v v':Value}{L:List ByteArray}(h:EW B g w' v' L)(hb:Below B w w'∧Kpe w w')(hf:EwF g v v' w w'):EwP B g v w L (.returned (.tuple #[])) w':=⟨rfl,v',h,hb,hf⟩
namespace shW
open nmW
theorem eadd_k (B g:Nat)(v:Value)(L:List ByteArray)(x:ByteArray)(w:World)(h:EW B g w v L)(hl:L.length≤67108864):
  Calls Tryz.prog 42 #[.pointer (some ⟨g,0,none⟩),.string x] w (EwP B g v w (L++[x])):=by
 have hB1:Bw w (w.alloc (.cells ⟨[.string x]⟩ 9)):=bA;have h1:=h.stay hB1;have hsr:=SrcLit (w:=w) (t:=9) (G:=fun b=>NoF b∧some b≠v.ownBlock) rfl (show RdL w (fun b=>NoF b∧some b≠v.ownBlock) [.string x] (strD x)from⟨.v _ rfl,trivial⟩);have x0:=h.bx.cell 0;have f0:=h.bx.frozen 0;simp only[zY]at x0;have hsz:=h1.size;have hwb:=Hd (hB1.mono h.size);have hwk:=Hd (Kpe.of hB1);replace h1:=Hd h1;replace hsr:=Hd hsr;clear h hB1;go_enter Tryz.func42,Tryz.ntmps42;go_wp2_with (at_builtin;refine wpa rfl (.tmp 8) (.tmp 10) _ rfl (m:=1) (news:=strD x) elStr h1.out.ol rfl rfl hsr.out rfl oQ oQ hsz ?_;intro v' w1 hO1 hg1 ha1;obtain⟨q1,q2,q3⟩:=h1.out.app hg1 hO1;have q4:=EwF.mk (g:=g) hg1 ha1;have y0:=q1.cell 0;have fy:=q1.frozen 0;simp only[zY]at y0;clear x0 f0;obtain⟨A2,c2,rfl⟩:=hO1.form;replace q2:=Hd q2;replace q3:=Hd q3;replace q4:=Hd q4;clear hO1 hg1 ha1 q1);first|refine bodyPost_ret (results_none rfl _ _ _) rfl ?_ |refine bodyPost_end (results_none rfl _ _ _) rfl ?_
 exact .mk q2.out ⟨hwb.out.trans q3.out.1,hwk.out.trans q3.out.2⟩ q4.out
end shW
theorem SS.at_ {l:List ByteArray}(h:SS l){i j:Nat}{x y:ByteArray}(hx:l[i]? =some x)(hy:l[j]? =some y)(hij:i<j):ltB x y:=by
 obtain⟨h1,rfl⟩:=zC.1 hx;obtain⟨h2,rfl⟩:=zC.1 hy;exact List.pairwise_iff_getElem.1 h i j h1 h2 hij
theorem SS.ins {m:List ByteArray}(h:SS m){x:ByteArray}{k:Nat}(hk:k≤m.length)(hx:x∉m)(h1:∀(j:Nat) y,k≤j→m[j]? =some y→ltB x y)(h2:∀y,0<k→m[k-1]? =some y→¬ltB x y):
  SS (m.take k++x::m.drop k)∧∀y,y∈m.take k++x::m.drop k↔y∈m∨y=x:=by
 have hmem:∀y,y∈m.take k++x::m.drop k↔y∈m∨y=x:=fun y=>by
  rw[zM,List.mem_cons];constructor
  ·rintro(h |h |h)
   ·exact .inl (List.mem_of_mem_take h)
   ·exact .inr h
   ·exact .inl (List.mem_of_mem_drop h)
  ·rintro(h |h)
   ·rw[←List.take_append_drop k m,zM]at h;exact h.imp id .inr
   ·exact .inr (.inl h)
 have hlow:∀y∈m.take k,ltB y x:=fun y hy=>by
  obtain⟨i,hi⟩:=zN hy;have hil:=(zC.1 hi).1;rw[zO]at hil;rw[zZ,if_pos oQ]at hi;have hz:m[k-1]? =some m[k-1]:=zI oQ;have hne:m[k-1]≠x:=fun e=>hx (e▸List.getElem_mem _)
  have hlt:=ltB_tot (h2 _ oQ hz) (Ne.symm hne);rcases Nat.lt_or_ge i (k-1)with h5 |h5
  ·exact ltB_tr (h.at_ hi hz h5) hlt
  ·have e:i=k-1:=oQ;rw[e,hz]at hi;rw[←zq9 hi];exact hlt
 refine⟨List.pairwise_append.2 ⟨h.sublist (List.take_sublist _ _),List.pairwise_cons.2 ⟨fun y hy=>?_,h.sublist (List.drop_sublist _ _)⟩,fun a ha b hb=>?_⟩,hmem⟩
 ·obtain⟨j,hj⟩:=zN hy;rw[xT]at hj;exact h1 _ y oQ hj
 ·rcases List.mem_cons.1 hb with e |e
  ·subst e;exact hlow a ha
  ·obtain⟨j,hj⟩:=zN e;rw[xT]at hj;exact ltB_tr (hlow a ha) (h1 _ b oQ hj)
def PutL (l:List ByteArray)(f:Nat)(x:ByteArray)(l':List ByteArray):Prop:=∃m,l'=l.take f++m∧SS m∧∀y,y∈m↔y∈l.drop f∨y=x
theorem PutL.same {l:List ByteArray}{f:Nat}{x:ByteArray}(hs:SS (l.drop f))(hx:x∈l.drop f):PutL l f x l:=
 ⟨l.drop f,(List.take_append_drop f l).symm,hs,fun y=>⟨.inl,fun h=>h.elim id fun e=>e▸hx⟩⟩
theorem PutL.ins {l:List ByteArray}{f k:Nat}{x:ByteArray}(hs:SS (l.drop f))(hx:x∉l.drop f)(hf:f≤k)(hk:k≤l.length)(h1:∀(j:Nat) y,k≤j→l[j]? =some y→ltB x y)(h2:∀y,f<k→l[k-1]? =some y→¬ltB x y):
  PutL l f x (l.take k++x::l.drop k):=by
 obtain⟨h3,h4⟩:=hs.ins (x:=x) (k:=k-f) (by rw[List.length_drop];omega) hx (fun j y hj hy=>by rw[xT]at hy;exact h1 _ y oQ hy)
  (fun y h0 hy=>by rw[xT,show f+(k-f-1)=k-1 by omega]at hy;exact h2 y oQ hy)
 refine⟨_,?_,h3,h4⟩;rw[←zR];congr 1
 ·have:(l.take k).take f=l.take f:=by rw[List.take_take,Nat.min_eq_left hf]
  have e2:(l.drop f).take (k-f)=(l.take k).drop f:=by rw[List.drop_take]
  rw[e2,←this,List.take_append_drop]
 ·rw[List.drop_drop,show f+(k-f)=k by omega]
def LaidL (l0:List ByteArray)(sel:List ByteArray)(l:List ByteArray):Prop:=∃m,l=l0++m∧SS m∧∀y,y∈m↔y∈sel
theorem LaidL.nil (l0:List ByteArray):LaidL l0 [] l0:=⟨[],(zT _).symm,List.Pairwise.nil,fun _=>Iff.rfl⟩
theorem LaidL.ss {l0 sel l:List ByteArray}(h:LaidL l0 sel l):SS (l.drop l0.length):=by
 obtain⟨m,rfl,h1,_⟩:=h;rw[List.drop_left];exact h1
theorem LaidL.put {l0 sel l l':List ByteArray}{x:ByteArray}(h:LaidL l0 sel l)(hp:PutL l l0.length x l'):LaidL l0 (sel++[x]) l':=by
 obtain⟨m,rfl,h1,h2⟩:=h;obtain⟨m',rfl,h3,h4⟩:=hp;refine⟨m',by rw[List.take_left],h3,fun y=>?_⟩;rw[h4,List.drop_left,h2,zM,xB]
theorem LaidL.done {l0 sel l:List ByteArray}{h:ByteArray}(hl:LaidL l0 (sel.map (h++ ·)) l):l=l0++(srt sel).map (h++ ·):=by
 obtain⟨m,rfl,h1,h2⟩:=hl;congr 1;refine SS.uniq h1 ((srt_ss sel).pre h) fun y=>?_
 rw[h2,List.mem_map,List.mem_map];exact⟨fun⟨a,ha,e⟩=>⟨a,mem_srt.2 ha,e⟩,fun⟨a,ha,e⟩=>⟨a,mem_srt.1 ha,e⟩⟩
theorem LaidL.srt {sel l:List ByteArray}(hl:LaidL [] sel l):l=Go.Proofs.YthaabihjeomipaaGreatDoor.srt sel:=by
 obtain⟨m,rfl,h1,h2⟩:=hl;exact srt_uniq h1 h2
def sV (l:List ByteArray):List Value:=l.map Value.string
theorem sV_len (l:List ByteArray):(sV l).length=l.length:=by simp[sV]
theorem strs_map (l:List ByteArray):l.flatMap strD=(sV l).map D.v:=by
 unfold sV;induction l with
 |nil=>rfl
 |cons a l ih=>rw[zK,ih];rfl
theorem OL.sw {w:World}{B:Nat}{v:Value}{l:List ByteArray}(h:OL w B NoF 9 1 v l.length (l.flatMap strD))(hn:l≠ []):∃g cap rest,v=.slice (some ⟨g,0,none⟩) l.length cap∧B≤g∧Blk w g 9 (sV l++rest)∧
  ∀(l':List ByteArray)(w':World),l'.length=l.length→Blk w' g 9 (sV l'++rest)→OL w' B NoF 9 1 v l'.length (l'.flatMap strD):=by
 have hp:=List.length_pos_iff.2 hn;obtain⟨g,cap,e,_,_,_,_⟩:=h.row hp;subst e;obtain⟨cs,hB,hb,hnc,hm,hl,hd,hr⟩:=h.blk;have e:cs.take l.length=sV l:=by
  refine List.ext_getElem? fun k=>?_
  have hvl:=sV_len l;by_cases hk:k<l.length
  ·obtain⟨u,hu⟩:∃u,(sV l)[k]? =some u:=⟨_,zI oQ⟩
   obtain⟨u',hu',hr'⟩:=hr k (.v u) (by rw[strs_map,zG,hu];rfl);rw[zZ,if_pos hk,hu',hu,hr'.v_inv]
  ·rw[xO (by rw[zO];omega),xO oQ]
 refine⟨g,cap,cs.drop l.length,rfl,hB,by rw[←e,List.take_append_drop];exact hb,fun l' w' hl' hb'=>?_⟩;rw[←hl'];refine OL.of_blk hB hb' oQ hm (by rw[zH,sV_len,List.length_drop,hl'];omega) (strD_len l') fun k d hd2=>?_
 rw[strs_map,zG]at hd2;obtain⟨u,hu,rfl⟩:=xG.1 hd2;refine⟨u,?_,.v _ ?_⟩
 ·rw[zS (zC.1 hu).1];exact hu
 ·unfold sV at hu;obtain⟨x,_,rfl⟩:=List.mem_map.1 (zA hu);rfl
def Kps (w w':World):Prop:=∀(k t:Nat)(cs:List Value),t≠9→Blk w k t cs→Blk w' k t cs
theorem Kps.of {w w':World}(hb:Bw w w'):Kps w w':=fun _ _ _ _ h=>h.stay hb
theorem Kps.trans {w w1 w2:World}(h:Kps w w1)(h2:Kps w1 w2):Kps w w2:=fun k t cs a x=>h2 k t cs a (h k t cs a x)
theorem Kps.set {w:World}{g:Nat}{cs:List Value}(h:Blk w g 9 cs)(j:Nat)(x:Value):Kps w (w.setCell ⟨g,j,none⟩ x):=fun k t c a hx=>hx.far (blk_ne h hx a).symm _
def PutP (B:Nat)(l:List ByteArray)(f:Nat)(x:ByteArray)(w:World)(e:Ending)(w':World):Prop:=∃v l',e=.returned v∧PutL l f x l'∧l'.length≤l.length+1∧OL w' B NoF 9 1 v l'.length (l'.flatMap strD)∧Below B w w'∧Kps w w'
theorem PutP.mk {B:Nat}{l l':List ByteArray}{f:Nat}{x:ByteArray}{w w':World}{v:Value}(h1:PutL l f x l')(h2:l'.length≤l.length+1)(h3:OL w' B NoF 9 1 v l'.length (l'.flatMap strD))(h4:Below B w w')(h5:Kps w w'):PutP B l f x w (.returned v) w':=⟨v,l',rfl,h1,h2,h3,h4,h5⟩
def shL (l:List ByteArray)(k:Nat)(y:ByteArray):List ByteArray:=l.take k++y::l.drop k
theorem shL_len {l:List ByteArray}{k:Nat}(h:k≤l.length)(y:ByteArray):(shL l k y).length=l.length+1:=by unfold shL;rw[zH,List.length_cons,zO,List.length_drop];omega
theorem shL_set {l:List ByteArray}{k:Nat}(h:k≤l.length)(y z:ByteArray):(shL l k y).set k z=shL l k z:=by
 unfold shL;have hl:(l.take k).length=k:=by rw[zO];omega
 rw[List.set_append_right _ _ oQ,hl,Nat.sub_self,List.set_cons_zero]
theorem shL_next {l:List ByteArray}{k:Nat}{z:ByteArray}(h:l[k]? =some z):shL l (k+1) z=shL l k z:=by
 obtain⟨h1,rfl⟩:=zC.1 h;have e1:l.take (k+1)=l.take k++[l[k]]:=by rw[zJ,h];rfl
 have e2:=List.drop_eq_getElem_cons h1;unfold shL;rw[e1,e2,zR];rfl
theorem shL_at {l:List ByteArray}{k:Nat}(h:k≤l.length)(y:ByteArray):(shL l k y)[k]? =some y:=by
 unfold shL;have hl:(l.take k).length=k:=by rw[zO];omega
 rw[zP oQ,hl,Nat.sub_self];rfl
theorem shL_lo {l:List ByteArray}{k i:Nat}(h:i<k)(hk:k≤l.length)(y:ByteArray):(shL l k y)[i]? =l[i]? :=by
 unfold shL;rw[zS (by rw[zO];omega),zZ,if_pos h]
theorem sV_set {l:List ByteArray}{rest:List Value}{k:Nat}(h:k<l.length)(y:ByteArray):(sV l++rest).set k (.string y)=sV (l.set k y)++rest:=by
 rw[List.set_append,if_pos (by rw[sV_len];exact h)];unfold sV;rw[List.map_set]
theorem less_bytes (a b:ByteArray):Op.bytesLess a.toList b.toList=decide (ltB a b):=by
 rw[bytesLess_eq,ByteArray.toList_eq,ByteArray.toList_eq];rfl
namespace shR
open nmW shW ckW
theorem put_k (B f:Nat)(v:Value)(l:List ByteArray)(x:ByteArray)(w:World)(hB:B≤w.heap.size)(hl:l.length≤67108864)(hf:f≤l.length)(hs:SS (l.drop f))(h:OL w B NoF 9 1 v l.length (l.flatMap strD)):
  Calls Tryz.prog 65 #[v,.int .i64 f,.string x] w (PutP B l f x w):=by
 obtain⟨A,c,rfl⟩:=h.form;have hrd:=h.rd (G:=fun _=>True) (fun _ h _=>h.elim) (fun _ _ _=>trivial);have h0:Hid (∀(i:Nat) y,f≤i→i<f→l[i]? =some y→y≠x):=Hd fun i y a b=>by omega
 replace h:=Hd h;replace hrd:=Hd hrd;replace hs:=Hd hs;go_enter Tryz.func65,Tryz.ntmps65;go_wp2;go_loopw [7] (fun i wr=>wr=w∧∃j:Nat,f≤j∧j≤l.length∧i=.int .i64 j∧Hid (∀(i:Nat) y,f≤i→i<j→l[i]? =some y→y≠x)) (fun i _=>l.length- (intOf i).toNat)
 case atStart=>exact⟨rfl,f,nR,hf,rfl,h0⟩
 case round=>
  clear h0;obtain⟨hwr,j,hfj,hj,rfl,hp⟩:=hrel;obtain rfl:=hwr.symm;clear hwr;by_cases hlt:j<l.length
  ·obtain⟨y,hy⟩:=getx hlt;obtain⟨g,off,e,_,z0,_⟩:=hrd.out.rowv (f:=strD) (m:=1) (fun _=>rfl) hy oQ;have z0:=z0 0 _ rfl;simp only[Nat.add_zero,Nat.mul_one]at z0;have g0:(0:Int)≤(j:Int):=oQ;have g1:(j:Int)<l.length:=oQ;subst e;by_cases he:y=x
   ·have e1:(y.toList==x.toList)=true:=(by rw[bqb];exact zW he);have hmem:x∈l.drop f:=by
     have:(l.drop f)[j-f]? =some y:=by rw[xT,show f+(j-f)=j by omega];exact hy
     rw[←he];exact zA this
    replace he:=Hd he;replace hy:=Hd hy;replace hmem:=Hd hmem;go_wp2;go_ret;exact .mk (PutL.same hs.out hmem.out) oQ h.out bR (Kps.of bR)
   ·have e1:(y.toList==x.toList)=false:=(by rw[bqb];exact zV he);have hp2:Hid (∀(i:Nat) y,f≤i→i<j+1→l[i]? =some y→y≠x):=Hd fun i y' a b h2=>by
     by_cases hij:i=j
     ·subst hij;rw[hy]at h2;injection h2 with h2;rw[←h2];exact he
     ·exact hp.out i y' a oQ h2
    replace he:=Hd he;replace hy:=Hd hy;go_wp2;go_roundw
    case rel=>exact⟨trivial,j+1,oQ,oQ,gQ,hp2⟩
    case measure=>exact mQ
  ·obtain rfl:j=l.length:=oQ;have g1:¬(l.length:Int)<l.length:=oQ;have hnm:x∉l.drop f:=fun hm=>by
    obtain⟨i,hi⟩:=zN hm;rw[xT]at hi;exact hp.out (f+i) x oQ (zC.1 hi).1 hi rfl
   have hB1:Bw w (w.alloc (.cells ⟨[.string x]⟩ 9)):=bA;have hO1:=Hd (h.out.stay hB1);have hsr:=Hd (Src.at1 (w:=w) (t:=9) (g:=w.heap.size) rfl (show RdL w (fun b=>NoF b∧some b≠(Value.slice A l.length c).ownBlock) [.string x] (strD x)from⟨.v _ rfl,trivial⟩));have hsz:=zU hB hB1.size;replace hB1:=Hd hB1;replace hnm:=Hd hnm;clear hj hlt hp;go_upto_region 8 with(at_builtin;go_loud (refine wpa rfl (.tmp 25) (.tmp 27) _ rfl (m:=1) (news:=strD x) elStr hO1.out rfl rfl hsr.out rfl oQ oQ hsz ?_);go_loud (intro v' w1 hO2 hg2 _);go_loud (have hK2:Kps w w1:=fun k t cs a hx=>(hx.stay hB1.out).grown hg2 (fun e=>hO1.out.neBlk (hx.stay hB1.out) (fun e=>a e.symm) e.symm));go_loud (have hB2:=(hB1.out.mono hB).grown hg2 hsz (fun q hq=>(hO1.out.lt q hq).1));go_loud (have hO3:OL w1 B NoF 9 1 v' (l++[x]).length ((l++[x]).flatMap strD):=by(rw[zH,xD];exact hO2));go_loud (obtain⟨g,cap,rest,rfl,hg,hb,hup⟩:=hO3.sw sJ);go_loud (clear hO2 hg2 hO3;replace hK2:=Hd hK2;replace hB2:=Hd hB2;replace hb:=Hd hb;replace hup:=Hd hup))
   have e9:(l++[x]).length=l.length+1:=sJ;rw[e9]at hup;replace hup:=Hd hup.out;have hb9:Blk w1 g 9 (sV (shL l l.length x)++rest):=by
    have:shL l l.length x=l++[x]:=by unfold shL;rw[zL,List.drop_length]
    rw[this];exact hb.out
   replace hb9:=Hd hb9;clear hb h hrd hO1 hsr hB1 e9;go_loopw [8] (fun i wr=>∃(k:Nat)(y:ByteArray),k≤l.length∧f≤k∧i=.int .i64 k∧Kps w wr∧Below B w wr∧Blk wr g 9 (sV (shL l k y)++rest)∧Hid (∀(j:Nat) y',k≤j→l[j]? =some y'→ltB x y')) (fun i _=>(intOf i).toNat)
   case atStart=>exact⟨l.length,x,nR,hf,rfl,hK2.out,hB2.out,hb9.out,fun j y' h1 h2=>by have:=(zC.1 h2).1;omega⟩
   case round=>
    clear hb9 hK2 hB2;obtain⟨k,y,hk,hfk,rfl,hK,hBw,hb,hlow⟩:=hrel;have hvl:(sV (shL l k y)).length=l.length+1:=by rw[sV_len,shL_len hk]
    have hcell:∀(i:Nat) u,(shL l k y)[i]? =some u→wr.cell? ⟨g,i,none⟩=some (.string u):=fun i u hu=>by
     rw[hb.cell,zS (by rw[sV_len];exact(zC.1 hu).1)];unfold sV;rw[zG,hu];rfl
    have hfin:(∀y,f<k→l[k-1]? =some y→¬ltB x y)→Kps w (wr.setCell ⟨g,k,none⟩ (.string x))∧Below B w (wr.setCell ⟨g,k,none⟩ (.string x))→PutP B l f x w (.returned (.slice (some ⟨g,0,none⟩) (l.length+1) cap)) (wr.setCell ⟨g,k,none⟩ (.string x)):=fun h2 h3=>by
     have h4:=hb.set_ k (.string x);rw[sV_set (by rw[shL_len hk];omega),shL_set hk]at h4;have h5:=hup.out (shL l k x) _ (shL_len hk x) h4;refine .mk (l':=shL l k x) (PutL.ins hs.out hnm.out hfk hk hlow.out h2) (by rw[shL_len hk];omega) h5 h3.2 h3.1
    have g2:(k:Int)≤l.length:=oQ;have z9:=hcell k y (shL_at hk y);have f9:=hb.frozen;by_cases hlt:f<k
    ·obtain⟨m,rfl⟩:∃m,k=m+1:=⟨k-1,oQ⟩
     obtain⟨z,hz⟩:∃z,l[m]? =some z:=⟨_,zI oQ⟩
     have z8:=hcell m z (by rw[shL_lo oQ hk];exact hz);have f8:=hb.frozen m;by_cases hxz:ltB x z
     ·have e1:Op.bytesLess x.toList z.toList=true:=(by rw[less_bytes];exact zW hxz);replace hxz:=Hd hxz;go_wp2;refine⟨⟨m,z,oQ,oQ,rfl,hK.trans (.set hb _ _),Below.setCell (p:=⟨g,m+1,none⟩) hBw hg _,?_,Hd fun j y' a b=>?_⟩,by simp[intOf]⟩
      ·have h4:=hb.set_ (m+1) (.string z);rw[sV_set (by rw[shL_len hk];omega),shL_set hk,shL_next hz]at h4;exact h4
      ·by_cases e:j=m
       ·subst e;rw[hz]at b;rw[←zq9 b];exact hxz.out
       ·exact hlow.out j y' oQ b
     ·have e1:Op.bytesLess x.toList z.toList=false:=(by rw[less_bytes];exact zV hxz);replace hfin:=Hd (hfin (fun y _ h=>by rw[show m+1-1=m by omega,hz]at h;rw[←zq9 h];exact hxz) ⟨hK.trans (.set hb _ _),Below.setCell (p:=⟨g,m+1,none⟩) hBw hg _⟩);replace hxz:=Hd hxz;go_wp2;go_ret;exact hfin.out
    ·replace hfin:=Hd (hfin (fun y h _=>absurd h hlt) ⟨hK.trans (.set hb _ _),Below.setCell (p:=⟨g,k,none⟩) hBw hg _⟩);go_wp2;go_ret;exact hfin.out
end shR
end Go.Proofs.YthaabihjeomipaaGreatDoor
