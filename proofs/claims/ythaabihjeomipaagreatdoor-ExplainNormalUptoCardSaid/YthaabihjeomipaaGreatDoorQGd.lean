/- Findings of the document. -/
import Derived.Test.YthaabihjeomipaaGreatDoorQGb
namespace Go.Proofs.YthaabihjeomipaaGreatDoor
set_option maxRecDepth 100000
set_option maxHeartbeats 16000000
open Go.RowKit Go.Deep Go.Maps
set_option linter.unusedVariables false
set_option linter.unusedSimpArgs false
section
variable {P:Program}{w:World}
theorem run_appB {B t ty e size bytes n m c:Nat}{F:Nat→Prop}{v:Value}{ds news:List D}{A:Option Addr}(T:ElT P t e size bytes)(hown:OL w B F e size v n ds)
  (hsrc:Src w A news (fun b=>F b∧some b≠v.ownBlock))(hl:news.length=m*size)(h63:n+m≤maxLen)(hbytes:(n+m)*bytes≤140737488355328)(hB:B≤w.heap.size):
  ∃v' w',(Builtin.append_ #[t,t] ty #[v,.slice A m c]).run P w=.ok v' w'∧OL w' B F e size v' (n+m) (ds++news)∧w.grownBy w' v.ownBlock∧(v'.ownBlock=v.ownBlock∨v'.ownBlock=some w.heap.size):=by
 obtain⟨ht,⟨i,z,hi,hz,hsize,hby,hzs⟩,hp⟩:=T;obtain⟨cells,h1,h2,h3⟩:=hown;by_cases hne:news=[]
 ·subst hne;have hm:m=0:=by
   rcases Nat.eq_zero_or_pos m with h |h
   ·exact h
   ·have:=Nat.mul_pos h hp;simp at hl;omega
  subst hm;rcases A with _ |ad
  ·exact⟨v,w,run_append_of_nil B t ty e i size ht hi v n cells h1 c,⟨cells,by simpa using h1,by simpa using h2,by simpa using h3⟩,World.grownBy.refl w _,.inl rfl⟩
  ·obtain⟨v',w',hr,a1,a2,_,a4⟩:=run_append_own_at (P:=P) w B t ty e i z size bytes ht hi hz hsize hby hzs hp v n cells h1 ad 0 c [] sJ (fun j u h=>by simp at h) (fun u h=>by simp at h) h63 hbytes hB;refine⟨v',w',hr,⟨cells,by simpa using a1,by simpa using h2,fun k d hd=>?_⟩,a2,a4⟩;simp at hd;obtain⟨u,hu,hx⟩:=h3 k d hd;exact⟨u,hu,hx.regrow a2 a4⟩
 ·obtain⟨b,off,rfl,hc⟩:=hsrc hne;have hex:∀k,k<news.length→∃u,w.cell? ⟨b,off+k,none⟩=some u∧∀d,news[k]? =some d→Rd w (fun b=>F b∧some b≠v.ownBlock) u d:=fun k hk=>by
   obtain⟨u,h4,h5⟩:=hc k news[k] (zI hk);refine⟨u,h4,fun d hd=>?_⟩;rw[zI hk]at hd;injection hd with hd
   subst hd;exact h5
  obtain⟨g,hg⟩:=choose_lt hex;have hget:∀(k:Nat)(u:Value),((List.range news.length).map g)[k]? =some u→k<news.length∧u=g k:=fun k u h=>by
   rw[zG]at h;rcases Nat.lt_or_ge k news.length with hk |hk
   ·rw[List.getElem?_range hk]at h;simp at h;exact⟨hk,h.symm⟩
   ·rw[xO (by simpa using hk)]at h;simp at h
  obtain⟨v',w',hr,a1,a2,_,a4⟩:=run_append_own_at (P:=P) w B t ty e i z size bytes ht hi hz hsize hby hzs hp v n cells h1 ⟨b,off,none⟩ m c ((List.range news.length).map g) (by simpa using hl)
   (fun j u h=>by
    obtain⟨hk,rfl⟩:=hget j u h;rw[addr_add];exact(hg j hk).1)
   (fun u h=>by
    obtain⟨j,hj⟩:=zN h;obtain⟨hk,rfl⟩:=hget j u hj;exact((hg j hk).2 _ (zI hk)).one)
   h63 hbytes hB
  refine⟨v',w',hr,⟨_,a1,by simp[h2],fun k d hd=>?_⟩,a2,a4⟩;rcases Nat.lt_or_ge k ds.length with hk |hk
  ·rw[zS hk]at hd;obtain⟨u,hu,hx⟩:=h3 k d hd;exact⟨u,by rw[zS oQ];exact hu,hx.regrow a2 a4⟩
  ·rw[zP hk]at hd;have hk':=(zC.1 hd).1;refine⟨g (k-ds.length),?_,((hg _ hk').2 d hd).regrow a2 a4⟩;rw[zP oQ,←h2,zG,List.getElem?_range hk'];rfl
theorem wp_appB {o:Oper}{a:Act}{K:Act→World→Prop}{Q:Exit→Act→World→Prop}(s x:Operand)(t:TypeId)
  (ho:o.op=.call {callee:=.builtin .append,args:=#[s,x],argTypes:=#[t,t]})
  {B e size bytes n m c:Nat}{F:Nat→Prop}{v:Value}{ds news:List D}{A:Option Addr}(T:ElT P t e size bytes)(hown:OL w B F e size v n ds)(hs:a.eval s=v)(hx:a.eval x=.slice A m c)
  (hsrc:Src w A news (fun b=>F b∧some b≠v.ownBlock))(hl:news.length=m*size)(h63:n+m≤maxLen)(hbytes:(n+m)*bytes≤140737488355328)(hB:B≤w.heap.size)
  (h:∀v' w',OL w' B F e size v' (n+m) (ds++news)→w.grownBy w' v.ownBlock→(v'.ownBlock=v.ownBlock∨v'.ownBlock=some w.heap.size)→K (a.put o.dst v') w'):o.wp P a w K Q:=by
 obtain⟨v',w',hrun,h2,h3,h4⟩:=run_appB (P:=P) (ty:=o.type) T hown hsrc hl h63 hbytes hB (c:=c);unfold Oper.wp execOp;simp only[ho,resolve,invoke,builtin,Sem.run_bind,Sem.run_pure,Result.andThen_ok,List.map_toArray,List.map_cons,List.map_nil,hs,hx,hrun];exact h v' w' h2 h3 h4
theorem wpB {ops:Array Oper}{rest:List Oper}{o:Oper}{a:Act}{Q:Exit→Act→World→Prop}(hgd:o.guard=none)(s x:Operand)(t:TypeId)
  (ho:o.op=.call {callee:=.builtin .append,args:=#[s,x],argTypes:=#[t,t]})
  {B e size bytes n m c:Nat}{F:Nat→Prop}{v:Value}{ds news:List D}{A:Option Addr}(T:ElT P t e size bytes)(hown:OL w B F e size v n ds)(hs:a.eval s=v)(hx:a.eval x=.slice A m c)
  (hsrc:Src w A news (fun b=>F b∧some b≠v.ownBlock))(hl:news.length=m*size)(h63:n+m≤maxLen)(hbytes:(n+m)*bytes≤140737488355328)(hB:B≤w.heap.size)
  (h:∀v' w',OL w' B F e size v' (n+m) (ds++news)→w.grownBy w' v.ownBlock→(v'.ownBlock=v.ownBlock∨v'.ownBlock=some w.heap.size)→wpList P ops Q rest (a.put o.dst v') w'):wpList P ops Q (o::rest) a w:=
 wpList_plain hgd fun _ hK=>wp_appB s x t ho T hown hs hx hsrc hl h63 hbytes hB fun v' w' h2 h3 h4=>hK _ _ (h v' w' h2 h3 h4)
end
def fgV (f:Fg):List Value:=[.int .i64 f.rule,.int .i64 f.rank,.int .i64 f.code,.int .i64 f.part,.int .i64 f.idx,.int .i64 f.sub]
def fgD (f:Fg):List D:=[.v (.int .i64 f.rule),.v (.int .i64 f.rank),.v (.int .i64 f.code),.v (.int .i64 f.part),.v (.int .i64 f.idx),.v (.int .i64 f.sub)]
theorem elFg:ElT Tryz.prog 108 111 6 48:=.of Tryz.underlying108 kQ oQ
theorem aggFg:AggT Tryz.prog 111 6:=⟨_,Tryz.underlying111,rfl,kQ⟩
theorem rdlFg {w:World}{G:Nat→Prop}(f:Fg):RdL w G (fgV f) (fgD f):=⟨.v _ rfl,.v _ rfl,.v _ rfl,.v _ rfl,.v _ rfl,.v _ rfl,trivial⟩
def BigF:Nat:=2932031007402
theorem big63 {n:Nat}(h:n+1≤BigF):n+1≤maxLen:=by unfold BigF at h;unfold maxLen;omega
theorem bigBy {n:Nat}(h:n+1≤BigF):(n+1)*48≤140737488355328:=by unfold BigF at h;omega
structure FO (l:List Td)(A:Option Addr)(c:Nat)(q:Qy)(s:Sl3)(w wr:World)(v:Value)(L:List Fg):Prop where
 sq:SQ l A c q s w wr
 ol:OL wr w.heap.size NoF 111 6 v L.length (L.flatMap fgD)
section
variable {l:List Td}{A:Option Addr}{c:Nat}{q:Qy}{s:Sl3}{w wr W w1:World}{v v':Value}{L:List Fg}
theorem FO.stay (h:FO l A c q s w wr v L)(hb:Bw wr W):FO l A c q s w W v L:=⟨h.sq.stay hb,h.ol.stay hb⟩
theorem FO.new (l:List Td)(A:Option Addr)(c:Nat)(q:Qy)(s:Sl3)(w:World):FO l A c q s w ((w.alloc (.cells ⟨[.slice A l.length c]⟩ 24)).alloc (.cells ⟨qV q s⟩ 31)) (.slice none 0 0) []:=⟨SQ.new l A c q s w,OL.nil _ _ _ _ _⟩
theorem FO.hb (h:FO l A c q s w wr v L):Bw w wr:=h.sq.hb
theorem FO.app {o:Obj}{f:Fg}(h:FO l A c q s w wr v L)(hg:(wr.alloc o).grownBy w1 v.ownBlock)(hO:OL w1 w.heap.size NoF 111 6 v' (L.length+1) (L.flatMap fgD++fgD f)):FO l A c q s w w1 v' (L++[f]):=by
 have hs:=h.hb.size;refine⟨⟨(h.hb.alloc hs o).grown hg (by simp;omega) (fun q hq=>(h.ol.lt q hq).1),(h.sq.b0.alloc o).grown hg (fun e=>h.ol.neBlk h.sq.b0 dQ e.symm),(h.sq.b1.alloc o).grown hg (fun e=>h.ol.neBlk h.sq.b1 dQ e.symm)⟩,?_⟩;rw[zH,xD];simpa using hO
theorem FO.keep {g t:Nat}{cs:List Value}{o:Obj}(h:FO l A c q s w wr v L)(hb:Blk wr g t cs)(ht:111≠t)(hg:(wr.alloc o).grownBy w1 v.ownBlock):Blk w1 g t cs:=(hb.alloc o).grown hg (fun e=>h.ol.neBlk hb ht e.symm)
end
def FgPost (L:List Fg)(w:World)(e:Ending)(w':World):Prop:=∃v,e=.returned v∧OL w' w.heap.size NoF 111 6 v L.length (L.flatMap fgD)∧Bw w w'
theorem FgPost.mk {L L':List Fg}{w w':World}{v:Value}(hL:L'=L)(h:OL w' w.heap.size NoF 111 6 v L'.length (L'.flatMap fgD))(hb:Bw w w'):FgPost L w (.returned v) w':=hL▸⟨v,rfl,h,hb⟩
namespace ckW
open nmW
theorem found_k (f:Fg)(w:World):Calls Tryz.prog 95 #[.int .i64 f.rule,.int .i64 f.rank,.int .i64 f.code,.int .i64 f.part,.int .i64 f.idx,.int .i64 f.sub] w fun e w'=>e=.returned (.agg ⟨fgV f⟩)∧Bw w w':=by
 have hb:Bw w (w.alloc (.cells ⟨fgV ⟨0,0,0,0,0,0⟩⟩ 111)):=bA;have hB:Blk (w.alloc (.cells ⟨fgV ⟨0,0,0,0,0,0⟩⟩ 111)) w.heap.size 111 (fgV ⟨0,0,0,0,0,0⟩):=Blk.new _ _ _;simp only[fgV]at hb hB ⊢;replace hb:=Hd hb;replace hB:=Hd hB;go_enter Tryz.func95,Tryz.ntmps95;go_wp2_with (refine at_op (.store 111 (.tmp 12) (.tmp 20)) rfl ?_;refine wsb rfl 111 (.tmp 12) (.tmp 20) rfl (cs':=fgV f) hB.out aggFg rfl rfl rfl rfl ?_;intro w1 hz1 hg1);exact bpa rfl hz1 aggFg rfl rfl ⟨rfl,hb.out.grown hg1 hb.out.size (fun q hq=>by injection hq with hq;omega)⟩
theorem ahead_k (a b:Fg)(w:World):Calls Tryz.prog 57 #[.agg ⟨fgV a⟩,.agg ⟨fgV b⟩] w fun e w'=>e=.returned (.bool (decide (Klt a b)))∧Bw w w':=by
 have hb:Bw w ((w.alloc (.cells ⟨fgV a⟩ 111)).alloc (.cells ⟨fgV b⟩ 111)):=(bA).alloc sJ _;obtain⟨r,hr⟩:∃r,r=decide (Klt a b):=⟨_,rfl⟩
 rw[←hr];obtain⟨a1,a2,a3,a4,a5,a6⟩:=a;obtain⟨b1,b2,b3,b4,b5,b6⟩:=b;have hr':r=if a1≠b1 then decide (a1<b1)else if a5≠b5 then decide (a5<b5)else if a6≠b6 then decide (a6<b6)else decide (a2<b2):=by
  rw[hr,Bool.eq_iff_iff,decide_eq_true_iff];unfold Klt;simp only;by_cases h1:a1≠b1
  ·rw[if_pos h1,if_pos h1,decide_eq_true_iff]
  ·rw[if_neg h1,if_neg h1];by_cases h2:a5≠b5
   ·rw[if_pos h2,if_pos h2,decide_eq_true_iff]
   ·rw[if_neg h2,if_neg h2];by_cases h3:a6≠b6
    ·rw[if_pos h3,if_pos h3,decide_eq_true_iff]
    ·rw[if_neg h3,if_neg h3,decide_eq_true_iff]
 clear hr;simp only[fgV]at hb ⊢;replace hb:=Hd hb;by_cases h1:a1=b1
 case neg=>
  rw[if_pos h1]at hr';have f1:=beqF h1;have f2:=bneT h1;replace h1:=Hd h1;replace hr':=Hd hr';go_enter Tryz.func57,Tryz.ntmps57;go_wp2;go_ret;exact⟨rtB hr'.out.symm,hb.out⟩
 rw[if_neg (fun h=>h h1)]at hr';subst h1;by_cases h1:a5=b5
 case neg=>
  rw[if_pos h1]at hr';have f1:=beqF h1;have f2:=bneT h1;replace h1:=Hd h1;replace hr':=Hd hr';go_enter Tryz.func57,Tryz.ntmps57;go_wp2;go_ret;exact⟨rtB hr'.out.symm,hb.out⟩
 rw[if_neg (fun h=>h h1)]at hr';subst h1;by_cases h1:a6=b6
 case neg=>
  rw[if_pos h1]at hr';have f1:=beqF h1;have f2:=bneT h1;replace h1:=Hd h1;replace hr':=Hd hr';go_enter Tryz.func57,Tryz.ntmps57;go_wp2;go_ret;exact⟨rtB hr'.out.symm,hb.out⟩
 rw[if_neg (fun h=>h h1)]at hr';subst h1;replace hr':=Hd hr';go_enter Tryz.func57,Tryz.ntmps57;go_wp2;go_ret;exact⟨rtB hr'.out.symm,hb.out⟩
end ckW
structure SzB (q:Qy):Prop where
 ty:(q.items.map fun x=>x.tys.length).sum≤1048576
 rt:(q.ret.map fun t=>t.length).sum≤1048576
theorem mapI_len {α β:Type}{f:Nat→α→List β}{g:α→Nat}(l:List α)(hf:∀i,∀x∈l,(f i x).length≤g x):∀n,(mapI f n l).length≤(l.map g).sum:=by
 induction l with
 |nil=>intro n;simp[mapI]
 |cons x r ih=>
  intro n;have h1:=hf n x sJ;have h2:=ih (fun i y hy=>hf i y (by simp[hy])) (n+1);simp only[mapI,zH,List.map_cons,List.sum_cons];omega
theorem flat_len {α β:Type}{f:α→List β}(l:List α)(hf:∀x,(f x).length≤1):(l.flatMap f).length≤l.length:=by
 induction l with
 |nil=>simp
 |cons x r ih=>have:=hf x;simp only[zK,zH,List.length_cons];omega
theorem sum_aff {α:Type}(T:α→Nat)(c d:Nat)(l:List α):(l.map fun x=>T x*c+d).sum=(l.map T).sum*c+l.length*d:=by
 induction l with
 |nil=>simp
 |cons x r ih=>simp only[List.map_cons,List.sum_cons,List.length_cons,ih,Nat.add_mul];omega
theorem sum_take {α:Type}(T:α→Nat)(l:List α)(j:Nat):((l.take j).map T).sum≤(l.map T).sum:=by
 have:(l.map T).sum=((l.take j).map T).sum+((l.drop j).map T).sum:=by rw[←List.sum_append,←xR,List.take_append_drop]
 omega
theorem if_len {α:Type}{p:Prop} [Decidable p] (x:α):(if p then [x]else []).length≤1:=by split<;>simp
theorem tyF_len (l:List Td)(tys:List ByteArray)(i j:Nat)(n:ByteArray):(tyF l tys i j n).length≤1+tys.length:=by
 unfold tyF;have h1:=flat_len (f:=twF i n) (tys.take j) (fun x=>if_len _);have h2:(tys.take j).length≤tys.length:=by rw[zO];omega
 have h3:(if noTy l n then [(⟨4,1,61,1,i,0⟩:Fg)]else []).length≤1:=if_len _;rw[zH];omega
theorem tys_len (l:List Td)(tys:List ByteArray)(i k:Nat)(h:tys.length≤1048576)(hk:k≤tys.length):(mapI (tyF l tys i) 0 (tys.take k)).length≤k*1048577:=by
 have:=mapI_len (f:=tyF l tys i) (g:=fun _=>0*0+1048577) (tys.take k) (fun j x _=>zU (tyF_len l tys i j x) oQ) 0;rw[sum_aff]at this;have h2:(tys.take k).length=k:=by rw[zO];omega
 rw[h2]at this;omega
theorem itF_len (l:List Td)(q:Qy)(i:Nat)(x:It)(h:x.tys.length≤1048576):(itF l q i x).length≤x.tys.length*1048577+2:=by
 have h1:=tys_len l x.tys i x.tys.length h nR;rw[zL]at h1;have h2:(if repBad x then [(⟨4,3,63,1,i,0⟩:Fg)]else []).length≤1:=if_len _;have h3:(if itemI q x.v<(i:Int)then [(⟨4,4,64,1,i,0⟩:Fg)]else []).length≤1:=if_len _;unfold itF;rw[zH,zH];omega
theorem its_len (l:List Td)(q:Qy)(hs:SzQ q)(hB:SzB q)(j:Nat):(mapI (itF l q) 0 (q.items.take j)).length≤1099512677376+2097152:=by
 have h1:=mapI_len (f:=itF l q) (g:=fun x=>x.tys.length*1048577+2) (q.items.take j) (fun i x hx=>itF_len l q i x (hs.it x (List.mem_of_mem_take hx)).1.1) 0;rw[sum_aff]at h1;have h2:=sum_take (fun x:It=>x.tys.length) q.items j;have h3:=hB.ty;have h4:(q.items.take j).length≤1048576:=by rw[zO];have:=hs.il;omega
 have h5:((q.items.take j).map fun x=>x.tys.length).sum*1048577≤1048576*1048577:=Nat.mul_le_mul oQ nR;omega
def preF (q:Qy):List Fg:=if 10<q.items.length then [⟨3,0,60,1,10,0⟩]else []
def posB (q:Qy)(j:Nat):Bool:=(q.items.take j).any fun x=> !x.neg
theorem posB_next {q:Qy}{j:Nat}{x:It}(h:q.items[j]? =some x):posB q (j+1)=(posB q j|| !x.neg):=by
 unfold posB;rw[zJ,h,List.any_append];simp
theorem posB_end (q:Qy):posB q q.items.length= !(q.items.all (·.neg)):=by
 unfold posB;rw[zL];induction q.items with
 |nil=>rfl
 |cons x r ih=>simp only[List.any_cons,List.all_cons,ih,Bool.not_and]
structure FI (l:List Td)(A:Option Addr)(c:Nat)(q:Qy)(s:Sl3)(x:It)(u:Value)(gi:Nat)(w wr:World)(v:Value)(L:List Fg):Prop where
 fo:FO l A c q s w wr v L
 bi:Blk wr gi 53 (itV x u)
 lo:w.heap.size+1<gi
section
variable {l:List Td}{A:Option Addr}{c:Nat}{q:Qy}{s:Sl3}{x:It}{u:Value}{gi:Nat}{w wr W w1:World}{v v':Value}{L:List Fg}
theorem FI.stay (h:FI l A c q s x u gi w wr v L)(hb:Bw wr W):FI l A c q s x u gi w W v L:=⟨h.fo.stay hb,h.bi.stay hb,h.lo⟩
theorem FI.app {o:Obj}{f:Fg}(h:FI l A c q s x u gi w wr v L)(hg:(wr.alloc o).grownBy w1 v.ownBlock)(hO:OL w1 w.heap.size NoF 111 6 v' (L.length+1) (L.flatMap fgD++fgD f)):FI l A c q s x u gi w w1 v' (L++[f]):=⟨h.fo.app hg hO,h.fo.keep h.bi dQ hg,h.lo⟩
theorem FI.cells (h:FI l A c q s x u gi w wr v L):wr.cell? ⟨gi,0,none⟩=some (.bool x.neg)∧wr.cell? ⟨gi,1,none⟩=some u∧wr.cell? ⟨gi,2,none⟩=some (.string x.v)∧wr.cell? ⟨gi,3,none⟩=some (.int .i64 x.lo)∧wr.cell? ⟨gi,4,none⟩=some (.int .i64 x.hi):=⟨h.bi.cell 0,h.bi.cell 1,h.bi.cell 2,h.bi.cell 3,h.bi.cell 4⟩
theorem FI.sch (h:FI l A c q s x u gi w wr v L):wr.cell? ⟨w.heap.size,0,none⟩=some (.slice A l.length c):=h.fo.sq.b0.cell 0
theorem FI.eqL {L':List Fg}(h:FI l A c q s x u gi w wr v L)(e:L=L'):FI l A c q s x u gi w wr v L':=e▸h
end
theorem twF_next {i:Nat}{y z:ByteArray}{tys:List ByteArray}{m:Nat}(h:tys[m]? =some z):(tys.take (m+1)).flatMap (twF i y)=(tys.take m).flatMap (twF i y)++if y=z then [⟨4,2,62,1,i,0⟩]else []:=by
 rw[zJ,h,xD];simp[twF]
def OIRel (l:List Td)(A:Option Addr)(c:Nat)(q:Qy)(s:Sl3)(w:World)(v p i:Value)(wr:World):Prop:=∃j:Nat,j≤q.items.length∧i=.int .i64 j∧p=.bool (posB q j)∧FO l A c q s w wr v (preF q++mapI (itF l q) 0 (q.items.take j))
theorem OIRel.mk {l:List Td}{A:Option Addr}{c:Nat}{q:Qy}{s:Sl3}{w wr:World}{v p i:Value}(j:Nat)(h1:j≤q.items.length)(h2:i=.int .i64 j)(h3:p=.bool (posB q j))(h4:FO l A c q s w wr v (preF q++mapI (itF l q) 0 (q.items.take j))):OIRel l A c q s w v p i wr:=⟨j,h1,h2,h3,h4⟩
def FIRel (l:List Td)(A:Option Addr)(c:Nat)(q:Qy)(s:Sl3)(x:It)(u:Value)(gi:Nat)(w:World)(L:List Fg)(v:Value)(wr:World):Prop:=FI l A c q s x u gi w wr v L
namespace ckW
open nmW
theorem ofItems_k (A:Option Addr)(c:Nat)(F:Nat→Prop)(l:List Td)(q:Qy)(s:Sl3)(hl:SzT l)(hs:SzQ q)(hB:SzB q)(w:World)(hF:∀b,F b→b<w.heap.size)(r:Rd w F (.slice A l.length c) (.sl l.length (l.flatMap tdD)))(R:QR w F q s):
  Calls Tryz.prog 54 #[.agg ⟨[.slice A l.length c]⟩,.agg ⟨qV q s⟩] w (FgPost (itemsF l q) w):=by
 have h0:=FO.new l A c q s w;have k1:∀(n:ByteArray) W,Bw w W→Calls Tryz.prog 96 #[.agg ⟨[.slice A l.length c]⟩,.string n] W fun e w'=>e=.returned (.int .i64 (placeI (nmsT l) n))∧Bw W w':=fun n W hW=>rTypeOf_k A c F l n hl.1 W (fun b h=>zF (hF b h) hW.size) (r.under hW hF)
 have k2:∀(v:ByteArray) W,Bw w W→Calls Tryz.prog 97 #[.agg ⟨qV q s⟩,.string v] W fun e w'=>e=.returned (.int .i64 (itemI q v))∧Bw W w':=fun v W hW=>itemOf_k q s F v hs.il W (R.under hW).lt (R.under hW).r1
 have hil:=hs.il;have hit:=hs.it;have hR1:=R.r1;have hpl:=fun j=>its_len l q hs hB j
 obtain⟨R0,hR0⟩:∃R,R=itemsF l q:=⟨_,rfl⟩
 rw[←hR0];have hR0':R0=preF q++(mapI (itF l q) 0 q.items++(if q.items.all (·.neg)=true then [⟨5,0,65,1,0,0⟩]else [])):=hR0;clear hR0;have k60:∀W,Calls Tryz.prog 95 #[.int .i64 3,.int .i64 0,.int .i64 60,.int .i64 1,.int .i64 10,.int .i64 0] W fun e w'=>e=.returned (.agg ⟨[.int .i64 3,.int .i64 0,.int .i64 60,.int .i64 1,.int .i64 10,.int .i64 0]⟩)∧Bw W w':=fun W=>found_k ⟨3,0,60,1,10,0⟩ W
 have k65:∀W,Calls Tryz.prog 95 #[.int .i64 5,.int .i64 0,.int .i64 65,.int .i64 1,.int .i64 0,.int .i64 0] W fun e w'=>e=.returned (.agg ⟨[.int .i64 5,.int .i64 0,.int .i64 65,.int .i64 1,.int .i64 0,.int .i64 0]⟩)∧Bw W w':=fun W=>found_k ⟨5,0,65,1,0,0⟩ W
 have kf:∀(rk cd:Int)(j:Nat) W,Calls Tryz.prog 95 #[.int .i64 4,.int .i64 rk,.int .i64 cd,.int .i64 1,.int .i64 j,.int .i64 0] W fun e w'=>e=.returned (.agg ⟨[.int .i64 4,.int .i64 rk,.int .i64 cd,.int .i64 1,.int .i64 j,.int .i64 0]⟩)∧Bw W w':=fun rk cd j W=>found_k ⟨4,rk,cd,1,j,0⟩ W
 have yy:=h0.sq.cells;obtain⟨A1,c1,A2,c2,A3,c3⟩:=s;simp only[qV]at h0 k2 hR1 yy ⊢;obtain⟨x0,x1,_⟩:=yy;replace hR1:=Hd hR1;replace hF:=Hd hF;replace k1:=Hd k1;replace k2:=Hd k2;replace kf:=Hd kf;replace hit:=Hd hit;replace hpl:=Hd hpl;replace h0:=Hd h0;replace hR0':=Hd hR0';replace k60:=Hd k60;replace k65:=Hd k65;clear hs R r hl hB;go_enter Tryz.func54,Tryz.ntmps54;go_upto_region 2 with fail
 go_cut [16] (fun s wx=>s=.bool (decide (10<q.items.length))∧FO l A c q ⟨A1,c1,A2,c2,A3,c3⟩ w wx (.slice none 0 0) [])
 case first=>
  by_cases h10:10<q.items.length
  ·have g0:(10:Int)<q.items.length:=oQ;have hd:decide (10<q.items.length)=true:=zW h10;replace h10:=Hd h10;go_wp2
   all_goals(go_meet;exact⟨by rw[hd],h0.out⟩)
  ·have g0:¬(10:Int)<q.items.length:=oQ;have hd:decide (10<q.items.length)=false:=zV h10;replace h10:=Hd h10;go_wp2
   all_goals(go_meet;exact⟨by rw[hd],h0.out⟩)
 case rest=>
 obtain⟨hs16,hI⟩:=hcut;clear x0 x1 h0;have hbs:=hI.hb.size;replace hI:=Hd hI;go_upto_if 16 with fail
 go_cut [5] (fun v wx=>FO l A c q ⟨A1,c1,A2,c2,A3,c3⟩ w wx v (preF q))
 case first=>
  by_cases h10:10<q.items.length
  ·have hpre:preF q=[⟨3,0,60,1,10,0⟩]:=if_pos h10;rw[zW h10]at hs16;subst hs16;replace h10:=Hd h10;replace hpre:=Hd hpre;go_wp2_with (first
    |(go_at_call 95;refine(k60.out _).mono ?_;rintro e W ⟨rfl,hW⟩;have hI2:=Hd (hI.out.stay hW);clear hW)
    |(at_builtin;refine wpB rfl (.tmp 17) (.tmp 19) _ rfl (m:=1) (news:=fgD ⟨3,0,60,1,10,0⟩) elFg (hI2.out.ol.alloc _) rfl rfl (Src.lit (rdlFg ⟨3,0,60,1,10,0⟩)) rfl (big63 dQ) (bigBy dQ) (by have:=hI2.out.hb.size;simp;omega) ?_;intro v' w1 hO1 hg1 ha1;obtain⟨B3,d3,rfl⟩:=hO1.form;have hI3:=Hd (hI2.out.app (f:=⟨3,0,60,1,10,0⟩) hg1 hO1);clear hO1 hg1 ha1))
   all_goals(go_meet;(rw[hpre.out];exact hI3.out))
  ·have hpre:preF q=[]:=if_neg h10;rw[zV h10]at hs16;subst hs16;replace h10:=Hd h10;replace hpre:=Hd hpre;go_wp2
   all_goals(go_meet;(rw[hpre.out];exact hI.out))
 case rest=>
 have hI:=hcut;clear hs16 hbs;have hpre:(preF q).length≤1:=if_len _;obtain⟨A9,c9,rfl⟩:=hI.ol.form;have h0:=Hd hI;clear hI hcut;go_wp2;go_loopw [5,6,7] (fun v p i wr=>OIRel l A c q ⟨A1,c1,A2,c2,A3,c3⟩ w v p i wr) (fun _ _ i _=>q.items.length- (intOf i).toNat)
 case atStart=>exact OIRel.mk 0 (zE _) rfl rfl (by simpa[mapI] using h0.out)
 case round=>
  clear h0;obtain⟨j,hj,rfl,rfl,hI⟩:=hrel;have hpj:=hpl.out j;obtain⟨L,hL⟩:∃L,L=preF q++mapI (itF l q) 0 (q.items.take j):=⟨_,rfl⟩
  have hLl:L.length≤1099514774529:=by rw[hL,zH];omega
  rw[←hL]at hI;obtain⟨A5,c5,rfl⟩:=hI.ol.form;obtain⟨x0,x1,_⟩:=hI.sq.cells;simp only at x1;by_cases hlt:j<q.items.length
  ·obtain⟨x,hx⟩:=getx hlt;obtain⟨g,off,B2,d2,rfl,hgF,rx,a0,a1,a2,a3,a4⟩:=it_at hR1.out hx;have hgl:=hF.out g hgF;have hbl:=fun(i:Nat)=>hI.hb.cell (p:=⟨g,i,none⟩) hgl
   rw[←hbl]at a0 a1 a2 a3 a4;clear hbl hgF hgl;have hnx:=posB_next hx;have htl:=(hit.out x (zA hx)).1.1;have hLn:preF q++mapI (itF l q) 0 (q.items.take (j+1))=L++itF l q j x:=by rw[mapI_take _ hx,hL,zR]
   have hitF:itF l q j x=mapI (tyF l x.tys j) 0 x.tys++((if repBad x then [⟨4,3,63,1,j,0⟩]else [])++(if itemI q x.v<(j:Int)then [⟨4,4,64,1,j,0⟩]else [])):=rfl;have g1:(0:Int)≤(j:Int):=oQ;have g2:(j:Int)<q.items.length:=oQ;have hsb:=hI.hb.size;have hFI:FI l A c q ⟨some ⟨g,off,none⟩,c1,A2,c2,A3,c3⟩ x (.slice B2 x.tys.length d2) wr.heap.size w (wr.alloc (.cells ⟨itV x (.slice B2 x.tys.length d2)⟩ 53)) (.slice A5 L.length c5) L:=⟨hI.stay bA,Blk.new _ _ _,hI.sq.b1.lt⟩;generalize hgi:wr.heap.size=gi at hFI;obtain⟨pb,hpb⟩:∃b,b=posB q j:=⟨_,rfl⟩
   rw[←hpb]at hnx ⊢;have rx0:=Hd rx;clear rx;have hxI:=Hd hx;clear hx;obtain⟨neg,tys,iv,lo,hi⟩:=x;simp only[itV]at hFI a0 a1 a2 a3 a4 rx0 hnx hitF htl;replace hnx:=Hd hnx;replace hpb:=Hd hpb;replace hLn:=Hd hLn;replace hitF:=Hd hitF;have hIH:=Hd hI;clear hI;replace hL:=Hd hL;have hFH:=Hd hFI;obtain⟨y0,_⟩:=hFI.cells;simp only at y0;clear hFI;go_upto_region 9 with fail
   go_cut [6] (fun s wx=>s=.bool (pb|| !neg)∧FI l A c q ⟨some ⟨g,off,none⟩,c1,A2,c2,A3,c3⟩ ⟨neg,tys,iv,lo,hi⟩ (.slice B2 tys.length d2) gi w wx (.slice A5 L.length c5) L)
   case first=>
    cases pb with
    |true=>
     go_wp2
     all_goals(go_meet;exact⟨rfl,hFH.out⟩)
    |false=>
     go_wp2
     all_goals(go_meet;exact⟨rfl,hFH.out⟩)
   case rest=>
   obtain⟨rfl,hFI⟩:=hcut;clear y0 hFH a0 a1 a2 a3 a4;replace hFI:=Hd hFI;replace hgi:=Hd hgi;obtain⟨wo,hwo⟩:∃wo:World,wo=wr:=⟨_,rfl⟩
   subst hwo;go_wp2;go_loopw [5,9] (fun v i wr=>∃(k:Nat)(Lk:List Fg),k≤tys.length∧i=.int .i64 k∧Hid (Lk=L++mapI (tyF l tys j) 0 (tys.take k))∧FI l A c q ⟨some ⟨g,off,none⟩,c1,A2,c2,A3,c3⟩ ⟨neg,tys,iv,lo,hi⟩ (.slice B2 tys.length d2) gi w wr v Lk) (fun _ i _=>tys.length- (intOf i).toNat)
   case atStart=>exact⟨0,L,zE _,rfl,by show L=_;simp[mapI],hFI.out⟩
   case round=>
    clear hFI;obtain⟨k,Lk,hk,rfl,hLk,hI⟩:=hrel;have hmk:=tys_len l tys j k htl hk;have hLkl:Lk.length≤2199027450881:=by rw[hLk.out,zH];omega
    obtain⟨A6,c6,rfl⟩:=hI.fo.ol.form;have hsk:=hI.fo.hb.size;obtain⟨y0,y1,y2,y3,y4⟩:=hI.cells;have y5:=hI.sch;have hlo:=hI.lo;simp only at y0 y1 y2 y3 y4;by_cases hlt2:k<tys.length
    ·obtain⟨y,hy⟩:=getx hlt2;obtain⟨g3,off3,rfl,hg3F,q0⟩:=str_at rx0.out hy;have hg3l:=hF.out g3 hg3F;have hq0:∀W,Bw w W→W.cell? ⟨g3,off3+k,none⟩=some (.string y):=fun W hW=>(hW.cell (p:=⟨g3,off3+k,none⟩) hg3l).trans q0
     have q1:=hq0 wr hI.fo.hb;have g3':(0:Int)≤(k:Int):=oQ;have g4':(k:Int)<tys.length:=oQ;have k1':=k1.out y;obtain⟨ti,hti⟩:∃a,a=placeI (nmsT l) y:=⟨_,rfl⟩
     rw[←hti]at k1';have hnt:noTy l y↔ti<0:=by unfold noTy;rw[hti]
     have hLk2:L++mapI (tyF l tys j) 0 (tys.take (k+1))=Lk++((if ti<0 then [⟨4,1,61,1,j,0⟩]else [])++(tys.take k).flatMap (twF j y)):=by
      have e:(if noTy l y then [(⟨4,1,61,1,j,0⟩:Fg)]else [])=if ti<0 then [⟨4,1,61,1,j,0⟩]else []:=by
       by_cases h:ti<0
       ·rw[if_pos h,if_pos (hnt.2 h)]
       ·rw[if_neg h,if_neg (fun h2=>h (hnt.1 h2))]
      rw[mapI_take _ hy,hLk.out,zR];unfold tyF;rw[e]
     replace hLk2:=Hd hLk2;replace k1':=Hd k1';replace hti:=Hd hti;replace hnt:=Hd hnt;replace hq0:=Hd hq0;have hyH:=Hd hy;clear hy q0 hmk;replace hI:=Hd hI;go_upto_region 13 with fail
     go_cut [10] (fun s wx=>s=.int .i64 ti∧FI l A c q ⟨some ⟨g,off,none⟩,c1,A2,c2,A3,c3⟩ ⟨neg,tys,iv,lo,hi⟩ (.slice (some ⟨g3,off3,none⟩) tys.length d2) gi w wx (.slice A6 Lk.length c6) Lk)
     case first=>
      go_region_law ((go_simp;(go_at_call 96;refine(k1'.out _ (by first|exact hI.out.fo.hb |exact hI.out.fo.hb.drew |exact(hI.out.stay (below_drewN bR _)).fo.hb)).mono ?_;rintro e W ⟨rfl,hW⟩;have hI2:=Hd (hI.out.stay (by first|exact hW |exact(bR).drew.trans hW |exact(below_drewN bR _).trans hW));have q1:=hq0.out _ hI2.out.fo.hb;have y1:W.cell? ⟨gi,1,none⟩=some (.slice (some ⟨g3,off3,none⟩) tys.length d2):=hI2.out.cells.2.1;clear hW)))
      all_goals(go_wp2;all_goals(go_meet;exact⟨rfl,hI2.out⟩))
     case rest=>
     obtain⟨rfl,hI2⟩:=hcut;clear y0 y1 y2 y3 y4 y5 q1 hI;have hI:=Hd hI2;clear hI2;obtain⟨nb,hnb⟩:∃b,b=decide (ti<0):=⟨_,rfl⟩
     go_upto_region 14 with fail
     go_cut [54] (fun s wx=>s=.bool nb∧FI l A c q ⟨some ⟨g,off,none⟩,c1,A2,c2,A3,c3⟩ ⟨neg,tys,iv,lo,hi⟩ (.slice (some ⟨g3,off3,none⟩) tys.length d2) gi w wx (.slice A6 Lk.length c6) Lk)
     case first=>
      by_cases hn:ti<0
      ·have e:nb=true:=(by rw[hnb];exact zW hn);subst e;replace hnb:=Hd hnb;go_wp2
       all_goals(go_meet;exact⟨rfl,hI.out⟩)
      ·have e:nb=false:=(by rw[hnb];exact zV hn);subst e;replace hnb:=Hd hnb;go_wp2
       all_goals(go_meet;exact⟨rfl,hI.out⟩)
     case rest=>
     obtain⟨rfl,hI2⟩:=hcut;clear hI;have hI:=Hd hI2;clear hI2;have hif:(if ti<0 then [(⟨4,1,61,1,j,0⟩:Fg)]else [])=if nb=true then [⟨4,1,61,1,j,0⟩]else []:=by rw[hnb];simp
     rw[hif]at hLk2;clear hif;replace hnb:=Hd hnb;go_upto_if 54 with fail
     go_cut [5] (fun v wx=>∃L2,Hid (L2=Lk++if nb=true then [⟨4,1,61,1,j,0⟩]else [])∧FI l A c q ⟨some ⟨g,off,none⟩,c1,A2,c2,A3,c3⟩ ⟨neg,tys,iv,lo,hi⟩ (.slice (some ⟨g3,off3,none⟩) tys.length d2) gi w wx v L2)
     case first=>
      cases nb with
      |true=>
       have hbg:Lk.length+1≤BigF:=(by unfold BigF;omega);replace hbg:=Hd hbg;go_wp2_with (first
        |(go_at_call 95;refine(kf.out 1 61 j _).mono ?_;rintro e W ⟨rfl,hW⟩;have hI2:=Hd (hI.out.stay hW);clear hW)
        |(at_builtin;refine wpB rfl (.tmp 55) (.tmp 58) _ rfl (m:=1) (news:=fgD ⟨4,1,61,1,j,0⟩) elFg (hI2.out.fo.ol.alloc _) rfl rfl (Src.lit (rdlFg ⟨4,1,61,1,j,0⟩)) rfl (big63 hbg.out) (bigBy hbg.out) (by have:=hI2.out.fo.hb.size;simp;omega) ?_;intro v' w1 hO1 hg1 ha1;obtain⟨B3,d3,rfl⟩:=hO1.form;have hI3:=Hd (hI2.out.app (f:=⟨4,1,61,1,j,0⟩) hg1 hO1);clear hO1 hg1 ha1))
       all_goals(go_meet;exact⟨_,rfl,hI3.out⟩)
      |false=>
       go_wp2
       all_goals(go_meet;exact⟨_,(zT Lk).symm,hI.out⟩)
     case rest=>
     obtain⟨L2,hL2,hI2⟩:=hcut;have hL2l:L2.length≤2199027450882:=by
      rw[hL2.out,zH];have:(if nb=true then [(⟨4,1,61,1,j,0⟩:Fg)]else []).length≤1:=if_len _;omega
     have hLk3:=Hd (show L++mapI (tyF l tys j) 0 (tys.take (k+1))=L2++(tys.take k).flatMap (twF j y) by rw[hLk2.out,hL2.out,zR]);clear hLk2 hI;replace hI2:=Hd hI2;obtain⟨wo2,hwo⟩:∃wo:World,wo=wr:=⟨_,rfl⟩
     subst hwo;go_wp2;go_loopw [5,11] (fun v i wr=>∃(m:Nat)(Lm:List Fg),m≤k∧i=.int .i64 m∧Hid (Lm=L2++(tys.take m).flatMap (twF j y))∧FI l A c q ⟨some ⟨g,off,none⟩,c1,A2,c2,A3,c3⟩ ⟨neg,tys,iv,lo,hi⟩ (.slice (some ⟨g3,off3,none⟩) tys.length d2) gi w wr v Lm) (fun _ i _=>k- (intOf i).toNat)
     case atStart=>exact⟨0,L2,zE _,rfl,by show L2=_;simp,hI2.out⟩
     case round=>
      clear hI2;obtain⟨m,Lm,hm,rfl,hLm,hI⟩:=hrel;have hmm:((tys.take m).flatMap (twF j y)).length≤1048576:=by
       have h1:=flat_len (f:=twF j y) (tys.take m) (fun x=>if_len _);rw[zO]at h1;omega
      have hLml:Lm.length≤2199028499458:=(by rw[hLm.out,zH];omega);clear hmm;obtain⟨A7,c7,rfl⟩:=hI.fo.ol.form;have hsk2:=hI.fo.hb.size;by_cases hlt3:m<k
      ·obtain⟨z,hz⟩:=getx (l:=tys) (i:=m) oQ;obtain⟨_,_,e,_,q2⟩:=str_at rx0.out hz;injection e with e
       injection e with e1 e2
       subst e1 e2;have hq2:∀W,Bw w W→W.cell? ⟨g3,off3+m,none⟩=some (.string z):=fun W hW=>(hW.cell (p:=⟨g3,off3+m,none⟩) hg3l).trans q2
       have q3:=hq2 wr hI.fo.hb;have q1:=hq0.out wr hI.fo.hb;have htw:=twF_next (i:=j) (y:=y) hz;have f0:(0:Int)≤(m:Int):=oQ;have f1:(m:Int)<(k:Int):=oQ;have f2:(m:Int)<tys.length:=oQ;have f3:m<tys.length:=oQ;have hbg:Lm.length+1≤BigF:=by unfold BigF;omega
       obtain⟨y0,y1,y2,y3,y4⟩:=hI.cells;replace y1:wr.cell? ⟨gi,1,none⟩=some (.slice (some ⟨g3,off3,none⟩) tys.length d2):=y1;clear q2 y0 y2 y3 y4;replace hq2:=Hd hq2;replace hbg:=Hd hbg;replace htw:=Hd htw;replace hI:=Hd hI;replace hz:=Hd hz;by_cases hyz:y=z
       ·have hu2:(y.toList==z.toList)=true:=(by rw[bqb];exact zW hyz);have hnx2:Hid (Lm++[⟨4,2,62,1,j,0⟩]=L2++(tys.take (m+1)).flatMap (twF j y)):=by
         show _=_
         rw[htw.out,if_pos hyz,hLm.out,zR]
        replace hyz:=Hd hyz;go_upto_region 19 with fail
        go_quiet (fail);have hI1:=Hd (hI.out.stay (below_drewN bR nq));have hsk3:=hI1.out.fo.hb.size;go_wp2_with (first
         |(go_at_call 95;refine(kf.out 2 62 j _).mono ?_;rintro e W ⟨rfl,hW⟩;have hI2:=Hd (hI1.out.stay hW);clear hW)
         |(at_builtin;refine wpB rfl (.tmp 76) (.tmp 79) _ rfl (m:=1) (news:=fgD ⟨4,2,62,1,j,0⟩) elFg (hI2.out.fo.ol.alloc _) rfl rfl (Src.lit (rdlFg ⟨4,2,62,1,j,0⟩)) rfl (big63 hbg.out) (bigBy hbg.out) (by have:=hI2.out.fo.hb.size;simp;omega) ?_;intro v' w1 hO1 hg1 ha1;obtain⟨B3,d3,rfl⟩:=hO1.form;have hI3:=Hd (hI2.out.app (f:=⟨4,2,62,1,j,0⟩) hg1 hO1);clear hO1 hg1 ha1))
        go_roundw
        case rel=>exact⟨m+1,_,oQ,gQ,hnx2,hI3.out⟩
        case measure=>exact mQ
       ·have hu2:(y.toList==z.toList)=false:=(by rw[bqb];exact zV hyz);have hnx2:Hid (Lm=L2++(tys.take (m+1)).flatMap (twF j y)):=by
         show _=_
         rw[htw.out,if_neg hyz,zT,hLm.out]
        replace hyz:=Hd hyz;go_upto_region 19 with fail
        go_quiet (fail);have hI1:=Hd (hI.out.stay (below_drewN bR nq));go_wp2;go_roundw
        case rel=>exact⟨m+1,Lm,oQ,gQ,hnx2,hI1.out⟩
        case measure=>exact mQ
      ·have f1:¬(m:Int)<(k:Int):=oQ;obtain rfl:m=k:=oQ;have hfn:Hid (Lm=L++mapI (tyF l tys j) 0 (tys.take (m+1))):=by show _=_;rw[hLk3.out,hLm.out]
       replace hI:=Hd hI;go_wp2;go_roundw
       case rel=>exact⟨m+1,Lm,oQ,gQ,hfn,hI.out⟩
       case measure=>exact mQ
    ·have g4':¬(k:Int)<tys.length:=oQ;obtain rfl:k=tys.length:=oQ;have hLe:Lk=L++mapI (tyF l tys j) 0 tys:=by have:=hLk.out;rwa [zL]at this
     have hend:preF q++mapI (itF l q) 0 (q.items.take (j+1))=Lk++((if repBad ⟨neg,tys,iv,lo,hi⟩then [⟨4,3,63,1,j,0⟩]else [])++(if itemI q iv<(j:Int)then [⟨4,4,64,1,j,0⟩]else [])):=(by rw[hLn.out,hitF.out,hLe,zR]);clear hLe;obtain⟨rb,hrb⟩:∃b,b=decide (repBad ⟨neg,tys,iv,lo,hi⟩):=⟨_,rfl⟩
     have hif:(if repBad ⟨neg,tys,iv,lo,hi⟩then [(⟨4,3,63,1,j,0⟩:Fg)]else [])=if rb=true then [⟨4,3,63,1,j,0⟩]else []:=by rw[hrb];simp
     rw[hif]at hend;clear hif;have hrb2:rb=decide (lo<1∨hi<lo∨4<hi):=by rw[hrb];unfold repBad;rfl
     clear hrb;have k2':=fun W hW=>k2.out iv W hW
     obtain⟨ii,hii⟩:∃a,a=itemI q iv:=⟨_,rfl⟩
     rw[←hii]at k2' hend;replace hend:=Hd hend;replace k2':=Hd k2';replace hii:=Hd hii;replace hI:=Hd hI;go_upto_region 21 with fail
     go_cut [95] (fun s wx=>s=.bool rb∧FI l A c q ⟨some ⟨g,off,none⟩,c1,A2,c2,A3,c3⟩ ⟨neg,tys,iv,lo,hi⟩ (.slice B2 tys.length d2) gi w wx (.slice A6 Lk.length c6) Lk)
     case first=>
      by_cases p1:lo<1
      ·have e:rb=true:=(by rw[hrb2];exact zW (.inl p1));subst e;replace hrb2:=Hd hrb2;go_wp2
       all_goals(go_meet;exact⟨rfl,hI.out⟩)
      by_cases p2:hi<lo
      ·have e:rb=true:=(by rw[hrb2];exact zW (.inr (.inl p2)));subst e;replace hrb2:=Hd hrb2;go_wp2
       all_goals(go_meet;exact⟨rfl,hI.out⟩)
      by_cases p3:4<hi
      ·have e:rb=true:=(by rw[hrb2];exact zW (.inr (.inr p3)));subst e;replace hrb2:=Hd hrb2;go_wp2
       all_goals(go_meet;exact⟨rfl,hI.out⟩)
      ·have e:rb=false:=(by rw[hrb2];exact zV oQ);subst e;replace hrb2:=Hd hrb2;go_wp2
       all_goals(go_meet;exact⟨rfl,hI.out⟩)
     case rest=>
     obtain⟨rfl,hI2⟩:=hcut;clear y0 y1 y2 y3 y4 y5 hI;have hI:=Hd hI2;clear hI2;replace hrb2:=Hd hrb2;go_upto_if 95 with fail
     go_cut [5] (fun v wx=>∃L2,Hid (L2=Lk++if rb=true then [⟨4,3,63,1,j,0⟩]else [])∧FI l A c q ⟨some ⟨g,off,none⟩,c1,A2,c2,A3,c3⟩ ⟨neg,tys,iv,lo,hi⟩ (.slice B2 tys.length d2) gi w wx v L2)
     case first=>
      cases rb with
      |true=>
       have hbg:Lk.length+1≤BigF:=(by unfold BigF;omega);replace hbg:=Hd hbg;go_wp2_with (first
        |(go_at_call 95;refine(kf.out 3 63 j _).mono ?_;rintro e W ⟨rfl,hW⟩;have hI2:=Hd (hI.out.stay hW);clear hW)
        |(at_builtin;refine wpB rfl (.tmp 96) (.tmp 99) _ rfl (m:=1) (news:=fgD ⟨4,3,63,1,j,0⟩) elFg (hI2.out.fo.ol.alloc _) rfl rfl (Src.lit (rdlFg ⟨4,3,63,1,j,0⟩)) rfl (big63 hbg.out) (bigBy hbg.out) (by have:=hI2.out.fo.hb.size;simp;omega) ?_;intro v' w1 hO1 hg1 ha1;obtain⟨B3,d3,rfl⟩:=hO1.form;have hI3:=Hd (hI2.out.app (f:=⟨4,3,63,1,j,0⟩) hg1 hO1);clear hO1 hg1 ha1))
       all_goals(go_meet;exact⟨_,rfl,hI3.out⟩)
      |false=>
       go_wp2
       all_goals(go_meet;exact⟨_,(zT Lk).symm,hI.out⟩)
     case rest=>
     obtain⟨L2,hL2,hI2⟩:=hcut;have hL2l:L2.length≤2199027450882:=by
      rw[hL2.out,zH];have:(if rb=true then [(⟨4,3,63,1,j,0⟩:Fg)]else []).length≤1:=if_len _;omega
     have hend2:preF q++mapI (itF l q) 0 (q.items.take (j+1))=L2++(if ii<(j:Int)then [⟨4,4,64,1,j,0⟩]else []):=(by rw[hend.out,hL2.out,zR]);clear hend hI;have hbg:L2.length+1≤BigF:=by unfold BigF;omega
     obtain⟨A8,c8,rfl⟩:=hI2.fo.ol.form;obtain⟨x0,x1,x2,x3,x4,x5,x6⟩:=qbc hI2.fo.sq.b1;obtain⟨_,_,y2,_,_⟩:=hI2.cells;simp only at x0 x3 x6 y2;have k3:=Hd (k2'.out _ hI2.fo.hb);have hsk4:=hI2.fo.hb.size;have hI:=Hd hI2;clear hI2;replace hbg:=Hd hbg;by_cases hlj:ii<(j:Int)
     ·rw[if_pos hlj]at hend2;replace hend2:=Hd hend2;go_wp2_with (first
       |(go_at_call 97;refine k3.out.mono ?_;rintro e W ⟨rfl,hW⟩;have hI2:=Hd (hI.out.stay hW);clear hW)
       |(go_at_call 95;refine(kf.out 4 64 j _).mono ?_;rintro e W ⟨rfl,hW⟩;have hI3:=Hd (hI2.out.stay hW);clear hW)
       |(at_builtin;refine wpB rfl (.tmp 108) (.tmp 111) _ rfl (m:=1) (news:=fgD ⟨4,4,64,1,j,0⟩) elFg (hI3.out.fo.ol.alloc _) rfl rfl (Src.lit (rdlFg ⟨4,4,64,1,j,0⟩)) rfl (big63 hbg.out) (bigBy hbg.out) (by have:=hI3.out.fo.hb.size;simp;omega) ?_;intro v' w1 hO1 hg1 ha1;obtain⟨B3,d3,rfl⟩:=hO1.form;have hI4:=Hd (hI3.out.app (f:=⟨4,4,64,1,j,0⟩) hg1 hO1);clear hO1 hg1 ha1))
      go_roundw
      case rel=>exact OIRel.mk (j+1) oQ gQ (by rw[hnx.out]) (by rw[hend2.out];exact hI4.out.fo)
      case measure=>exact mQ
     ·rw[if_neg hlj,zT]at hend2;replace hend2:=Hd hend2;go_wp2_with (go_at_call 97;refine k3.out.mono ?_;rintro e W ⟨rfl,hW⟩;have hI2:=Hd (hI.out.stay hW);clear hW);go_roundw
      case rel=>exact OIRel.mk (j+1) oQ gQ (by rw[hnx.out]) (by rw[hend2.out];exact hI2.out.fo)
      case measure=>exact mQ
  ·have g1:¬(j:Int)<q.items.length:=oQ;obtain rfl:j=q.items.length:=oQ;have hpe:=posB_end q;rw[hpe];have hLe:R0=L++if q.items.all (·.neg)=true then [⟨5,0,65,1,0,0⟩]else []:=by rw[hR0'.out,hL,zL,zR]
   generalize (q.items.all (·.neg))=an at*;have hsk:=hI.hb.size;have hbg:L.length+1≤BigF:=by unfold BigF;omega
   replace hbg:=Hd hbg;replace hI:=Hd hI;replace hL:=Hd hL;clear hpe;cases an with
   |true=>
    have hfin:Hid (L++[⟨5,0,65,1,0,0⟩]=R0):=hLe.symm;clear hLe;go_wp2_with (first
     |(go_at_call 95;refine(k65.out _).mono ?_;rintro e W ⟨rfl,hW⟩;have hI2:=Hd (hI.out.stay hW);clear hW)
     |(at_builtin;refine wpB rfl (.tmp 115) (.tmp 117) _ rfl (m:=1) (news:=fgD ⟨5,0,65,1,0,0⟩) elFg (hI2.out.ol.alloc _) rfl rfl (Src.lit (rdlFg ⟨5,0,65,1,0,0⟩)) rfl (big63 hbg.out) (bigBy hbg.out) (by have:=hI2.out.hb.size;simp;omega) ?_;intro v' w1 hO1 hg1 ha1;obtain⟨B3,d3,rfl⟩:=hO1.form;have hI3:=Hd (hI2.out.app (f:=⟨5,0,65,1,0,0⟩) hg1 hO1);clear hO1 hg1 ha1))
    go_ret;exact FgPost.mk hfin.out hI3.out.ol hI3.out.hb
   |false=>
    have hfin:Hid (L=R0):=by show _=_;rw[hLe];simp
    clear hLe;go_wp2;go_ret;exact FgPost.mk hfin.out hI.out.ol hI.out.hb
end ckW
end Go.Proofs.YthaabihjeomipaaGreatDoor
