/- The world of the program's Lines. -/
import Derived.Test.YthaabihjeomipaaGreatDoorQMa
import Derived.Test.YthaabihjeomipaaGreatDoorQN8
import Derived.Lib.Join
namespace Go.Proofs.YthaabihjeomipaaGreatDoor
set_option maxRecDepth 100000
set_option maxHeartbeats 16000000
open Go.RowKit Go.Deep Go.Maps
set_option linter.unusedVariables false
set_option linter.unusedSimpArgs false
theorem MapP.chg {w w':World}{m n:Nat}{f:Int→Option Nat}{S:Nat→Prop}(h:MapP w m n f)(hc:Chg S w w')(hm:¬S m):MapP w' m n f:=by
 have hlt:=h.lt;obtain⟨D,⟨es,clock,hb,F,hs,hD⟩,h2⟩:=h;exact⟨D,⟨es,clock,(hc.block m hlt hm).trans hb,F,hs,hD⟩,h2⟩
theorem MapP.neBlk {w:World}{m n g t:Nat}{f:Int→Option Nat}{cs:List Value}(h:MapP w m n f)(hb:Blk w g t cs):m≠g:=by
 rintro rfl;obtain⟨D,⟨es,clock,h1,_⟩,_⟩:=h;have:=h1.symm.trans hb;cases this
theorem OL.cells {w:World}{B e size n:Nat}{F:Nat→Prop}{v:Value}{ds:List D}(h:OL w B F e size v n ds){k:Nat}(hk:v.ownBlock=some k):∃cur,w.heap[k]? =some (.cells cur e (0,0)):=by
 obtain⟨cells,⟨_,h5⟩,_⟩:=h;rcases h5 with⟨rfl,rfl⟩|⟨g,cap,cur,rfl,hb,hgg,rest⟩
 ·cases hk
 ·injection hk with hk
  subst hk;exact⟨_,hgg⟩
theorem MapP.neRow {w:World}{m n B e size k:Nat}{f:Int→Option Nat}{F:Nat→Prop}{v:Value}{ds:List D}(h:MapP w m n f)(hO:OL w B F e size v k ds):v.ownBlock≠some m:=by
 intro hk;obtain⟨cur,h2⟩:=hO.cells hk;obtain⟨D,⟨es,clock,h1,_⟩,_⟩:=h;have:=h1.symm.trans h2;cases this
def slI (s:Nat):Int:=((s / 2:Nat):Int) -1
def slO (s:Nat):Bool:=s % 2==0
def slR (R:List Rw)(s:Nat):List ByteArray:=selR R (slI s) (slO s)
def slT (r:Rw):Nat:=2*(r.at_+1).toNat+if r.own=true then 0 else 1
theorem slT_iff {r:Rw}(h: -1≤r.at_)(s:Nat):(r.at_=slI s∧r.own=slO s)↔s=slT r:=by
 obtain⟨tx,a,o⟩:=r;simp only at h;unfold slI slO slT;cases o
 ·simp only[Bool.false_eq_true,if_false];rw[show(false=(s % 2==0))↔¬s % 2=0 from by
   rw[eq_comm,xV]]
  omega
 ·simp only[if_true];rw[show(true=(s % 2==0))↔s % 2=0 from by
   rw[eq_comm,beq_iff_eq]]
  omega
theorem slR_snoc {R:List Rw}{r:Rw}(h: -1≤r.at_)(s:Nat):slR (R++[r]) s=slR R s++if s=slT r then [r.tx]else []:=by
 unfold slR;rw[selR_snoc];congr 1;by_cases c:s=slT r
 ·rw[if_pos c,if_pos ((slT_iff h s).2 c)]
 ·rw[if_neg c,if_neg (fun h2=>c ((slT_iff h s).1 h2))]
theorem slR_len (R:List Rw)(s:Nat):(slR R s).length≤R.length:=by
 unfold slR selR;rw[xC];exact List.length_filter_le _ _
def hfN (n:Nat)(H:Nat→Nat)(i:Int):Option Nat:=if -1≤i∧i+1<(n:Int)then some (H (i+1).toNat)else none
theorem hfN_next (n:Nat)(H:Nat→Nat)(g:Nat):(fun j=>if j=(n:Int) -1 then some g else hfN n H j)=hfN (n+1) (fun k=>if k=n then g else H k):=by
 funext j
 unfold hfN;by_cases h1:j=(n:Int) -1
 ·subst h1;rw[if_pos rfl,if_pos oQ];show some g=some (if((n:Int) -1+1).toNat=n then g else H _)
  rw[if_pos oQ]
 ·rw[if_neg h1];by_cases h2: -1≤j∧j+1<(n:Int)
  ·rw[if_pos h2,if_pos oQ];show _=some (if(j+1).toNat=n then g else H _)
   rw[if_neg oQ]
  ·rw[if_neg h2,if_neg oQ]
theorem hfN_at {n:Nat}{H:Nat→Nat}{i:Int}(h0: -1≤i)(h1:i+1<(n:Int)):hfN n H i=some (H (i+1).toNat):=if_pos ⟨h0,h1⟩
structure PI (B m n:Nat)(lv:Nat→Prop)(H:Nat→Nat)(V:Nat→Value)(R:List Rw)(W:World):Prop where
 mp:MapP W m n (hfN n H)
 mB:B≤m
 bk:∀k,k<n→Blk W (H k) 79 [V (2*k),V (2*k+1)]
 hB:∀k,k<n→B≤H k
 hi:∀k k',k<n→k'<n→H k=H k'→k=k'
 ol:∀s,s<2*n→lv s→OL W B NoF 9 1 (V s) (slR R s).length ((slR R s).flatMap strD)
 df:∀s t,s<2*n→t<2*n→lv s→lv t→s≠t→(V s).ownBlock=none∨(V s).ownBlock≠(V t).ownBlock
section
variable {B m n:Nat}{lv lv':Nat→Prop}{H:Nat→Nat}{V:Nat→Value}{R:List Rw}{W W' w1:World}
theorem PI.chg {S:Nat→Prop}(h:PI B m n lv H V R W)(hc:Chg S W W')(hlv:∀t,lv' t→lv t)(hm:¬S m)(hH:∀k,k<n→¬S (H k))(hV:∀s b,s<2*n→lv' s→(V s).ownBlock=some b→¬S b):PI B m n lv' H V R W':=
 ⟨h.mp.chg hc hm,h.mB,fun k hk=>(h.bk k hk).chg hc (hH k hk),h.hB,h.hi,fun s hs hl=>(h.ol s hs (hlv s hl)).chg hc (fun b hb=>hV s b hs hl hb) (fun b hb=>hb.elim),fun s t hs ht h1 h2 hne=>h.df s t hs ht (hlv s h1) (hlv t h2) hne⟩
theorem PI.stay (h:PI B m n lv H V R W)(hb:Bw W W'):PI B m n lv H V R W':=h.chg (Chg.of_below hb) (fun _ x=>x) id (fun _ _=>id) (fun _ _ _ _ _=>id)
theorem PI.grow {g:Nat}(h:PI B m n lv H (fun _=>.slice none 0 0) [] W)(hb:Bw W w1)(hg:W.heap.size≤g)(hk:Blk w1 g 79 [.slice none 0 0,.slice none 0 0])(hm:MapP W' m (n+1) (fun j=>if j=(n:Int) -1 then some g else hfN n H j))(hgr:w1.grownBy W' (some m))(hBg:B≤g):
  PI B m (n+1) lv (fun k=>if k=n then g else H k) (fun _=>.slice none 0 0) [] W':=by
 have hml:=h.mp.lt;rw[hfN_next]at hm;have ne:∀k,k<n→H k≠g:=fun k hk e=>by have:=(h.bk k hk).lt;omega
 have hs:∀t,OL W' B NoF 9 1 (.slice none 0 0) (slR [] t).length ((slR [] t).flatMap strD):=fun t=>OL.nil _ _ _ _ _
 refine⟨hm,h.mB,fun k hk2=>?_,fun k hk2=>?_,fun k k' h1 h2 e=>?_,fun s _ _=>hs s,fun s t _ _ _ _ _=>.inl rfl⟩
 ·by_cases c:k=n
  ·subst c;show Blk W' (if k=k then g else H k) _ _
   rw[if_pos rfl];exact hk.grown hgr (fun e=>by injection e with e;omega)
  ·show Blk W' (if k=n then g else H k) _ _
   rw[if_neg c];have hb1:=h.bk k oQ;exact(hb1.stay hb).grown hgr (fun e=>by injection e with e;exact h.mp.neBlk hb1 e.symm)
 ·show B≤if k=n then g else H k
  by_cases c:k=n
  ·rw[if_pos c];exact hBg
  ·rw[if_neg c];exact h.hB k oQ
 ·replace e:(if k=n then g else H k)=(if k'=n then g else H k'):=e;by_cases c:k=n
  ·by_cases c':k'=n
   ·omega
   ·rw[if_pos c,if_neg c']at e;exact absurd e.symm (ne k' oQ)
  ·by_cases c':k'=n
   ·rw[if_neg c,if_pos c']at e;exact absurd e (ne k oQ)
   ·rw[if_neg c,if_neg c']at e;exact h.hi k k' oQ oQ e
def updV (V:Nat→Value)(s:Nat)(v:Value):Nat→Value:=fun t=>if t=s then v else V t
theorem PI.app {s:Nat}{v':Value}{x:ByteArray}{r:Rw}(h:PI B m n (fun _=>True) H V R W)(hs:s<2*n)(hr:slT r=s)(hx:r.tx=x)(h0: -1≤r.at_)(hg:W.grownBy w1 (V s).ownBlock)(hO:OL w1 B NoF 9 1 v' ((slR R s).length+1) ((slR R s).flatMap strD++strD x))(ha:v'.ownBlock=(V s).ownBlock∨v'.ownBlock=some W.heap.size):
  PI B m n (fun _=>True) H (updV V s v') (R++[r]) (w1.setCell ⟨H (s / 2),s % 2,none⟩ v'):=by
 have hk2:s / 2<n:=oQ;have hOs:=h.ol s hs trivial;have nb:∀k,k<n→some (H k)≠(V s).ownBlock:=fun k hk e=>hOs.neBlk (h.bk k hk) dQ e.symm
 have b1:∀k,k<n→Blk w1 (H k) 79 [V (2*k),V (2*k+1)]:=fun k hk=>(h.bk k hk).grown hg (nb k hk)
 have ne2:∀t,t<2*n→t≠s→(V t).ownBlock=none∨(V t).ownBlock≠(V s).ownBlock:=fun t ht e=>h.df t s ht hs trivial trivial e
 have o1:∀t,t<2*n→t≠s→OL w1 B NoF 9 1 (V t) (slR R t).length ((slR R t).flatMap strD):=fun t ht e=>(h.ol t ht trivial).kept hg (ne2 t ht e) (fun b hb=>hb.elim)
 have ltV:∀t k,t<2*n→(V t).ownBlock=some k→k<W.heap.size:=fun t k ht e=>((h.ol t ht trivial).lt k e).2
 have ne3:∀t,t<2*n→t≠s→(V t).ownBlock=none∨(V t).ownBlock≠v'.ownBlock:=fun t ht e=>by
  rcases ha with ha |ha
  ·rw[ha];exact ne2 t ht e
  ·cases e2:(V t).ownBlock with
   |none=>exact .inl rfl
   |some k=>rw[ha];refine .inr fun e3=>?_;injection e3 with e3;have:=ltV t k ht e2;omega
 refine⟨(h.mp.kept hg (fun e=>h.mp.neRow hOs e.symm)).setCell (h.mp.neBlk (h.bk _ hk2)) _,h.mB,fun k hk=>?_,h.hB,h.hi,fun t ht _=>?_,fun t u ht hu _ _ hne=>?_⟩
 ·by_cases c:k=s / 2
  ·subst c;have h3:=(b1 _ hk2).set_ (s % 2) v';rcases Nat.mod_two_eq_zero_or_one s with e |e
   ·have e2:2*(s / 2)=s:=oQ;rw[e]at h3 ⊢;rw[e2]at h3 ⊢;unfold updV;rw[if_pos rfl,if_neg oQ];exact h3
   ·have e2:2*(s / 2)+1=s:=oQ;rw[e]at h3 ⊢;rw[e2]at h3 ⊢;unfold updV;rw[if_pos rfl,if_neg oQ];exact h3
  ·have h3:=(b1 k hk).far (p:=⟨H (s / 2),s % 2,none⟩) (fun e=>c (h.hi k _ hk hk2 e)) v';unfold updV;rw[if_neg oQ,if_neg oQ];exact h3
 ·rw[slR_snoc h0,hr,hx];unfold updV;by_cases c:t=s
  ·subst c;rw[if_pos rfl,if_pos rfl,zH,xD];have:=hO.setCell (p:=⟨H (t / 2),t % 2,none⟩) (hO.neBlk (b1 _ hk2) dQ) (fun h=>h) v';simpa using this
  ·rw[if_neg c,if_neg c,zT];exact(o1 t ht c).setCell (p:=⟨H (s / 2),s % 2,none⟩) ((o1 t ht c).neBlk (b1 _ hk2) dQ) (fun h=>h) v'
 ·unfold updV;by_cases c:t=s
  ·rw[if_pos c,if_neg (fun e=>hne (c.trans e.symm))];rcases ne3 u hu (fun e=>hne (c.trans e.symm))with e |e
   ·rw[e];cases e2:v'.ownBlock with
    |none=>exact .inl rfl
    |some k=>exact .inr sJ
   ·exact .inr (Ne.symm e)
  ·rw[if_neg c];by_cases c':u=s
   ·rw[if_pos c'];exact ne3 t ht c
   ·rw[if_neg c'];exact h.df t u ht hu trivial trivial hne
end
structure PW (l:List Td)(A:Option Addr)(c:Nat)(q:Qy)(s:Sl3)(w:World)(m g:Nat)(H:Nat→Nat)(V:Nat→Value)(lv:Nat→Prop)(v:Value)(L:List ByteArray)(W:World):Prop where
 sq:SQ l A c q s w W
 pi:PI w.heap.size m (q.items.length+1) lv H V (rowsQ q) W
 ew:EW w.heap.size g W v L
 sp:∀t,t<2*(q.items.length+1)→lv t→v.ownBlock=none∨v.ownBlock≠(V t).ownBlock
section
variable {l:List Td}{A:Option Addr}{c:Nat}{q:Qy}{s:Sl3}{w W W':World}{m g:Nat}{H:Nat→Nat}{V:Nat→Value}{lv lv':Nat→Prop}{v v':Value}{L L':List ByteArray}{x:ByteArray}
theorem PW.go {S:Nat→Prop}(h:PW l A c q s w m g H V lv v L W)(hc:Chg S W W')(hS:∀b,S b→b=g∨v.ownBlock=some b∨∃t,t<2*(q.items.length+1)∧lv t∧¬lv' t∧(V t).ownBlock=some b)(hlv:∀t,lv' t→lv t)(he:EW w.heap.size g W' v' L')(ho:v'.ownBlock=v.ownBlock∨∃k,v'.ownBlock=some k∧W.heap.size≤k):
  PW l A c q s w m g H V lv' v' L' W':=by
 have nS:∀b t cs,Blk W b t cs→t≠9→t≠86→¬S b:=fun b t cs hb h1 h2 hs=>by
  rcases hS b hs with rfl |e |⟨u,hu,hl,_,e⟩
  ·exact blk_ne hb h.ew.bx (fun e=>h2 e.symm) rfl
  ·exact h.ew.ol.neBlk hb (fun e=>h1 e.symm) e
  ·exact(h.pi.ol u hu hl).neBlk hb (fun e=>h1 e.symm) e
 have hB:∀k,k<w.heap.size→¬S k:=fun k hk hs=>by
  rcases hS k hs with rfl |e |⟨u,hu,hl,_,e⟩
  ·have:=h.ew.lo;omega
  ·have:=(h.ew.ol.lt k e).1;omega
  ·have:=((h.pi.ol u hu hl).lt k e).1;omega
 refine⟨⟨h.sq.hb.trans (hc.below h.sq.hb.size hB),h.sq.b0.chg hc (nS _ _ _ h.sq.b0 dQ dQ),h.sq.b1.chg hc (nS _ _ _ h.sq.b1 dQ dQ)⟩,h.pi.chg hc hlv ?_ (fun k hk=>nS _ _ _ (h.pi.bk k hk) dQ dQ) (fun t b ht hl e hs=>?_),he,fun t ht hl=>?_⟩
 ·intro hs;rcases hS m hs with e |e |⟨u,hu,hl,_,e⟩
  ·exact h.pi.mp.neBlk h.ew.bx e
  ·exact h.pi.mp.neRow h.ew.ol e
  ·exact h.pi.mp.neRow (h.pi.ol u hu hl) e
 ·rcases hS b hs with rfl |e2 |⟨u,hu,hl2,hn,e2⟩
  ·exact(h.pi.ol t ht (hlv t hl)).neBlk h.ew.bx dQ e
  ·rcases h.sp t ht (hlv t hl)with e3 |e3
   ·rw[e3]at e2;cases e2
   ·exact e3 (e2.trans e.symm)
  ·rcases h.pi.df t u ht hu (hlv t hl) hl2 (fun e=>hn (e▸hl))with e3 |e3
   ·rw[e3]at e;cases e
   ·exact e3 (e.trans e2.symm)
 ·rcases ho with ho |⟨k,ho,hk⟩
  ·rw[ho];exact h.sp t ht (hlv t hl)
  ·refine .inr fun e=>?_
   rw[ho]at e;have:=((h.pi.ol t ht (hlv t hl)).lt k e.symm).2;omega
theorem PW.stay (h:PW l A c q s w m g H V lv v L W)(hb:Bw W W'):PW l A c q s w m g H V lv v L W':=
 h.go (Chg.of_below hb) (fun _ h=>h.elim) (fun _ h=>h) (h.ew.stay hb) (.inl rfl)
theorem PW.add (h:PW l A c q s w m g H V lv v L W)(he:EW w.heap.size g W' v' L')(hf:EwF g v v' W W'):PW l A c q s w m g H V lv v' L' W':=by
 obtain⟨f1,f2,f3,wm,f5,rfl⟩:=hf;refine h.go (S:=fun k=>k=g∨some k=v.ownBlock) (lv':=lv) (((Chg.of_grown f5).mono fun k _ e=>.inr e).setCell (.inl rfl) _) (fun b hb=>hb.elim .inl fun e=>.inr (.inl e.symm)) (fun _ h=>h) he f1
theorem PW.lay {t:Nat}{B:Nat}(h:PW l A c q s w m g H V lv v L W)(ht:t<2*(q.items.length+1))(hl:lv t)(hn:¬lv' t)(hlv:∀t,lv' t→lv t)(he:EW w.heap.size g W' v' L')(hb:Below B W W')(ho:v'.ownBlock=v.ownBlock∨∃k,v'.ownBlock=some k∧W.heap.size≤k)(hf:SdF g v (V t) W W'):PW l A c q s w m g H V lv' v' L' W':=by
 refine h.go (S:=fun k=>k=g∨some k=v.ownBlock∨some k=(V t).ownBlock) ⟨hb.os,hb.tape,hb.output,hf.1,fun k hk hs=>hf.2 k hk (fun e=>hs (.inl e)) (fun e=>hs (.inr (.inl e))) (fun e=>hs (.inr (.inr e)))⟩ (fun b hb=>?_) hlv he ho;rcases hb with e |e |e
 ·exact .inl e
 ·exact .inr (.inl e.symm)
 ·exact .inr (.inr ⟨t,ht,hl,hn,e.symm⟩)
end
open Go.RowKit Go.Deep Go.Sort
theorem jn_lib (s x:ByteArray)(r:List ByteArray):(jnW s (x::r)).data.toList=Lib.join (ofB (x::r)) s.data.toList:=by
 have key:∀(r:List ByteArray)(a:ByteArray),(r.foldl (fun a y=>a++s++y) a).data.toList=a.data.toList++Lib.joinTail s.data.toList (ofB r):=by
  intro r;induction r with
  |nil=>intro a;simp[Lib.joinTail,ofB]
  |cons y t ih=>
   intro a;rw[List.foldl_cons,ih];simp[Lib.joinTail,ofB,ByteArray.data_append,zR]
 show(r.foldl (fun a y=>a++s++y) x).data.toList=_
 rw[key];show _=Lib.join (x.data.toList::ofB r) _
 rw[Lib.join_cons]
theorem jnW_lib (s:ByteArray)(l:List ByteArray)(h:l≠ []):(⟨(Lib.join (l.map (·.data.toList)) s.data.toList).toArray⟩:ByteArray)=jnW s l:=by
 obtain⟨x,r,rfl⟩:∃x r,l=x::r:=by cases l with |nil=>exact absurd rfl h |cons x r=>exact⟨x,r,rfl⟩
 have:=jn_lib s x r;unfold ofB at this;rw[←this]
def szS (l:List ByteArray):Nat:=(l.map fun x=>x.size+1).sum
theorem szS_app (a b:List ByteArray):szS (a++b)=szS a+szS b:=by unfold szS;rw[xR,List.sum_append]
theorem szS_le {l:List ByteArray}{b:Nat}(h:∀x∈l,x.size≤b):szS l≤(b+1)*l.length:=by
 induction l with
 |nil=>exact zE _
 |cons x r ih=>
  have h1:=ih fun y hy=>h y (xU _ hy)
  have h2:=h x (xS ..);show x.size+1+szS r≤(b+1)*(r.length+1)
  rw[Nat.mul_succ];omega
theorem jnW_sz {s:ByteArray}(hs:s.size=1)(l:List ByteArray):(jnW s l).size≤szS l:=by
 have key:∀(r:List ByteArray)(a:ByteArray),(r.foldl (fun a y=>a++s++y) a).size=a.size+szS r:=by
  intro r;induction r with
  |nil=>intro a;rfl
  |cons y t ih=>
   intro a;rw[List.foldl_cons,ih,ByteArray.size_append,ByteArray.size_append,hs];show _=a.size+(y.size+1+szS t)
   omega
 cases l with
 |nil=>exact zE _
 |cons x r=>
  show(r.foldl (fun a y=>a++s++y) x).size≤_
  rw[key];show _≤x.size+1+szS r
  omega
theorem ms_ss {l:List ByteArray}(h:l.Nodup):SS (msB l):=by
 have h1:=sorted_ms (ofB l);have h2:(ofB l).Nodup:=by
  unfold ofB;unfold List.Nodup at h ⊢;rw[List.pairwise_map];exact h.imp fun hne e=>hne (ba_ext e)
 have h3:((ofB l).mergeSort leS).Nodup:=(List.mergeSort_perm _ _).nodup_iff.2 h2;unfold SS msB toB;rw[List.pairwise_map];refine(h1.and h3).imp fun {a b} hab=>?_
 unfold ltB;obtain⟨h4,h5⟩:=hab;show a<b
 rcases Classical.em (a<b)with h6 |h6
 ·exact h6
 ·exact absurd (List.le_antisymm h4 (List.not_lt.1 h6)) h5
theorem mem_ms {l:List ByteArray}{x:ByteArray}:x∈msB l↔x∈l:=by
 unfold msB;rw[mem_toB,List.mem_mergeSort,mem_ofB]
theorem ms_srt {l:List ByteArray}(h:l.Nodup):msB l=srt l:=srt_uniq (ms_ss h) fun _=>mem_ms
theorem ln_nd {S:List Td}{q:Qy}(h:checkC (scC S) S q=0):∀x∈q.items,x.tys.Nodup:=fun x hx=>by
 have hz:=fz_inv h;have z3:itemsC S q=0:=hz _ sJ;obtain⟨i,hxi⟩:=zN hx;have h2:=((items_ok z3).2 i x hxi).1;unfold itemC at h2;by_cases c1:(x.tys.any fun n=>decide (noTy S n))=true
 ·rw[if_pos c1]at h2;omega
 rw[if_neg c1]at h2;by_cases c2:¬x.tys.Nodup
 ·rw[if_pos c2]at h2;omega
 exact Classical.byContradiction fun h3=>c2 h3
namespace shW
open nmW ckW
theorem cloneSt_k (A:Option Addr)(c:Nat)(F:Nat→Prop)(l:List ByteArray)(hl:l.length≤1048576)(w:World)(r:Rd w F (.slice A l.length c) (.sl l.length (l.flatMap strD))):
  Calls Tryz.prog 43 #[.slice A l.length c] w fun e w'=>∃v,e=.returned v∧OL w' w.heap.size NoF 9 1 v l.length (l.flatMap strD)∧Bw w w':=by
 have hl1:=strD_len l;have hcmp:∀(W:World)(a:Option Addr)(n c:Nat),(binOp .eql 42 (.slice a n c) (.slice none 0 0)).run Tryz.prog W=.ok (.bool a.isNone) W:=fun W a n c=>Lib.run_eql_slice_nil W _ _ a n c 0 0 Tryz.underlying42
 cases A with
 |none=>
  obtain rfl:l=[]:=by
   cases l with
   |nil=>rfl
   |cons a l=>obtain⟨b,off,e,_⟩:=r.cells (by simp[strD]);cases e
  go_enter Tryz.func43,Tryz.ntmps43;go_wp2;go_ret;exact⟨_,rfl,.nil _ _ _ _ _,.refl _ _⟩
 |some a=>
  have r1:=r.alloc (.cells #[] 9);go_enter Tryz.func43,Tryz.ntmps43;go_wp2_with (at_builtin;refine wpa rfl (.tmp 5) (.tmp 6) _ rfl (m:=l.length) (news:=l.flatMap strD) elStr (OLe w 9 1) rfl rfl (Rd.srcq (PlainL.flatMap strD_pl l) r1) hl1 oQ oQ sJ ?_;intro v1 w1 hO1 hg1 ha1;have hb1:Bw w w1:=(bA).grown hg1 sJ (fun q hq=>by simp[Value.ownBlock]at hq;omega));go_ret;exact⟨_,rfl,by simpa using hO1,hb1⟩
theorem join_s (B:Nat)(v:Value)(l:List ByteArray)(s:ByteArray)(w:World)(hs:s.size=1)(O:OL w B NoF 9 1 v l.length (l.flatMap strD))(hl:l.length≤67108864)(hz:szS l≤140737488355328):
  Calls Tryz.prog 23 #[v,.string s] w (StP (jnW s l) w):=by
 by_cases hn:l=[]
 ·subst hn;obtain⟨A,c,rfl⟩:=O.form;refine(Tryz.strings_Join_none A c s w).mono ?_;rintro e w' ⟨rfl,rfl⟩;exact⟨rfl,bR⟩
 ·obtain⟨g,cap,rest,rfl,hg,hb,hup⟩:=O.sw hn;have hcap:l.length≤cap:=by
   obtain⟨cs,_,hb2,hnc,hm,hln,_⟩:=O.blk;exact hnc
  have hjl:(Lib.join (l.map (·.data.toList)) s.data.toList).length≤140737488355328:=by
   obtain⟨x,r,rfl⟩:∃x r,l=x::r:=by cases l with |nil=>exact absurd rfl hn |cons x r=>exact⟨x,r,rfl⟩
   have h1:=jn_lib s x r;have h2:=jnW_sz hs (x::r);have h3:(Lib.join ((x::r).map (·.data.toList)) s.data.toList).length=(jnW s (x::r)).size:=by
    show(Lib.join (ofB (x::r)) _).length=_
    rw[←h1];rfl
   omega
  refine(Tryz.strings_Join g 0 cap l s w (fun j x hx=>?_) hb.lt oQ hcap hjl).mono ?_
  ·rw[Nat.zero_add,hb.cell,zS (by rw[sV_len];exact(zC.1 hx).1)];unfold sV;rw[zG,hx];rfl
  ·rintro e w' ⟨rfl,hX⟩;rw[jnW_lib s l hn];exact⟨rfl,hX⟩
theorem conjE_k (w:World)(hK:KwIs w)(A:Option Addr)(c:Nat)(F:Nat→Prop)(hF:∀b,F b→b<w.heap.size)(r:Rd w F (.slice A 0 c) (.sl 0 [])):
  Calls Tryz.prog 37 #[.slice A 0 c] w (IlPost [] w):=by
 have hb0:Bw w (w.alloc (.cells ⟨[.slice A 0 c]⟩ 28)):=bA;have k0:=tree_k A c F [] ⟨zE _,fun _ h=>by cases h⟩ _ (hK.stay hb0) (fun b h=>zF (hF b h) hb0.size) (r.under hb0 hF);rw[show treeB []=false by unfold treeB;rfl]at k0;replace k0:=Hd k0;replace hb0:=Hd hb0;go_enter Tryz.func37,Tryz.ntmps37;go_wp2_with (go_at_call 75;refine k0.out.mono ?_;rintro e W ⟨rfl,hX⟩;replace hX:=Hd (hb0.out.and1 nR hX));go_ret;exact IlPost.mk (OL.nil _ _ _ _ _) hX.out
end shW
end Go.Proofs.YthaabihjeomipaaGreatDoor
