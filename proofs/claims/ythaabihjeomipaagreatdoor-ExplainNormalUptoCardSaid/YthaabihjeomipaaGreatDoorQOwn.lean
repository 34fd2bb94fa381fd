/- Slices of the call's own that are grown by append. -/
import Derived.Test.YthaabihjeomipaaGreatDoorQNm3
namespace Go.Proofs.YthaabihjeomipaaGreatDoor
set_option maxRecDepth 100000
set_option maxHeartbeats 16000000
open Go.RowKit Go.Deep
set_option linter.unusedVariables false
structure ElT (P:Program)(t e size bytes:Nat):Prop where
 sl:P.underlying t=some (.slice e)
 info:∃i z,P.info? e=some i∧i.zero=some z∧i.size=size∧i.bytes=bytes∧z.cells.size=size
 pos:0<size
theorem ElT.of {P:Program}{t e size bytes:Nat}(h:P.underlying t=some (.slice e))(hi:(P.info? e).map (fun i=>(i.zero.map (·.cells.size),i.size,i.bytes))=some (some size,size,bytes))(hp:0<size):ElT P t e size bytes:=by
 refine⟨h,?_,hp⟩;cases hq:P.info? e with
 |none=>rw[hq]at hi;cases hi
 |some i=>
  rw[hq]at hi;simp only[Option.map_some,Option.some.injEq,Prod.mk.injEq]at hi;obtain⟨h1,h2,h3⟩:=hi;cases hz:i.zero with
  |none=>rw[hz]at h1;cases h1
  |some z=>
   rw[hz]at h1;exact⟨i,z,rfl,hz,h2,h3,by simpa using h1⟩
def OL (w:World)(B:Nat)(F:Nat→Prop)(e size:Nat)(v:Value)(n:Nat)(ds:List D):Prop:=
 ∃cells,w.ownsRow B e size v n cells∧ds.length=cells.length∧∀(k:Nat)(d:D),ds[k]? =some d→∃u,cells[k]? =some u∧Rd w (fun b=>F b∧some b≠v.ownBlock) u d
def Src (w:World)(A:Option Addr)(news:List D)(G:Nat→Prop):Prop:=
 news≠ []→∃b off,A=some ⟨b,off,none⟩∧∀(k:Nat)(d:D),news[k]? =some d→∃u,w.cell? ⟨b,off+k,none⟩=some u∧Rd w G u d
theorem Rd.src {w:World}{F G:Nat→Prop}{A:Option Addr}{n c m:Nat}{ds:List D}(h:Rd w F (.slice A n c) (.sl m ds))(hG:∀b,F b→b<w.heap.size→G b):Src w A ds G:=by
 intro hne;obtain⟨b,off,e,_,hc⟩:=h.cells hne;exact⟨b,off,e,fun k d hd=>let ⟨u,h1,h2⟩:=hc k d hd;⟨u,h1,h2.mono hG⟩⟩
theorem Rd.srcp {w:World}{F G:Nat→Prop}{A:Option Addr}{n c m:Nat}{α:Type}{f:α→Value}{l:List α}(h:Rd w F (.slice A n c) (.sl m (l.flatMap fun x=>[D.v (f x)]))):Src w A (l.flatMap fun x=>[D.v (f x)]) G:=by
 intro hne;obtain⟨b,off,e,_,hc⟩:=h.cells hne;refine⟨b,off,e,fun k d hd=>?_⟩;obtain⟨u,h1,h2⟩:=hc k d hd;obtain⟨x,_,rfl⟩:=get1 hd;have:=h2.one;have e:=h2.v_inv;subst e;exact⟨_,h1,.v _ this⟩
def PlainL (ds:List D):Prop:=∀d∈ds,∃x,d=.v x
theorem PlainL.flatMap {α:Type}{f:α→List D}(hf:∀x,PlainL (f x))(l:List α):PlainL (l.flatMap f):=by
 intro d hd;obtain⟨x,_,hx⟩:=xF.1 hd;exact hf x d hx
theorem Rd.srcq {w:World}{F G:Nat→Prop}{A:Option Addr}{n c m:Nat}{ds:List D}(hp:PlainL ds)(h:Rd w F (.slice A n c) (.sl m ds)):Src w A ds G:=by
 intro hne;obtain⟨b,off,e,_,hc⟩:=h.cells hne;refine⟨b,off,e,fun k d hd=>?_⟩;obtain⟨u,h1,h2⟩:=hc k d hd;obtain⟨x,rfl⟩:=hp d (zA hd);have:=h2.one;have e:=h2.v_inv;subst e;exact⟨_,h1,.v _ this⟩
theorem addr_add0 (g j:Nat):(⟨g,0,none⟩:Addr).add j=⟨g,j,none⟩:=by unfold Addr.add;split<;>simp_all
theorem addr_add (b o j:Nat):(⟨b,o,none⟩:Addr).add j=⟨b,o+j,none⟩:=by unfold Addr.add;split<;>simp_all
theorem Src.new {w:World}{G:Nat→Prop}{cs:Array Value}{t:Nat}{ds:List D}(h:∀(k:Nat)(d:D),ds[k]? =some d→∃u,cs[k]? =some u∧Rd w G u d):Src (w.alloc (.cells cs t)) (some ⟨w.heap.size,0,none⟩) ds G:=by
 intro hne;refine⟨_,_,rfl,fun k d hd=>?_⟩;obtain⟨u,h1,h2⟩:=h k d hd;refine⟨u,?_,h2.alloc _⟩;rw[Nat.zero_add,cell_of_row _ _ _ cs t (0,0) (heap_alloc_new w _)];exact h1
def RdL (w:World)(G:Nat→Prop):List Value→List D→Prop
 | [],[]=>True
 |u::us,d::ds=>Rd w G u d∧RdL w G us ds
 |_,_=>False
theorem RdL.get {w:World}{G:Nat→Prop}{cs:List Value}{ds:List D}(h:RdL w G cs ds){k:Nat}{d:D}(hd:ds[k]? =some d):∃u,cs[k]? =some u∧Rd w G u d:=by
 induction cs generalizing ds k with
 |nil=>cases ds with
  |nil=>simp at hd
  |cons=>exact h.elim
 |cons u us ih=>cases ds with
  |nil=>exact h.elim
  |cons d' ds=>cases k with
   |zero=>simp at hd;subst hd;exact⟨u,rfl,h.1⟩
   |succ k=>simp at hd;obtain⟨u',h1,h2⟩:=ih h.2 hd;exact⟨u',by simpa using h1,h2⟩
theorem RdL.imp {w w':World}{F G:Nat→Prop}(hi:∀u d,Rd w F u d→Rd w' G u d){cs:List Value}{ds:List D}(h:RdL w F cs ds):RdL w' G cs ds:=by
 induction cs generalizing ds with
 |nil=>cases ds with
  |nil=>trivial
  |cons=>exact h.elim
 |cons u us ih=>cases ds with
  |nil=>exact h.elim
  |cons d ds=>exact⟨hi _ _ h.1,ih h.2⟩
theorem RdL.set_ {w:World}{F:Nat→Prop}{cs:List Value}{ds:List D}(h:RdL w F cs ds){u:Value}{d:D}(hu:Rd w F u d)(j:Nat):RdL w F (cs.set j u) (ds.set j d):=by
 induction cs generalizing ds j with
 |nil=>cases ds with
  |nil=>trivial
  |cons=>exact h.elim
 |cons u us ih=>cases ds with
  |nil=>exact h.elim
  |cons d' ds=>cases j with
   |zero=>exact⟨hu,h.2⟩
   |succ j=>exact⟨h.1,ih h.2 j⟩
theorem Rd.nil (w:World)(F:Nat→Prop):Rd w F (.slice none 0 0) (.sl 0 []):=
 .sl none 0 0 0 0 [] (fun _=>.bool false) nR (zE _) (fun h=>absurd rfl h) (fun k d h=>by simp at h) (fun k d h=>by simp at h)
theorem Src.lit {w:World}{G:Nat→Prop}{cs:List Value}{t:Nat}{ds:List D}(h:RdL w G cs ds):Src (w.alloc (.cells ⟨cs⟩ t)) (some ⟨w.heap.size,0,none⟩) ds G:=
 Src.new fun k d hd=>by
  obtain⟨u,h1,h2⟩:=h.get hd;exact⟨u,by simpa using h1,h2⟩
theorem OL.nil (w:World)(B:Nat)(F:Nat→Prop)(e size:Nat):OL w B F e size (.slice none 0 0) 0 []:=
 ⟨[],World.ownsRow_nil w B e size,rfl,fun k d h=>by simp at h⟩
section
variable {w w':World}{B e size n:Nat}{F:Nat→Prop}{v:Value}{ds:List D}
theorem OL.form (h:OL w B F e size v n ds):∃A c,v=.slice A n c:=by
 obtain⟨cells,h1,_⟩:=h;rcases h1.2 with⟨rfl,rfl⟩|⟨g,cap,cur,rfl,_⟩
 ·exact⟨_,_,rfl⟩
 ·exact⟨_,_,rfl⟩
theorem OL.len (h:OL w B F e size v n ds):ds.length=n*size:=by
 obtain⟨cells,h1,h2,_⟩:=h;rw[h2,h1.1]
theorem OL.lt (h:OL w B F e size v n ds):∀k,v.ownBlock=some k→B≤k∧k<w.heap.size:=by
 obtain⟨cells,h1,_⟩:=h;exact h1.lt
theorem OL.kept {row:Option Nat}(h:OL w B F e size v n ds)(hg:w.grownBy w' row)(hne:v.ownBlock=none∨v.ownBlock≠row)(hF:∀b,F b→some b≠row):OL w' B F e size v n ds:=by
 obtain⟨cells,h1,h2,h3⟩:=h;refine⟨cells,h1.kept hg hne,h2,fun k d hd=>?_⟩;obtain⟨u,hu,hr⟩:=h3 k d hd;exact⟨u,hu,hr.grown hg fun b hb=>hF b hb.1⟩
theorem Below.grown_none (hb:Bw w w'):w.grownBy w' none:=
 ⟨hb.os,hb.tape,hb.output,hb.size,fun k hk _=>hb.block k hk⟩
theorem OL.stay (h:OL w B F e size v n ds)(hb:Bw w w'):OL w' B F e size v n ds:=
 h.kept (row:=none) (Below.grown_none hb) (by cases v.ownBlock<;>simp) (fun _ _=>by simp)
theorem OL.alloc (h:OL w B F e size v n ds)(o:Obj):OL (w.alloc o) B F e size v n ds:=h.stay ((bR).alloc nR o)
theorem OL.drew (h:OL w B F e size v n ds):OL w.drew B F e size v n ds:=h.stay ((bR).drew)
theorem OL.drewN (h:OL w B F e size v n ds)(k:Nat):OL (w.drewN k) B F e size v n ds:=by
 exact h.stay (below_drewN bR k)
theorem OL.mono {G:Nat→Prop}(h:OL w B F e size v n ds)(hk:∀b,F b→G b):OL w B G e size v n ds:=by
 obtain⟨cells,h1,h2,h3⟩:=h;refine⟨cells,h1,h2,fun k d hd=>?_⟩;obtain⟨u,hu,hr⟩:=h3 k d hd;exact⟨u,hu,hr.mono fun b hb _=>⟨hk b hb.1,hb.2⟩⟩
theorem OL.setCell (h:OL w B F e size v n ds){p:Addr}(hp:v.ownBlock≠some p.block)(hF:¬F p.block)(x:Value):OL (w.setCell p x) B F e size v n ds:=by
 refine h.kept (row:=some p.block) ⟨rfl,rfl,rfl,by simp[World.setCell],fun k hk hne=>Below.heap_setCell _ _ _ _ (fun e=>hne (by rw[e]))⟩ (.inr hp) (fun b hb he=>hF (by injection he with he;exact he▸hb))
theorem OL.row (h:OL w B F e size v n ds)(hn:0<n):∃g cap,v=.slice (some ⟨g,0,none⟩) n cap∧B≤g∧g<w.heap.size∧(∀j,w.frozen? ⟨g,j,none⟩=false)∧
  ∀(k:Nat)(d:D),ds[k]? =some d→∃u,w.cell? ⟨g,k,none⟩=some u∧Rd w (fun b=>F b∧b≠g) u d:=by
 obtain⟨cells,h1,h2,h3⟩:=h;rcases h1.2 with⟨rfl,h0⟩|⟨g,cap,cur,rfl,hB,hg,hnc,hm,hs,ht⟩
 ·omega
 ·refine⟨g,cap,rfl,hB,(Array.getElem?_eq_some_iff.1 hg).1,fun j=>by simp[World.frozen?,hg],fun k d hd=>?_⟩;obtain⟨u,hu,hr⟩:=h3 k d hd;refine⟨u,?_,hr.mono fun b hb _=>⟨hb.1,fun e=>hb.2 (by rw[e];rfl)⟩⟩;rw[cell_of_row w g k cur e (0,0) hg];rw[←ht,zZ]at hu;split at hu
  ·simpa using hu
  ·cases hu
theorem OL.set {g cap:Nat}(h:OL w B F e size (.slice (some ⟨g,0,none⟩) n cap) n ds){j:Nat}{u:Value}{d:D}(hu:Rd w (fun b=>F b∧b≠g) u d):
  OL (w.setCell ⟨g,j,none⟩ u) B F e size (.slice (some ⟨g,0,none⟩) n cap) n (ds.set j d):=by
 obtain⟨cells,h1,h2,h3⟩:=h;have hk:∀{x:Value}{y:D},Rd w (fun b=>F b∧some b≠Value.ownBlock (.slice (some ⟨g,0,none⟩) n cap)) x y→Rd (w.setCell ⟨g,j,none⟩ u) (fun b=>F b∧some b≠Value.ownBlock (.slice (some ⟨g,0,none⟩) n cap)) x y:=fun hr=>
  hr.setCell (p:=⟨g,j,none⟩) (fun h=>h.2 rfl) u
 refine⟨cells.set j u,(h1.stored j u).1,by simp[h2],fun k y hy=>?_⟩;rw[xL]at hy ⊢;by_cases hjk:j=k
 ·subst hjk;rw[if_pos rfl]at hy ⊢;split at hy
  ·injection hy with hy
   subst hy;rw[if_pos oQ];exact⟨u,rfl,hk (hu.mono fun b hb _=>⟨hb.1,fun e=>hb.2 (by simpa[Value.ownBlock] using e)⟩)⟩
  ·cases hy
 ·rw[if_neg hjk]at hy ⊢;obtain⟨x,hx,hr⟩:=h3 k y hy;exact⟨x,hx,hk hr⟩
theorem OL.ne {B' e' size' n':Nat}{F':Nat→Prop}{v':Value}{ds':List D}(h:OL w B F e size v n ds)(h':OL w B' F' e' size' v' n' ds')(hne:e≠e'):v.ownBlock=none∨v.ownBlock≠v'.ownBlock:=by
 obtain⟨cells,h1,_⟩:=h;obtain⟨cells',h1',_⟩:=h';rcases h1.2 with⟨rfl,_⟩|⟨g,cap,cur,rfl,_,hg,_⟩
 ·exact .inl rfl
 ·refine .inr ?_;rcases h1'.2 with⟨rfl,_⟩|⟨g',cap',cur',rfl,_,hg',_⟩
  ·simp[Value.ownBlock]
  ·intro he;simp[Value.ownBlock]at he;subst he;rw[hg]at hg';injection hg' with hg'
   injection hg' with _ ht
   exact hne ht
theorem OL.rd' {G:Nat→Prop}(h:OL w B F e size v n ds)(hG:∀b,F b→b<w.heap.size→G b)(hB:∀b,v.ownBlock=some b→B≤b→b<w.heap.size→G b):Rd w G v (.sl n ds):=by
 obtain⟨cells,h1,h2,h3⟩:=h;obtain⟨hl,hx⟩:=h1;rcases hx with⟨rfl,rfl⟩|⟨g,cap,cur,rfl,hb,hg,hn,hm,hs,ht⟩
 ·have:ds=[]:=List.eq_nil_of_length_eq_zero (by rw[h2,hl];simp);subst this;exact .sl none 0 0 0 0 [] (fun _=>.bool false) nR (zE _) (fun h=>absurd rfl h) (fun k d h=>by simp at h) (fun k d h=>by simp at h)
 ·refine .sl _ n cap g 0 ds (fun k=>cells[k]?.getD (.bool false)) hn hm (fun _=>⟨rfl,hB g rfl hb (Array.getElem?_eq_some_iff.1 hg).1⟩) (fun k d hd=>?_) (fun k d hd=>?_)
  ·obtain⟨u,hu,_⟩:=h3 k d hd;rw[hu,Nat.zero_add,cell_of_row w g k cur e (0,0) hg];rw[←ht,zZ]at hu;split at hu
   ·simpa using hu
   ·cases hu
  ·obtain⟨u,hu,hr⟩:=h3 k d hd;rw[hu];exact hr.mono fun b hb' hlt=>hG b hb'.1 hlt
theorem OL.rd {G:Nat→Prop}(h:OL w B F e size v n ds)(hG:∀b,F b→b<w.heap.size→G b)(hB:∀b,B≤b→b<w.heap.size→G b):Rd w G v (.sl n ds):=
 h.rd' hG fun b _=>hB b
theorem OL.monoLt {G:Nat→Prop}(h:OL w B F e size v n ds)(hk:∀b,F b→b<w.heap.size→G b):OL w B G e size v n ds:=by
 obtain⟨cells,h1,h2,h3⟩:=h;refine⟨cells,h1,h2,fun k d hd=>?_⟩;obtain⟨u,hu,hr⟩:=h3 k d hd;exact⟨u,hu,hr.mono fun b hb hlt=>⟨hk b hb.1 hlt,hb.2⟩⟩
end
section
variable {P:Program}{w:World}
theorem run_append_of_nil (base:Nat)(t ty e:TypeId)(i:TypeInfo)(size:Nat)(ht:P.underlying t=some (.slice e))(hi:P.info? e=some i)
  (v:Value)(n:Nat)(xs:List Value)(hown:w.ownsRow base e size v n xs)(c:Nat):(Builtin.append_ #[t,t] ty #[v,.slice none 0 c]).run P w=.ok v w:=by
 rcases hown.2 with⟨rfl,rfl⟩|⟨g,cap,cur,rfl,_,_,hnc,_⟩
 ·simp[Builtin.append_,run_underlying ht,sizeOf,typeInfo,hi,Builtin.lenOf,Builtin.firstCells]
 ·simp[Builtin.append_,run_underlying ht,sizeOf,typeInfo,hi,Builtin.lenOf,Builtin.firstCells,hnc,storeCells]
theorem Rd.regrow {w w':World}{F:Nat→Prop}{v v' u:Value}{d:D}(h:Rd w (fun b=>F b∧some b≠v.ownBlock) u d)(hg:w.grownBy w' v.ownBlock)
  (ha:v'.ownBlock=v.ownBlock∨v'.ownBlock=some w.heap.size):Rd w' (fun b=>F b∧some b≠v'.ownBlock) u d:=by
 refine((h.mono (G:=fun b=>(F b∧some b≠v.ownBlock)∧b<w.heap.size) fun b a c=>⟨a,c⟩).keep fun b hb=>hg.block b hb.2 hb.1.2).mono fun b hb _=>⟨hb.1.1,?_⟩
 rcases ha with e |e
 ·rw[e];exact hb.1.2
 ·rw[e];intro he;have:=hb.2;injection he with he
  omega
theorem run_app {B t ty e size bytes n m c:Nat}{F:Nat→Prop}{v:Value}{ds news:List D}{A:Option Addr}(T:ElT P t e size bytes)(hown:OL w B F e size v n ds)
  (hsrc:Src w A news (fun b=>F b∧some b≠v.ownBlock))(hl:news.length=m*size)(hn:n+m≤4294967296)(hb:bytes≤32768)(hB:B≤w.heap.size):
  ∃v' w',(Builtin.append_ #[t,t] ty #[v,.slice A m c]).run P w=.ok v' w'∧OL w' B F e size v' (n+m) (ds++news)∧w.grownBy w' v.ownBlock∧(v'.ownBlock=v.ownBlock∨v'.ownBlock=some w.heap.size):=by
 obtain⟨ht,⟨i,z,hi,hz,hsize,hby,hzs⟩,hp⟩:=T;have h63:n+m≤maxLen:=by unfold maxLen;omega
 have hbytes:(n+m)*bytes≤140737488355328:=zU (Nat.mul_le_mul hn hb) dQ;obtain⟨cells,h1,h2,h3⟩:=hown;by_cases hne:news=[]
 ·subst hne;have hm:m=0:=by
   rcases Nat.eq_zero_or_pos m with h |h
   ·exact h
   ·have:=Nat.mul_pos h hp;simp at hl;omega
  subst hm;rcases A with _ |ad
  ·exact⟨v,w,run_append_of_nil B t ty e i size ht hi v n cells h1 c,⟨cells,by simpa using h1,by simpa using h2,by simpa using h3⟩,World.grownBy.refl w _,.inl rfl⟩
  ·obtain⟨v',w',hr,a1,a2,_,a4⟩:=run_append_own_at (P:=P) w B t ty e i z size bytes ht hi hz hsize hby hzs hp v n cells h1 ad 0 c [] sJ (fun j u h=>by simp at h) (fun u h=>by simp at h) h63 hbytes hB;refine⟨v',w',hr,⟨cells,by simpa using a1,by simpa using h2,fun k d hd=>?_⟩,a2,a4⟩;simp at hd;obtain⟨u,hu,hx⟩:=h3 k d hd;exact⟨u,hu,hx.regrow a2 a4⟩
 ·obtain⟨b,off,rfl,hc⟩:=hsrc hne;have hex:∀k,k<news.length→∃u,w.cell? ⟨b,off+k,none⟩=some u∧∀d,news[k]? =some d→Rd w (fun b=>F b∧some b≠v.ownBlock) u d:=fun k hk=>by
   obtain⟨u,h4,h5⟩:=hc k news[k] (zI hk);refine⟨u,h4,fun d hd=>?_⟩;rw[zI hk]at hd;injection hd with hd
   subst hd;exact h5
  obtain⟨g,hg⟩:=choose_lt hex;have hget:∀(k:Nat)(u:Value),((List.range news.length).map g)[k]? =some u→k<news.length∧u=g k:=fun k u h=>by
   rw[zG]at h;rcases Nat.lt_or_ge k news.length with hk |hk
   ·rw[List.getElem?_range hk]at h;simp at h;exact⟨hk,h.symm⟩
   ·rw[xO (by simpa using hk)]at h;simp at h
  obtain⟨v',w',hr,a1,a2,_,a4⟩:=run_append_own_at (P:=P) w B t ty e i z size bytes ht hi hz hsize hby hzs hp v n cells h1 ⟨b,off,none⟩ m c ((List.range news.length).map g) (by simpa using hl)
   (fun j u h=>by
    obtain⟨hk,rfl⟩:=hget j u h;rw[addr_add];exact(hg j hk).1)
   (fun u h=>by
    obtain⟨j,hj⟩:=zN h;obtain⟨hk,rfl⟩:=hget j u hj;exact((hg j hk).2 _ (zI hk)).one)
   h63 hbytes hB
  refine⟨v',w',hr,⟨_,a1,by simp[h2],fun k d hd=>?_⟩,a2,a4⟩;rcases Nat.lt_or_ge k ds.length with hk |hk
  ·rw[zS hk]at hd;obtain⟨u,hu,hx⟩:=h3 k d hd;exact⟨u,by rw[zS oQ];exact hu,hx.regrow a2 a4⟩
  ·rw[zP hk]at hd;have hk':=(zC.1 hd).1;refine⟨g (k-ds.length),?_,((hg _ hk').2 d hd).regrow a2 a4⟩;rw[zP oQ,←h2,zG,List.getElem?_range hk'];rfl
theorem wp_app {o:Oper}{a:Act}{K:Act→World→Prop}{Q:Exit→Act→World→Prop}(s x:Operand)(t:TypeId)
  (ho:o.op=.call {callee:=.builtin .append,args:=#[s,x],argTypes:=#[t,t]})
  {B e size bytes n m c:Nat}{F:Nat→Prop}{v:Value}{ds news:List D}{A:Option Addr}(T:ElT P t e size bytes)(hown:OL w B F e size v n ds)(hs:a.eval s=v)(hx:a.eval x=.slice A m c)
  (hsrc:Src w A news (fun b=>F b∧some b≠v.ownBlock))(hl:news.length=m*size)(hn:n+m≤4294967296)(hb:bytes≤32768)(hB:B≤w.heap.size)
  (h:∀v' w',OL w' B F e size v' (n+m) (ds++news)→w.grownBy w' v.ownBlock→(v'.ownBlock=v.ownBlock∨v'.ownBlock=some w.heap.size)→K (a.put o.dst v') w'):o.wp P a w K Q:=by
 obtain⟨v',w',hrun,h2,h3,h4⟩:=run_app (P:=P) (ty:=o.type) T hown hsrc hl hn hb hB (c:=c);unfold Oper.wp execOp;simp only[ho,resolve,invoke,builtin,Sem.run_bind,Sem.run_pure,Result.andThen_ok,List.map_toArray,List.map_cons,List.map_nil,hs,hx,hrun];exact h v' w' h2 h3 h4
theorem wpa {ops:Array Oper}{rest:List Oper}{o:Oper}{a:Act}{Q:Exit→Act→World→Prop}(hgd:o.guard=none)(s x:Operand)(t:TypeId)
  (ho:o.op=.call {callee:=.builtin .append,args:=#[s,x],argTypes:=#[t,t]})
  {B e size bytes n m c:Nat}{F:Nat→Prop}{v:Value}{ds news:List D}{A:Option Addr}(T:ElT P t e size bytes)(hown:OL w B F e size v n ds)(hs:a.eval s=v)(hx:a.eval x=.slice A m c)
  (hsrc:Src w A news (fun b=>F b∧some b≠v.ownBlock))(hl:news.length=m*size)(hn:n+m≤4294967296)(hb:bytes≤32768)(hB:B≤w.heap.size)
  (h:∀v' w',OL w' B F e size v' (n+m) (ds++news)→w.grownBy w' v.ownBlock→(v'.ownBlock=v.ownBlock∨v'.ownBlock=some w.heap.size)→wpList P ops Q rest (a.put o.dst v') w'):wpList P ops Q (o::rest) a w:=
 wpList_plain hgd fun _ hK=>wp_app s x t ho T hown hs hx hsrc hl hn hb hB fun v' w' h2 h3 h4=>hK _ _ (h v' w' h2 h3 h4)
theorem step_app {ops:Array Oper}{o:Oper}{a:Act}{K:Act→World→Prop}{Q:Exit→Act→World→Prop}{E:Prop}(hgd:o.guard=none)(s x:Operand)(t:TypeId)
  (ho:o.op=.call {callee:=.builtin .append,args:=#[s,x],argTypes:=#[t,t]})
  {B e size bytes n m c:Nat}{F:Nat→Prop}{v:Value}{ds news:List D}{A:Option Addr}(T:ElT P t e size bytes)(hown:OL w B F e size v n ds)(hs:a.eval s=v)(hx:a.eval x=.slice A m c)
  (hsrc:Src w A news (fun b=>F b∧some b≠v.ownBlock))(hl:news.length=m*size)(hn:n+m≤4294967296)(hb:bytes≤32768)(hB:B≤w.heap.size)
  (h:∀v' w',OL w' B F e size v' (n+m) (ds++news)→w.grownBy w' v.ownBlock→(v'.ownBlock=v.ownBlock∨v'.ownBlock=some w.heap.size)→K (a.put o.dst v') w'):
  if Region.wanted o (yielded ops a.tmps)=true then Oper.wp P o a w K Q else E:=by
 have hw:Region.wanted o (yielded ops a.tmps)=true:=by simp[Region.wanted,hgd]
 rw[if_pos hw];exact wp_app s x t ho T hown hs hx hsrc hl hn hb hB h
end
def Blk (w:World)(g t:Nat)(cs:List Value):Prop:=w.heap[g]? =some (.cells ⟨cs⟩ t (0,0))
section
variable {w w':World}{g t:Nat}{cs:List Value}
theorem Blk.lt (h:Blk w g t cs):g<w.heap.size:=(Array.getElem?_eq_some_iff.1 h).1
theorem Blk.cell (h:Blk w g t cs)(i:Nat):w.cell? ⟨g,i,none⟩=cs[i]? :=by
 rw[cell_of_row w g i ⟨cs⟩ t (0,0) h];simp
theorem Blk.frozen (h:Blk w g t cs)(i:Nat):w.frozen? ⟨g,i,none⟩=false:=by
 unfold Blk at h;simp[World.frozen?,h]
theorem Blk.new (w:World)(t:Nat)(cs:List Value):Blk (w.alloc (.cells ⟨cs⟩ t)) w.heap.size t cs:=heap_alloc_new w _
theorem Blk.new' {w:World}{g t:Nat}{cs:List Value}(hg:w.heap.size=g):Blk (w.alloc (.cells ⟨cs⟩ t)) g t cs:=hg▸Blk.new w t cs
theorem Blk.stay (h:Blk w g t cs)(hb:Bw w w'):Blk w' g t cs:=(hb.block g h.lt).trans h
theorem Blk.alloc (h:Blk w g t cs)(o:Obj):Blk (w.alloc o) g t cs:=h.stay ((bR).alloc nR o)
theorem Blk.drewN (h:Blk w g t cs)(k:Nat):Blk (w.drewN k) g t cs:=h.stay (below_drewN bR k)
theorem Blk.set_ (h:Blk w g t cs)(i:Nat)(u:Value):Blk (w.setCell ⟨g,i,none⟩ u) g t (cs.set i u):=by
 unfold Blk at h ⊢;simp[World.setCell,Array.getElem?_modify,h]
theorem Blk.far (h:Blk w g t cs){p:Addr}(hp:g≠p.block)(u:Value):Blk (w.setCell p u) g t cs:=(Below.heap_setCell w p u g hp).trans h
theorem Blk.under {B:Nat}(h:Blk w g t cs)(hb:Below B w w')(hg:g<B):Blk w' g t cs:=(hb.block g hg).trans h
theorem Blk.grown {row:Option Nat}(h:Blk w g t cs)(hb:w.grownBy w' row)(hg:some g≠row):Blk w' g t cs:=(hb.block g h.lt hg).trans h
end
theorem at_op {P:Program}{ops:Array Oper}{rest:List Oper}{o:Oper}{a:Act}{w:World}{Q:Exit→Act→World→Prop}(x:Op)(_h:o.op=x)(k:wpList P ops Q (o::rest) a w):wpList P ops Q (o::rest) a w:=k
def AggT (P:Program)(t size:Nat):Prop:=∃d,P.underlying t=some d∧d.isRow=true∧(P.info? t).map (·.size)=some size
section
variable {P:Program}{w:World}{g t:Nat}{cs:List Value}
theorem Blk.range (h:Blk w g t cs):w.rangeAt g 0 cs:=fun j v hv=>by rw[Nat.zero_add,h.cell];exact hv
theorem run_loadVar_blk {ty:Nat}(h:Blk w g t cs)(T:AggT P ty cs.length):(loadVar ty ⟨g,0,none⟩).run P w=.ok (.agg ⟨cs⟩) w:=by
 obtain⟨d,hu,hd,hi⟩:=T;exact run_loadVar_mid w g 0 ty cs d h.range hu hd hi
theorem wpList_load_blk {ops:Array Oper}{rest:List Oper}{op:Oper}{a:Act}{Q:Exit→Act→World→Prop}(hgd:op.guard=none)(ty:TypeId)(x:Operand)(ho:op.op=.load ty x)
  (h:Blk w g t cs)(T:AggT P ty cs.length)(hx:a.eval x=.pointer (some ⟨g,0,none⟩))
  (hk:wpList P ops Q rest (a.put op.dst (.agg ⟨cs⟩)) w):wpList P ops Q (op::rest) a w:=by
 obtain⟨d,hu,hd,hi⟩:=T;exact wpList_load_mid hgd ty x ho g 0 hx cs d h.range hu hd hi hk
theorem setCells_blk (cs':List Value):∀(o:Nat)(w:World)(cs:List Value),Blk w g t cs→o+cs'.length=cs.length→Blk (w.setCells g o cs') g t (cs.take o++cs')∧w.grownBy (w.setCells g o cs') (some g):=by
 induction cs' with
 |nil=>
  intro o w cs h hl;simp only[List.length_nil,Nat.add_zero]at hl;subst hl;simp only[World.setCells,zT,zL];exact⟨h,World.grownBy.refl w _⟩
 |cons v r ih=>
  intro o w cs h hl;simp only[List.length_cons]at hl;obtain⟨h1,h2⟩:=ih (o+1) (w.setCell ⟨g,o,none⟩ v) (cs.set o v) (h.set_ o v) (by simp;omega);refine⟨?_,?_⟩
  ·have:(cs.set o v).take (o+1)=cs.take o++[v]:=by
    rw[zJ,xL,if_pos rfl,if_pos oQ,List.take_set_of_le nR];rfl
   rw[this]at h1;simpa[World.setCells] using h1
  ·refine⟨h2.os,h2.tape,h2.output,?_,fun k hk hne=>?_⟩
   ·have:=h2.size;refine zU ?_ this;simp[World.setCell]
   ·have:=h2.block k (by simpa[World.setCell] using hk) hne;refine this.trans (Below.heap_setCell _ _ _ _ (fun e=>hne (by rw[e])))
theorem wsb {ops:Array Oper}{rest:List Oper}{op:Oper}{a:Act}{Q:Exit→Act→World→Prop}(hgd:op.guard=none)(ty:TypeId)(x y:Operand)(ho:op.op=.store ty x y)
  {cs':List Value}(h:Blk w g t cs)(T:AggT P ty cs'.length)(hl:cs'.length=cs.length)(hx:a.eval x=.pointer (some ⟨g,0,none⟩))(hy:a.eval y=.agg ⟨cs'⟩)(h1:cs'.all (·.oneCell')=true)
  (hk:∀w',Blk w' g t cs'→w.grownBy w' (some g)→wpList P ops Q rest (a.put op.dst undef) w'):wpList P ops Q (op::rest) a w:=by
 obtain⟨d,hu,hd,hi⟩:=T;obtain⟨h2,h3⟩:=setCells_blk cs' 0 w cs h oQ;refine wpList_store_mid hgd ty x y ho g 0 ⟨cs'⟩ hx hy (fun j hj=>?_) hi (by simpa using h1) (hk _ (by simpa using h2) h3);rw[Nat.zero_add];refine⟨?_,h.frozen j⟩;rw[h.cell,zI (by simp at hj;omega)];rfl
theorem bpb {fn:Func}{R:Ending→World→Prop}{a:Act}{p q ty:Nat}{v:Value}(hr:fn.results=#[.cell p ty,.tmp q])(h:Blk w g t cs)(T:AggT P ty cs.length)
  (hp:a.tmps.getD p undef=.pointer (some ⟨g,0,none⟩))(hq:a.tmps.getD q undef=v)(hd:a.defers=[])(hR:R (.returned (.tuple #[.agg ⟨cs⟩,v])) w):bodyPost P fn R .ret a w:=by
 refine bodyPost_ret (v:=.tuple #[.agg ⟨cs⟩,v]) ?_ hd hR;simp only[Array.getD_eq_getD_getElem?]at hp hq;simp[results,hr,hp,hq,asAddr,run_loadVar_blk h T]
end
theorem elStr:ElT Tryz.prog 42 9 1 16:=.of Tryz.underlying42 kQ oQ
theorem elTd:ElT Tryz.prog 22 50 2 40:=.of Tryz.underlying22 kQ oQ
def TB (w wr:World)(v:Value)(n:ByteArray)(u:Value):Prop:=
 Bw w wr∧Blk wr w.heap.size 24 [v]∧Blk wr (w.heap.size+1) 50 [.string n,u]
theorem TB.stay {w wr w2:World}{v u:Value}{n:ByteArray}(h:TB w wr v n u)(hb:Bw wr w2):TB w w2 v n u:=
 ⟨h.1.trans (hb.mono h.1.size),h.2.1.stay hb,h.2.2.stay hb⟩
theorem TB.drewN {w wr:World}{v u:Value}{n:ByteArray}(h:TB w wr v n u)(k:Nat):TB w (wr.drewN k) v n u:=h.stay (below_drewN bR k)
namespace nmW
theorem checkType_k (A:Option Addr)(c:Nat)(F:Nat→Prop)(l:List Td)(i:Nat)(hi:i<l.length)(hl:SzT l)(w:World)(hK:KwIs w)(hF:∀b,F b→b<w.heap.size)(r:Rd w F (.slice A l.length c) (.sl l.length (l.flatMap tdD))):
  Calls Tryz.prog 92 #[.agg #[.slice A l.length c],.int .i64 i] w fun e w'=>e=.returned (.int .i64 (tyC l i))∧Bw w w':=by
 obtain⟨t,ht⟩:=getx hi;obtain⟨hl1,hl2⟩:=hl;obtain⟨hs1,hs2,hs3⟩:=hl2 t (zA ht);obtain⟨b,off,rfl,hFb,hv,hsl⟩:=r.rowv (m:=2) (fun _=>rfl) ht oQ;have a0:w.cell? ⟨b,off+i*2,none⟩=some (.string t.name):=hv 0 _ rfl;obtain⟨A2,c2,a1,r2⟩:=hsl 1 _ _ rfl;have g0:(0:Int)≤(i:Int):=oQ;have g1:(i:Int)<l.length:=oQ;have k1:=Hd refIsName_k;have hnm:(l.map (·.name))[i]? =some t.name:=by rw[zG,ht];rfl
 replace hnm:=Hd hnm;replace hl2:=Hd hl2;replace ht:=Hd ht;replace hF:=Hd hF;replace hK:=Hd hK;replace r:=Hd r;replace r2:=Hd r2;replace hs3:=Hd hs3;clear hv hsl;have hbB:b<w.heap.size:=hF.out b hFb;have hbN:¬b=w.heap.size:=oQ;obtain⟨nm,hnmB⟩:∃b,b=isNm t.name:=⟨_,rfl⟩
 replace hnmB:=Hd hnmB;go_enter Tryz.func92,Tryz.ntmps92;cases nm
 ·go_wp2_with (go_at_call 94;refine(k1.out _ _ (hK.out.stay ((bA).alloc sJ _))).mono ?_;rw[←hnmB.out];rintro e W ⟨rfl,hW⟩;obtain rfl:=hW.symm);go_ret;exact⟨rtI (tyC_22 ht.out hnmB.out.symm).symm,(bA).alloc sJ _⟩
 ·go_wp2_with (go_at_call 94;refine(k1.out _ _ (hK.out.stay ((bA).alloc sJ _))).mono ?_;rw[←hnmB.out];rintro e W ⟨rfl,hW⟩;obtain rfl:=hW.symm);have h0:TB w ((w.alloc (.cells #[.slice (some ⟨b,off,none⟩) l.length c] 24)).alloc (.cells #[.string t.name,.slice A2 t.attrs.length c2] 50)) (.slice (some ⟨b,off,none⟩) l.length c) t.name (.slice A2 t.attrs.length c2):=
   ⟨(bA).alloc sJ _,(Blk.new _ _ _).alloc _,Blk.new' sJ⟩
  clear a0 a1;go_loopw [6] (fun x wr=>∃j:Nat,j≤i∧x=.int .i64 j∧TB w wr (.slice (some ⟨b,off,none⟩) l.length c) t.name (.slice A2 t.attrs.length c2)∧Hid (∀(p:Nat) a,(l.map (·.name))[p]? =some a→p<j→a≠t.name)) (fun x _=>i- (intOf x).toNat)
  case atStart=>exact⟨0,zE _,rfl,h0,fun p a _ h=>by omega⟩
  case round=>
   clear h0;obtain⟨j,hj,rfl,h0,hp⟩:=hrel;by_cases hlt:j<i
   ·obtain⟨x,hx⟩:=getx (l:=l) (i:=j) oQ;obtain⟨b',off',e,_,ha,_⟩:=(r.out.under h0.1 hF.out).rowv (m:=2) (fun _=>rfl) hx oQ;injection e with e
    injection e with e1 e2
    subst e1 e2;have a0:wr.cell? ⟨b,off+j*2,none⟩=some (.string x.name):=ha 0 _ rfl;have z0:wr.cell? ⟨w.heap.size,0,none⟩=some (.slice (some ⟨b,off,none⟩) l.length c):=h0.2.1.cell 0;have y0:wr.cell? ⟨w.heap.size+1,0,none⟩=some (.string t.name):=h0.2.2.cell 0;have g2:(0:Int)≤(j:Int):=oQ;have g3:(j:Int)<l.length:=oQ;have g4:(j:Int)<i:=oQ;have hxn:(l.map (·.name))[j]? =some x.name:=by rw[zG,hx];rfl
    replace hxn:=Hd hxn;replace h0:=Hd h0;clear ha hx;by_cases hu:x.name=t.name
    ·have hu':(x.name.toList==t.name.toList)=true:=(by rw[bqb];exact zW hu);have hfin:=Hd (show tyC l i=25 from tyC_25 ht.out hnmB.out.symm (placeI_ne (by rw[hxn.out,hu]) hlt));clear hu;go_wp2;go_quiet (fail);go_wp2;go_ret;exact⟨rtI hfin.out.symm,(h0.out.drewN _).1⟩
    ·have hu':(x.name.toList==t.name.toList)=false:=(by rw[bqb];exact zV hu);replace hu:=Hd hu;go_wp2;go_quiet (fail);go_wp2;go_roundw
     case rel=>
      refine⟨j+1,oQ,gQ,h0.out.drewN _,fun p a h h3=>?_⟩;by_cases hij:p=j
      ·subst hij;obtain rfl:x.name=a:=by have:=hxn.out;rw[h]at this;exact(zq9 this).symm
       exact hu.out
      ·exact hp.out p a h oQ
     case measure=>exact mQ
   ·obtain rfl:j=i:=oQ;have hpl:=Hd (show placeI (l.map (·.name)) t.name=j from placeI_at hnm.out hp.out);have y1:wr.cell? ⟨w.heap.size+1,1,none⟩=some (.slice A2 t.attrs.length c2):=h0.2.2.cell 1;have h0':=Hd h0;clear h0;by_cases h8:(8:Int)<t.attrs.length
    ·have hfin:=Hd (show tyC l j=24 from tyC_24 ht.out hnmB.out.symm hpl.out oQ);go_wp2;go_ret;exact⟨rtI hfin.out.symm,h0'.out.1⟩
    ·have hfin:=Hd (show tyC l j=fstC (atC t.attrs) t.attrs.length from tyC_at ht.out hnmB.out.symm hpl.out oQ);obtain⟨w3,hw3⟩:∃w3:World,w3=wr:=⟨_,rfl⟩
     subst hw3;have k2:=Hd in_k;go_wp2;clear y1;go_loopw [7,8] (fun v x wr=>∃k:Nat,k≤t.attrs.length∧x=.int .i64 k∧TB w wr (.slice (some ⟨b,off,none⟩) l.length c) t.name (.slice A2 t.attrs.length c2)∧OL wr (w.heap.size+1+1) (fun _=>False) 9 1 v k ((t.attrs.take k).flatMap strD)∧Hid (∀p,p<k→atC t.attrs p=0)) (fun _ x _=>t.attrs.length- (intOf x).toNat)
     case atStart=>exact⟨0,zE _,rfl,h0'.out,.nil _ _ _ _ _,fun p h=>by omega⟩
     case round=>
      clear h0';obtain⟨k,hk,rfl,h0,hO,hz⟩:=hrel;have y1:wr.cell? ⟨w.heap.size+1,1,none⟩=some (.slice A2 t.attrs.length c2):=h0.2.2.cell 1;by_cases hlt:k<t.attrs.length
      ·obtain⟨x,hx⟩:=getx hlt;obtain⟨b2,off2,rfl,_,ha,_⟩:=(r2.out.under h0.1 hF.out).rowv (m:=1) (fun _=>rfl) hx oQ;have a0:wr.cell? ⟨b2,off2+k,none⟩=some (.string x):=by have:=ha 0 _ rfl;rwa [Nat.mul_one,Nat.add_zero]at this
       have g2:(0:Int)≤(k:Int):=oQ;have g3:(k:Int)<t.attrs.length:=oQ;replace hx:=Hd hx;clear ha;obtain⟨nx,hnx⟩:∃b,b=isNm x:=⟨_,rfl⟩
       replace hnx:=Hd hnx;have hKr:=Hd (hK.out.stay h0.1);cases nx
       ·have hc:atC t.attrs k=22:=atC_22 hx.out (.inl hnx.out.symm);have hfin2:tyC l j=22:=by rw[hfin.out,fstC_at hlt (by rw[hc];omega) hz.out,hc]
        replace hfin2:=Hd hfin2;replace h0:=Hd h0;clear hc hO;go_wp2_with (go_at_call 94;refine(k1.out _ _ hKr.out).mono ?_;rw[←hnx.out];rintro e W ⟨rfl,hW⟩;obtain rfl:=hW.symm);go_ret;exact⟨rtI hfin2.out.symm,h0.out.1⟩
       ·by_cases hts:x=tsB
        ·have hc:atC t.attrs k=22:=atC_22 hx.out (.inr hts);have hfin2:tyC l j=22:=by rw[hfin.out,fstC_at hlt (by rw[hc];omega) hz.out,hc]
         have hts':=ts_true hts;replace hfin2:=Hd hfin2;replace h0:=Hd h0;clear hc hO;replace hts:=Hd hts;go_wp2_with (go_at_call 94;refine(k1.out _ _ hKr.out).mono ?_;rw[←hnx.out];rintro e W ⟨rfl,hW⟩;obtain rfl:=hW.symm);go_ret;exact⟨rtI hfin2.out.symm,h0.out.1⟩
        ·have hts':=ts_false hts;have rH:=hO.rd (G:=fun _=>True) (fun _ _ _=>trivial) (fun _ _ _=>trivial);obtain⟨A3,c3,rfl⟩:=hO.form;have hlen:(t.attrs.take k).length=k:=by rw[zO];omega
         have k2':Calls Tryz.prog 138 #[.slice A3 k c3,.string x] wr fun e w'=>e=.returned (.bool (decide (placeI t.attrs x≠k)))∧w'=wr:=by
          rw[←any_take hx.out];have:=k2.out A3 c3 (fun _=>True) (t.attrs.take k) x oQ wr (by rw[hlen];exact rH);rwa [hlen]at this
         replace k2':=Hd k2';by_cases hpx:placeI t.attrs x=k
         ·have hd:decide (placeI t.attrs x≠(k:Int))=false:=zV (fun h=>h hpx);have hc:atC t.attrs k=0:=atC_0 hx.out hnx.out.symm hts hpx;have hfm:(t.attrs.take (k+1)).flatMap strD=(t.attrs.take k).flatMap strD++strD x:=by rw[zJ,hx.out];simp
          have hsz:=h0.2.2.lt;have hrow:∀q,some q=(Value.slice A3 k c3).ownBlock→w.heap.size+1+1≤q:=fun q hq=>(hO.lt q hq.symm).1
          replace hrow:=Hd hrow;replace hd:=Hd hd;replace hc:=Hd hc;replace hfm:=Hd hfm;replace hts:=Hd hts;replace hpx:=Hd hpx;replace rH:=Hd rH;have h0':=Hd h0;clear h0;go_wp2_with (first
           |(go_at_call 94;refine(k1.out _ _ hKr.out).mono ?_;rw[←hnx.out];rintro e W ⟨rfl,hW⟩;obtain rfl:=hW.symm)
           |(go_at_call 138;refine k2'.out.mono ?_;rw[hd.out];rintro e W ⟨rfl,hW⟩;obtain rfl:=hW.symm)
           |(at_builtin;refine wpa rfl (.tmp 65) (.tmp 71) _ rfl (m:=1) (news:=strD x) elStr (hO.alloc _) rfl rfl (Src.lit ⟨.v _ rfl,trivial⟩) rfl oQ oQ (by simp;omega) ?_;intro v' w' hO' hg ha))
          go_roundw
          case rel=>
           refine⟨k+1,oQ,gQ,?_,by rw[hfm.out];exact hO',fun p hp2=>?_⟩
           ·refine⟨(h0'.out.1.alloc h0'.out.1.size _).grown hg (by simp;omega) (fun q hq=>by have:=hrow.out q hq.symm;omega),(h0'.out.2.1.alloc _).grown hg (fun hq=>?_),(h0'.out.2.2.alloc _).grown hg (fun hq=>?_)⟩
            ·have:=hrow.out _ hq;omega
            ·have:=hrow.out _ hq;omega
           ·by_cases e:p=k
            ·subst e;exact hc.out
            ·exact hz.out p oQ
          case measure=>exact mQ
         ·have hd:decide (placeI t.attrs x≠(k:Int))=true:=zW hpx;have hc:atC t.attrs k=25:=atC_25 hx.out hnx.out.symm hts hpx;have hfin2:tyC l j=25:=by rw[hfin.out,fstC_at hlt (by rw[hc];omega) hz.out,hc]
          replace hd:=Hd hd;replace hfin2:=Hd hfin2;replace hts:=Hd hts;replace hpx:=Hd hpx;replace h0:=Hd h0;clear hc hO rH;go_wp2_with (first
           |(go_at_call 94;refine(k1.out _ _ hKr.out).mono ?_;rw[←hnx.out];rintro e W ⟨rfl,hW⟩;obtain rfl:=hW.symm)
           |(go_at_call 138;refine k2'.out.mono ?_;rw[hd.out];rintro e W ⟨rfl,hW⟩;obtain rfl:=hW.symm))
          go_ret;exact⟨rtI hfin2.out.symm,h0.out.1⟩
      ·obtain rfl:k=t.attrs.length:=oQ;have hfin2:tyC l j=0:=by rw[hfin.out];exact fstC_zero hz.out
       replace hfin2:=Hd hfin2;replace h0:=Hd h0;clear hO;go_wp2;go_ret;exact⟨rtI hfin2.out.symm,h0.out.1⟩
theorem rCheckSchema_k (A:Option Addr)(c:Nat)(F:Nat→Prop)(l:List Td)(hl:SzT l)(w:World)(hK:KwIs w)(hF:∀b,F b→b<w.heap.size)(r:Rd w F (.slice A l.length c) (.sl l.length (l.flatMap tdD))):
  Calls Tryz.prog 52 #[.agg #[.slice A l.length c]] w fun e w'=>e=.returned (.int .i64 (scC l))∧Bw w w':=by
 have k1:=Hd checkType_k;have hl1:=hl.1;replace hl:=Hd hl;replace hF:=Hd hF;replace hK:=Hd hK;replace r:=Hd r;by_cases g1:(l.length:Int)<1
 ·have hfin:=Hd (scC_23 (l:=l) (.inl oQ));go_enter Tryz.func52,Tryz.ntmps52;go_wp2;go_ret;exact⟨rtI hfin.out.symm,bA⟩
 ·by_cases g2:(16:Int)<l.length
  ·have hfin:=Hd (scC_23 (l:=l) (.inr oQ));go_enter Tryz.func52,Tryz.ntmps52;go_wp2;go_ret;exact⟨rtI hfin.out.symm,bA⟩
  ·have hfin:=Hd (scC_ty (l:=l) oQ oQ);go_enter Tryz.func52,Tryz.ntmps52;go_wp2;go_loopw [3,4] (fun x _ wr=>∃j:Nat,j≤l.length∧x=.int .i64 j∧Bw w wr∧Blk wr w.heap.size 24 [.slice A l.length c]∧Hid (∀p,p<j→tyC l p=0)) (fun x _ _=>l.length- (intOf x).toNat)
   case atStart=>exact⟨0,zE _,rfl,bA,Blk.new _ _ _,fun p h=>by omega⟩
   case round=>
    obtain⟨j,hj,rfl,hb,hB,hz⟩:=hrel;have z0:wr.cell? ⟨w.heap.size,0,none⟩=some (.slice A l.length c):=hB.cell 0;replace hB:=Hd hB;by_cases hlt:j<l.length
    ·have k2:=k1.out A c F l j hlt hl.out wr (hK.out.stay hb) (fun b h=>zF (hF.out b h) hb.size) (r.out.under hb hF.out);obtain⟨q,hq⟩:∃q,q=tyC l j:=⟨_,rfl⟩
     rw[←hq]at k2;replace k2:=Hd k2;replace hb:=Hd hb;by_cases hq0:q=0
     ·subst hq0;replace hq:=Hd hq;go_wp2_with (go_at_call 92;refine k2.out.mono ?_;rintro e w2 ⟨rfl,hb2⟩);go_roundw
      case rel=>
       refine⟨j+1,oQ,gQ,hb.out.trans (hb2.mono hb.out.size),hB.out.stay hb2,fun p hp=>?_⟩;by_cases e:p=j
       ·subst e;exact hq.out.symm
       ·exact hz.out p oQ
      case measure=>exact mQ
     ·have hfin2:scC l=q:=(by rw[hfin.out,fstC_at hlt (by rw[←hq];exact hq0) hz.out,hq]);have hq0':(q==0)=false:=by simpa using hq0
      replace hq:=Hd hq;replace hfin2:=Hd hfin2;go_wp2_with (go_at_call 92;refine k2.out.mono ?_;rintro e w2 ⟨rfl,hb2⟩);go_ret;exact⟨rtI hfin2.out.symm,hb.out.trans (hb2.mono hb.out.size)⟩
    ·obtain rfl:j=l.length:=oQ;have hfin2:scC l=0:=by rw[hfin.out];exact fstC_zero hz.out
     replace hfin2:=Hd hfin2;go_wp2;go_ret;exact⟨rtI hfin2.out.symm,hb⟩
end nmW
end Go.Proofs.YthaabihjeomipaaGreatDoor
