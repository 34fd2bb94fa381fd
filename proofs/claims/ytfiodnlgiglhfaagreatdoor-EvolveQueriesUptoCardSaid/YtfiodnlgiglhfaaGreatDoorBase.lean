/- Plain data in memory. -/
import Derived.WalkKit
import Derived.WalkSpells
import Derived.WalkLawsBesides
import Derived.Lib.Hide
import Derived.Deep.Slices
import Derived.OpenShut
import Derived.Maps.AppendAt
import Derived.Deep.MidRow
namespace Go.Proofs.YtfiodnlgiglhfaaGreatDoor
set_option maxRecDepth 100000
set_option maxHeartbeats 16000000
open Go.RowKit Go.Deep
set_option linter.unusedVariables false
theorem zA:type_of% @List.mem_of_getElem?.{0}:=@List.mem_of_getElem?.{0}
theorem zB:type_of% @Below.refl:=@Below.refl
theorem zC:type_of% @List.getElem?_eq_some_iff.{0}:=@List.getElem?_eq_some_iff.{0}
theorem zD:type_of% @Nat.le_refl:=@Nat.le_refl
theorem zE:type_of% @Nat.zero_le:=@Nat.zero_le
theorem zF:type_of% @Nat.lt_of_lt_of_le:=@Nat.lt_of_lt_of_le
theorem zG:type_of% @List.getElem?_map.{0,0}:=@List.getElem?_map.{0,0}
theorem zH:type_of% @List.length_append.{0}:=@List.length_append.{0}
theorem zI:type_of% @List.getElem?_eq_getElem.{0}:=@List.getElem?_eq_getElem.{0}
theorem zJ:type_of% @List.take_add_one.{0}:=@List.take_add_one.{0}
theorem zK:type_of% @List.flatMap_cons.{0,0}:=@List.flatMap_cons.{0,0}
theorem zL:type_of% @List.take_length.{0}:=@List.take_length.{0}
theorem zM:type_of% @List.mem_append.{0}:=@List.mem_append.{0}
theorem zN:type_of% @List.getElem?_of_mem.{0}:=@List.getElem?_of_mem.{0}
theorem zO:type_of% @List.length_take.{0}:=@List.length_take.{0}
theorem zP:type_of% @List.getElem?_append_right.{0}:=@List.getElem?_append_right.{0}
theorem zq9:type_of% @Option.some.inj.{0}:=@Option.some.inj.{0}
theorem zR:type_of% @List.append_assoc.{0}:=@List.append_assoc.{0}
theorem zS:type_of% @List.getElem?_append_left.{0}:=@List.getElem?_append_left.{0}
theorem zT:type_of% @List.append_nil.{0}:=@List.append_nil.{0}
theorem zU:type_of% @Nat.le_trans:=@Nat.le_trans
theorem zV:type_of% @decide_eq_false:=@decide_eq_false
theorem zW:type_of% @decide_eq_true:=@decide_eq_true
theorem zX:type_of% @World.block_lt_of_cell? :=@World.block_lt_of_cell?
theorem zY:type_of% @List.getElem?_cons_zero.{0}:=@List.getElem?_cons_zero.{0}
theorem zZ:type_of% @List.getElem?_take.{0}:=@List.getElem?_take.{0}
theorem xA:type_of% @List.getElem?_cons_succ.{0}:=@List.getElem?_cons_succ.{0}
theorem xB:type_of% @List.mem_singleton.{0}:=@List.mem_singleton.{0}
theorem xC:type_of% @List.length_map.{0,0}:=@List.length_map.{0,0}
theorem xD:type_of% @List.flatMap_append.{0,0}:=@List.flatMap_append.{0,0}
theorem xE:type_of% @Bool.true_and:=@Bool.true_and
theorem xF:type_of% @List.mem_flatMap.{0,0}:=@List.mem_flatMap.{0,0}
theorem xG:type_of% @Option.map_eq_some_iff.{0,0}:=@Option.map_eq_some_iff.{0,0}
theorem xH:type_of% @List.take_of_length_le.{0}:=@List.take_of_length_le.{0}
theorem xI:type_of% @IntKind.wrap_i64:=@IntKind.wrap_i64
theorem xJ:type_of% @List.mem_map_of_mem.{0,0}:=@List.mem_map_of_mem.{0,0}
theorem xK:type_of% @Bool.and_eq_true:=@Bool.and_eq_true
theorem xL:type_of% @List.getElem?_set.{0}:=@List.getElem?_set.{0}
theorem xM:type_of% @List.any_eq_true.{0}:=@List.any_eq_true.{0}
theorem xN:type_of% @List.mem_append_right.{0}:=@List.mem_append_right.{0}
theorem xO:type_of% @List.getElem?_eq_none.{0}:=@List.getElem?_eq_none.{0}
theorem xP:type_of% @List.all_eq_true.{0}:=@List.all_eq_true.{0}
theorem xQ:type_of% @List.getElem?_mapIdx.{0,0}:=@List.getElem?_mapIdx.{0,0}
theorem xR:type_of% @List.map_append.{0,0}:=@List.map_append.{0,0}
theorem xS:type_of% @List.mem_cons_self.{0}:=@List.mem_cons_self.{0}
theorem xT:type_of% @List.getElem?_drop.{0}:=@List.getElem?_drop.{0}
theorem xU:type_of% @List.mem_cons_of_mem.{0}:=@List.mem_cons_of_mem.{0}
theorem xV:type_of% @beq_eq_false_iff_ne.{0}:=@beq_eq_false_iff_ne.{0}
theorem xW:type_of% @And.intro:=@And.intro
theorem nR {n:Nat}:n≤n:=Nat.le_refl _
theorem Hd {p:Prop}(h:p):Hid p:=Lib.hid h
inductive D where
 |v (x:Value)
 |sl (n:Nat)(ds:List D)
inductive Rd (w:World)(F:Nat→Prop):Value→D→Prop
 |v (x:Value):x.oneCell'=true→Rd w F x (.v x)
 |sl (A:Option Addr)(n c b off:Nat)(ds:List D)(f:Nat→Value):n≤c→c≤maxLen→(ds≠ []→A=some ⟨b,off,none⟩∧F b)→
  (∀k d,ds[k]? =some d→w.cell? ⟨b,off+k,none⟩=some (f k))→(∀k d,ds[k]? =some d→Rd w F (f k) d)→Rd w F (.slice A n c) (.sl n ds)
theorem ne_nil_of_get {α:Type}{l:List α}{k:Nat}{x:α}(h:l[k]? =some x):l≠ []:=by
 intro e;subst e;simp at h
theorem Rd.keep {w w':World}{F:Nat→Prop}{u:Value}{d:D}(h:Rd w F u d)(hk:∀b,F b→w'.heap[b]? =w.heap[b]?):Rd w' F u d:=by
 induction h with
 |v x h1=>exact .v x h1
 |sl A n c b off ds f hn hc hA hf hr ih=>
  refine .sl A n c b off ds f hn hc hA (fun k d hd=>?_) ih;rw[World.cell?_of_block (w:=w) (hk b (hA (ne_nil_of_get hd)).2)];exact hf k d hd
theorem Rd.mono {w:World}{F G:Nat→Prop}{u:Value}{d:D}(h:Rd w F u d)(hk:∀b,F b→b<w.heap.size→G b):Rd w G u d:=by
 induction h with
 |v x h1=>exact .v x h1
 |sl A n c b off ds f hn hc hA hf hr ih=>
  refine .sl A n c b off ds f hn hc (fun h=>?_) hf ih;obtain⟨e,hF⟩:=hA h;obtain⟨d,ds',rfl⟩:=List.exists_cons_of_ne_nil h;have:=zX w _ (hf 0 d rfl);exact⟨e,hk b hF this⟩
theorem Rd.v_inv {w:World}{F:Nat→Prop}{u x:Value}(h:Rd w F u (.v x)):u=x:=by cases h;rfl
theorem Rd.one {w:World}{F:Nat→Prop}{u:Value}{d:D}(h:Rd w F u d):u.oneCell'=true:=by
 cases h with
 |v x h=>exact h
 |sl=>rfl
theorem Rd.sl_inv {w:World}{F:Nat→Prop}{u:Value}{n:Nat}{ds:List D}(h:Rd w F u (.sl n ds)):∃A c,u=.slice A n c∧n≤c∧c≤maxLen:=by
 cases h;exact⟨_,_,rfl,‹_›,‹_›⟩
theorem Rd.cells {w:World}{F:Nat→Prop}{A:Option Addr}{n c m:Nat}{ds:List D}(h:Rd w F (.slice A n c) (.sl m ds))(hne:ds≠ []):
  ∃b off,A=some ⟨b,off,none⟩∧F b∧∀k d,ds[k]? =some d→∃u,w.cell? ⟨b,off+k,none⟩=some u∧Rd w F u d:=by
 cases h with
 |sl _ _ _ b off _ f hn hc hA hf hr=>
  obtain⟨e,hF⟩:=hA hne;exact⟨b,off,e,hF,fun k d hd=>⟨f k,hf k d hd,hr k d hd⟩⟩
theorem Rd.under {w w':World}{F:Nat→Prop}{u:Value}{d:D}{B:Nat}(h:Rd w F u d)(hb:Below B w w')(hF:∀b,F b→b<B):Rd w' F u d:=
 h.keep fun b hb'=>hb.block b (hF b hb')
theorem Rd.stay {w w':World}{F:Nat→Prop}{u:Value}{d:D}(h:Rd w F u d)(hb:Below w.heap.size w w'):Rd w' F u d:=
 ((h.mono (G:=fun b=>F b∧b<w.heap.size) fun b a c=>⟨a,c⟩).keep fun b hb'=>hb.block b hb'.2).mono fun b a _=>a.1
theorem Rd.drewN {w:World}{F:Nat→Prop}{u:Value}{d:D}(h:Rd w F u d)(k:Nat):Rd (w.drewN k) F u d:=h.keep fun _ _=>by simp
theorem Rd.drew {w:World}{F:Nat→Prop}{u:Value}{d:D}(h:Rd w F u d):Rd w.drew F u d:=h.keep fun _ _=>rfl
theorem Rd.alloc {w:World}{F:Nat→Prop}{u:Value}{d:D}(h:Rd w F u d)(o:Obj):Rd (w.alloc o) F u d:=
 h.stay ((zB _ _).alloc (zD _) o)
theorem Rd.setCell {w:World}{F:Nat→Prop}{u:Value}{d:D}(h:Rd w F u d){p:Addr}(hp:¬F p.block)(x:Value):Rd (w.setCell p x) F u d:=
 h.keep fun b hb=>Below.heap_setCell _ _ _ _ (fun e=>hp (e▸hb))
theorem Rd.grown {w w':World}{F:Nat→Prop}{u:Value}{d:D}{row:Option Nat}(h:Rd w F u d)(hg:w.grownBy w' row)(hp:∀b,F b→some b≠row):Rd w' F u d:=
 ((h.mono (G:=fun b=>F b∧b<w.heap.size) fun b a c=>⟨a,c⟩).keep fun b hb'=>hg.block b hb'.2 (hp b hb'.1)).mono fun b a _=>a.1
theorem Rd.take {w:World}{F:Nat→Prop}{A:Option Addr}{n c:Nat}{ds:List D}(h:Rd w F (.slice A n c) (.sl n ds)){k:Nat}(j:Nat)(hk:k≤n):Rd w F (.slice A k c) (.sl k (ds.take j)):=by
 cases h with
 |sl _ _ _ b off _ f hn hc hA hf hr=>
  refine .sl A k c b off _ f (by omega) hc (fun hne=>hA (fun e=>hne (by simp[e]))) (fun i d hd=>?_) (fun i d hd=>?_)
  all_goals
   rw[zZ]at hd;split at hd
   ·first|exact hf i d hd |exact hr i d hd
   ·cases hd
theorem fml {α β:Type}{f:α→List β}{m:Nat}(hf:∀x,(f x).length=m)(l:List α):(l.flatMap f).length=l.length*m:=by
 induction l with
 |nil=>simp
 |cons a l ih=>simp[hf,ih,Nat.succ_mul,Nat.add_comm]
theorem fmg {α β:Type}{f:α→List β}{m:Nat}(hf:∀x,(f x).length=m){l:List α}{i:Nat}{x:α}(hx:l[i]? =some x){j:Nat}{y:β}(hy:(f x)[j]? =some y):(l.flatMap f)[i*m+j]? =some y:=by
 induction l generalizing i with
 |nil=>simp at hx
 |cons a l ih=>
  cases i with
  |zero=>
   simp at hx;subst hx;have:j<(f a).length:=(zC.1 hy).1;simp[zS this,hy]
  |succ i=>
   simp at hx;rw[zK,zP (by rw[hf,Nat.succ_mul];omega)];rw[hf,show(i+1)*m+j-m=i*m+j by rw[Nat.succ_mul];omega];exact ih hx
theorem Rd.row {w:World}{F:Nat→Prop}{A:Option Addr}{n c m:Nat}{α:Type}{f:α→List D}(hf:∀x,(f x).length=m){l:List α}{x:α}{i:Nat}
  (h:Rd w F (.slice A n c) (.sl n (l.flatMap f)))(hx:l[i]? =some x)(hm:0<m):
  ∃b off,A=some ⟨b,off,none⟩∧F b∧∀j d,(f x)[j]? =some d→∃u,w.cell? ⟨b,off+i*m+j,none⟩=some u∧Rd w F u d:=by
 have hne:l.flatMap f≠ []:=by
  intro e;have h1:=fml hf l;rw[e]at h1;have h2:=(zC.1 hx).1;have:0<l.length*m:=Nat.mul_pos (by omega) hm;simp at h1;omega
 obtain⟨b,off,e,hF,hc⟩:=h.cells hne;refine⟨b,off,e,hF,fun j d hd=>?_⟩;rw[Nat.add_assoc];exact hc _ d (fmg hf hx hd)
theorem Rd.rowv {w:World}{F:Nat→Prop}{A:Option Addr}{n c m:Nat}{α:Type}{f:α→List D}(hf:∀x,(f x).length=m){l:List α}{x:α}{i:Nat}
  (h:Rd w F (.slice A n c) (.sl n (l.flatMap f)))(hx:l[i]? =some x)(hm:0<m):
  ∃b off,A=some ⟨b,off,none⟩∧F b∧(∀j y,(f x)[j]? =some (.v y)→w.cell? ⟨b,off+i*m+j,none⟩=some y)∧
   ∀j k ds,(f x)[j]? =some (.sl k ds)→∃A c,w.cell? ⟨b,off+i*m+j,none⟩=some (.slice A k c)∧Rd w F (.slice A k c) (.sl k ds):=by
 obtain⟨b,off,e,hF,hc⟩:=h.row hf hx hm;refine⟨b,off,e,hF,fun j y hy=>?_,fun j k ds hy=>?_⟩
 ·obtain⟨u,h1,h2⟩:=hc j _ hy;rw[h1,h2.v_inv]
 ·obtain⟨u,h1,h2⟩:=hc j _ hy;obtain⟨A',c',rfl,_,_⟩:=h2.sl_inv;exact⟨A',c',h1,h2⟩
theorem Rd.at1 {w:World}{F:Nat→Prop}{A:Option Addr}{n c:Nat}{ds:List D}{i:Nat}{y:Value}(h:Rd w F (.slice A n c) (.sl n ds))(hx:ds[i]? =some (.v y)):
  ∃b off,A=some ⟨b,off,none⟩∧F b∧w.cell? ⟨b,off+i,none⟩=some y:=by
 obtain⟨b,off,e,hF,hc⟩:=h.cells (ne_nil_of_get hx);obtain⟨u,h1,h2⟩:=hc i _ hx;exact⟨b,off,e,hF,by rw[h1,h2.v_inv]⟩
def strD (s:ByteArray):List D:=[.v (.string s)]
theorem getx {α:Type}{l:List α}{i:Nat}(h:i<l.length):∃x,l[i]? =some x:=⟨l[i],zI h⟩
theorem Rd.at_ {w:World}{F:Nat→Prop}{A:Option Addr}{n c:Nat}{α:Type}{f:α→Value}{l:List α}{x:α}{i:Nat}
  (h:Rd w F (.slice A n c) (.sl n (l.flatMap fun x=>[D.v (f x)])))(hx:l[i]? =some x):∃b off,A=some ⟨b,off,none⟩∧F b∧w.cell? ⟨b,off+i,none⟩=some (f x):=by
 obtain⟨b,off,e,hF,hc,_⟩:=h.rowv (m:=1) (fun _=>rfl) hx (by omega);have:=hc 0 (f x) rfl;rw[Nat.mul_one,Nat.add_zero]at this;exact⟨b,off,e,hF,this⟩
theorem rtI {k:IntKind}{a b:Int}(h:a=b):Ending.returned (.int k a)=.returned (.int k b):=by rw[h]
theorem rtB {a b:Bool}(h:a=b):Ending.returned (.bool a)=.returned (.bool b):=by rw[h]
abbrev Bw (w W:World):Prop:=Below w.heap.size w W
theorem bR {B:Nat}{w:World}:Below B w w:=Below.refl _ _
theorem bA {w:World}{o:Obj}:Below w.heap.size w (w.alloc o):=(Below.refl _ _).alloc (Nat.le_refl _) _
theorem bX {w:World}(o:Obj):Below w.heap.size w (w.alloc o):=(Below.refl _ _).alloc (Nat.le_refl _) _
structure ElT (P:Program)(t e size bytes:Nat):Prop where
 sl:P.underlying t=some (.slice e)
 info:∃i z,P.info? e=some i∧i.zero=some z∧i.size=size∧i.bytes=bytes∧z.cells.size=size
 pos:0<size
theorem ElT.of {P:Program}{t e size bytes:Nat}(h:P.underlying t=some (.slice e))(hi:(P.info? e).map (fun i=>(i.zero.map (·.cells.size),i.size,i.bytes))=some (some size,size,bytes))(hp:0<size):ElT P t e size bytes:=by
 refine⟨h,?_,hp⟩;cases hq:P.info? e with
 |none=>rw[hq]at hi;cases hi
 |some i=>
  rw[hq]at hi;simp only[Option.map_some,Option.some.injEq,Prod.mk.injEq]at hi;obtain⟨h1,h2,h3⟩:=hi;cases hz:i.zero with
  |none=>rw[hz]at h1;cases h1
  |some z=>
   rw[hz]at h1;exact⟨i,z,rfl,hz,h2,h3,by simpa using h1⟩
def OL (w:World)(B:Nat)(F:Nat→Prop)(e size:Nat)(v:Value)(n:Nat)(ds:List D):Prop:=
 ∃cells,w.ownsRow B e size v n cells∧ds.length=cells.length∧∀(k:Nat)(d:D),ds[k]? =some d→∃u,cells[k]? =some u∧Rd w (fun b=>F b∧some b≠v.ownBlock) u d
def Src (w:World)(A:Option Addr)(news:List D)(G:Nat→Prop):Prop:=
 news≠ []→∃b off,A=some ⟨b,off,none⟩∧∀(k:Nat)(d:D),news[k]? =some d→∃u,w.cell? ⟨b,off+k,none⟩=some u∧Rd w G u d
def PlainL (ds:List D):Prop:=∀d∈ds,∃x,d=.v x
theorem PlainL.flatMap {α:Type}{f:α→List D}(hf:∀x,PlainL (f x))(l:List α):PlainL (l.flatMap f):=by
 intro d hd;obtain⟨x,_,hx⟩:=xF.1 hd;exact hf x d hx
theorem Rd.srcq {w:World}{F G:Nat→Prop}{A:Option Addr}{n c m:Nat}{ds:List D}(hp:PlainL ds)(h:Rd w F (.slice A n c) (.sl m ds)):Src w A ds G:=by
 intro hne;obtain⟨b,off,e,_,hc⟩:=h.cells hne;refine⟨b,off,e,fun k d hd=>?_⟩;obtain⟨u,h1,h2⟩:=hc k d hd;obtain⟨x,rfl⟩:=hp d (zA hd);have:=h2.one;have e:=h2.v_inv;subst e;exact⟨_,h1,.v _ this⟩
theorem addr_add0 (g j:Nat):(⟨g,0,none⟩:Addr).add j=⟨g,j,none⟩:=by unfold Addr.add;split<;>simp_all
theorem addr_add (b o j:Nat):(⟨b,o,none⟩:Addr).add j=⟨b,o+j,none⟩:=by unfold Addr.add;split<;>simp_all
theorem Src.new {w:World}{G:Nat→Prop}{cs:Array Value}{t:Nat}{ds:List D}(h:∀(k:Nat)(d:D),ds[k]? =some d→∃u,cs[k]? =some u∧Rd w G u d):Src (w.alloc (.cells cs t)) (some ⟨w.heap.size,0,none⟩) ds G:=by
 intro hne;refine⟨_,_,rfl,fun k d hd=>?_⟩;obtain⟨u,h1,h2⟩:=h k d hd;refine⟨u,?_,h2.alloc _⟩;rw[Nat.zero_add,cell_of_row _ _ _ cs t (0,0) (heap_alloc_new w _)];exact h1
def RdL (w:World)(G:Nat→Prop):List Value→List D→Prop
 | [],[]=>True
 |u::us,d::ds=>Rd w G u d∧RdL w G us ds
 |_,_=>False
theorem RdL.get {w:World}{G:Nat→Prop}{cs:List Value}{ds:List D}(h:RdL w G cs ds){k:Nat}{d:D}(hd:ds[k]? =some d):∃u,cs[k]? =some u∧Rd w G u d:=by
 induction cs generalizing ds k with
 |nil=>cases ds with
  |nil=>simp at hd
  |cons=>exact h.elim
 |cons u us ih=>cases ds with
  |nil=>exact h.elim
  |cons d' ds=>cases k with
   |zero=>simp at hd;subst hd;exact⟨u,rfl,h.1⟩
   |succ k=>simp at hd;obtain⟨u',h1,h2⟩:=ih h.2 hd;exact⟨u',by simpa using h1,h2⟩
theorem Src.lit {w:World}{G:Nat→Prop}{cs:List Value}{t:Nat}{ds:List D}(h:RdL w G cs ds):Src (w.alloc (.cells ⟨cs⟩ t)) (some ⟨w.heap.size,0,none⟩) ds G:=
 Src.new fun k d hd=>by
  obtain⟨u,h1,h2⟩:=h.get hd;exact⟨u,by simpa using h1,h2⟩
theorem OL.nil (w:World)(B:Nat)(F:Nat→Prop)(e size:Nat):OL w B F e size (.slice none 0 0) 0 []:=
 ⟨[],World.ownsRow_nil w B e size,rfl,fun k d h=>by simp at h⟩
section
variable {w w':World}{B e size n:Nat}{F:Nat→Prop}{v:Value}{ds:List D}
theorem OL.form (h:OL w B F e size v n ds):∃A c,v=.slice A n c:=by
 obtain⟨cells,h1,_⟩:=h;rcases h1.2 with⟨rfl,rfl⟩|⟨g,cap,cur,rfl,_⟩
 ·exact⟨_,_,rfl⟩
 ·exact⟨_,_,rfl⟩
theorem OL.len (h:OL w B F e size v n ds):ds.length=n*size:=by
 obtain⟨cells,h1,h2,_⟩:=h;rw[h2,h1.1]
theorem OL.lt (h:OL w B F e size v n ds):∀k,v.ownBlock=some k→B≤k∧k<w.heap.size:=by
 obtain⟨cells,h1,_⟩:=h;exact h1.lt
theorem OL.kept {row:Option Nat}(h:OL w B F e size v n ds)(hg:w.grownBy w' row)(hne:v.ownBlock=none∨v.ownBlock≠row)(hF:∀b,F b→some b≠row):OL w' B F e size v n ds:=by
 obtain⟨cells,h1,h2,h3⟩:=h;refine⟨cells,h1.kept hg hne,h2,fun k d hd=>?_⟩;obtain⟨u,hu,hr⟩:=h3 k d hd;exact⟨u,hu,hr.grown hg fun b hb=>hF b hb.1⟩
theorem Below.grown_none (hb:Bw w w'):w.grownBy w' none:=
 ⟨hb.os,hb.tape,hb.output,hb.size,fun k hk _=>hb.block k hk⟩
theorem OL.stay (h:OL w B F e size v n ds)(hb:Bw w w'):OL w' B F e size v n ds:=
 h.kept (row:=none) (Below.grown_none hb) (by cases v.ownBlock<;>simp) (fun _ _=>by simp)
theorem OL.alloc (h:OL w B F e size v n ds)(o:Obj):OL (w.alloc o) B F e size v n ds:=h.stay ((bR).alloc nR o)
theorem OL.drew (h:OL w B F e size v n ds):OL w.drew B F e size v n ds:=h.stay ((bR).drew)
theorem OL.mono {G:Nat→Prop}(h:OL w B F e size v n ds)(hk:∀b,F b→G b):OL w B G e size v n ds:=by
 obtain⟨cells,h1,h2,h3⟩:=h;refine⟨cells,h1,h2,fun k d hd=>?_⟩;obtain⟨u,hu,hr⟩:=h3 k d hd;exact⟨u,hu,hr.mono fun b hb _=>⟨hk b hb.1,hb.2⟩⟩
theorem OL.setCell (h:OL w B F e size v n ds){p:Addr}(hp:v.ownBlock≠some p.block)(hF:¬F p.block)(x:Value):OL (w.setCell p x) B F e size v n ds:=by
 refine h.kept (row:=some p.block) ⟨rfl,rfl,rfl,by simp[World.setCell],fun k hk hne=>Below.heap_setCell _ _ _ _ (fun e=>hne (by rw[e]))⟩ (.inr hp) (fun b hb he=>hF (by injection he with he;exact he▸hb))
theorem OL.row (h:OL w B F e size v n ds)(hn:0<n):∃g cap,v=.slice (some ⟨g,0,none⟩) n cap∧B≤g∧g<w.heap.size∧(∀j,w.frozen? ⟨g,j,none⟩=false)∧
  ∀(k:Nat)(d:D),ds[k]? =some d→∃u,w.cell? ⟨g,k,none⟩=some u∧Rd w (fun b=>F b∧b≠g) u d:=by
 obtain⟨cells,h1,h2,h3⟩:=h;rcases h1.2 with⟨rfl,h0⟩|⟨g,cap,cur,rfl,hB,hg,hnc,hm,hs,ht⟩
 ·omega
 ·refine⟨g,cap,rfl,hB,(Array.getElem?_eq_some_iff.1 hg).1,fun j=>by simp[World.frozen?,hg],fun k d hd=>?_⟩;obtain⟨u,hu,hr⟩:=h3 k d hd;refine⟨u,?_,hr.mono fun b hb _=>⟨hb.1,fun e=>hb.2 (by rw[e];rfl)⟩⟩;rw[cell_of_row w g k cur e (0,0) hg];rw[←ht,zZ]at hu;split at hu
  ·simpa using hu
  ·cases hu
theorem OL.set {g cap:Nat}(h:OL w B F e size (.slice (some ⟨g,0,none⟩) n cap) n ds){j:Nat}{u:Value}{d:D}(hu:Rd w (fun b=>F b∧b≠g) u d):
  OL (w.setCell ⟨g,j,none⟩ u) B F e size (.slice (some ⟨g,0,none⟩) n cap) n (ds.set j d):=by
 obtain⟨cells,h1,h2,h3⟩:=h;have hk:∀{x:Value}{y:D},Rd w (fun b=>F b∧some b≠Value.ownBlock (.slice (some ⟨g,0,none⟩) n cap)) x y→Rd (w.setCell ⟨g,j,none⟩ u) (fun b=>F b∧some b≠Value.ownBlock (.slice (some ⟨g,0,none⟩) n cap)) x y:=fun hr=>
  hr.setCell (p:=⟨g,j,none⟩) (fun h=>h.2 rfl) u
 refine⟨cells.set j u,(h1.stored j u).1,by simp[h2],fun k y hy=>?_⟩;rw[xL]at hy ⊢;by_cases hjk:j=k
 ·subst hjk;rw[if_pos rfl]at hy ⊢;split at hy
  ·injection hy with hy
   subst hy;rw[if_pos (by omega)];exact⟨u,rfl,hk (hu.mono fun b hb _=>⟨hb.1,fun e=>hb.2 (by simpa[Value.ownBlock] using e)⟩)⟩
  ·cases hy
 ·rw[if_neg hjk]at hy ⊢;obtain⟨x,hx,hr⟩:=h3 k y hy;exact⟨x,hx,hk hr⟩
theorem OL.ne {B' e' size' n':Nat}{F':Nat→Prop}{v':Value}{ds':List D}(h:OL w B F e size v n ds)(h':OL w B' F' e' size' v' n' ds')(hne:e≠e'):v.ownBlock=none∨v.ownBlock≠v'.ownBlock:=by
 obtain⟨cells,h1,_⟩:=h;obtain⟨cells',h1',_⟩:=h';rcases h1.2 with⟨rfl,_⟩|⟨g,cap,cur,rfl,_,hg,_⟩
 ·exact .inl rfl
 ·refine .inr ?_;rcases h1'.2 with⟨rfl,_⟩|⟨g',cap',cur',rfl,_,hg',_⟩
  ·simp[Value.ownBlock]
  ·intro he;simp[Value.ownBlock]at he;subst he;rw[hg]at hg';injection hg' with hg'
   injection hg' with _ ht
   exact hne ht
theorem OL.rd' {G:Nat→Prop}(h:OL w B F e size v n ds)(hG:∀b,F b→b<w.heap.size→G b)(hB:∀b,v.ownBlock=some b→B≤b→b<w.heap.size→G b):Rd w G v (.sl n ds):=by
 obtain⟨cells,h1,h2,h3⟩:=h;obtain⟨hl,hx⟩:=h1;rcases hx with⟨rfl,rfl⟩|⟨g,cap,cur,rfl,hb,hg,hn,hm,hs,ht⟩
 ·have:ds=[]:=List.eq_nil_of_length_eq_zero (by rw[h2,hl];simp);subst this;exact .sl none 0 0 0 0 [] (fun _=>.bool false) nR (zE _) (fun h=>absurd rfl h) (fun k d h=>by simp at h) (fun k d h=>by simp at h)
 ·refine .sl _ n cap g 0 ds (fun k=>cells[k]?.getD (.bool false)) hn hm (fun _=>⟨rfl,hB g rfl hb (Array.getElem?_eq_some_iff.1 hg).1⟩) (fun k d hd=>?_) (fun k d hd=>?_)
  ·obtain⟨u,hu,_⟩:=h3 k d hd;rw[hu,Nat.zero_add,cell_of_row w g k cur e (0,0) hg];rw[←ht,zZ]at hu;split at hu
   ·simpa using hu
   ·cases hu
  ·obtain⟨u,hu,hr⟩:=h3 k d hd;rw[hu];exact hr.mono fun b hb' hlt=>hG b hb'.1 hlt
theorem OL.rd {G:Nat→Prop}(h:OL w B F e size v n ds)(hG:∀b,F b→b<w.heap.size→G b)(hB:∀b,B≤b→b<w.heap.size→G b):Rd w G v (.sl n ds):=
 h.rd' hG fun b _=>hB b
theorem OL.monoLt {G:Nat→Prop}(h:OL w B F e size v n ds)(hk:∀b,F b→b<w.heap.size→G b):OL w B G e size v n ds:=by
 obtain⟨cells,h1,h2,h3⟩:=h;refine⟨cells,h1,h2,fun k d hd=>?_⟩;obtain⟨u,hu,hr⟩:=h3 k d hd;exact⟨u,hu,hr.mono fun b hb hlt=>⟨hk b hb.1 hlt,hb.2⟩⟩
end
section
variable {P:Program}{w:World}
theorem run_append_of_nil (base:Nat)(t ty e:TypeId)(i:TypeInfo)(size:Nat)(ht:P.underlying t=some (.slice e))(hi:P.info? e=some i)
  (v:Value)(n:Nat)(xs:List Value)(hown:w.ownsRow base e size v n xs)(c:Nat):(Builtin.append_ #[t,t] ty #[v,.slice none 0 c]).run P w=.ok v w:=by
 rcases hown.2 with⟨rfl,rfl⟩|⟨g,cap,cur,rfl,_,_,hnc,_⟩
 ·simp[Builtin.append_,run_underlying ht,sizeOf,typeInfo,hi,Builtin.lenOf,Builtin.firstCells]
 ·simp[Builtin.append_,run_underlying ht,sizeOf,typeInfo,hi,Builtin.lenOf,Builtin.firstCells,hnc,storeCells]
theorem Rd.regrow {w w':World}{F:Nat→Prop}{v v' u:Value}{d:D}(h:Rd w (fun b=>F b∧some b≠v.ownBlock) u d)(hg:w.grownBy w' v.ownBlock)
  (ha:v'.ownBlock=v.ownBlock∨v'.ownBlock=some w.heap.size):Rd w' (fun b=>F b∧some b≠v'.ownBlock) u d:=by
 refine((h.mono (G:=fun b=>(F b∧some b≠v.ownBlock)∧b<w.heap.size) fun b a c=>⟨a,c⟩).keep fun b hb=>hg.block b hb.2 hb.1.2).mono fun b hb _=>⟨hb.1.1,?_⟩
 rcases ha with e |e
 ·rw[e];exact hb.1.2
 ·rw[e];intro he;have:=hb.2;injection he with he
  omega
theorem run_app {B t ty e size bytes n m c:Nat}{F:Nat→Prop}{v:Value}{ds news:List D}{A:Option Addr}(T:ElT P t e size bytes)(hown:OL w B F e size v n ds)
  (hsrc:Src w A news (fun b=>F b∧some b≠v.ownBlock))(hl:news.length=m*size)(hn:n+m≤4294967296)(hb:bytes≤32768)(hB:B≤w.heap.size):
  ∃v' w',(Builtin.append_ #[t,t] ty #[v,.slice A m c]).run P w=.ok v' w'∧OL w' B F e size v' (n+m) (ds++news)∧w.grownBy w' v.ownBlock∧(v'.ownBlock=v.ownBlock∨v'.ownBlock=some w.heap.size):=by
 obtain⟨ht,⟨i,z,hi,hz,hsize,hby,hzs⟩,hp⟩:=T;have h63:n+m≤maxLen:=by unfold maxLen;omega
 have hbytes:(n+m)*bytes≤140737488355328:=zU (Nat.mul_le_mul hn hb) (by decide);obtain⟨cells,h1,h2,h3⟩:=hown;by_cases hne:news=[]
 ·subst hne;have hm:m=0:=by
   rcases Nat.eq_zero_or_pos m with h |h
   ·exact h
   ·have:=Nat.mul_pos h hp;simp at hl;omega
  subst hm;rcases A with _ |ad
  ·exact⟨v,w,run_append_of_nil B t ty e i size ht hi v n cells h1 c,⟨cells,by simpa using h1,by simpa using h2,by simpa using h3⟩,World.grownBy.refl w _,.inl rfl⟩
  ·obtain⟨v',w',hr,a1,a2,_,a4⟩:=run_append_own_at (P:=P) w B t ty e i z size bytes ht hi hz hsize hby hzs hp v n cells h1 ad 0 c [] (by simp) (fun j u h=>by simp at h) (fun u h=>by simp at h) h63 hbytes hB;refine⟨v',w',hr,⟨cells,by simpa using a1,by simpa using h2,fun k d hd=>?_⟩,a2,a4⟩;simp at hd;obtain⟨u,hu,hx⟩:=h3 k d hd;exact⟨u,hu,hx.regrow a2 a4⟩
 ·obtain⟨b,off,rfl,hc⟩:=hsrc hne;have hex:∀k,k<news.length→∃u,w.cell? ⟨b,off+k,none⟩=some u∧∀d,news[k]? =some d→Rd w (fun b=>F b∧some b≠v.ownBlock) u d:=fun k hk=>by
   obtain⟨u,h4,h5⟩:=hc k news[k] (zI hk);refine⟨u,h4,fun d hd=>?_⟩;rw[zI hk]at hd;injection hd with hd
   subst hd;exact h5
  obtain⟨g,hg⟩:=choose_lt hex;have hget:∀(k:Nat)(u:Value),((List.range news.length).map g)[k]? =some u→k<news.length∧u=g k:=fun k u h=>by
   rw[zG]at h;rcases Nat.lt_or_ge k news.length with hk |hk
   ·rw[List.getElem?_range hk]at h;simp at h;exact⟨hk,h.symm⟩
   ·rw[xO (by simpa using hk)]at h;simp at h
  obtain⟨v',w',hr,a1,a2,_,a4⟩:=run_append_own_at (P:=P) w B t ty e i z size bytes ht hi hz hsize hby hzs hp v n cells h1 ⟨b,off,none⟩ m c ((List.range news.length).map g) (by simpa using hl)
   (fun j u h=>by
    obtain⟨hk,rfl⟩:=hget j u h;rw[addr_add];exact(hg j hk).1)
   (fun u h=>by
    obtain⟨j,hj⟩:=zN h;obtain⟨hk,rfl⟩:=hget j u hj;exact((hg j hk).2 _ (zI hk)).one)
   h63 hbytes hB
  refine⟨v',w',hr,⟨_,a1,by simp[h2],fun k d hd=>?_⟩,a2,a4⟩;rcases Nat.lt_or_ge k ds.length with hk |hk
  ·rw[zS hk]at hd;obtain⟨u,hu,hx⟩:=h3 k d hd;exact⟨u,by rw[zS (by omega)];exact hu,hx.regrow a2 a4⟩
  ·rw[zP hk]at hd;have hk':=(zC.1 hd).1;refine⟨g (k-ds.length),?_,((hg _ hk').2 d hd).regrow a2 a4⟩;rw[zP (by omega),←h2,zG,List.getElem?_range hk'];rfl
theorem wp_app {o:Oper}{a:Act}{K:Act→World→Prop}{Q:Exit→Act→World→Prop}(s x:Operand)(t:TypeId)
  (ho:o.op=.call {callee:=.builtin .append,args:=#[s,x],argTypes:=#[t,t]})
  {B e size bytes n m c:Nat}{F:Nat→Prop}{v:Value}{ds news:List D}{A:Option Addr}(T:ElT P t e size bytes)(hown:OL w B F e size v n ds)(hs:a.eval s=v)(hx:a.eval x=.slice A m c)
  (hsrc:Src w A news (fun b=>F b∧some b≠v.ownBlock))(hl:news.length=m*size)(hn:n+m≤4294967296)(hb:bytes≤32768)(hB:B≤w.heap.size)
  (h:∀v' w',OL w' B F e size v' (n+m) (ds++news)→w.grownBy w' v.ownBlock→(v'.ownBlock=v.ownBlock∨v'.ownBlock=some w.heap.size)→K (a.put o.dst v') w'):o.wp P a w K Q:=by
 obtain⟨v',w',hrun,h2,h3,h4⟩:=run_app (P:=P) (ty:=o.type) T hown hsrc hl hn hb hB (c:=c);unfold Oper.wp execOp;simp only[ho,resolve,invoke,builtin,Sem.run_bind,Sem.run_pure,Result.andThen_ok,List.map_toArray,List.map_cons,List.map_nil,hs,hx,hrun];exact h v' w' h2 h3 h4
theorem wpa {ops:Array Oper}{rest:List Oper}{o:Oper}{a:Act}{Q:Exit→Act→World→Prop}(hgd:o.guard=none)(s x:Operand)(t:TypeId)
  (ho:o.op=.call {callee:=.builtin .append,args:=#[s,x],argTypes:=#[t,t]})
  {B e size bytes n m c:Nat}{F:Nat→Prop}{v:Value}{ds news:List D}{A:Option Addr}(T:ElT P t e size bytes)(hown:OL w B F e size v n ds)(hs:a.eval s=v)(hx:a.eval x=.slice A m c)
  (hsrc:Src w A news (fun b=>F b∧some b≠v.ownBlock))(hl:news.length=m*size)(hn:n+m≤4294967296)(hb:bytes≤32768)(hB:B≤w.heap.size)
  (h:∀v' w',OL w' B F e size v' (n+m) (ds++news)→w.grownBy w' v.ownBlock→(v'.ownBlock=v.ownBlock∨v'.ownBlock=some w.heap.size)→wpList P ops Q rest (a.put o.dst v') w'):wpList P ops Q (o::rest) a w:=
 wpList_plain hgd fun _ hK=>wp_app s x t ho T hown hs hx hsrc hl hn hb hB fun v' w' h2 h3 h4=>hK _ _ (h v' w' h2 h3 h4)
theorem step_app {ops:Array Oper}{o:Oper}{a:Act}{K:Act→World→Prop}{Q:Exit→Act→World→Prop}{E:Prop}(hgd:o.guard=none)(s x:Operand)(t:TypeId)
  (ho:o.op=.call {callee:=.builtin .append,args:=#[s,x],argTypes:=#[t,t]})
  {B e size bytes n m c:Nat}{F:Nat→Prop}{v:Value}{ds news:List D}{A:Option Addr}(T:ElT P t e size bytes)(hown:OL w B F e size v n ds)(hs:a.eval s=v)(hx:a.eval x=.slice A m c)
  (hsrc:Src w A news (fun b=>F b∧some b≠v.ownBlock))(hl:news.length=m*size)(hn:n+m≤4294967296)(hb:bytes≤32768)(hB:B≤w.heap.size)
  (h:∀v' w',OL w' B F e size v' (n+m) (ds++news)→w.grownBy w' v.ownBlock→(v'.ownBlock=v.ownBlock∨v'.ownBlock=some w.heap.size)→K (a.put o.dst v') w'):
  if Region.wanted o (yielded ops a.tmps)=true then Oper.wp P o a w K Q else E:=by
 have hw:Region.wanted o (yielded ops a.tmps)=true:=by simp[Region.wanted,hgd]
 rw[if_pos hw];exact wp_app s x t ho T hown hs hx hsrc hl hn hb hB h
end
def Blk (w:World)(g t:Nat)(cs:List Value):Prop:=w.heap[g]? =some (.cells ⟨cs⟩ t (0,0))
section
variable {w w':World}{g t:Nat}{cs:List Value}
theorem Blk.lt (h:Blk w g t cs):g<w.heap.size:=(Array.getElem?_eq_some_iff.1 h).1
theorem Blk.cell (h:Blk w g t cs)(i:Nat):w.cell? ⟨g,i,none⟩=cs[i]? :=by
 rw[cell_of_row w g i ⟨cs⟩ t (0,0) h];simp
theorem Blk.frozen (h:Blk w g t cs)(i:Nat):w.frozen? ⟨g,i,none⟩=false:=by
 unfold Blk at h;simp[World.frozen?,h]
theorem Blk.new (w:World)(t:Nat)(cs:List Value):Blk (w.alloc (.cells ⟨cs⟩ t)) w.heap.size t cs:=heap_alloc_new w _
theorem Blk.new' {w:World}{g t:Nat}{cs:List Value}(hg:w.heap.size=g):Blk (w.alloc (.cells ⟨cs⟩ t)) g t cs:=hg▸Blk.new w t cs
theorem Blk.stay (h:Blk w g t cs)(hb:Bw w w'):Blk w' g t cs:=(hb.block g h.lt).trans h
theorem Blk.alloc (h:Blk w g t cs)(o:Obj):Blk (w.alloc o) g t cs:=h.stay ((bR).alloc nR o)
theorem Blk.drewN (h:Blk w g t cs)(k:Nat):Blk (w.drewN k) g t cs:=h.stay (below_drewN bR k)
theorem Blk.set_ (h:Blk w g t cs)(i:Nat)(u:Value):Blk (w.setCell ⟨g,i,none⟩ u) g t (cs.set i u):=by
 unfold Blk at h ⊢;simp[World.setCell,Array.getElem?_modify,h]
theorem Blk.far (h:Blk w g t cs){p:Addr}(hp:g≠p.block)(u:Value):Blk (w.setCell p u) g t cs:=(Below.heap_setCell w p u g hp).trans h
theorem Blk.under {B:Nat}(h:Blk w g t cs)(hb:Below B w w')(hg:g<B):Blk w' g t cs:=(hb.block g hg).trans h
theorem Blk.grown {row:Option Nat}(h:Blk w g t cs)(hb:w.grownBy w' row)(hg:some g≠row):Blk w' g t cs:=(hb.block g h.lt hg).trans h
end
theorem at_op {P:Program}{ops:Array Oper}{rest:List Oper}{o:Oper}{a:Act}{w:World}{Q:Exit→Act→World→Prop}(x:Op)(_h:o.op=x)(k:wpList P ops Q (o::rest) a w):wpList P ops Q (o::rest) a w:=k
def AggT (P:Program)(t size:Nat):Prop:=∃d,P.underlying t=some d∧d.isRow=true∧(P.info? t).map (·.size)=some size
section
variable {P:Program}{w:World}{g t:Nat}{cs:List Value}
theorem Blk.range (h:Blk w g t cs):w.rangeAt g 0 cs:=fun j v hv=>by rw[Nat.zero_add,h.cell];exact hv
theorem run_loadVar_blk {ty:Nat}(h:Blk w g t cs)(T:AggT P ty cs.length):(loadVar ty ⟨g,0,none⟩).run P w=.ok (.agg ⟨cs⟩) w:=by
 obtain⟨d,hu,hd,hi⟩:=T;exact run_loadVar_mid w g 0 ty cs d h.range hu hd hi
theorem setCells_blk (cs':List Value):∀(o:Nat)(w:World)(cs:List Value),Blk w g t cs→o+cs'.length=cs.length→Blk (w.setCells g o cs') g t (cs.take o++cs')∧w.grownBy (w.setCells g o cs') (some g):=by
 induction cs' with
 |nil=>
  intro o w cs h hl;simp only[List.length_nil,Nat.add_zero]at hl;subst hl;simp only[World.setCells,zT,zL];exact⟨h,World.grownBy.refl w _⟩
 |cons v r ih=>
  intro o w cs h hl;simp only[List.length_cons]at hl;obtain⟨h1,h2⟩:=ih (o+1) (w.setCell ⟨g,o,none⟩ v) (cs.set o v) (h.set_ o v) (by simp;omega);refine⟨?_,?_⟩
  ·have:(cs.set o v).take (o+1)=cs.take o++[v]:=by
    rw[zJ,xL,if_pos rfl,if_pos (by omega),List.take_set_of_le nR];rfl
   rw[this]at h1;simpa[World.setCells] using h1
  ·refine⟨h2.os,h2.tape,h2.output,?_,fun k hk hne=>?_⟩
   ·have:=h2.size;refine zU ?_ this;simp[World.setCell]
   ·have:=h2.block k (by simpa[World.setCell] using hk) hne;refine this.trans (Below.heap_setCell _ _ _ _ (fun e=>hne (by rw[e])))
theorem wsb {ops:Array Oper}{rest:List Oper}{op:Oper}{a:Act}{Q:Exit→Act→World→Prop}(hgd:op.guard=none)(ty:TypeId)(x y:Operand)(ho:op.op=.store ty x y)
  {cs':List Value}(h:Blk w g t cs)(T:AggT P ty cs'.length)(hl:cs'.length=cs.length)(hx:a.eval x=.pointer (some ⟨g,0,none⟩))(hy:a.eval y=.agg ⟨cs'⟩)(h1:cs'.all (·.oneCell')=true)
  (hk:∀w',Blk w' g t cs'→w.grownBy w' (some g)→wpList P ops Q rest (a.put op.dst undef) w'):wpList P ops Q (op::rest) a w:=by
 obtain⟨d,hu,hd,hi⟩:=T;obtain⟨h2,h3⟩:=setCells_blk cs' 0 w cs h (by omega);refine wpList_store_mid hgd ty x y ho g 0 ⟨cs'⟩ hx hy (fun j hj=>?_) hi (by simpa using h1) (hk _ (by simpa using h2) h3);rw[Nat.zero_add];refine⟨?_,h.frozen j⟩;rw[h.cell,zI (by simp at hj;omega)];rfl
theorem bpb {fn:Func}{R:Ending→World→Prop}{a:Act}{p q ty:Nat}{v:Value}(hr:fn.results=#[.cell p ty,.tmp q])(h:Blk w g t cs)(T:AggT P ty cs.length)
  (hp:a.tmps.getD p undef=.pointer (some ⟨g,0,none⟩))(hq:a.tmps.getD q undef=v)(hd:a.defers=[])(hR:R (.returned (.tuple #[.agg ⟨cs⟩,v])) w):bodyPost P fn R .ret a w:=by
 refine bodyPost_ret (v:=.tuple #[.agg ⟨cs⟩,v]) ?_ hd hR;simp only[Array.getD_eq_getD_getElem?]at hp hq;simp[results,hr,hp,hq,asAddr,run_loadVar_blk h T]
end
end Go.Proofs.YtfiodnlgiglhfaaGreatDoor
