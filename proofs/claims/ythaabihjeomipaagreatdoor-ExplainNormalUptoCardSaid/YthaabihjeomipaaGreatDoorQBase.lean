/- Plain data in memory. -/
import Derived.WalkKit
import Derived.WalkSpells
import Derived.WalkLawsBesides
import Derived.Lib.Hide
import Derived.Deep.Slices
import Derived.OpenShut
import Derived.Maps.AppendAt
import Derived.Test.YthaabihjeomipaaGreatDoorRows
import Derived.Deep.QuietTactic
import Derived.BigQuiet
namespace Go.Proofs.YthaabihjeomipaaGreatDoor
set_option maxRecDepth 100000
set_option maxHeartbeats 16000000
open Go.RowKit Go.Deep
set_option linter.unusedVariables false
theorem zA:type_of% @List.mem_of_getElem?.{0}:=@List.mem_of_getElem?.{0}
theorem zB:type_of% @Below.refl:=@Below.refl
theorem zC:type_of% @List.getElem?_eq_some_iff.{0}:=@List.getElem?_eq_some_iff.{0}
theorem zD:type_of% @Nat.le_refl:=@Nat.le_refl
theorem zE:type_of% @Nat.zero_le:=@Nat.zero_le
theorem zF:type_of% @Nat.lt_of_lt_of_le:=@Nat.lt_of_lt_of_le
theorem zG:type_of% @List.getElem?_map.{0,0}:=@List.getElem?_map.{0,0}
theorem zH:type_of% @List.length_append.{0}:=@List.length_append.{0}
theorem zI:type_of% @List.getElem?_eq_getElem.{0}:=@List.getElem?_eq_getElem.{0}
theorem zJ:type_of% @List.take_add_one.{0}:=@List.take_add_one.{0}
theorem zK:type_of% @List.flatMap_cons.{0,0}:=@List.flatMap_cons.{0,0}
theorem zL:type_of% @List.take_length.{0}:=@List.take_length.{0}
theorem zM:type_of% @List.mem_append.{0}:=@List.mem_append.{0}
theorem zN:type_of% @List.getElem?_of_mem.{0}:=@List.getElem?_of_mem.{0}
theorem zO:type_of% @List.length_take.{0}:=@List.length_take.{0}
theorem zP:type_of% @List.getElem?_append_right.{0}:=@List.getElem?_append_right.{0}
theorem zq9:type_of% @Option.some.inj.{0}:=@Option.some.inj.{0}
theorem zR:type_of% @List.append_assoc.{0}:=@List.append_assoc.{0}
theorem zS:type_of% @List.getElem?_append_left.{0}:=@List.getElem?_append_left.{0}
theorem zT:type_of% @List.append_nil.{0}:=@List.append_nil.{0}
theorem zU:type_of% @Nat.le_trans:=@Nat.le_trans
theorem zV:type_of% @decide_eq_false:=@decide_eq_false
theorem zW:type_of% @decide_eq_true:=@decide_eq_true
theorem zX:type_of% @World.block_lt_of_cell? :=@World.block_lt_of_cell?
theorem zY:type_of% @List.getElem?_cons_zero.{0}:=@List.getElem?_cons_zero.{0}
theorem zZ:type_of% @List.getElem?_take.{0}:=@List.getElem?_take.{0}
theorem xA:type_of% @List.getElem?_cons_succ.{0}:=@List.getElem?_cons_succ.{0}
theorem xB:type_of% @List.mem_singleton.{0}:=@List.mem_singleton.{0}
theorem xC:type_of% @List.length_map.{0,0}:=@List.length_map.{0,0}
theorem xD:type_of% @List.flatMap_append.{0,0}:=@List.flatMap_append.{0,0}
theorem xE:type_of% @Bool.true_and:=@Bool.true_and
theorem xF:type_of% @List.mem_flatMap.{0,0}:=@List.mem_flatMap.{0,0}
theorem xG:type_of% @Option.map_eq_some_iff.{0,0}:=@Option.map_eq_some_iff.{0,0}
theorem xH:type_of% @List.take_of_length_le.{0}:=@List.take_of_length_le.{0}
theorem xI:type_of% @IntKind.wrap_i64:=@IntKind.wrap_i64
theorem xJ:type_of% @List.mem_map_of_mem.{0,0}:=@List.mem_map_of_mem.{0,0}
theorem xK:type_of% @Bool.and_eq_true:=@Bool.and_eq_true
theorem xL:type_of% @List.getElem?_set.{0}:=@List.getElem?_set.{0}
theorem xM:type_of% @List.any_eq_true.{0}:=@List.any_eq_true.{0}
theorem xN:type_of% @List.mem_append_right.{0}:=@List.mem_append_right.{0}
theorem xO:type_of% @List.getElem?_eq_none.{0}:=@List.getElem?_eq_none.{0}
theorem xP:type_of% @List.all_eq_true.{0}:=@List.all_eq_true.{0}
theorem xQ:type_of% @List.getElem?_mapIdx.{0,0}:=@List.getElem?_mapIdx.{0,0}
theorem xR:type_of% @List.map_append.{0,0}:=@List.map_append.{0,0}
theorem xS:type_of% @List.mem_cons_self.{0}:=@List.mem_cons_self.{0}
theorem xT:type_of% @List.getElem?_drop.{0}:=@List.getElem?_drop.{0}
theorem xU:type_of% @List.mem_cons_of_mem.{0}:=@List.mem_cons_of_mem.{0}
theorem xV:type_of% @beq_eq_false_iff_ne.{0}:=@beq_eq_false_iff_ne.{0}
theorem xW:type_of% @And.intro:=@And.intro
theorem nR {n:Nat}:n≤n:=Nat.le_refl _
theorem oQ {p:Prop}(h:p:=by omega):p:=h
theorem gQ {p:Prop}(h:p:=by go_num):p:=h
theorem sJ {p:Prop}(h:p:=by simp):p:=h
theorem kQ {p:Prop}(h:p:=by kernel_rfl):p:=h
theorem dQ {p:Prop}(h:p:=by decide):p:=h
theorem mQ {p:Prop}(h:p:=by simp[intOf];omega):p:=h
theorem Hd {p:Prop}(h:p):Hid p:=Lib.hid h
inductive D where
 |v (x:Value)
 |sl (n:Nat)(ds:List D)
inductive Rd (w:World)(F:Nat→Prop):Value→D→Prop
 |v (x:Value):x.oneCell'=true→Rd w F x (.v x)
 |sl (A:Option Addr)(n c b off:Nat)(ds:List D)(f:Nat→Value):n≤c→c≤maxLen→(ds≠ []→A=some ⟨b,off,none⟩∧F b)→
  (∀k d,ds[k]? =some d→w.cell? ⟨b,off+k,none⟩=some (f k))→(∀k d,ds[k]? =some d→Rd w F (f k) d)→Rd w F (.slice A n c) (.sl n ds)
theorem ne_nil_of_get {α:Type}{l:List α}{k:Nat}{x:α}(h:l[k]? =some x):l≠ []:=by
 intro e;subst e;simp at h
theorem Rd.keep {w w':World}{F:Nat→Prop}{u:Value}{d:D}(h:Rd w F u d)(hk:∀b,F b→w'.heap[b]? =w.heap[b]?):Rd w' F u d:=by
 induction h with
 |v x h1=>exact .v x h1
 |sl A n c b off ds f hn hc hA hf hr ih=>
  refine .sl A n c b off ds f hn hc hA (fun k d hd=>?_) ih;rw[World.cell?_of_block (w:=w) (hk b (hA (ne_nil_of_get hd)).2)];exact hf k d hd
theorem Rd.mono {w:World}{F G:Nat→Prop}{u:Value}{d:D}(h:Rd w F u d)(hk:∀b,F b→b<w.heap.size→G b):Rd w G u d:=by
 induction h with
 |v x h1=>exact .v x h1
 |sl A n c b off ds f hn hc hA hf hr ih=>
  refine .sl A n c b off ds f hn hc (fun h=>?_) hf ih;obtain⟨e,hF⟩:=hA h;obtain⟨d,ds',rfl⟩:=List.exists_cons_of_ne_nil h;have:=zX w _ (hf 0 d rfl);exact⟨e,hk b hF this⟩
theorem Rd.v_inv {w:World}{F:Nat→Prop}{u x:Value}(h:Rd w F u (.v x)):u=x:=by cases h;rfl
theorem Rd.one {w:World}{F:Nat→Prop}{u:Value}{d:D}(h:Rd w F u d):u.oneCell'=true:=by
 cases h with
 |v x h=>exact h
 |sl=>rfl
theorem Rd.sl_inv {w:World}{F:Nat→Prop}{u:Value}{n:Nat}{ds:List D}(h:Rd w F u (.sl n ds)):∃A c,u=.slice A n c∧n≤c∧c≤maxLen:=by
 cases h;exact⟨_,_,rfl,‹_›,‹_›⟩
theorem Rd.cells {w:World}{F:Nat→Prop}{A:Option Addr}{n c m:Nat}{ds:List D}(h:Rd w F (.slice A n c) (.sl m ds))(hne:ds≠ []):
  ∃b off,A=some ⟨b,off,none⟩∧F b∧∀k d,ds[k]? =some d→∃u,w.cell? ⟨b,off+k,none⟩=some u∧Rd w F u d:=by
 cases h with
 |sl _ _ _ b off _ f hn hc hA hf hr=>
  obtain⟨e,hF⟩:=hA hne;exact⟨b,off,e,hF,fun k d hd=>⟨f k,hf k d hd,hr k d hd⟩⟩
theorem Rd.under {w w':World}{F:Nat→Prop}{u:Value}{d:D}{B:Nat}(h:Rd w F u d)(hb:Below B w w')(hF:∀b,F b→b<B):Rd w' F u d:=
 h.keep fun b hb'=>hb.block b (hF b hb')
theorem Rd.stay {w w':World}{F:Nat→Prop}{u:Value}{d:D}(h:Rd w F u d)(hb:Below w.heap.size w w'):Rd w' F u d:=
 ((h.mono (G:=fun b=>F b∧b<w.heap.size) fun b a c=>⟨a,c⟩).keep fun b hb'=>hb.block b hb'.2).mono fun b a _=>a.1
theorem Rd.drewN {w:World}{F:Nat→Prop}{u:Value}{d:D}(h:Rd w F u d)(k:Nat):Rd (w.drewN k) F u d:=h.keep fun _ _=>by simp
theorem Rd.drew {w:World}{F:Nat→Prop}{u:Value}{d:D}(h:Rd w F u d):Rd w.drew F u d:=h.keep fun _ _=>rfl
theorem Rd.alloc {w:World}{F:Nat→Prop}{u:Value}{d:D}(h:Rd w F u d)(o:Obj):Rd (w.alloc o) F u d:=
 h.stay ((zB _ _).alloc (zD _) o)
theorem Rd.setCell {w:World}{F:Nat→Prop}{u:Value}{d:D}(h:Rd w F u d){p:Addr}(hp:¬F p.block)(x:Value):Rd (w.setCell p x) F u d:=
 h.keep fun b hb=>Below.heap_setCell _ _ _ _ (fun e=>hp (e▸hb))
theorem Rd.grown {w w':World}{F:Nat→Prop}{u:Value}{d:D}{row:Option Nat}(h:Rd w F u d)(hg:w.grownBy w' row)(hp:∀b,F b→some b≠row):Rd w' F u d:=
 ((h.mono (G:=fun b=>F b∧b<w.heap.size) fun b a c=>⟨a,c⟩).keep fun b hb'=>hg.block b hb'.2 (hp b hb'.1)).mono fun b a _=>a.1
theorem Rd.take {w:World}{F:Nat→Prop}{A:Option Addr}{n c:Nat}{ds:List D}(h:Rd w F (.slice A n c) (.sl n ds)){k:Nat}(j:Nat)(hk:k≤n):Rd w F (.slice A k c) (.sl k (ds.take j)):=by
 cases h with
 |sl _ _ _ b off _ f hn hc hA hf hr=>
  refine .sl A k c b off _ f (by omega) hc (fun hne=>hA (fun e=>hne (by simp[e]))) (fun i d hd=>?_) (fun i d hd=>?_)
  all_goals
   rw[zZ]at hd;split at hd
   ·first|exact hf i d hd |exact hr i d hd
   ·cases hd
theorem fml {α β:Type}{f:α→List β}{m:Nat}(hf:∀x,(f x).length=m)(l:List α):(l.flatMap f).length=l.length*m:=by
 induction l with
 |nil=>simp
 |cons a l ih=>simp[hf,ih,Nat.succ_mul,Nat.add_comm]
theorem fmg {α β:Type}{f:α→List β}{m:Nat}(hf:∀x,(f x).length=m){l:List α}{i:Nat}{x:α}(hx:l[i]? =some x){j:Nat}{y:β}(hy:(f x)[j]? =some y):(l.flatMap f)[i*m+j]? =some y:=by
 induction l generalizing i with
 |nil=>simp at hx
 |cons a l ih=>
  cases i with
  |zero=>
   simp at hx;subst hx;have:j<(f a).length:=(zC.1 hy).1;simp[zS this,hy]
  |succ i=>
   simp at hx;rw[zK,zP (by rw[hf,Nat.succ_mul];omega)];rw[hf,show(i+1)*m+j-m=i*m+j by rw[Nat.succ_mul];omega];exact ih hx
theorem Rd.row {w:World}{F:Nat→Prop}{A:Option Addr}{n c m:Nat}{α:Type}{f:α→List D}(hf:∀x,(f x).length=m){l:List α}{x:α}{i:Nat}
  (h:Rd w F (.slice A n c) (.sl n (l.flatMap f)))(hx:l[i]? =some x)(hm:0<m):
  ∃b off,A=some ⟨b,off,none⟩∧F b∧∀j d,(f x)[j]? =some d→∃u,w.cell? ⟨b,off+i*m+j,none⟩=some u∧Rd w F u d:=by
 have hne:l.flatMap f≠ []:=by
  intro e;have h1:=fml hf l;rw[e]at h1;have h2:=(zC.1 hx).1;have:0<l.length*m:=Nat.mul_pos (by omega) hm;simp at h1;omega
 obtain⟨b,off,e,hF,hc⟩:=h.cells hne;refine⟨b,off,e,hF,fun j d hd=>?_⟩;rw[Nat.add_assoc];exact hc _ d (fmg hf hx hd)
theorem Rd.rowv {w:World}{F:Nat→Prop}{A:Option Addr}{n c m:Nat}{α:Type}{f:α→List D}(hf:∀x,(f x).length=m){l:List α}{x:α}{i:Nat}
  (h:Rd w F (.slice A n c) (.sl n (l.flatMap f)))(hx:l[i]? =some x)(hm:0<m):
  ∃b off,A=some ⟨b,off,none⟩∧F b∧(∀j y,(f x)[j]? =some (.v y)→w.cell? ⟨b,off+i*m+j,none⟩=some y)∧
   ∀j k ds,(f x)[j]? =some (.sl k ds)→∃A c,w.cell? ⟨b,off+i*m+j,none⟩=some (.slice A k c)∧Rd w F (.slice A k c) (.sl k ds):=by
 obtain⟨b,off,e,hF,hc⟩:=h.row hf hx hm;refine⟨b,off,e,hF,fun j y hy=>?_,fun j k ds hy=>?_⟩
 ·obtain⟨u,h1,h2⟩:=hc j _ hy;rw[h1,h2.v_inv]
 ·obtain⟨u,h1,h2⟩:=hc j _ hy;obtain⟨A',c',rfl,_,_⟩:=h2.sl_inv;exact⟨A',c',h1,h2⟩
theorem Rd.at1 {w:World}{F:Nat→Prop}{A:Option Addr}{n c:Nat}{ds:List D}{i:Nat}{y:Value}(h:Rd w F (.slice A n c) (.sl n ds))(hx:ds[i]? =some (.v y)):
  ∃b off,A=some ⟨b,off,none⟩∧F b∧w.cell? ⟨b,off+i,none⟩=some y:=by
 obtain⟨b,off,e,hF,hc⟩:=h.cells (ne_nil_of_get hx);obtain⟨u,h1,h2⟩:=hc i _ hx;exact⟨b,off,e,hF,by rw[h1,h2.v_inv]⟩
def intD (k:IntKind)(n:Int):List D:=[.v (.int k n)]
def boolD (b:Bool):List D:=[.v (.bool b)]
def strD (s:ByteArray):List D:=[.v (.string s)]
theorem getx {α:Type}{l:List α}{i:Nat}(h:i<l.length):∃x,l[i]? =some x:=⟨l[i],zI h⟩
theorem Rd.at_ {w:World}{F:Nat→Prop}{A:Option Addr}{n c:Nat}{α:Type}{f:α→Value}{l:List α}{x:α}{i:Nat}
  (h:Rd w F (.slice A n c) (.sl n (l.flatMap fun x=>[D.v (f x)])))(hx:l[i]? =some x):∃b off,A=some ⟨b,off,none⟩∧F b∧w.cell? ⟨b,off+i,none⟩=some (f x):=by
 obtain⟨b,off,e,hF,hc,_⟩:=h.rowv (m:=1) (fun _=>rfl) hx (by omega);have:=hc 0 (f x) rfl;rw[Nat.mul_one,Nat.add_zero]at this;exact⟨b,off,e,hF,this⟩
theorem len1 {α:Type}{f:α→D}(l:List α):(l.flatMap fun x=>[f x]).length=l.length:=by
 rw[fml (m:=1) (fun _=>rfl),Nat.mul_one]
theorem get1 {α:Type}{f:α→D}{l:List α}{k:Nat}{d:D}(h:(l.flatMap fun x=>[f x])[k]? =some d):∃x,l[k]? =some x∧d=f x:=by
 have hk:k<l.length:=by have:=(zC.1 h).1;rwa [len1]at this
 refine⟨l[k],zI hk,?_⟩;have:=fmg (f:=fun x=>[f x]) (m:=1) (fun _=>rfl) (zI hk) (j:=0) rfl;rw[Nat.mul_one,Nat.add_zero,h]at this;injection this
theorem set1 {α:Type}{f:α→D}{l:List α}{k:Nat}{y:α}:(l.flatMap fun x=>[f x]).set k (f y)=(l.set k y).flatMap fun x=>[f x]:=by
 induction l generalizing k with
 |nil=>rfl
 |cons a l ih=>
  cases k with
  |zero=>rfl
  |succ k=>simp only[zK,List.singleton_append,List.set_cons_succ];rw[ih]
theorem rtI {k:IntKind}{a b:Int}(h:a=b):Ending.returned (.int k a)=.returned (.int k b):=by rw[h]
theorem rtB {a b:Bool}(h:a=b):Ending.returned (.bool a)=.returned (.bool b):=by rw[h]
abbrev Bw (w W:World):Prop:=Below w.heap.size w W
theorem bR {B:Nat}{w:World}:Below B w w:=Below.refl _ _
theorem bA {w:World}{o:Obj}:Below w.heap.size w (w.alloc o):=(Below.refl _ _).alloc (Nat.le_refl _) _
theorem bX {w:World}(o:Obj):Below w.heap.size w (w.alloc o):=(Below.refl _ _).alloc (Nat.le_refl _) _
inductive Ty where
 |bool
 |int (k:IntKind)
 |str
 |sl (l:List Ty)
def layF (g:TypeId→Option (List Ty))(P:Program):Nat→List Field→Option (List Ty)
 |_,[]=>some []
 |off,f::r=>match g f.type with
  |none=>none
  |some l=>if f.offset=off∧P.cellsOf f.type=l.length then(layF g P (off+l.length) r).map (l++ ·)else none
def lay (P:Program):Nat→TypeId→Option (List Ty)
 |0,_=>none
 |n+1,t=>match P.underlying t with
  |some .bool=>some [.bool]
  |some (.int k)=>some [.int k]
  |some .string=>some [.str]
  |some (.slice e)=>(match lay P n e with
   |some l=>if P.cellsOf e=l.length∧0<l.length then some [.sl l]else none
   |none=>none)
  |some (.struct fs)=>(match layF (lay P n) P 0 fs.toList with
   |some l=>if P.cellsOf t=l.length then some l else none
   |none=>none)
  |some (.array m e)=>(match lay P n e with
   |some l=>if P.cellsOf e=l.length∧P.cellsOf t=m*l.length then some ((List.range m).flatMap fun _=>l)else none
   |none=>none)
  |_=>none
def sumTo (g:Nat→Nat):Nat→Nat
 |0=>0
 |n+1=>sumTo g n+g n
theorem addr_add' (b o j:Nat):(⟨b,o,none⟩:Addr).add j=⟨b,o+j,none⟩:=by unfold Addr.add;split<;>simp_all
inductive Fits:Ty→D→Nat→Prop
 |bool (b:Bool)(N:Nat):1≤N→Fits .bool (.v (.bool b)) N
 |int (k:IntKind)(n:Int)(N:Nat):(Lit.int k n).wf=true→1≤N→Fits (.int k) (.v (.int k n)) N
 |str (s:ByteArray)(N:Nat):s.size≤maxLen→s.size+1≤N→Fits .str (.v (.string s)) N
 |sl (l:List Ty)(n:Nat)(ds:List D)(g:Nat→Nat)(N:Nat):ds.length=n*l.length→0<l.length→(∀k d ty,ds[k]? =some d→l[k % l.length]? =some ty→Fits ty d (g k))→
  sumTo g ds.length+1≤N→Fits (.sl l) (.sl n ds) N
theorem sumTo_congr {f g:Nat→Nat}{n:Nat}(h:∀k,k<n→f k=g k):sumTo f n=sumTo g n:=by
 induction n with
 |zero=>rfl
 |succ n ih=>simp only[sumTo];rw[ih fun k hk=>h k oQ,h n oQ]
theorem sumTo_add (f:Nat→Nat)(n m:Nat):sumTo f (n+m)=sumTo f n+sumTo (fun k=>f (n+k)) m:=by
 induction m with
 |zero=>rfl
 |succ m ih=>rw[←Nat.add_assoc];simp only[sumTo];rw[ih];omega
theorem sumTo_mul (f:Nat→Nat→Nat)(n L:Nat)(hL:0<L):sumTo (fun k=>f (k / L) (k % L)) (n*L)=sumTo (fun i=>sumTo (f i) L) n:=by
 induction n with
 |zero=>simp[sumTo]
 |succ n ih=>
  rw[Nat.succ_mul,sumTo_add,ih];simp only[sumTo];congr 1;refine sumTo_congr fun k hk=>?_
  rw[Nat.mul_comm n L,Nat.mul_add_div hL,Nat.mul_add_mod,Nat.div_eq_of_lt hk,Nat.mod_eq_of_lt hk];simp
theorem bulkAll_append {H:Type}(l r:List (DataW H)):Rows.uptoBulkAll (l++r)=Rows.uptoBulkAll l+Rows.uptoBulkAll r:=by
 induction l with
 |nil=>simp[Rows.uptoBulkAll]
 |cons x l ih=>simp only[List.cons_append,Rows.uptoBulkAll,ih];omega
theorem bulkAll_range {H:Type}(D:Nat→DataW H)(n:Nat):Rows.uptoBulkAll ((List.range n).map D)=sumTo (fun i=>Rows.uptoBulk (D i)) n:=by
 induction n with
 |zero=>simp[Rows.uptoBulkAll,sumTo]
 |succ n ih=>rw[List.range_succ,xR,bulkAll_append,ih];simp[Rows.uptoBulkAll,sumTo]
theorem sumTo_le {f g:Nat→Nat}{n:Nat}(h:∀k,k<n→f k≤g k):sumTo f n≤sumTo g n:=by
 induction n with
 |zero=>exact nR
 |succ n ih=>
  have:=h n oQ;have:=ih fun k hk=>h k oQ
  simp only[sumTo];omega
def OpenTo (w:World)(tys:List Ty)(get:Nat→Option Value)(N:Nat):Prop:=
 ∃(ds:List D)(g:Nat→Nat),ds.length=tys.length∧(∀k d,ds[k]? =some d→∃u ty,get k=some u∧tys[k]? =some ty∧Rd w (fun b=>b<w.heap.size) u d∧Fits ty d (g k))∧sumTo g tys.length≤N
section
variable {w:World}
theorem OpenTo.one {u:Value}{d:D}{ty:Ty}{N:Nat}{cs:List Value}(hcs:cs=[u])(h:Rd w (fun b=>b<w.heap.size) u d)(hf:Fits ty d N):OpenTo w [ty] (fun k=>cs[k]?) N:=by
 refine⟨[d],fun _=>N,rfl,fun k d' hd=>?_,by simp[sumTo]⟩;cases k with
 |zero=>simp at hd;subst hd;exact⟨u,ty,by simp[hcs],rfl,h,hf⟩
 |succ k=>simp at hd
theorem OpenTo.app {l1 l2:List Ty}{get1 get2 get:Nat→Option Value}{N1 N2 N:Nat}(h1:OpenTo w l1 get1 N1)(h2:OpenTo w l2 get2 N2)(hg1:∀k u,k<l1.length→get1 k=some u→get k=some u)
  (hg2:∀k u,get2 k=some u→get (l1.length+k)=some u)(hN:N1+N2≤N):OpenTo w (l1++l2) get N:=by
 obtain⟨d1,g1,a1,b1,c1⟩:=h1;obtain⟨d2,g2,a2,b2,c2⟩:=h2;refine⟨d1++d2,fun k=>if k<l1.length then g1 k else g2 (k-l1.length),by simp[a1,a2],fun k d hd=>?_,?_⟩
 ·rcases Nat.lt_or_ge k l1.length with hk |hk
  ·rw[zS oQ]at hd;obtain⟨u,ty,e1,e2,e3,e4⟩:=b1 k d hd;exact⟨u,ty,hg1 k u hk e1,by rw[zS hk];exact e2,e3,by simp only[if_pos hk];exact e4⟩
  ·rw[zP oQ]at hd;rw[a1]at hd;obtain⟨u,ty,e1,e2,e3,e4⟩:=b2 _ d hd;refine⟨u,ty,?_,by rw[zP hk];exact e2,e3,by simp only[if_neg (Nat.not_lt.2 hk)];exact e4⟩;have:=hg2 _ u e1;rwa [show l1.length+(k-l1.length)=k by omega]at this
 ·rw[zH,sumTo_add];have e1:sumTo (fun k=>if k<l1.length then g1 k else g2 (k-l1.length)) l1.length=sumTo g1 l1.length:=sumTo_congr fun k hk=>by rw[if_pos hk]
  have e2:sumTo (fun k=>if l1.length+k<l1.length then g1 (l1.length+k)else g2 (l1.length+k-l1.length)) l2.length=sumTo g2 l2.length:=sumTo_congr fun k hk=>by rw[if_neg oQ];congr 1;omega
  rw[e1,e2];omega
end
section
variable {H:Type}{enc:TypeId×Value→H}{P:Program}{w:World}{base:Nat}{spare:Nat→Bool}{held:Bool}
theorem layF_opens {n:Nat}{m:Nat}{cs:List Value}
  (ih:∀(t:TypeId)(tys:List Ty)(cs:List Value)(x:DataW H×List MemPlace),lay P n t=some tys→DataW.trod enc P w base spare held m t cs=some x→OpenTo w tys (fun k=>cs[k]?) (Rows.uptoBulk x.1))
  (fs:List Field):∀(xs:List (DataW H×List MemPlace))(off:Nat)(tys:List Ty),layF (lay P n) P off fs=some tys→xs.length=fs.length→
   (∀(i:Nat)(f:Field),fs[i]? =some f→DataW.trod enc P w base spare held m f.type ((cs.drop f.offset).take (P.cellsOf f.type))=xs[i]?)→OpenTo w tys (fun k=>cs[off+k]?) (Rows.uptoBulkAll (xs.map (·.1))):=by
 induction fs with
 |nil=>
  intro xs off tys hl hx _;simp[layF]at hl;subst hl;exact⟨[],fun _=>0,rfl,fun k d h=>by simp at h,zE _⟩
 |cons f r ihr=>
  intro xs off tys hl hx hf;match xs,hx with
  |x::xr,hx=>
   simp only[layF]at hl;split at hl
   ·cases hl
   ·rename_i l hlf;split at hl
    ·rename_i hc;obtain⟨ho,hC⟩:=hc;cases hr:layF (lay P n) P (off+l.length) r with
     |none=>rw[hr]at hl;cases hl
     |some tr=>
      rw[hr]at hl;simp only[Option.map_some,Option.some.injEq]at hl;subst hl;have h0:=hf 0 f rfl;simp only[zY]at h0;have h1:=ih f.type l _ x hlf h0;have h2:=ihr xr (off+l.length) tr hr (by simpa using hx) (fun i g hg=>by simpa using hf (i+1) g (by simpa using hg));refine h1.app h2 (fun k u hk hu=>?_) (fun k u hu=>?_) (by simp[Rows.uptoBulkAll])
      ·rw[zZ]at hu;split at hu
       ·rw[xT,ho]at hu;exact hu
       ·cases hu
      ·rw[←Nat.add_assoc];exact hu
    ·cases hl
theorem arr_opens {l:List Ty}{cs:List Value}{xs:List (DataW H×List MemPlace)}{k:Nat}(hk:xs.length=k)
  (h:∀i x,xs[i]? =some x→OpenTo w l (fun j=>((cs.drop (i*l.length)).take l.length)[j]?) (Rows.uptoBulk x.1))(q:Nat):q≤k→
  OpenTo w ((List.range q).flatMap fun _=>l) (fun j=>cs[j]?) (Rows.uptoBulkAll ((xs.take q).map (·.1))):=by
 induction q with
 |zero=>intro _;exact⟨[],fun _=>0,rfl,fun k d h=>by simp at h,zE _⟩
 |succ q ih=>
  intro hq;rw[List.range_succ,xD];have hx:xs[q]? =some xs[q]:=zI oQ;have h1:=h q _ hx;simp only[zK,List.flatMap_nil,zT];have hlen:((List.range q).flatMap fun _=>l).length=q*l.length:=by rw[fml (m:=l.length) (fun _=>rfl)];simp
  refine(ih oQ).app h1 (fun k u _ hu=>hu) (fun k u hu=>?_) ?_
  ·rw[hlen];rw[zZ]at hu;split at hu
   ·rw[xT]at hu;exact hu
   ·cases hu
  ·rw[zJ,hx];simp only[xR,bulkAll_append,Option.toList_some,List.map_cons,List.map_nil,Rows.uptoBulkAll];omega
theorem slice_opens {a:Addr}{len cap:Nat}{l:List Ty}{D':Nat→DataW H}{N:Nat}{cs:Nat→List Value}(hlc:len≤cap)(hm:cap≤maxLen)(hL:0<l.length)
  (hc:∀i j,i<len→j<l.length→w.cell? ((a.add (i*l.length)).add j)=(cs i)[j]?)
  (h:∀i,i<len→OpenTo w l (fun j=>(cs i)[j]?) (Rows.uptoBulk (D' i)))(hN:sumTo (fun i=>Rows.uptoBulk (D' i)) len+1≤N):
  OpenTo w [.sl l] (fun j=>[Value.slice (some a) len cap][j]?) N:=by
 have hex:∀i,i<len→∃y:List D×(Nat→Nat),y.1.length=l.length∧(∀k d,y.1[k]? =some d→∃u ty,(cs i)[k]? =some u∧l[k]? =some ty∧Rd w (fun b=>b<w.heap.size) u d∧Fits ty d (y.2 k))∧sumTo y.2 l.length≤Rows.uptoBulk (D' i):=fun i hi=>by
  obtain⟨ds,g,h1,h2,h3⟩:=h i hi;exact⟨(ds,g),h1,h2,h3⟩
 obtain⟨y,hy⟩:=choose_lt hex;have hlen:((List.range len).flatMap fun i=>if i<len then(y i).1 else List.replicate l.length (D.sl 0 [])).length=len*l.length:=by
  rw[fml (m:=l.length)]
  ·simp
  ·intro i;split
   ·exact(hy i ‹_›).1
   ·simp
 have hk:∀k d,((List.range len).flatMap fun i=>if i<len then(y i).1 else List.replicate l.length (D.sl 0 []))[k]? =some d→k / l.length<len∧(y (k / l.length)).1[k % l.length]? =some d:=fun k d hd=>by
  have hlt:k<len*l.length:=by rw[←hlen];exact(zC.1 hd).1
  have hq:k / l.length<len:=Nat.div_lt_of_lt_mul (by rw[Nat.mul_comm];exact hlt);refine⟨hq,?_⟩;have hr:k % l.length<(y (k / l.length)).1.length:=by rw[(hy _ hq).1];exact Nat.mod_lt _ hL
  have:=fmg (f:=fun i=>if i<len then(y i).1 else List.replicate l.length (D.sl 0 [])) (m:=l.length) (l:=List.range len) (i:=k / l.length) (x:=k / l.length) (fun i=>by
   split
   ·exact(hy i ‹_›).1
   ·simp) (by simp[hq]) (j:=k % l.length) (y:=(y (k / l.length)).1[k % l.length]) (by simp only[if_pos hq];exact zI hr)
  rw[Nat.mul_comm,Nat.div_add_mod]at this;rw[this]at hd;rw[zI hr];exact hd
 have hcell:∀k d,((List.range len).flatMap fun i=>if i<len then(y i).1 else List.replicate l.length (D.sl 0 []))[k]? =some d→
   ∃u ty,w.cell? (a.add k)=some u∧l[k % l.length]? =some ty∧Rd w (fun b=>b<w.heap.size) u d∧Fits ty d ((y (k / l.length)).2 (k % l.length)):=fun k d hd=>by
  obtain⟨hq,hd'⟩:=hk k d hd;obtain⟨u,ty,e1,e2,e3,e4⟩:=(hy _ hq).2.1 _ d hd';have:=hc _ (k % l.length) hq (Nat.mod_lt _ hL);rw[Go.Deep.add_add,Nat.mul_comm,Nat.div_add_mod]at this;exact⟨u,ty,this.trans e1,e2,e3,e4⟩
 refine .one (d:=.sl len ((List.range len).flatMap fun i=>if i<len then(y i).1 else List.replicate l.length (D.sl 0 []))) rfl ?_ (.sl l len _ (fun k=>(y (k / l.length)).2 (k % l.length)) _ hlen hL (fun k d ty hd hty=>?_) ?_)
 ·obtain⟨b,off,spot⟩:=a;refine .sl _ len cap b off _ (fun k=>((w.cell? ((⟨b,off,spot⟩:Addr).add k))).getD (.bool false)) hlc hm (fun hne=>?_) (fun k d hd=>?_) (fun k d hd=>?_)
  ·obtain⟨d,ds',e⟩:=List.exists_cons_of_ne_nil hne;obtain⟨u,_,h1,_⟩:=hcell 0 d (by rw[e];rfl);have h1':w.cell? ⟨b,off,spot⟩=some u:=by simpa[Addr.add] using h1
   have hs:spot=none:=by simpa using World.cell?_spot h1'
   subst hs;exact⟨rfl,zX w _ h1'⟩
  ·obtain⟨u,_,h1,_⟩:=hcell k d hd;have hne:=ne_nil_of_get hd;obtain⟨d0,ds',e⟩:=List.exists_cons_of_ne_nil hne;obtain⟨u0,_,h0,_⟩:=hcell 0 d0 (by rw[e];rfl);have hs:spot=none:=by simpa[Addr.add] using World.cell?_spot h0
   subst hs;rw[addr_add']at h1 ⊢;rw[h1];rfl
  ·obtain⟨u,_,h1,_,h3,_⟩:=hcell k d hd;rw[h1];exact h3
 ·obtain⟨u,ty',_,h2,_,h4⟩:=hcell k d hd;rw[hty]at h2;injection h2 with h2
  subst h2;exact h4
 ·have e:sumTo (fun k=>(y (k / l.length)).2 (k % l.length)) (len*l.length)=sumTo (fun i=>sumTo (y i).2 l.length) len:=sumTo_mul (fun i=>(y i).2) _ _ hL;rw[hlen,e];have:=sumTo_le (f:=fun i=>sumTo (y i).2 l.length) (g:=fun i=>Rows.uptoBulk (D' i)) (n:=len) fun i hi=>(hy i hi).2.2
  omega
theorem opens (n:Nat):∀(m:Nat)(t:TypeId)(tys:List Ty)(cs:List Value)(x:DataW H×List MemPlace),lay P n t=some tys→DataW.trod enc P w base spare held m t cs=some x→
  OpenTo w tys (fun k=>cs[k]?) (Rows.uptoBulk x.1):=by
 induction n with
 |zero=>intro m t tys cs x hl;simp[lay]at hl
 |succ n ih=>
  intro m t tys cs x hl h;unfold lay at hl;split at hl
  ·rename_i ht;obtain⟨b,rfl,rfl⟩:=DataW.trod_bool ht h;injection hl with hl
   subst hl;exact .one rfl (.v _ rfl) (.bool b _ (by simp[Rows.uptoBulk]))
  ·rename_i k ht;obtain⟨b,rfl,rfl,hw⟩:=DataW.trod_int ht h;injection hl with hl
   subst hl;exact .one rfl (.v _ rfl) (.int k b _ hw (by simp[Rows.uptoBulk]))
  ·rename_i ht;obtain⟨s,rfl,rfl,hw⟩:=DataW.trod_string ht h;injection hl with hl
   subst hl;exact .one rfl (.v _ rfl) (.str s _ hw (Nat.le_of_eq (by simp only[Rows.uptoBulk,Array.length_toList];rfl)))
  ·rename_i e ht;split at hl
   ·rename_i l hle;split at hl
    ·rename_i hc;obtain⟨hC,hL⟩:=hc;injection hl with hl
     subst hl;rcases open_slice ht h with⟨rfl,rfl⟩|⟨a,len,cap,mm,m',D',Pl,rfl,_,hlc,hm,hmm,rfl,hi⟩
     ·refine .one rfl (.sl none 0 0 0 0 [] (fun _=>.bool false) nR (zE _) (fun h=>absurd rfl h) (fun k d h=>by simp at h) (fun k d h=>by simp at h))
       (.sl l 0 [] (fun _=>0) _ sJ hL (fun k d ty h=>by simp at h) (by simp[sumTo,Rows.uptoBulk]))
     ·have hlm:len≤mm:=(by rw[hmm];split<;>omega);have hex:∀i,i<len→∃cs',w.cells? base (a.add (i*P.cellsOf e)) (P.cellsOf e)=some cs'∧DataW.trod enc P w base spare held m' e cs'=some (D' i,Pl i):=fun i h=>hi i oQ
      obtain⟨cs,hcs⟩:=choose_lt hex;refine slice_opens (cs:=cs) (D':=D') hlc hm hL (fun i j h1 h2=>?_) (fun i h1=>ih m' e l (cs i) _ hle (hcs i h1).2) ?_
      ·have:=(World.cells?_some (hcs i h1).1).2.2 j oQ;rwa [hC]at this
      ·simp only[Rows.uptoBulk];rw[bulkAll_range];omega
    ·cases hl
   ·cases hl
  ·rename_i fs ht;obtain⟨xs,m',rfl,rfl,hlen,hxl,hf⟩:=DataW.trod_struct ht h;split at hl
   ·rename_i l hle;split at hl
    ·rename_i hc;injection hl with hl
     subst hl;have:=layF_opens (ih m') fs.toList xs 0 _ hle (by simpa using hxl) (cs:=cs) (fun i f hi=>hf i f (by simpa using hi));obtain⟨ds,g,a,b,c⟩:=this;exact⟨ds,g,a,by simpa using b,by simp only[Rows.uptoBulk];omega⟩
    ·cases hl
   ·cases hl
  ·rename_i k e ht;obtain⟨xs,m',rfl,rfl,hlen,hxl,hf⟩:=DataW.trod_array ht h;split at hl
   ·rename_i l hle;split at hl
    ·rename_i hc;obtain⟨hC,hT⟩:=hc;injection hl with hl
     subst hl;have:=arr_opens (w:=w) (l:=l) (cs:=cs) hxl (fun i x hx=>by
      have hlt:i<k:=(by rw[←hxl];exact(zC.1 hx).1);have h1:=hf i hlt;rw[hx,hC]at h1;exact ih m' e l _ x hle h1) k nR
     obtain⟨ds,g,a,b,c⟩:=this;refine⟨ds,g,a,b,?_⟩;rw[xH oQ]at c;simp only[Rows.uptoBulk];omega
    ·cases hl
   ·cases hl
  ·cases hl
end
theorem Fits.pos {ty:Ty}{d:D}{N:Nat}(h:Fits ty d N):1≤N:=by
 cases h<;>omega
def FitsL (tys:List Ty)(ds:List D)(g:Nat→Nat):Prop:=
 ds.length=tys.length∧∀k d ty,ds[k]? =some d→tys[k]? =some ty→Fits ty d (g k)
theorem FitsL.nil {ds:List D}{g:Nat→Nat}(h:FitsL [] ds g):ds=[]:=List.eq_nil_of_length_eq_zero h.1
theorem FitsL.cons {ty:Ty}{tys:List Ty}{ds:List D}{g:Nat→Nat}(h:FitsL (ty::tys) ds g):∃d r,ds=d::r∧Fits ty d (g 0)∧FitsL tys r (fun k=>g (k+1)):=by
 obtain⟨hl,hk⟩:=h;match ds,hl with
 |d::r,hl=>exact⟨d,r,rfl,hk 0 d ty rfl rfl,by simpa using hl,fun k d' ty' h1 h2=>hk (k+1) d' ty' (by simpa using h1) (by simpa using h2)⟩
theorem Fits.int_inv {k:IntKind}{d:D}{N:Nat}(h:Fits (.int k) d N):∃n,d=.v (.int k n)∧(Lit.int k n).wf=true:=by
 cases h;exact⟨_,rfl,‹_›⟩
theorem Fits.bool_inv {d:D}{N:Nat}(h:Fits .bool d N):∃b,d=.v (.bool b):=by
 cases h;exact⟨_,rfl⟩
theorem Fits.str_inv {d:D}{N:Nat}(h:Fits .str d N):∃s,d=.v (.string s)∧s.size≤maxLen∧s.size+1≤N:=by
 cases h;exact⟨_,rfl,‹_›,‹_›⟩
theorem sumTo_succ_left (g:Nat→Nat)(n:Nat):sumTo g (n+1)=g 0+sumTo (fun k=>g (k+1)) n:=by
 rw[Nat.add_comm n 1,sumTo_add];simp only[sumTo,Nat.add_comm 1];omega
theorem conv_list {α:Type}{f:α→List D}{W:α→Prop}{b:α→Nat}{tys:List Ty}(hL:0<tys.length)
  (hc:∀(ds:List D)(g:Nat→Nat),FitsL tys ds g→∃x,ds=f x∧W x∧b x≤sumTo g tys.length)(n:Nat):
  ∀(ds:List D)(g:Nat→Nat),ds.length=n*tys.length→(∀k d ty,ds[k]? =some d→tys[k % tys.length]? =some ty→Fits ty d (g k))→
  ∃l:List α,l.length=n∧ds=l.flatMap f∧(∀x∈l,W x)∧(l.map b).sum≤sumTo g ds.length:=by
 induction n with
 |zero=>
  intro ds g hl _;have:ds=[]:=List.eq_nil_of_length_eq_zero (by simpa using hl);subst this;exact⟨[],rfl,rfl,fun x h=>by simp at h,sJ⟩
 |succ n ih=>
  intro ds g hl hk;have hle:tys.length≤ds.length:=by rw[hl,Nat.succ_mul];omega
  obtain⟨x,hx,hw,hb⟩:=hc (ds.take tys.length) g ⟨by simp;omega,fun k d ty h1 h2=>by
   rw[zZ]at h1;split at h1
   ·refine hk k d ty h1 ?_;rwa [Nat.mod_eq_of_lt ‹_›]
   ·cases h1⟩
  obtain⟨l,h1,h2,h3,h4⟩:=ih (ds.drop tys.length) (fun k=>g (tys.length+k)) (by simp[hl,Nat.succ_mul]) (fun k d ty h5 h6=>by
   rw[xT]at h5;refine hk _ d ty h5 ?_;rwa [Nat.add_mod_left])
  refine⟨x::l,by simp[h1],?_,?_,?_⟩
  ·rw[zK,←hx,←h2,List.take_append_drop]
  ·intro y hy;cases hy with
   |head=>exact hw
   |tail _ hy=>exact h3 y hy
  ·have e:ds.length=tys.length+(ds.drop tys.length).length:=by simp;omega
   rw[List.map_cons,List.sum_cons,e,sumTo_add];omega
theorem Fits.conv {α:Type}{f:α→List D}{W:α→Prop}{b:α→Nat}{tys:List Ty}{d:D}{N:Nat}
  (hc:∀(ds:List D)(g:Nat→Nat),FitsL tys ds g→∃x,ds=f x∧W x∧b x≤sumTo g tys.length)(h:Fits (.sl tys) d N):
  ∃l:List α,d=.sl l.length (l.flatMap f)∧(∀x∈l,W x)∧(l.map b).sum+1≤N:=by
 cases h with
 |sl _ n ds g _ hl hp hk hN=>
  obtain⟨l,h1,h2,h3,h4⟩:=conv_list hp hc n ds g hl hk;exact⟨l,by rw[h1,h2],h3,oQ⟩
theorem sum_one {α:Type}(l:List α):(l.map fun _=>1).sum=l.length:=by
 induction l with
 |nil=>rfl
 |cons a l ih=>simp[ih];omega
theorem conv_int {k:IntKind}(ds:List D)(g:Nat→Nat)(h:FitsL [.int k] ds g):∃n:Int,ds=intD k n∧(Lit.int k n).wf=true∧1≤sumTo g [Ty.int k].length:=by
 obtain⟨d,r,rfl,h1,h2⟩:=h.cons;have h3:=h2.nil;subst h3;obtain⟨n,rfl,hw⟩:=h1.int_inv;exact⟨n,rfl,hw,by have:=h1.pos;simp[sumTo];omega⟩
theorem conv_bool (ds:List D)(g:Nat→Nat)(h:FitsL [.bool] ds g):∃b:Bool,ds=boolD b∧True∧1≤sumTo g [Ty.bool].length:=by
 obtain⟨d,r,rfl,h1,h2⟩:=h.cons;have h3:=h2.nil;subst h3;obtain⟨n,rfl⟩:=h1.bool_inv;exact⟨n,rfl,trivial,by have:=h1.pos;simp[sumTo];omega⟩
theorem conv_str (ds:List D)(g:Nat→Nat)(h:FitsL [.str] ds g):∃s:ByteArray,ds=strD s∧s.size≤maxLen∧s.size+1≤sumTo g [Ty.str].length:=by
 obtain⟨d,r,rfl,h1,h2⟩:=h.cons;have h3:=h2.nil;subst h3;obtain⟨s,rfl,hw,hN⟩:=h1.str_inv;exact⟨s,rfl,hw,by simp[sumTo];omega⟩
theorem Fits.ints {k:IntKind}{d:D}{N:Nat}(h:Fits (.sl [.int k]) d N):∃l:List Int,d=.sl l.length (l.flatMap (intD k))∧(∀n∈l,(Lit.int k n).wf=true)∧l.length+1≤N:=by
 obtain⟨l,h1,h2,h3⟩:=h.conv (b:=fun _=>1) conv_int;exact⟨l,h1,h2,by rwa [sum_one]at h3⟩
theorem Fits.bools {d:D}{N:Nat}(h:Fits (.sl [.bool]) d N):∃l:List Bool,d=.sl l.length (l.flatMap boolD)∧l.length+1≤N:=by
 obtain⟨l,h1,h2,h3⟩:=h.conv (b:=fun _=>1) conv_bool;exact⟨l,h1,by rwa [sum_one]at h3⟩
theorem Fits.strs {d:D}{N:Nat}(h:Fits (.sl [.str]) d N):∃l:List ByteArray,d=.sl l.length (l.flatMap strD)∧(∀s∈l,s.size≤maxLen)∧(l.map fun s=>s.size+1).sum+1≤N:=
 h.conv (b:=fun(s:ByteArray)=>s.size+1) conv_str
section
variable {H:Type}{enc:TypeId×Value→H}{P:Program}{w:World}{spare:Nat→Bool}
theorem arg_one {t:TypeId}{v:Value}{x:DataW H}{p:List MemPlace}{ty:Ty}{n:Nat}(hv:v.cells=#[v])(hl:lay P n t=some [ty])(h:DataW.Trod enc P w 0 spare true t v x p):
  ∃d,Rd w (fun b=>b<w.heap.size) v d∧Fits ty d (Rows.uptoBulk x):=by
 obtain⟨m,hm⟩:=h;obtain⟨ds,g,h1,h2,h3⟩:=opens n m t [ty] v.cells.toList (x,p) hl hm;match ds,h1 with
 | [d],_=>
  obtain⟨u,ty',e1,e2,e3,e4⟩:=h2 0 d rfl;rw[hv]at e1;simp at e1 e2;subst e1 e2;refine⟨d,e3,?_⟩;simp[sumTo]at h3;cases e4 with
  |bool b N h=>exact .bool b _ oQ
  |int k n N h h'=>exact .int k n _ h oQ
  |str s N h h'=>exact .str s _ h oQ
  |sl l n ds g' N a b c e=>exact .sl l n ds g' _ a b c oQ
theorem arg_many {t:TypeId}{cs:Array Value}{x:DataW H}{p:List MemPlace}{tys:List Ty}{n:Nat}(hl:lay P n t=some tys)(h:DataW.Trod enc P w 0 spare true t (.agg cs) x p):
  ∃ds g,FitsL tys ds g∧(∀(k:Nat)(d:D),ds[k]? =some d→∃u,cs[k]? =some u∧Rd w (fun b=>b<w.heap.size) u d)∧sumTo g tys.length≤Rows.uptoBulk x:=by
 obtain⟨m,hm⟩:=h;obtain⟨ds,g,h1,h2,h3⟩:=opens n m t tys _ (x,p) hl hm;refine⟨ds,g,⟨h1,fun k d ty hd ht=>?_⟩,fun k d hd=>?_,h3⟩
 ·obtain⟨u,ty',e1,e2,e3,e4⟩:=h2 k d hd;rw[ht]at e2;injection e2 with e2
  subst e2;exact e4
 ·obtain⟨u,ty',e1,e2,e3,e4⟩:=h2 k d hd;exact⟨u,by simpa[Value.cells] using e1,e3⟩
theorem bound {l:List (DataW H)}(hk:Rows.uptoSmall H l=true):Rows.uptoBulkAll l≤1048576:=of_decide_eq_true hk
end
set_option linter.unusedSimpArgs false
def letN (c:Nat):Bool:=decide (65≤c)&&decide (c≤90)||decide (97≤c)&&decide (c≤122)
def digN (c:Nat):Bool:=decide (48≤c)&&decide (c≤57)
def wordN (c:Nat):Bool:=letN c||digN c||decide (c=95)
namespace nmW
theorem letter_k (c:Nat)(w:World):Calls Tryz.prog 173 #[.int .u8 c] w fun e w'=>e=.returned (.bool (letN c))∧w'=w:=by
 generalize hb:letN c=b;have cs:(c≤64)∨(65≤c∧c≤90)∨(91≤c∧c≤96)∨(97≤c∧c≤122)∨(123≤c):=oQ;rcases cs with h |h |h |h |h
 ·obtain rfl:b=false:=by rw[←hb];simp[letN,digN,wordN];omega
  clear hb;have f0:¬(65:Int)≤c:=oQ;have f1:¬(97:Int)≤c:=oQ;go_enter Tryz.func173,Tryz.ntmps173;go_wp2;go_ret;exact⟨rfl,rfl⟩
 ·obtain rfl:b=true:=by rw[←hb];simp[letN,digN,wordN];omega
  clear hb;have f0:(65:Int)≤c:=oQ;have f1:(c:Int)≤90:=oQ;go_enter Tryz.func173,Tryz.ntmps173;go_wp2;go_ret;exact⟨rfl,rfl⟩
 ·obtain rfl:b=false:=by rw[←hb];simp[letN,digN,wordN];omega
  clear hb;have f0:(65:Int)≤c:=oQ;have f1:¬(c:Int)≤90:=oQ;have f2:¬(97:Int)≤c:=oQ;go_enter Tryz.func173,Tryz.ntmps173;go_wp2;go_ret;exact⟨rfl,rfl⟩
 ·obtain rfl:b=true:=by rw[←hb];simp[letN,digN,wordN];omega
  clear hb;have f0:(65:Int)≤c:=oQ;have f1:¬(c:Int)≤90:=oQ;have f2:(97:Int)≤c:=oQ;have f3:(c:Int)≤122:=oQ;go_enter Tryz.func173,Tryz.ntmps173;go_wp2;go_ret;exact⟨rfl,rfl⟩
 ·obtain rfl:b=false:=by rw[←hb];simp[letN,digN,wordN];omega
  clear hb;have f0:(65:Int)≤c:=oQ;have f1:¬(c:Int)≤90:=oQ;have f2:(97:Int)≤c:=oQ;have f3:¬(c:Int)≤122:=oQ;go_enter Tryz.func173,Tryz.ntmps173;go_wp2;go_ret;exact⟨rfl,rfl⟩
theorem digit_k (c:Nat)(w:World):Calls Tryz.prog 140 #[.int .u8 c] w fun e w'=>e=.returned (.bool (digN c))∧w'=w:=by
 generalize hb:digN c=b;have cs:(c≤47)∨(48≤c∧c≤57)∨(58≤c):=oQ;rcases cs with h |h |h
 ·obtain rfl:b=false:=by rw[←hb];simp[letN,digN,wordN];omega
  clear hb;have f0:¬(48:Int)≤c:=oQ;go_enter Tryz.func140,Tryz.ntmps140;go_wp2;go_ret;exact⟨rfl,rfl⟩
 ·obtain rfl:b=true:=by rw[←hb];simp[letN,digN,wordN];omega
  clear hb;have f0:(48:Int)≤c:=oQ;have f1:(c:Int)≤57:=oQ;go_enter Tryz.func140,Tryz.ntmps140;go_wp2;go_ret;exact⟨rfl,rfl⟩
 ·obtain rfl:b=false:=by rw[←hb];simp[letN,digN,wordN];omega
  clear hb;have f0:(48:Int)≤c:=oQ;have f1:¬(c:Int)≤57:=oQ;go_enter Tryz.func140,Tryz.ntmps140;go_wp2;go_ret;exact⟨rfl,rfl⟩
theorem wordByte_k (c:Nat)(w:World):Calls Tryz.prog 154 #[.int .i32 c] w fun e w'=>e=.returned (.bool (wordN c))∧w'=w:=by
 generalize hb:wordN c=b;have cs:(c≤47)∨(48≤c∧c≤57)∨(58≤c∧c≤64)∨(65≤c∧c≤90)∨(91≤c∧c≤94)∨(c=95)∨(c=96)∨(97≤c∧c≤122)∨(123≤c):=oQ;rcases cs with h |h |h |h |h |h |h |h |h
 ·obtain rfl:b=false:=by rw[←hb];simp[letN,digN,wordN];omega
  clear hb;have f0:¬(65:Int)≤c:=oQ;have f1:¬(97:Int)≤c:=oQ;have f2:¬(48:Int)≤c:=oQ;have f3:((c:Int)==95)=false:=by rw[xV];omega
  go_enter Tryz.func154,Tryz.ntmps154;go_wp2;go_ret;exact⟨rfl,rfl⟩
 ·obtain rfl:b=true:=by rw[←hb];simp[letN,digN,wordN];omega
  clear hb;have f0:¬(65:Int)≤c:=oQ;have f1:¬(97:Int)≤c:=oQ;have f2:(48:Int)≤c:=oQ;have f3:(c:Int)≤57:=oQ;go_enter Tryz.func154,Tryz.ntmps154;go_wp2;go_ret;exact⟨rfl,rfl⟩
 ·obtain rfl:b=false:=by rw[←hb];simp[letN,digN,wordN];omega
  clear hb;have f0:¬(65:Int)≤c:=oQ;have f1:¬(97:Int)≤c:=oQ;have f2:(48:Int)≤c:=oQ;have f3:¬(c:Int)≤57:=oQ;have f4:((c:Int)==95)=false:=by rw[xV];omega
  go_enter Tryz.func154,Tryz.ntmps154;go_wp2;go_ret;exact⟨rfl,rfl⟩
 ·obtain rfl:b=true:=by rw[←hb];simp[letN,digN,wordN];omega
  clear hb;have f0:(65:Int)≤c:=oQ;have f1:(c:Int)≤90:=oQ;go_enter Tryz.func154,Tryz.ntmps154;go_wp2;go_ret;exact⟨rfl,rfl⟩
 ·obtain rfl:b=false:=by rw[←hb];simp[letN,digN,wordN];omega
  clear hb;have f0:(65:Int)≤c:=oQ;have f1:¬(c:Int)≤90:=oQ;have f2:¬(97:Int)≤c:=oQ;have f3:(48:Int)≤c:=oQ;have f4:¬(c:Int)≤57:=oQ;have f5:((c:Int)==95)=false:=by rw[xV];omega
  go_enter Tryz.func154,Tryz.ntmps154;go_wp2;go_ret;exact⟨rfl,rfl⟩
 ·obtain rfl:b=true:=by rw[←hb];simp[letN,digN,wordN];omega
  clear hb;have f0:(65:Int)≤c:=oQ;have f1:¬(c:Int)≤90:=oQ;have f2:¬(97:Int)≤c:=oQ;have f3:(48:Int)≤c:=oQ;have f4:¬(c:Int)≤57:=oQ;have f5:((c:Int)==95)=true:=by rw[beq_iff_eq];omega
  go_enter Tryz.func154,Tryz.ntmps154;go_wp2;go_ret;exact⟨rfl,rfl⟩
 ·obtain rfl:b=false:=by rw[←hb];simp[letN,digN,wordN];omega
  clear hb;have f0:(65:Int)≤c:=oQ;have f1:¬(c:Int)≤90:=oQ;have f2:¬(97:Int)≤c:=oQ;have f3:(48:Int)≤c:=oQ;have f4:¬(c:Int)≤57:=oQ;have f5:((c:Int)==95)=false:=by rw[xV];omega
  go_enter Tryz.func154,Tryz.ntmps154;go_wp2;go_ret;exact⟨rfl,rfl⟩
 ·obtain rfl:b=true:=by rw[←hb];simp[letN,digN,wordN];omega
  clear hb;have f0:(65:Int)≤c:=oQ;have f1:¬(c:Int)≤90:=oQ;have f2:(97:Int)≤c:=oQ;have f3:(c:Int)≤122:=oQ;go_enter Tryz.func154,Tryz.ntmps154;go_wp2;go_ret;exact⟨rfl,rfl⟩
 ·obtain rfl:b=false:=by rw[←hb];simp[letN,digN,wordN];omega
  clear hb;have f0:(65:Int)≤c:=oQ;have f1:¬(c:Int)≤90:=oQ;have f2:(97:Int)≤c:=oQ;have f3:¬(c:Int)≤122:=oQ;have f4:(48:Int)≤c:=oQ;have f5:¬(c:Int)≤57:=oQ;have f6:((c:Int)==95)=false:=by rw[xV];omega
  go_enter Tryz.func154,Tryz.ntmps154;go_wp2;go_ret;exact⟨rfl,rfl⟩
theorem inWord_k (c:Nat)(w:World):Calls Tryz.prog 139 #[.int .u8 c] w fun e w'=>e=.returned (.bool (wordN c))∧w'=w:=by
 have k1:=Hd (letter_k c);have k2:=Hd (digit_k c);generalize hb:wordN c=b;have cs:letN c=true∨(letN c=false∧digN c=true)∨(letN c=false∧digN c=false∧c=95)∨(letN c=false∧digN c=false∧¬c=95):=by
  cases letN c<;>cases digN c<;>simp<;>omega
 rcases cs with h1 |⟨h1,h2⟩|⟨h1,h2,h3⟩|⟨h1,h2,h3⟩
 ·obtain rfl:b=true:=by rw[←hb];simp[wordN,h1]
  clear hb;go_enter Tryz.func139,Tryz.ntmps139;go_wp2_with (go_at_call 173;refine(k1.out _).mono ?_;rw[h1];rintro e W ⟨rfl,rfl⟩);go_wp2;go_ret;exact⟨rfl,rfl⟩
 ·obtain rfl:b=true:=by rw[←hb];simp[wordN,h2]
  clear hb;go_enter Tryz.func139,Tryz.ntmps139;go_wp2_with (go_at_call 173;refine(k1.out _).mono ?_;rw[h1];rintro e W ⟨rfl,rfl⟩);go_wp2_with (go_at_call 140;refine(k2.out _).mono ?_;rw[h2];rintro e W ⟨rfl,rfl⟩);go_wp2;go_ret;exact⟨rfl,rfl⟩
 ·obtain rfl:b=true:=by rw[←hb];simp[wordN,h3]
  clear hb;have f3:((c:Int)==95)=true:=by rw[beq_iff_eq];omega
  clear h3;go_enter Tryz.func139,Tryz.ntmps139;go_wp2_with (go_at_call 173;refine(k1.out _).mono ?_;rw[h1];rintro e W ⟨rfl,rfl⟩);go_wp2_with (go_at_call 140;refine(k2.out _).mono ?_;rw[h2];rintro e W ⟨rfl,rfl⟩);go_wp2;go_ret;exact⟨rfl,rfl⟩
 ·obtain rfl:b=false:=by rw[←hb];simp[wordN,h1,h2,h3]
  clear hb;have f3:((c:Int)==95)=false:=by rw[xV];omega
  clear h3;go_enter Tryz.func139,Tryz.ntmps139;go_wp2_with (go_at_call 173;refine(k1.out _).mono ?_;rw[h1];rintro e W ⟨rfl,rfl⟩);go_wp2_with (go_at_call 140;refine(k2.out _).mono ?_;rw[h2];rintro e W ⟨rfl,rfl⟩);go_wp2;go_ret;exact⟨rfl,rfl⟩
end nmW
end Go.Proofs.YthaabihjeomipaaGreatDoor
