/- Plain data in memory. -/
import Derived.WalkKit
import Derived.WalkSpells
import Derived.WalkLawsBesides
import Derived.Lib.Hide
import Derived.Deep.Slices
import Derived.OpenShut
import Derived.Maps.AppendAt
import Derived.Deep.MidRow
import Derived.Test.YtjbcbibkhalagaaGreatDoorRows
import Derived.Deep.QuietTactic
import Derived.BigQuiet
namespace Go.Proofs.YtjbcbibkhalagaaGreatDoor
set_option maxRecDepth 100000
set_option maxHeartbeats 16000000
open Proofs.Tryz Go.RowKit Go.Deep
set_option linter.unusedVariables false
theorem aH(j:Nat):(0:Int)≤j:=by omega
theorem aV(a b:Nat)(h:a<b:=by omega):(a:Int)<b:=by omega
theorem jS(a b:Nat)(h:¬a<b:=by omega):¬(a:Int)<b:=by omega
theorem aB{α:Sort _}(a:α):∃x,x=a:=⟨a,rfl⟩
theorem _root_.Go.Calls.aR{n a w v w1}{R:World→Prop}{Q}(h:Calls prog n a w fun e w'=>e=.returned v∧R w')(k:Q (.returned v) w1)(g:∀W,R W→W=w1:=by intro _ h;first|exact h|exact h.symm):Calls prog n a w Q:=h.mono (by rintro _ W ⟨rfl,hW⟩;obtain rfl:=g W hW;exact k)
theorem _root_.Go.Calls.eQ{n a w v}{R:World→Prop}{Q}(h:Calls prog n a w fun e w'=>e=.returned v∧R w')(k:∀W,R W→Q (.returned v) W):Calls prog n a w Q:=h.mono (by rintro _ W ⟨rfl,hW⟩;exact k W hW)
theorem tS(fn:Fn)(first cap:Array Value)(w:World):(Instr.makeFunc fn first cap).run prog w=.ok (.func fn first cap) w:=rfl
abbrev Cl:=Calls prog
theorem zA:type_of% @List.mem_of_getElem?.{0}:=@List.mem_of_getElem?.{0}
theorem zB:type_of% @Below.refl:=@Below.refl
theorem zC:type_of% @List.getElem?_eq_some_iff.{0}:=@List.getElem?_eq_some_iff.{0}
theorem zD:type_of% @Nat.le_refl:=@Nat.le_refl
theorem zE:type_of% @Nat.zero_le:=@Nat.zero_le
theorem zF:type_of% @Nat.lt_of_lt_of_le:=@Nat.lt_of_lt_of_le
theorem zG:type_of% @List.getElem?_map.{0,0}:=@List.getElem?_map.{0,0}
theorem zH:type_of% @List.length_append.{0}:=@List.length_append.{0}
theorem zI:type_of% @List.getElem?_eq_getElem.{0}:=@List.getElem?_eq_getElem.{0}
theorem zJ:type_of% @List.take_add_one.{0}:=@List.take_add_one.{0}
theorem zK:type_of% @List.flatMap_cons.{0,0}:=@List.flatMap_cons.{0,0}
theorem zL:type_of% @List.take_length.{0}:=@List.take_length.{0}
theorem zM:type_of% @List.mem_append.{0}:=@List.mem_append.{0}
theorem zN:type_of% @List.getElem?_of_mem.{0}:=@List.getElem?_of_mem.{0}
theorem zO:type_of% @List.length_take.{0}:=@List.length_take.{0}
theorem zP:type_of% @List.getElem?_append_right.{0}:=@List.getElem?_append_right.{0}
theorem eO:type_of% @Option.some.inj.{0}:=@Option.some.inj.{0}
theorem zR:type_of% @List.append_assoc.{0}:=@List.append_assoc.{0}
theorem zS:type_of% @List.getElem?_append_left.{0}:=@List.getElem?_append_left.{0}
theorem zT:type_of% @List.append_nil.{0}:=@List.append_nil.{0}
theorem zU:type_of% @Nat.le_trans:=@Nat.le_trans
theorem zV:type_of% @decide_eq_false:=@decide_eq_false
theorem zW:type_of% @decide_eq_true:=@decide_eq_true
theorem zX:type_of% @World.block_lt_of_cell? :=@World.block_lt_of_cell?
theorem zY:type_of% @List.getElem?_cons_zero.{0}:=@List.getElem?_cons_zero.{0}
theorem zZ:type_of% @List.getElem?_take.{0}:=@List.getElem?_take.{0}
theorem xA:type_of% @List.getElem?_cons_succ.{0}:=@List.getElem?_cons_succ.{0}
theorem xB:type_of% @List.mem_singleton.{0}:=@List.mem_singleton.{0}
theorem xC:type_of% @List.length_map.{0,0}:=@List.length_map.{0,0}
theorem xD:type_of% @List.flatMap_append.{0,0}:=@List.flatMap_append.{0,0}
theorem xE:type_of% @Bool.true_and:=@Bool.true_and
theorem xF:type_of% @List.mem_flatMap.{0,0}:=@List.mem_flatMap.{0,0}
theorem xG:type_of% @Option.map_eq_some_iff.{0,0}:=@Option.map_eq_some_iff.{0,0}
theorem xH:type_of% @List.take_of_length_le.{0}:=@List.take_of_length_le.{0}
theorem xI:type_of% @IntKind.wrap_i64:=@IntKind.wrap_i64
theorem xJ:type_of% @List.mem_map_of_mem.{0,0}:=@List.mem_map_of_mem.{0,0}
theorem xK:type_of% @Bool.and_eq_true:=@Bool.and_eq_true
theorem xL:type_of% @List.getElem?_set.{0}:=@List.getElem?_set.{0}
theorem xM:type_of% @List.any_eq_true.{0}:=@List.any_eq_true.{0}
theorem xN:type_of% @List.mem_append_right.{0}:=@List.mem_append_right.{0}
theorem xO:type_of% @List.getElem?_eq_none.{0}:=@List.getElem?_eq_none.{0}
theorem xP:type_of% @List.all_eq_true.{0}:=@List.all_eq_true.{0}
theorem xQ:type_of% @List.getElem?_mapIdx.{0,0}:=@List.getElem?_mapIdx.{0,0}
theorem xR:type_of% @List.map_append.{0,0}:=@List.map_append.{0,0}
theorem xS:type_of% @List.mem_cons_self.{0}:=@List.mem_cons_self.{0}
theorem xT:type_of% @List.getElem?_drop.{0}:=@List.getElem?_drop.{0}
theorem xU:type_of% @List.mem_cons_of_mem.{0}:=@List.mem_cons_of_mem.{0}
theorem xV:type_of% @beq_eq_false_iff_ne.{0}:=@beq_eq_false_iff_ne.{0}
theorem xW:type_of% @And.intro:=@And.intro
theorem nR {n:Nat}:n<=n:=Nat.le_refl _
theorem oQ {p:Prop}(h:p:=by omega):p:=h
theorem gQ {p:Prop}(h:p:=by go_num):p:=h
theorem sJ {p:Prop}(h:p:=by simp):p:=h
theorem kQ {p:Prop}(h:p:=by kernel_rfl):p:=h
theorem dQ {p:Prop}(h:p:=by decide):p:=h
theorem mQ {p:Prop}(h:p:=by simp[intOf];omega):p:=h
theorem _root_.Go.RowKit.Hid.o {p}(h:Hid p):p:=h
theorem Hd {p}(h:p):Hid p:=Lib.hid h
theorem H2 {pa pb}(a:pa)(b:pb):Hid pa/\Hid pb:=⟨a,b⟩
theorem H3 {pa pb pc}(a:pa)(b:pb)(c:pc):Hid pa/\Hid pb/\Hid pc:=⟨a,b,c⟩
theorem H4 {pa pb pc pd}(a:pa)(b:pb)(c:pc)(d:pd):Hid pa/\Hid pb/\Hid pc/\Hid pd:=⟨a,b,c,d⟩
theorem H5 {pa pb pc pd pe}(a:pa)(b:pb)(c:pc)(d:pd)(e:pe):Hid pa/\Hid pb/\Hid pc/\Hid pd/\Hid pe:=⟨a,b,c,d,e⟩
theorem H6 {pa pb pc pd pe pf}(a:pa)(b:pb)(c:pc)(d:pd)(e:pe)(f:pf):Hid pa/\Hid pb/\Hid pc/\Hid pd/\Hid pe/\Hid pf:=⟨a,b,c,d,e,f⟩
theorem H7 {pa pb pc pd pe pf pg}(a:pa)(b:pb)(c:pc)(d:pd)(e:pe)(f:pf)(g:pg):Hid pa/\Hid pb/\Hid pc/\Hid pd/\Hid pe/\Hid pf/\Hid pg:=⟨a,b,c,d,e,f,g⟩
theorem H8 {pa pb pc pd pe pf pg ph}(a:pa)(b:pb)(c:pc)(d:pd)(e:pe)(f:pf)(g:pg)(h:ph):Hid pa/\Hid pb/\Hid pc/\Hid pd/\Hid pe/\Hid pf/\Hid pg/\Hid ph:=⟨a,b,c,d,e,f,g,h⟩
theorem H9 {pa pb pc pd pe pf pg ph pi}(a:pa)(b:pb)(c:pc)(d:pd)(e:pe)(f:pf)(g:pg)(h:ph)(i:pi):Hid pa/\Hid pb/\Hid pc/\Hid pd/\Hid pe/\Hid pf/\Hid pg/\Hid ph/\Hid pi:=⟨a,b,c,d,e,f,g,h,i⟩
theorem yX {pa pb pc pd pe pf pg ph pi pj}(a:pa)(b:pb)(c:pc)(d:pd)(e:pe)(f:pf)(g:pg)(h:ph)(i:pi)(j:pj):Hid pa/\Hid pb/\Hid pc/\Hid pd/\Hid pe/\Hid pf/\Hid pg/\Hid ph/\Hid pi/\Hid pj:=⟨a,b,c,d,e,f,g,h,i,j⟩
theorem SI {pa pb pc pd pe pf pg ph pi pj pk}(a:pa)(b:pb)(c:pc)(d:pd)(e:pe)(f:pf)(g:pg)(h:ph)(i:pi)(j:pj)(k:pk):Hid pa/\Hid pb/\Hid pc/\Hid pd/\Hid pe/\Hid pf/\Hid pg/\Hid ph/\Hid pi/\Hid pj/\Hid pk:=⟨a,b,c,d,e,f,g,h,i,j,k⟩
theorem uM {pa pb pc pd pe pf pg ph pi pj pk pl}(a:pa)(b:pb)(c:pc)(d:pd)(e:pe)(f:pf)(g:pg)(h:ph)(i:pi)(j:pj)(k:pk)(l:pl):Hid pa/\Hid pb/\Hid pc/\Hid pd/\Hid pe/\Hid pf/\Hid pg/\Hid ph/\Hid pi/\Hid pj/\Hid pk/\Hid pl:=⟨a,b,c,d,e,f,g,h,i,j,k,l⟩
inductive D where
 |v (x:Value)
 |sl (n:Nat)(ds:List D)
inductive Rd (w:World)(F:Nat->Prop):Value->D->Prop
 |v (x:Value):x.oneCell'=true->Rd w F x (.v x)
 |sl (A:Option Addr)(n c b off:Nat)(ds:List D)(f:Nat->Value):n<=c->c<=maxLen->(ds≠ []->A=some ⟨b,off,none⟩/\F b)->
  (∀k d,ds[k]? =some d->w.cell? ⟨b,off+k,none⟩=some (f k))->(∀k d,ds[k]? =some d->Rd w F (f k) d)->Rd w F (.slice A n c) (.sl n ds)
theorem iG {α:Type}{l}{k:Nat}{x:α}(h:l[k]? =some x):l≠ []:=by
 intro e;subst e;simp at h
theorem Rd.keep {w w' F u d}(h:Rd w F u d)(hk:∀b,F b->w'.heap[b]? =w.heap[b]?):Rd w' F u d:=by
 induction h with
 |v x h1=>exact .v x h1
 |sl A n c b off ds f hn hc hA hf hr ih=>
  refine .sl A n c b off ds f hn hc hA (λk d hd=>?_) ih;rw[World.cell?_of_block (w:=w) (hk b (hA (iG hd)).2)];exact hf k d hd
theorem Rd.mono {w F G u d}(h:Rd w F u d)(hk:∀b,F b->b<w.heap.size->G b):Rd w G u d:=by
 induction h with
 |v x h1=>exact .v x h1
 |sl A n c b off ds f hn hc hA hf hr ih=>
  refine .sl A n c b off ds f hn hc (λh=>?_) hf ih;obtain⟨e,hF⟩:=hA h;obtain⟨d,BM,rfl⟩:=List.exists_cons_of_ne_nil h;have:=zX w _ (hf 0 d rfl);exact⟨e,hk b hF this⟩
theorem Rd.bH {w F u x}(h:Rd w F u (.v x)):u=x:=by cases h;rfl
theorem Rd.one {w F u d}(h:Rd w F u d):u.oneCell'=true:=by
 cases h with
 |v x h=>exact h
 |sl=>rfl
theorem Rd.cU {w F u n ds}(h:Rd w F u (.sl n ds)):∃A c,u=.slice A n c/\n<=c/\c<=maxLen:=by
 cases h;exact⟨_,_,rfl,‹_›,‹_›⟩
theorem Rd.cells {w F A n c m ds}(h:Rd w F (.slice A n c) (.sl m ds))(hne:ds≠ []):
  ∃b off,A=some ⟨b,off,none⟩/\F b/\∀k d,ds[k]? =some d->∃u,w.cell? ⟨b,off+k,none⟩=some u/\Rd w F u d:=by
 cases h with
 |sl _ _ _ b off _ f hn hc hA hf hr=>
  obtain⟨e,hF⟩:=hA hne;exact⟨b,off,e,hF,λk d hd=>⟨f k,hf k d hd,hr k d hd⟩⟩
theorem Rd.under {w w' F u d B}(h:Rd w F u d)(hb:Below B w w')(hF:∀b,F b->b<B):Rd w' F u d:=
 h.keep λb fA=>hb.block b (hF b fA)
theorem Rd.stay {w w' F u d}(h:Rd w F u d)(hb:Below w.heap.size w w'):Rd w' F u d:=
 ((h.mono (G:=λb=>F b/\b<w.heap.size) λb a c=>⟨a,c⟩).keep λb fA=>hb.block b fA.2).mono λb a _=>a.1
theorem Rd.drewN {w F u d}(h:Rd w F u d)(k):Rd (w.drewN k) F u d:=h.keep λ_ _=>by simp
theorem Rd.drew {w F u d}(h:Rd w F u d):Rd w.drew F u d:=h.keep λ_ _=>rfl
theorem Rd.alloc {w F u d}(h:Rd w F u d)(o):Rd (w.alloc o) F u d:=
 h.stay ((zB _ _).alloc (zD _) o)
theorem Rd.setCell {w F u d}(h:Rd w F u d){p}(hp:¬F p.block)(x):Rd (w.setCell p x) F u d:=
 h.keep λb hb=>Below.heap_setCell _ _ _ _ (λe=>hp (e▸hb))
theorem Rd.grown {w w' F u d row}(h:Rd w F u d)(hg:w.grownBy w' row)(hp:∀b,F b->some b≠row):Rd w' F u d:=
 ((h.mono (G:=λb=>F b/\b<w.heap.size) λb a c=>⟨a,c⟩).keep λb fA=>hg.block b fA.2 (hp b fA.1)).mono λb a _=>a.1
theorem Rd.take {w F A n c ds}(h:Rd w F (.slice A n c) (.sl n ds)){k}(j)(hk:k<=n):Rd w F (.slice A k c) (.sl k (ds.take j)):=by
 cases h with
 |sl _ _ _ b off _ f hn hc hA hf hr=>
  refine .sl A k c b off _ f (by omega) hc (λhne=>hA (λe=>hne (by simp[e]))) (λi d hd=>?_) (λi d hd=>?_)
  all_goals
   rw[zZ]at hd;split at hd
   .first|exact hf i d hd |exact hr i d hd
   .cases hd
theorem BO {α β:Type}{f:α->List β}{m}(hf:∀x,(f x).length=m)(l:List α):(l.flatMap f).length=l.length*m:=by
 induction l with
 |nil=>simp
 |cons a l ih=>simp[hf,ih,Nat.succ_mul,Nat.add_comm]
theorem po {α β:Type}{f m}(hf:∀x,(f x).length=m){l:List α}{i x}(hx:l[i]? =some x){j}{y:β}(hy:(f x)[j]? =some y):(l.flatMap f)[i*m+j]? =some y:=by
 induction l generalizing i with
 |nil=>simp at hx
 |cons a l ih=>
  cases i with
  |zero=>
   simp at hx;subst hx;have:j<(f a).length:=(zC.1 hy).1;simp[zS this,hy]
  |succ i=>
   simp at hx;rw[zK,zP (by rw[hf,Nat.succ_mul];omega)];rw[hf,show(i+1)*m+j-m=i*m+j by rw[Nat.succ_mul];omega];exact ih hx
theorem Rd.row {w F A n c m}{α:Type}{f}(hf:∀x,(f x).length=m){l:List α}{x i}(h:Rd w F (.slice A n c) (.sl n (l.flatMap f)))(hx:l[i]? =some x)(hm:0<m):
  ∃b off,A=some ⟨b,off,none⟩/\F b/\∀j d,(f x)[j]? =some d->∃u,w.cell? ⟨b,off+i*m+j,none⟩=some u/\Rd w F u d:=by
 have hne:l.flatMap f≠ []:=by
  intro e;have h1:=BO hf l;rw[e]at h1;have h2:=(zC.1 hx).1;have:0<l.length*m:=Nat.mul_pos (by omega) hm;simp at h1;omega
 obtain⟨b,off,e,hF,hc⟩:=h.cells hne;refine⟨b,off,e,hF,λj d hd=>?_⟩;rw[Nat.add_assoc];exact hc _ d (po hf hx hd)
theorem Rd.cP {w F A n c m}{α:Type}{f}(hf:∀x,(f x).length=m){l:List α}{x i}(h:Rd w F (.slice A n c) (.sl n (l.flatMap f)))(hx:l[i]? =some x)(hm:0<m):
  ∃b off,A=some ⟨b,off,none⟩/\F b/\(∀j y,(f x)[j]? =some (.v y)->w.cell? ⟨b,off+i*m+j,none⟩=some y)/\
   ∀j k ds,(f x)[j]? =some (.sl k ds)->∃A c,w.cell? ⟨b,off+i*m+j,none⟩=some (.slice A k c)/\Rd w F (.slice A k c) (.sl k ds):=by
 obtain⟨b,off,e,hF,hc⟩:=h.row hf hx hm;refine⟨b,off,e,hF,λj y hy=>?_,λj k ds hy=>?_⟩
 .obtain⟨u,h1,h2⟩:=hc j _ hy;rw[h1,h2.bH]
 .obtain⟨u,h1,h2⟩:=hc j _ hy;obtain⟨A',c',rfl,_,_⟩:=h2.cU;exact⟨A',c',h1,h2⟩
theorem Rd.at1 {w F A n c ds i y}(h:Rd w F (.slice A n c) (.sl n ds))(hx:ds[i]? =some (.v y)):
  ∃b off,A=some ⟨b,off,none⟩/\F b/\w.cell? ⟨b,off+i,none⟩=some y:=by
 obtain⟨b,off,e,hF,hc⟩:=h.cells (iG hx);obtain⟨u,h1,h2⟩:=hc i _ hx;exact⟨b,off,e,hF,by rw[h1,h2.bH]⟩
def jf (k:IntKind)(n:Int):List D:=[.v (.int k n)]
def SJ (b:Bool):List D:=[.v (.bool b)]
def aG (s:ByteArray):List D:=[.v (.string s)]
theorem av {α:Type}{l:List α}{i}(h:i<l.length):∃x,l[i]? =some x:=⟨l[i],zI h⟩
theorem Rd.at_ {w F A n c}{α:Type}{f:α->Value}{l:List α}{x i}(h:Rd w F (.slice A n c) (.sl n (l.flatMap λx=>[D.v (f x)])))(hx:l[i]? =some x):∃b off,A=some ⟨b,off,none⟩/\F b/\w.cell? ⟨b,off+i,none⟩=some (f x):=by
 obtain⟨b,off,e,hF,hc,_⟩:=h.cP (m:=1) (λ_=>rfl) hx (by omega);have:=hc 0 (f x) rfl;rw[Nat.mul_one,Nat.add_zero]at this;exact⟨b,off,e,hF,this⟩
theorem Yc {α:Type}{f:α->D}(l:List α):(l.flatMap λx=>[f x]).length=l.length:=by
 rw[BO (m:=1) (λ_=>rfl),Nat.mul_one]
theorem Pv {α:Type}{f:α->D}{l:List α}{k:Nat}{d}(h:(l.flatMap λx=>[f x])[k]? =some d):∃x,l[k]? =some x/\d=f x:=by
 have hk:k<l.length:=by have:=(zC.1 h).1;rwa [Yc]at this
 refine⟨l[k],zI hk,?_⟩;have:=po (f:=λx=>[f x]) (m:=1) (λ_=>rfl) (zI hk) (j:=0) rfl;rw[Nat.mul_one,Nat.add_zero,h]at this;injection this
theorem ahu {α:Type}{f:α->D}{l:List α}{k y}:(l.flatMap λx=>[f x]).set k (f y)=(l.set k y).flatMap λx=>[f x]:=by
 induction l generalizing k with
 |nil=>rfl
 |cons a l ih=>
  cases k with
  |zero=>rfl
  |succ k=>simp only[zK,List.singleton_append,List.set_cons_succ];rw[ih]
theorem hY {k a b}(h:a=b):Ending.returned (.int k a)=.returned (.int k b):=by rw[h]
theorem fZ {a b}(h:a=b):Ending.returned (.bool a)=.returned (.bool b):=by rw[h]
abbrev Bw (w W:World):Prop:=Below w.heap.size w W
theorem bR {B w}:Below B w w:=Below.refl _ _
theorem bA {w o}:Below w.heap.size w (w.alloc o):=(Below.refl _ _).alloc (Nat.le_refl _) _
theorem bX {w}(o):Below w.heap.size w (w.alloc o):=(Below.refl _ _).alloc (Nat.le_refl _) _
structure nW (P:Program)(t e size bytes:Nat):Prop where
 sl:P.underlying t=some (.slice e)
 info:∃i z,P.info? e=some i/\i.zero=some z/\i.size=size/\i.bytes=bytes/\z.cells.size=size
 pos:0<size
theorem nW.of {P t e size bytes}(h:P.underlying t=some (.slice e))(hi:(P.info? e).map (λi=>(i.zero.map (·.cells.size),i.size,i.bytes))=some (some size,size,bytes))(hp:0<size):nW P t e size bytes:=by
 refine⟨h,?_,hp⟩;cases hq:P.info? e with
 |none=>rw[hq]at hi;cases hi
 |some i=>
  rw[hq]at hi;simp only[Option.map_some,Option.some.injEq,Prod.mk.injEq]at hi;obtain⟨h1,h2,h3⟩:=hi;cases hz:i.zero with
  |none=>rw[hz]at h1;cases h1
  |some z=>
   rw[hz]at h1;exact⟨i,z,rfl,hz,h2,h3,by simpa using h1⟩
def OL (w:World)(B:Nat)(F:Nat->Prop)(e size:Nat)(v:Value)(n:Nat)(ds:List D):Prop:=
 ∃cells,w.ownsRow B e size v n cells/\ds.length=cells.length/\∀(k:Nat)(d:D),ds[k]? =some d->∃u,cells[k]? =some u/\Rd w (λb=>F b/\some b≠v.ownBlock) u d
def Src (w:World)(A:Option Addr)(news:List D)(G:Nat->Prop):Prop:=
 news≠ []->∃b off,A=some ⟨b,off,none⟩/\∀(k:Nat)(d:D),news[k]? =some d->∃u,w.cell? ⟨b,off+k,none⟩=some u/\Rd w G u d
theorem Rd.src {w F G A n c m ds}(h:Rd w F (.slice A n c) (.sl m ds))(hG:∀b,F b->b<w.heap.size->G b):Src w A ds G:=by
 intro hne;obtain⟨b,off,e,_,hc⟩:=h.cells hne;exact⟨b,off,e,λk d hd=>let ⟨u,h1,h2⟩:=hc k d hd;⟨u,h1,h2.mono hG⟩⟩
theorem Rd.ahv {w F G A n c m}{α:Type}{f:α->Value}{l:List α}(h:Rd w F (.slice A n c) (.sl m (l.flatMap λx=>[D.v (f x)]))):Src w A (l.flatMap λx=>[D.v (f x)]) G:=by
 intro hne;obtain⟨b,off,e,_,hc⟩:=h.cells hne;refine⟨b,off,e,λk d hd=>?_⟩;obtain⟨u,h1,h2⟩:=hc k d hd;obtain⟨x,_,rfl⟩:=Pv hd;have:=h2.one;have e:=h2.bH;subst e;exact⟨_,h1,.v _ this⟩
def fD (ds:List D):Prop:=∀d∈ds,∃x,d=.v x
theorem fD.flatMap {α:Type}{f}(hf:∀x,fD (f x))(l:List α):fD (l.flatMap f):=by
 intro d hd;obtain⟨x,_,hx⟩:=xF.1 hd;exact hf x d hx
theorem Rd.Ie {w F G A n c m ds}(hp:fD ds)(h:Rd w F (.slice A n c) (.sl m ds)):Src w A ds G:=by
 intro hne;obtain⟨b,off,e,_,hc⟩:=h.cells hne;refine⟨b,off,e,λk d hd=>?_⟩;obtain⟨u,h1,h2⟩:=hc k d hd;obtain⟨x,rfl⟩:=hp d (zA hd);have:=h2.one;have e:=h2.bH;subst e;exact⟨_,h1,.v _ this⟩
theorem l9 (g j):(⟨g,0,none⟩:Addr).add j=⟨g,j,none⟩:=by unfold Addr.add;split<;>simp_all
theorem jT (b o j):(⟨b,o,none⟩:Addr).add j=⟨b,o+j,none⟩:=by unfold Addr.add;split<;>simp_all
theorem Src.new {w G cs}{t:Nat}{ds}(h:∀(k:Nat)(d:D),ds[k]? =some d->∃u,cs[k]? =some u/\Rd w G u d):Src (w.alloc (.cells cs t)) (some ⟨w.heap.size,0,none⟩) ds G:=by
 intro hne;refine⟨_,_,rfl,λk d hd=>?_⟩;obtain⟨u,h1,h2⟩:=h k d hd;refine⟨u,?_,h2.alloc _⟩;rw[Nat.zero_add,cell_of_row _ _ _ cs t (0,0) (heap_alloc_new w _)];exact h1
def fB (w:World)(G:Nat->Prop):List Value->List D->Prop
 | [],[]=>True
 |u::us,d::ds=>Rd w G u d/\fB w G us ds
 |_,_=>False
theorem fB.get {w G cs ds}(h:fB w G cs ds){k:Nat}{d}(hd:ds[k]? =some d):∃u,cs[k]? =some u/\Rd w G u d:=by
 induction cs generalizing ds k with
 |nil=>cases ds with
  |nil=>simp at hd
  |cons=>exact h.elim
 |cons u us ih=>cases ds with
  |nil=>exact h.elim
  |cons d' ds=>cases k with
   |zero=>simp at hd;subst hd;exact⟨u,rfl,h.1⟩
   |succ k=>simp at hd;obtain⟨u',h1,h2⟩:=ih h.2 hd;exact⟨u',by simpa using h1,h2⟩
theorem fB.imp {w w' F G}(hi:∀u d,Rd w F u d->Rd w' G u d){cs ds}(h:fB w F cs ds):fB w' G cs ds:=by
 induction cs generalizing ds with
 |nil=>cases ds with
  |nil=>trivial
  |cons=>exact h.elim
 |cons u us ih=>cases ds with
  |nil=>exact h.elim
  |cons d ds=>exact⟨hi _ _ h.1,ih h.2⟩
theorem fB.dz {w F cs ds}(h:fB w F cs ds){u d}(hu:Rd w F u d)(j):fB w F (cs.set j u) (ds.set j d):=by
 induction cs generalizing ds j with
 |nil=>cases ds with
  |nil=>trivial
  |cons=>exact h.elim
 |cons u us ih=>cases ds with
  |nil=>exact h.elim
  |cons d' ds=>cases j with
   |zero=>exact⟨hu,h.2⟩
   |succ j=>exact⟨h.1,ih h.2 j⟩
theorem Rd.nil (w F):Rd w F (.slice none 0 0) (.sl 0 []):=
 .sl none 0 0 0 0 [] (λ_=>.bool false) nR (zE _) (λh=>absurd rfl h) (λk d h=>by simp at h) (λk d h=>by simp at h)
theorem Src.lit {w G cs}{t:Nat}{ds}(h:fB w G cs ds):Src (w.alloc (.cells ⟨cs⟩ t)) (some ⟨w.heap.size,0,none⟩) ds G:=
 Src.new λk d hd=>by
  obtain⟨u,h1,h2⟩:=h.get hd;exact⟨u,by simpa using h1,h2⟩
theorem OL.nil (w B F e size):OL w B F e size (.slice none 0 0) 0 []:=
 ⟨[],World.ownsRow_nil w B e size,rfl,λk d h=>by simp at h⟩
section
variable {w w':World}{B e size n:Nat}{F:Nat->Prop}{v:Value}{ds:List D}
theorem OL.form (h:OL w B F e size v n ds):∃A c,v=.slice A n c:=by
 obtain⟨cells,h1,_⟩:=h;rcases h1.2 with⟨rfl,rfl⟩|⟨g,cap,cur,rfl,_⟩
 .exact⟨_,_,rfl⟩
 .exact⟨_,_,rfl⟩
theorem OL.len (h:OL w B F e size v n ds):ds.length=n*size:=by
 obtain⟨cells,h1,h2,_⟩:=h;rw[h2,h1.1]
theorem OL.lt (h:OL w B F e size v n ds):∀k,v.ownBlock=some k->B<=k/\k<w.heap.size:=by
 obtain⟨cells,h1,_⟩:=h;exact h1.lt
theorem OL.kept {row}(h:OL w B F e size v n ds)(hg:w.grownBy w' row)(hne:v.ownBlock=none\/v.ownBlock≠row)(hF:∀b,F b->some b≠row):OL w' B F e size v n ds:=by
 obtain⟨cells,h1,h2,h3⟩:=h;refine⟨cells,h1.kept hg hne,h2,λk d hd=>?_⟩;obtain⟨u,hu,hr⟩:=h3 k d hd;exact⟨u,hu,hr.grown hg λb hb=>hF b hb.1⟩
theorem Below.jU (hb:Bw w w'):w.grownBy w' none:=
 ⟨hb.os,hb.tape,hb.output,hb.size,λk hk _=>hb.block k hk⟩
theorem OL.stay (h:OL w B F e size v n ds)(hb:Bw w w'):OL w' B F e size v n ds:=
 h.kept (row:=none) (Below.jU hb) (by cases v.ownBlock<;>simp) (λ_ _=>by simp)
theorem OL.alloc (h:OL w B F e size v n ds)(o):OL (w.alloc o) B F e size v n ds:=h.stay ((bR).alloc nR o)
theorem OL.drew (h:OL w B F e size v n ds):OL w.drew B F e size v n ds:=h.stay ((bR).drew)
theorem OL.drewN (h:OL w B F e size v n ds)(k):OL (w.drewN k) B F e size v n ds:=by
 exact h.stay (below_drewN bR k)
theorem OL.mono {G}(h:OL w B F e size v n ds)(hk:∀b,F b->G b):OL w B G e size v n ds:=by
 obtain⟨cells,h1,h2,h3⟩:=h;refine⟨cells,h1,h2,λk d hd=>?_⟩;obtain⟨u,hu,hr⟩:=h3 k d hd;exact⟨u,hu,hr.mono λb hb _=>⟨hk b hb.1,hb.2⟩⟩
theorem OL.setCell (h:OL w B F e size v n ds){p}(hp:v.ownBlock≠some p.block)(hF:¬F p.block)(x):OL (w.setCell p x) B F e size v n ds:=by
 refine h.kept (row:=some p.block) ⟨rfl,rfl,rfl,by simp[World.setCell],λk hk hne=>Below.heap_setCell _ _ _ _ (λe=>hne (by rw[e]))⟩ (.inr hp) (λb hb he=>hF (by injection he with he;exact he▸hb))
theorem OL.row (h:OL w B F e size v n ds)(hn:0<n):∃g cap,v=.slice (some ⟨g,0,none⟩) n cap/\B<=g/\g<w.heap.size/\(∀j,w.frozen? ⟨g,j,none⟩=false)/\
  ∀(k:Nat)(d:D),ds[k]? =some d->∃u,w.cell? ⟨g,k,none⟩=some u/\Rd w (λb=>F b/\b≠g) u d:=by
 obtain⟨cells,h1,h2,h3⟩:=h;rcases h1.2 with⟨rfl,h0⟩|⟨g,cap,cur,rfl,hB,hg,Ct,hm,hs,ht⟩
 .omega
 .refine⟨g,cap,rfl,hB,(Array.getElem?_eq_some_iff.1 hg).1,λj=>by simp[World.frozen?,hg],λk d hd=>?_⟩;obtain⟨u,hu,hr⟩:=h3 k d hd;refine⟨u,?_,hr.mono λb hb _=>⟨hb.1,λe=>hb.2 (by rw[e];rfl)⟩⟩;rw[cell_of_row w g k cur e (0,0) hg];rw[<-ht,zZ]at hu;split at hu
  .simpa using hu
  .cases hu
theorem OL.set {g cap}(h:OL w B F e size (.slice (some ⟨g,0,none⟩) n cap) n ds){j u d}(hu:Rd w (λb=>F b/\b≠g) u d):
  OL (w.setCell ⟨g,j,none⟩ u) B F e size (.slice (some ⟨g,0,none⟩) n cap) n (ds.set j d):=by
 obtain⟨cells,h1,h2,h3⟩:=h;have hk:∀{x:Value}{y:D},Rd w (λb=>F b/\some b≠Value.ownBlock (.slice (some ⟨g,0,none⟩) n cap)) x y->Rd (w.setCell ⟨g,j,none⟩ u) (λb=>F b/\some b≠Value.ownBlock (.slice (some ⟨g,0,none⟩) n cap)) x y:=λhr=>
  hr.setCell (p:=⟨g,j,none⟩) (λh=>h.2 rfl) u
 refine⟨cells.set j u,(h1.stored j u).1,by simp[h2],λk y hy=>?_⟩;rw[xL]at hy |-;by_cases JW:j=k
 .subst JW;rw[if_pos rfl]at hy |-;split at hy
  .injection hy with hy
   subst hy;rw[if_pos oQ];exact⟨u,rfl,hk (hu.mono λb hb _=>⟨hb.1,λe=>hb.2 (by simpa[Value.ownBlock] using e)⟩)⟩
  .cases hy
 .rw[if_neg JW]at hy |-;obtain⟨x,hx,hr⟩:=h3 k y hy;exact⟨x,hx,hk hr⟩
theorem OL.ne {B' e' Kq n' F' v' BM}(h:OL w B F e size v n ds)(h':OL w B' F' e' Kq v' n' BM)(hne:e≠e'):v.ownBlock=none\/v.ownBlock≠v'.ownBlock:=by
 obtain⟨cells,h1,_⟩:=h;obtain⟨cells',SK,_⟩:=h';rcases h1.2 with⟨rfl,_⟩|⟨g,cap,cur,rfl,_,hg,_⟩
 .exact .inl rfl
 .refine .inr ?_;rcases SK.2 with⟨rfl,_⟩|⟨g',cap',Pw,rfl,_,Xu,_⟩
  .simp[Value.ownBlock]
  .intro he;simp[Value.ownBlock]at he;subst he;rw[hg]at Xu;injection Xu with Xu
   injection Xu with _ ht
   exact hne ht
theorem OL.Kr {G}(h:OL w B F e size v n ds)(hG:∀b,F b->b<w.heap.size->G b)(hB:∀b,v.ownBlock=some b->B<=b->b<w.heap.size->G b):Rd w G v (.sl n ds):=by
 obtain⟨cells,h1,h2,h3⟩:=h;obtain⟨hl,hx⟩:=h1;rcases hx with⟨rfl,rfl⟩|⟨g,cap,cur,rfl,hb,hg,hn,hm,hs,ht⟩
 .have:ds=[]:=List.eq_nil_of_length_eq_zero (by rw[h2,hl];simp);subst this;exact .sl none 0 0 0 0 [] (λ_=>.bool false) nR (zE _) (λh=>absurd rfl h) (λk d h=>by simp at h) (λk d h=>by simp at h)
 .refine .sl _ n cap g 0 ds (λk=>cells[k]?.getD (.bool false)) hn hm (λ_=>⟨rfl,hB g rfl hb (Array.getElem?_eq_some_iff.1 hg).1⟩) (λk d hd=>?_) (λk d hd=>?_)
  .obtain⟨u,hu,_⟩:=h3 k d hd;rw[hu,Nat.zero_add,cell_of_row w g k cur e (0,0) hg];rw[<-ht,zZ]at hu;split at hu
   .simpa using hu
   .cases hu
  .obtain⟨u,hu,hr⟩:=h3 k d hd;rw[hu];exact hr.mono λb fA hlt=>hG b fA.1 hlt
theorem OL.rd {G}(h:OL w B F e size v n ds)(hG:∀b,F b->b<w.heap.size->G b)(hB:∀b,B<=b->b<w.heap.size->G b):Rd w G v (.sl n ds):=
 h.Kr hG λb _=>hB b
theorem OL.Ks {G}(h:OL w B F e size v n ds)(hk:∀b,F b->b<w.heap.size->G b):OL w B G e size v n ds:=by
 obtain⟨cells,h1,h2,h3⟩:=h;refine⟨cells,h1,h2,λk d hd=>?_⟩;obtain⟨u,hu,hr⟩:=h3 k d hd;exact⟨u,hu,hr.mono λb hb hlt=>⟨hk b hb.1 hlt,hb.2⟩⟩
end
section
variable {P:Program}{w:World}
theorem kV (base t ty e i size)(ht:P.underlying t=some (.slice e))(hi:P.info? e=some i)(v n xs)(dv:w.ownsRow base e size v n xs)(c):(Builtin.append_ #[t,t] ty #[v,.slice none 0 c]).run P w=.ok v w:=by
 rcases dv.2 with⟨rfl,rfl⟩|⟨g,cap,cur,rfl,_,_,Ct,_⟩
 .simp[Builtin.append_,run_underlying ht,sizeOf,typeInfo,hi,Builtin.lenOf,Builtin.firstCells]
 .simp[Builtin.append_,run_underlying ht,sizeOf,typeInfo,hi,Builtin.lenOf,Builtin.firstCells,Ct,storeCells]
theorem Rd.sw {w w'}{F:Nat->Prop}{v v' u:Value}{d}(h:Rd w (λb=>F b/\some b≠v.ownBlock) u d)(hg:w.grownBy w' v.ownBlock)(ha:v'.ownBlock=v.ownBlock\/v'.ownBlock=some w.heap.size):Rd w' (λb=>F b/\some b≠v'.ownBlock) u d:=by
 refine((h.mono (G:=λb=>(F b/\some b≠v.ownBlock)/\b<w.heap.size) λb a c=>⟨a,c⟩).keep λb hb=>hg.block b hb.2 hb.1.2).mono λb hb _=>⟨hb.1.1,?_⟩
 rcases ha with e |e
 .rw[e];exact hb.1.2
 .rw[e];intro he;have:=hb.2;injection he with he
  omega
theorem Px {B t ty e size bytes n m c:Nat}{F v ds news A}(T:nW P t e size bytes)(dv:OL w B F e size v n ds)(ik:Src w A news (λb=>F b/\some b≠v.ownBlock))(hl:news.length=m*size)(hn:n+m<=4294967296)(hb:bytes<=32768)(hB:B<=w.heap.size):
  ∃v' w',(Builtin.append_ #[t,t] ty #[v,.slice A m c]).run P w=.ok v' w'/\OL w' B F e size v' (n+m) (ds++news)/\w.grownBy w' v.ownBlock/\(v'.ownBlock=v.ownBlock\/v'.ownBlock=some w.heap.size):=by
 obtain⟨ht,⟨i,z,hi,hz,nK,ju,EH⟩,hp⟩:=T;have h63:n+m<=maxLen:=by unfold maxLen;omega
 have jg:(n+m)*bytes<=140737488355328:=zU (Nat.mul_le_mul hn hb) dQ;obtain⟨cells,h1,h2,h3⟩:=dv;by_cases hne:news=[]
 .subst hne;have hm:m=0:=by
   rcases Nat.eq_zero_or_pos m with h |h
   .exact h
   .have:=Nat.mul_pos h hp;simp at hl;omega
  subst hm;rcases A with _ |ad
  .exact⟨v,w,kV B t ty e i size ht hi v n cells h1 c,⟨cells,by simpa using h1,by simpa using h2,by simpa using h3⟩,World.grownBy.refl w _,.inl rfl⟩
  .obtain⟨v',w',hr,a1,a2,_,a4⟩:=run_append_own_at (P:=P) w B t ty e i z size bytes ht hi hz nK ju EH hp v n cells h1 ad 0 c [] sJ (λj u h=>by simp at h) (λu h=>by simp at h) h63 jg hB;refine⟨v',w',hr,⟨cells,by simpa using a1,by simpa using h2,λk d hd=>?_⟩,a2,a4⟩;simp at hd;obtain⟨u,hu,hx⟩:=h3 k d hd;exact⟨u,hu,hx.sw a2 a4⟩
 .obtain⟨b,off,rfl,hc⟩:=ik hne;have hex:∀k,k<news.length->∃u,w.cell? ⟨b,off+k,none⟩=some u/\∀d,news[k]? =some d->Rd w (λb=>F b/\some b≠v.ownBlock) u d:=λk hk=>by
   obtain⟨u,h4,h5⟩:=hc k news[k] (zI hk);refine⟨u,h4,λd hd=>?_⟩;rw[zI hk]at hd;injection hd with hd
   subst hd;exact h5
  obtain⟨g,hg⟩:=choose_lt hex;have Kt:∀(k:Nat)(u:Value),((List.range news.length).map g)[k]? =some u->k<news.length/\u=g k:=λk u h=>by
   rw[zG]at h;rcases Nat.lt_or_ge k news.length with hk |hk
   .rw[List.getElem?_range hk]at h;simp at h;exact⟨hk,h.symm⟩
   .rw[xO (by simpa using hk)]at h;simp at h
  obtain⟨v',w',hr,a1,a2,_,a4⟩:=run_append_own_at (P:=P) w B t ty e i z size bytes ht hi hz nK ju EH hp v n cells h1 ⟨b,off,none⟩ m c ((List.range news.length).map g) (by simpa using hl)
   (λj u h=>by
    obtain⟨hk,rfl⟩:=Kt j u h;rw[jT];exact(hg j hk).1)
   (λu h=>by
    obtain⟨j,hj⟩:=zN h;obtain⟨hk,rfl⟩:=Kt j u hj;exact((hg j hk).2 _ (zI hk)).one)
   h63 jg hB
  refine⟨v',w',hr,⟨_,a1,by simp[h2],λk d hd=>?_⟩,a2,a4⟩;rcases Nat.lt_or_ge k ds.length with hk |hk
  .rw[zS hk]at hd;obtain⟨u,hu,hx⟩:=h3 k d hd;exact⟨u,by rw[zS oQ];exact hu,hx.sw a2 a4⟩
  .rw[zP hk]at hd;have gC:=(zC.1 hd).1;refine⟨g (k-ds.length),?_,((hg _ gC).2 d hd).sw a2 a4⟩;rw[zP oQ,<-h2,zG,List.getElem?_range gC];rfl
theorem Ku {o:Oper}{a K Q}(s x t)(ho:o.op=.call {callee:=.builtin .append,args:=#[s,x],argTypes:=#[t,t]}){B e size bytes n m c F v ds news A}(T:nW P t e size bytes)(dv:OL w B F e size v n ds)(hs:a.eval s=v)(hx:a.eval x=.slice A m c)(ik:Src w A news (λb=>F b/\some b≠v.ownBlock))(hl:news.length=m*size)(hn:n+m<=4294967296)(hb:bytes<=32768)(hB:B<=w.heap.size)(h:∀v' w',OL w' B F e size v' (n+m) (ds++news)->w.grownBy w' v.ownBlock->(v'.ownBlock=v.ownBlock\/v'.ownBlock=some w.heap.size)->K (a.put o.dst v') w'):o.wp P a w K Q:=by
 obtain⟨v',w',hrun,h2,h3,h4⟩:=Px (P:=P) (ty:=o.type) T dv ik hl hn hb hB (c:=c);unfold Oper.wp execOp;simp only[ho,resolve,invoke,builtin,Sem.run_bind,Sem.run_pure,Result.andThen_ok,List.map_toArray,List.map_cons,List.map_nil,hs,hx,hrun];exact h v' w' h2 h3 h4
theorem ez {ops rest}{o:Oper}{a Q}(EI:o.guard=none)(s x t)(ho:o.op=.call {callee:=.builtin .append,args:=#[s,x],argTypes:=#[t,t]}){B e size bytes n m c F v ds news A}(T:nW P t e size bytes)(dv:OL w B F e size v n ds)(hs:a.eval s=v)(hx:a.eval x=.slice A m c)(ik:Src w A news (λb=>F b/\some b≠v.ownBlock))(hl:news.length=m*size)(hn:n+m<=4294967296)(hb:bytes<=32768)(hB:B<=w.heap.size)(h:∀v' w',OL w' B F e size v' (n+m) (ds++news)->w.grownBy w' v.ownBlock->(v'.ownBlock=v.ownBlock\/v'.ownBlock=some w.heap.size)->wpList P ops Q rest (a.put o.dst v') w'):wpList P ops Q (o::rest) a w:=
 wpList_plain EI λ_ hK=>Ku s x t ho T dv hs hx ik hl hn hb hB λv' w' h2 h3 h4=>hK _ _ (h v' w' h2 h3 h4)
theorem dj {ops}{o:Oper}{a K Q E}(EI:o.guard=none)(s x t)(ho:o.op=.call {callee:=.builtin .append,args:=#[s,x],argTypes:=#[t,t]}){B e size bytes n m c F v ds news A}(T:nW P t e size bytes)(dv:OL w B F e size v n ds)(hs:a.eval s=v)(hx:a.eval x=.slice A m c)(ik:Src w A news (λb=>F b/\some b≠v.ownBlock))(hl:news.length=m*size)(hn:n+m<=4294967296)(hb:bytes<=32768)(hB:B<=w.heap.size)(h:∀v' w',OL w' B F e size v' (n+m) (ds++news)->w.grownBy w' v.ownBlock->(v'.ownBlock=v.ownBlock\/v'.ownBlock=some w.heap.size)->K (a.put o.dst v') w'):
  if Region.wanted o (yielded ops a.tmps)=true then Oper.wp P o a w K Q else E:=by
 have hw:Region.wanted o (yielded ops a.tmps)=true:=by simp[Region.wanted,EI]
 rw[if_pos hw];exact Ku s x t ho T dv hs hx ik hl hn hb hB h
end
def ao (w:World)(g t:Nat)(cs:List Value):Prop:=w.heap[g]? =some (.cells ⟨cs⟩ t (0,0))
section
variable {w w':World}{g t:Nat}{cs:List Value}
theorem ao.lt (h:ao w g t cs):g<w.heap.size:=(Array.getElem?_eq_some_iff.1 h).1
theorem ao.cell (h:ao w g t cs)(i):w.cell? ⟨g,i,none⟩=cs[i]? :=by
 rw[cell_of_row w g i ⟨cs⟩ t (0,0) h];simp
theorem ao.frozen (h:ao w g t cs)(i):w.frozen? ⟨g,i,none⟩=false:=by
 unfold ao at h;simp[World.frozen?,h]
theorem ao.new (w:World)(t:Nat)(cs):ao (w.alloc (.cells ⟨cs⟩ t)) w.heap.size t cs:=heap_alloc_new w _
theorem ao.new' {w:World}{g t:Nat}{cs}(hg:w.heap.size=g):ao (w.alloc (.cells ⟨cs⟩ t)) g t cs:=hg▸ao.new w t cs
theorem ao.stay (h:ao w g t cs)(hb:Bw w w'):ao w' g t cs:=(hb.block g h.lt).trans h
theorem ao.alloc (h:ao w g t cs)(o):ao (w.alloc o) g t cs:=h.stay ((bR).alloc nR o)
theorem ao.drewN (h:ao w g t cs)(k):ao (w.drewN k) g t cs:=h.stay (below_drewN bR k)
theorem ao.dz (h:ao w g t cs)(i u):ao (w.setCell ⟨g,i,none⟩ u) g t (cs.set i u):=by
 unfold ao at h |-;simp[World.setCell,Array.getElem?_modify,h]
theorem ao.far (h:ao w g t cs){p}(hp:g≠p.block)(u):ao (w.setCell p u) g t cs:=(Below.heap_setCell w p u g hp).trans h
theorem ao.under {B}(h:ao w g t cs)(hb:Below B w w')(hg:g<B):ao w' g t cs:=(hb.block g hg).trans h
theorem ao.grown {row}(h:ao w g t cs)(hb:w.grownBy w' row)(hg:some g≠row):ao w' g t cs:=(hb.block g h.lt hg).trans h
end
theorem ay {P ops rest o a w Q}(x)(_h:o.op=x)(k:wpList P ops Q (o::rest) a w):wpList P ops Q (o::rest) a w:=k
def jV (P:Program)(t size:Nat):Prop:=∃d,P.underlying t=some d/\d.isRow=true/\(P.info? t).map (·.size)=some size
section
variable {P:Program}{w:World}{g t:Nat}{cs:List Value}
theorem ao.range (h:ao w g t cs):w.rangeAt g 0 cs:=λj v hv=>by rw[Nat.zero_add,h.cell];exact hv
theorem jh {ty}(h:ao w g t cs)(T:jV P ty cs.length):(loadVar ty ⟨g,0,none⟩).run P w=.ok (.agg ⟨cs⟩) w:=by
 obtain⟨d,hu,hd,hi⟩:=T;exact run_loadVar_mid w g 0 ty cs d h.range hu hd hi
theorem aJ {ops rest}{op:Oper}{a Q}(EI:op.guard=none)(ty x)(ho:op.op=.load ty x)(h:ao w g t cs)(T:jV P ty cs.length)(hx:a.eval x=.pointer (some ⟨g,0,none⟩))(hk:wpList P ops Q rest (a.put op.dst (.agg ⟨cs⟩)) w):wpList P ops Q (op::rest) a w:=by
 obtain⟨d,hu,hd,hi⟩:=T;exact wpList_load_mid EI ty x ho g 0 hx cs d h.range hu hd hi hk
theorem qT (cs'):∀(o:Nat)(w:World)(cs:List Value),ao w g t cs->o+cs'.length=cs.length->ao (w.setCells g o cs') g t (cs.take o++cs')/\w.grownBy (w.setCells g o cs') (some g):=by
 induction cs' with
 |nil=>
  intro o w cs h hl;simp only[List.length_nil,Nat.add_zero]at hl;subst hl;simp only[World.setCells,zT,zL];exact⟨h,World.grownBy.refl w _⟩
 |cons v r ih=>
  intro o w cs h hl;simp only[List.length_cons]at hl;obtain⟨h1,h2⟩:=ih (o+1) (w.setCell ⟨g,o,none⟩ v) (cs.set o v) (h.dz o v) (by simp;omega);refine⟨?_,?_⟩
  .have:(cs.set o v).take (o+1)=cs.take o++[v]:=by
    rw[zJ,xL,if_pos rfl,if_pos oQ,List.take_set_of_le nR];rfl
   rw[this]at h1;simpa[World.setCells] using h1
  .refine⟨h2.os,h2.tape,h2.output,?_,λk hk hne=>?_⟩
   .have:=h2.size;refine zU ?_ this;simp[World.setCell]
   .have:=h2.block k (by simpa[World.setCell] using hk) hne;refine this.trans (Below.heap_setCell _ _ _ _ (λe=>hne (by rw[e])))
theorem eU {ops rest}{op:Oper}{a Q}(EI:op.guard=none)(ty x y)(ho:op.op=.store ty x y){cs'}(h:ao w g t cs)(T:jV P ty cs'.length)(hl:cs'.length=cs.length)(hx:a.eval x=.pointer (some ⟨g,0,none⟩))(hy:a.eval y=.agg ⟨cs'⟩)(h1:cs'.all (·.oneCell')=true)(hk:∀w',ao w' g t cs'->w.grownBy w' (some g)->wpList P ops Q rest (a.put op.dst undef) w'):wpList P ops Q (op::rest) a w:=by
 obtain⟨d,hu,hd,hi⟩:=T;obtain⟨h2,h3⟩:=qT cs' 0 w cs h oQ;refine wpList_store_mid EI ty x y ho g 0 ⟨cs'⟩ hx hy (λj hj=>?_) hi (by simpa using h1) (hk _ (by simpa using h2) h3);rw[Nat.zero_add];refine⟨?_,h.frozen j⟩;rw[h.cell,zI (by simp at hj;omega)];rfl
theorem Kv {fn R a}{p q ty:Nat}{v}(hr:fn.results=#[.cell p ty,.tmp q])(h:ao w g t cs)(T:jV P ty cs.length)(hp:a.tmps.getD p undef=.pointer (some ⟨g,0,none⟩))(hq:a.tmps.getD q undef=v)(hd:a.defers=[])(hR:R (.returned (.tuple #[.agg ⟨cs⟩,v])) w):bodyPost P fn R .ret a w:=by
 refine bodyPost_ret (v:=.tuple #[.agg ⟨cs⟩,v]) ?_ hd hR;simp only[Array.getD_eq_getD_getElem?]at hp hq;simp[results,hr,hp,hq,asAddr,jh h T]
end
inductive Ty where
 |bool
 |int (k:IntKind)
 |str
 |sl (l:List Ty)
def Ig (g:TypeId->Option (List Ty))(P:Program):Nat->List Field->Option (List Ty)
 |_,[]=>some []
 |off,f::r=>match g f.type with
  |none=>none
  |some l=>if f.offset=off/\P.cellsOf f.type=l.length then(Ig g P (off+l.length) r).map (l++ ·)else none
def lay (P:Program):Nat->TypeId->Option (List Ty)
 |0,_=>none
 |n+1,t=>match P.underlying t with
  |some .bool=>some [.bool]
  |some (.int k)=>some [.int k]
  |some .string=>some [.str]
  |some (.slice e)=>(match lay P n e with
   |some l=>if P.cellsOf e=l.length/\0<l.length then some [.sl l]else none
   |none=>none)
  |some (.struct fs)=>(match Ig (lay P n) P 0 fs.toList with
   |some l=>if P.cellsOf t=l.length then some l else none
   |none=>none)
  |some (.array m e)=>(match lay P n e with
   |some l=>if P.cellsOf e=l.length/\P.cellsOf t=m*l.length then some ((List.range m).flatMap λ_=>l)else none
   |none=>none)
  |_=>none
def sumTo (g:Nat->Nat):Nat->Nat
 |0=>0
 |n+1=>sumTo g n+g n
theorem Ih (b o j):(⟨b,o,none⟩:Addr).add j=⟨b,o+j,none⟩:=by unfold Addr.add;split<;>simp_all
inductive Fits:Ty->D->Nat->Prop
 |bool (b:Bool)(N:Nat):1<=N->Fits .bool (.v (.bool b)) N
 |int (k:IntKind)(n:Int)(N:Nat):(Lit.int k n).wf=true->1<=N->Fits (.int k) (.v (.int k n)) N
 |str (s:ByteArray)(N:Nat):s.size<=maxLen->s.size+1<=N->Fits .str (.v (.string s)) N
 |sl (l:List Ty)(n:Nat)(ds:List D)(g:Nat->Nat)(N:Nat):ds.length=n*l.length->0<l.length->(∀k d ty,ds[k]? =some d->l[k % l.length]? =some ty->Fits ty d (g k))->
  sumTo g ds.length+1<=N->Fits (.sl l) (.sl n ds) N
theorem od {f g n}(h:∀k,k<n->f k=g k):sumTo f n=sumTo g n:=by
 induction n with
 |zero=>rfl
 |succ n ih=>simp only[sumTo];rw[ih λk hk=>h k oQ,h n oQ]
theorem pq (f n m):sumTo f (n+m)=sumTo f n+sumTo (λk=>f (n+k)) m:=by
 induction m with
 |zero=>rfl
 |succ m ih=>rw[<-Nat.add_assoc];simp only[sumTo];rw[ih];omega
theorem Ii (f:Nat->Nat->Nat)(n L)(hL:0<L):sumTo (λk=>f (k / L) (k % L)) (n*L)=sumTo (λi=>sumTo (f i) L) n:=by
 induction n with
 |zero=>simp[sumTo]
 |succ n ih=>
  rw[Nat.succ_mul,pq,ih];simp only[sumTo];congr 1;refine od λk hk=>?_
  rw[Nat.mul_comm n L,Nat.mul_add_div hL,Nat.mul_add_mod,Nat.div_eq_of_lt hk,Nat.mod_eq_of_lt hk];simp
theorem oe {H}(l r:List (DataW H)):Rows.uptoBulkAll (l++r)=Rows.uptoBulkAll l+Rows.uptoBulkAll r:=by
 induction l with
 |nil=>simp[Rows.uptoBulkAll]
 |cons x l ih=>simp only[List.cons_append,Rows.uptoBulkAll,ih];omega
theorem wC {H}(D:Nat->DataW H)(n):Rows.uptoBulkAll ((List.range n).map D)=sumTo (λi=>Rows.uptoBulk (D i)) n:=by
 induction n with
 |zero=>simp[Rows.uptoBulkAll,sumTo]
 |succ n ih=>rw[List.range_succ,xR,oe,ih];simp[Rows.uptoBulkAll,sumTo]
theorem Kw {f g n}(h:∀k,k<n->f k<=g k):sumTo f n<=sumTo g n:=by
 induction n with
 |zero=>exact nR
 |succ n ih=>
  have:=h n oQ;have:=ih λk hk=>h k oQ
  simp only[sumTo];omega
def im (w:World)(ah:List Ty)(get:Nat->Option Value)(N:Nat):Prop:=
 ∃(ds:List D)(g:Nat->Nat),ds.length=ah.length/\(∀k d,ds[k]? =some d->∃u ty,get k=some u/\ah[k]? =some ty/\Rd w (λb=>b<w.heap.size) u d/\Fits ty d (g k))/\sumTo g ah.length<=N
section
variable {w:World}
theorem im.one {u d ty N cs}(hcs:cs=[u])(h:Rd w (λb=>b<w.heap.size) u d)(hf:Fits ty d N):im w [ty] (λk=>cs[k]?) N:=by
 refine⟨[d],λ_=>N,rfl,λk d' hd=>?_,by simp[sumTo]⟩;cases k with
 |zero=>simp at hd;subst hd;exact⟨u,ty,by simp[hcs],rfl,h,hf⟩
 |succ k=>simp at hd
theorem im.app {l1 l2 Pv Yd get N1 N2 N}(h1:im w l1 Pv N1)(h2:im w l2 Yd N2)(aw:∀k u,k<l1.length->Pv k=some u->get k=some u)(mc:∀k u,Yd k=some u->get (l1.length+k)=some u)(hN:N1+N2<=N):im w (l1++l2) get N:=by
 obtain⟨d1,g1,a1,b1,c1⟩:=h1;obtain⟨d2,g2,a2,b2,c2⟩:=h2;refine⟨d1++d2,λk=>if k<l1.length then g1 k else g2 (k-l1.length),by simp[a1,a2],λk d hd=>?_,?_⟩
 .rcases Nat.lt_or_ge k l1.length with hk |hk
  .rw[zS oQ]at hd;obtain⟨u,ty,e1,e2,e3,e4⟩:=b1 k d hd;exact⟨u,ty,aw k u hk e1,by rw[zS hk];exact e2,e3,by simp only[if_pos hk];exact e4⟩
  .rw[zP oQ]at hd;rw[a1]at hd;obtain⟨u,ty,e1,e2,e3,e4⟩:=b2 _ d hd;refine⟨u,ty,?_,by rw[zP hk];exact e2,e3,by simp only[if_neg (Nat.not_lt.2 hk)];exact e4⟩;have:=mc _ u e1;rwa [show l1.length+(k-l1.length)=k by omega]at this
 .rw[zH,pq];have e1:sumTo (λk=>if k<l1.length then g1 k else g2 (k-l1.length)) l1.length=sumTo g1 l1.length:=od λk hk=>by rw[if_pos hk]
  have e2:sumTo (λk=>if l1.length+k<l1.length then g1 (l1.length+k)else g2 (l1.length+k-l1.length)) l2.length=sumTo g2 l2.length:=od λk hk=>by rw[if_neg oQ];congr 1;omega
  rw[e1,e2];omega
end
section
variable {H:Type}{enc:TypeId×Value->H}{P:Program}{w:World}{base:Nat}{spare:Nat->Bool}{held:Bool}
theorem EJ {n m}{cs:List Value}(ih:∀(t:TypeId)(ah:List Ty)(cs:List Value)(x:DataW H×List MemPlace),lay P n t=some ah->DataW.trod enc P w base spare held m t cs=some x->im w ah (λk=>cs[k]?) (Rows.uptoBulk x.1))(fs):∀(xs:List (DataW H×List MemPlace))(off:Nat)(ah:List Ty),Ig (lay P n) P off fs=some ah->xs.length=fs.length->
   (∀(i:Nat)(f:Field),fs[i]? =some f->DataW.trod enc P w base spare held m f.type ((cs.drop f.offset).take (P.cellsOf f.type))=xs[i]?)->im w ah (λk=>cs[off+k]?) (Rows.uptoBulkAll (xs.map (·.1))):=by
 induction fs with
 |nil=>
  intro xs off ah hl hx _;simp[Ig]at hl;subst hl;exact⟨[],λ_=>0,rfl,λk d h=>by simp at h,zE _⟩
 |cons f r ihr=>
  intro xs off ah hl hx hf;match xs,hx with
  |x::xr,hx=>
   simp only[Ig]at hl;split at hl
   .cases hl
   .rename_i l pG;split at hl
    .rename_i hc;obtain⟨ho,hC⟩:=hc;cases hr:Ig (lay P n) P (off+l.length) r with
     |none=>rw[hr]at hl;cases hl
     |some tr=>
      rw[hr]at hl;simp only[Option.map_some,Option.some.injEq]at hl;subst hl;have h0:=hf 0 f rfl;simp only[zY]at h0;have h1:=ih f.type l _ x pG h0;have h2:=ihr xr (off+l.length) tr hr (by simpa using hx) (λi g hg=>by simpa using hf (i+1) g (by simpa using hg));refine h1.app h2 (λk u hk hu=>?_) (λk u hu=>?_) (by simp[Rows.uptoBulkAll])
      .rw[zZ]at hu;split at hu
       .rw[xT,ho]at hu;exact hu
       .cases hu
      .rw[<-Nat.add_assoc];exact hu
    .cases hl
theorem Ij {l}{cs:List Value}{xs:List (DataW H×List MemPlace)}{k}(hk:xs.length=k)(h:∀i x,xs[i]? =some x->im w l (λj=>((cs.drop (i*l.length)).take l.length)[j]?) (Rows.uptoBulk x.1))(q):q<=k->
  im w ((List.range q).flatMap λ_=>l) (λj=>cs[j]?) (Rows.uptoBulkAll ((xs.take q).map (·.1))):=by
 induction q with
 |zero=>intro _;exact⟨[],λ_=>0,rfl,λk d h=>by simp at h,zE _⟩
 |succ q ih=>
  intro hq;rw[List.range_succ,xD];have hx:xs[q]? =some xs[q]:=zI oQ;have h1:=h q _ hx;simp only[zK,List.flatMap_nil,zT];have hlen:((List.range q).flatMap λ_=>l).length=q*l.length:=by rw[BO (m:=l.length) (λ_=>rfl)];simp
  refine(ih oQ).app h1 (λk u _ hu=>hu) (λk u hu=>?_) ?_
  .rw[hlen];rw[zZ]at hu;split at hu
   .rw[xT]at hu;exact hu
   .cases hu
  .rw[zJ,hx];simp only[xR,oe,Option.toList_some,List.map_cons,List.map_nil,Rows.uptoBulkAll];omega
theorem Cu {a len cap l}{D':Nat->DataW H}{N}{cs:Nat->List Value}(hlc:len<=cap)(hm:cap<=maxLen)(hL:0<l.length)(hc:∀i j,i<len->j<l.length->w.cell? ((a.add (i*l.length)).add j)=(cs i)[j]?)(h:∀i,i<len->im w l (λj=>(cs i)[j]?) (Rows.uptoBulk (D' i)))(hN:sumTo (λi=>Rows.uptoBulk (D' i)) len+1<=N):
  im w [.sl l] (λj=>[Value.slice (some a) len cap][j]?) N:=by
 have hex:∀i,i<len->∃y:List D×(Nat->Nat),y.1.length=l.length/\(∀k d,y.1[k]? =some d->∃u ty,(cs i)[k]? =some u/\l[k]? =some ty/\Rd w (λb=>b<w.heap.size) u d/\Fits ty d (y.2 k))/\sumTo y.2 l.length<=Rows.uptoBulk (D' i):=λi hi=>by
  obtain⟨ds,g,h1,h2,h3⟩:=h i hi;exact⟨(ds,g),h1,h2,h3⟩
 obtain⟨y,hy⟩:=choose_lt hex;have hlen:((List.range len).flatMap λi=>if i<len then(y i).1 else List.replicate l.length (D.sl 0 [])).length=len*l.length:=by
  rw[BO (m:=l.length)]
  .simp
  .intro i;split
   .exact(hy i ‹_›).1
   .simp
 have hk:∀k d,((List.range len).flatMap λi=>if i<len then(y i).1 else List.replicate l.length (D.sl 0 []))[k]? =some d->k / l.length<len/\(y (k / l.length)).1[k % l.length]? =some d:=λk d hd=>by
  have hlt:k<len*l.length:=by rw[<-hlen];exact(zC.1 hd).1
  have hq:k / l.length<len:=Nat.div_lt_of_lt_mul (by rw[Nat.mul_comm];exact hlt);refine⟨hq,?_⟩;have hr:k % l.length<(y (k / l.length)).1.length:=by rw[(hy _ hq).1];exact Nat.mod_lt _ hL
  have:=po (f:=λi=>if i<len then(y i).1 else List.replicate l.length (D.sl 0 [])) (m:=l.length) (l:=List.range len) (i:=k / l.length) (x:=k / l.length) (λi=>by
   split
   .exact(hy i ‹_›).1
   .simp) (by simp[hq]) (j:=k % l.length) (y:=(y (k / l.length)).1[k % l.length]) (by simp only[if_pos hq];exact zI hr)
  rw[Nat.mul_comm,Nat.div_add_mod]at this;rw[this]at hd;rw[zI hr];exact hd
 have hcell:∀k d,((List.range len).flatMap λi=>if i<len then(y i).1 else List.replicate l.length (D.sl 0 []))[k]? =some d->
   ∃u ty,w.cell? (a.add k)=some u/\l[k % l.length]? =some ty/\Rd w (λb=>b<w.heap.size) u d/\Fits ty d ((y (k / l.length)).2 (k % l.length)):=λk d hd=>by
  obtain⟨hq,GK⟩:=hk k d hd;obtain⟨u,ty,e1,e2,e3,e4⟩:=(hy _ hq).2.1 _ d GK;have:=hc _ (k % l.length) hq (Nat.mod_lt _ hL);rw[Go.Deep.add_add,Nat.mul_comm,Nat.div_add_mod]at this;exact⟨u,ty,this.trans e1,e2,e3,e4⟩
 refine .one (d:=.sl len ((List.range len).flatMap λi=>if i<len then(y i).1 else List.replicate l.length (D.sl 0 []))) rfl ?_ (.sl l len _ (λk=>(y (k / l.length)).2 (k % l.length)) _ hlen hL (λk d ty hd hty=>?_) ?_)
 .obtain⟨b,off,spot⟩:=a;refine .sl _ len cap b off _ (λk=>((w.cell? ((⟨b,off,spot⟩:Addr).add k))).getD (.bool false)) hlc hm (λhne=>?_) (λk d hd=>?_) (λk d hd=>?_)
  .obtain⟨d,BM,e⟩:=List.exists_cons_of_ne_nil hne;obtain⟨u,_,h1,_⟩:=hcell 0 d (by rw[e];rfl);have SK:w.cell? ⟨b,off,spot⟩=some u:=by simpa[Addr.add] using h1
   have hs:spot=none:=by simpa using World.cell?_spot SK
   subst hs;exact⟨rfl,zX w _ SK⟩
  .obtain⟨u,_,h1,_⟩:=hcell k d hd;have hne:=iG hd;obtain⟨d0,BM,e⟩:=List.exists_cons_of_ne_nil hne;obtain⟨u0,_,h0,_⟩:=hcell 0 d0 (by rw[e];rfl);have hs:spot=none:=by simpa[Addr.add] using World.cell?_spot h0
   subst hs;rw[Ih]at h1 |-;rw[h1];rfl
  .obtain⟨u,_,h1,_,h3,_⟩:=hcell k d hd;rw[h1];exact h3
 .obtain⟨u,ty',_,h2,_,h4⟩:=hcell k d hd;rw[hty]at h2;injection h2 with h2
  subst h2;exact h4
 .have e:sumTo (λk=>(y (k / l.length)).2 (k % l.length)) (len*l.length)=sumTo (λi=>sumTo (y i).2 l.length) len:=Ii (λi=>(y i).2) _ _ hL;rw[hlen,e];have:=Kw (f:=λi=>sumTo (y i).2 l.length) (g:=λi=>Rows.uptoBulk (D' i)) (n:=len) λi hi=>(hy i hi).2.2
  omega
theorem opens (n):∀(m:Nat)(t:TypeId)(ah:List Ty)(cs:List Value)(x:DataW H×List MemPlace),lay P n t=some ah->DataW.trod enc P w base spare held m t cs=some x->
  im w ah (λk=>cs[k]?) (Rows.uptoBulk x.1):=by
 induction n with
 |zero=>intro m t ah cs x hl;simp[lay]at hl
 |succ n ih=>
  intro m t ah cs x hl h;unfold lay at hl;split at hl
  .rename_i ht;obtain⟨b,rfl,rfl⟩:=DataW.trod_bool ht h;injection hl with hl
   subst hl;exact .one rfl (.v _ rfl) (.bool b _ (by simp[Rows.uptoBulk]))
  .rename_i k ht;obtain⟨b,rfl,rfl,hw⟩:=DataW.trod_int ht h;injection hl with hl
   subst hl;exact .one rfl (.v _ rfl) (.int k b _ hw (by simp[Rows.uptoBulk]))
  .rename_i ht;obtain⟨s,rfl,rfl,hw⟩:=DataW.trod_string ht h;injection hl with hl
   subst hl;exact .one rfl (.v _ rfl) (.str s _ hw (Nat.le_of_eq (by simp only[Rows.uptoBulk,Array.length_toList];rfl)))
  .rename_i e ht;split at hl
   .rename_i l hle;split at hl
    .rename_i hc;obtain⟨hC,hL⟩:=hc;injection hl with hl
     subst hl;rcases open_slice ht h with⟨rfl,rfl⟩|⟨a,len,cap,mm,m',D',Pl,rfl,_,hlc,hm,SL,rfl,hi⟩
     .refine .one rfl (.sl none 0 0 0 0 [] (λ_=>.bool false) nR (zE _) (λh=>absurd rfl h) (λk d h=>by simp at h) (λk d h=>by simp at h))
       (.sl l 0 [] (λ_=>0) _ sJ hL (λk d ty h=>by simp at h) (by simp[sumTo,Rows.uptoBulk]))
     .have TV:len<=mm:=(by rw[SL];split<;>omega);have hex:∀i,i<len->∃cs',w.cells? base (a.add (i*P.cellsOf e)) (P.cellsOf e)=some cs'/\DataW.trod enc P w base spare held m' e cs'=some (D' i,Pl i):=λi h=>hi i oQ
      obtain⟨cs,hcs⟩:=choose_lt hex;refine Cu (cs:=cs) (D':=D') hlc hm hL (λi j h1 h2=>?_) (λi h1=>ih m' e l (cs i) _ hle (hcs i h1).2) ?_
      .have:=(World.cells?_some (hcs i h1).1).2.2 j oQ;rwa [hC]at this
      .simp only[Rows.uptoBulk];rw[wC];omega
    .cases hl
   .cases hl
  .rename_i fs ht;obtain⟨xs,m',rfl,rfl,hlen,xx,hf⟩:=DataW.trod_struct ht h;split at hl
   .rename_i l hle;split at hl
    .rename_i hc;injection hl with hl
     subst hl;have:=EJ (ih m') fs.toList xs 0 _ hle (by simpa using xx) (cs:=cs) (λi f hi=>hf i f (by simpa using hi));obtain⟨ds,g,a,b,c⟩:=this;exact⟨ds,g,a,by simpa using b,by simp only[Rows.uptoBulk];omega⟩
    .cases hl
   .cases hl
  .rename_i k e ht;obtain⟨xs,m',rfl,rfl,hlen,xx,hf⟩:=DataW.trod_array ht h;split at hl
   .rename_i l hle;split at hl
    .rename_i hc;obtain⟨hC,hT⟩:=hc;injection hl with hl
     subst hl;have:=Ij (w:=w) (l:=l) (cs:=cs) xx (λi x hx=>by
      have hlt:i<k:=(by rw[<-xx];exact(zC.1 hx).1);have h1:=hf i hlt;rw[hx,hC]at h1;exact ih m' e l _ x hle h1) k nR
     obtain⟨ds,g,a,b,c⟩:=this;refine⟨ds,g,a,b,?_⟩;rw[xH oQ]at c;simp only[Rows.uptoBulk];omega
    .cases hl
   .cases hl
  .cases hl
end
theorem Fits.pos {ty d N}(h:Fits ty d N):1<=N:=by
 cases h<;>omega
def dZ (ah:List Ty)(ds:List D)(g:Nat->Nat):Prop:=
 ds.length=ah.length/\∀k d ty,ds[k]? =some d->ah[k]? =some ty->Fits ty d (g k)
theorem dZ.nil {ds g}(h:dZ [] ds g):ds=[]:=List.eq_nil_of_length_eq_zero h.1
theorem dZ.cons {ty ah ds g}(h:dZ (ty::ah) ds g):∃d r,ds=d::r/\Fits ty d (g 0)/\dZ ah r (λk=>g (k+1)):=by
 obtain⟨hl,hk⟩:=h;match ds,hl with
 |d::r,hl=>exact⟨d,r,rfl,hk 0 d ty rfl rfl,by simpa using hl,λk d' ty' h1 h2=>hk (k+1) d' ty' (by simpa using h1) (by simpa using h2)⟩
theorem Fits.bp {k d N}(h:Fits (.int k) d N):∃n,d=.v (.int k n)/\(Lit.int k n).wf=true:=by
 cases h;exact⟨_,rfl,‹_›⟩
theorem Fits.qU {d N}(h:Fits .bool d N):∃b,d=.v (.bool b):=by
 cases h;exact⟨_,rfl⟩
theorem Fits.jB {d N}(h:Fits .str d N):∃s,d=.v (.string s)/\s.size<=maxLen/\s.size+1<=N:=by
 cases h;exact⟨_,rfl,‹_›,‹_›⟩
theorem JX (g n):sumTo g (n+1)=g 0+sumTo (λk=>g (k+1)) n:=by
 rw[Nat.add_comm n 1,pq];simp only[sumTo,Nat.add_comm 1];omega
theorem Ik {α:Type}{f}{W:α->Prop}{b ah}(hL:0<ah.length)(hc:∀(ds:List D)(g:Nat->Nat),dZ ah ds g->∃x,ds=f x/\W x/\b x<=sumTo g ah.length)(n):
  ∀(ds:List D)(g:Nat->Nat),ds.length=n*ah.length->(∀k d ty,ds[k]? =some d->ah[k % ah.length]? =some ty->Fits ty d (g k))->
  ∃l:List α,l.length=n/\ds=l.flatMap f/\(∀x∈l,W x)/\(l.map b).sum<=sumTo g ds.length:=by
 induction n with
 |zero=>
  intro ds g hl _;have:ds=[]:=List.eq_nil_of_length_eq_zero (by simpa using hl);subst this;exact⟨[],rfl,rfl,λx h=>by simp at h,sJ⟩
 |succ n ih=>
  intro ds g hl hk;have hle:ah.length<=ds.length:=by rw[hl,Nat.succ_mul];omega
  obtain⟨x,hx,hw,hb⟩:=hc (ds.take ah.length) g ⟨by simp;omega,λk d ty h1 h2=>by
   rw[zZ]at h1;split at h1
   .refine hk k d ty h1 ?_;rwa [Nat.mod_eq_of_lt ‹_›]
   .cases h1⟩
  obtain⟨l,h1,h2,h3,h4⟩:=ih (ds.drop ah.length) (λk=>g (ah.length+k)) (by simp[hl,Nat.succ_mul]) (λk d ty h5 h6=>by
   rw[xT]at h5;refine hk _ d ty h5 ?_;rwa [Nat.add_mod_left])
  refine⟨x::l,by simp[h1],?_,?_,?_⟩
  .rw[zK,<-hx,<-h2,List.take_append_drop]
  .intro y hy;cases hy with
   |head=>exact hw
   |tail _ hy=>exact h3 y hy
  .have e:ds.length=ah.length+(ds.drop ah.length).length:=by simp;omega
   rw[List.map_cons,List.sum_cons,e,pq];omega
theorem Fits.conv {α:Type}{f}{W:α->Prop}{b ah d N}(hc:∀(ds:List D)(g:Nat->Nat),dZ ah ds g->∃x,ds=f x/\W x/\b x<=sumTo g ah.length)(h:Fits (.sl ah) d N):
  ∃l:List α,d=.sl l.length (l.flatMap f)/\(∀x∈l,W x)/\(l.map b).sum+1<=N:=by
 cases h with
 |sl _ n ds g _ hl hp hk hN=>
  obtain⟨l,h1,h2,h3,h4⟩:=Ik hp hc n ds g hl hk;exact⟨l,by rw[h1,h2],h3,oQ⟩
theorem uo {α:Type}(l:List α):(l.map λ_=>1).sum=l.length:=by
 induction l with
 |nil=>rfl
 |cons a l ih=>simp[ih];omega
theorem Ky {k}(ds g)(h:dZ [.int k] ds g):∃n:Int,ds=jf k n/\(Lit.int k n).wf=true/\1<=sumTo g [Ty.int k].length:=by
 obtain⟨d,r,rfl,h1,h2⟩:=h.cons;have h3:=h2.nil;subst h3;obtain⟨n,rfl,hw⟩:=h1.bp;exact⟨n,rfl,hw,by have:=h1.pos;simp[sumTo];omega⟩
theorem Il (ds g)(h:dZ [.bool] ds g):∃b:Bool,ds=SJ b/\True/\1<=sumTo g [Ty.bool].length:=by
 obtain⟨d,r,rfl,h1,h2⟩:=h.cons;have h3:=h2.nil;subst h3;obtain⟨n,rfl⟩:=h1.qU;exact⟨n,rfl,trivial,by have:=h1.pos;simp[sumTo];omega⟩
theorem Kz (ds g)(h:dZ [.str] ds g):∃s:ByteArray,ds=aG s/\s.size<=maxLen/\s.size+1<=sumTo g [Ty.str].length:=by
 obtain⟨d,r,rfl,h1,h2⟩:=h.cons;have h3:=h2.nil;subst h3;obtain⟨s,rfl,hw,hN⟩:=h1.jB;exact⟨s,rfl,hw,by simp[sumTo];omega⟩
theorem Fits.ints {k d N}(h:Fits (.sl [.int k]) d N):∃l:List Int,d=.sl l.length (l.flatMap (jf k))/\(∀n∈l,(Lit.int k n).wf=true)/\l.length+1<=N:=by
 obtain⟨l,h1,h2,h3⟩:=h.conv (b:=λ_=>1) Ky;exact⟨l,h1,h2,by rwa [uo]at h3⟩
theorem Fits.bools {d N}(h:Fits (.sl [.bool]) d N):∃l:List Bool,d=.sl l.length (l.flatMap SJ)/\l.length+1<=N:=by
 obtain⟨l,h1,h2,h3⟩:=h.conv (b:=λ_=>1) Il;exact⟨l,h1,by rwa [uo]at h3⟩
theorem Fits.strs {d N}(h:Fits (.sl [.str]) d N):∃l:List ByteArray,d=.sl l.length (l.flatMap aG)/\(∀s∈l,s.size<=maxLen)/\(l.map λs=>s.size+1).sum+1<=N:=
 h.conv (b:=λ(s:ByteArray)=>s.size+1) Kz
section
variable {H:Type}{enc:TypeId×Value->H}{P:Program}{w:World}{spare:Nat->Bool}
theorem Py {t v x p ty n}(hv:v.cells=#[v])(hl:lay P n t=some [ty])(h:DataW.Trod enc P w 0 spare true t v x p):
  ∃d,Rd w (λb=>b<w.heap.size) v d/\Fits ty d (Rows.uptoBulk x):=by
 obtain⟨m,hm⟩:=h;obtain⟨ds,g,h1,h2,h3⟩:=opens n m t [ty] v.cells.toList (x,p) hl hm;match ds,h1 with
 | [d],_=>
  obtain⟨u,ty',e1,e2,e3,e4⟩:=h2 0 d rfl;rw[hv]at e1;simp at e1 e2;subst e1 e2;refine⟨d,e3,?_⟩;simp[sumTo]at h3;cases e4 with
  |bool b N h=>exact .bool b _ oQ
  |int k n N h h'=>exact .int k n _ h oQ
  |str s N h h'=>exact .str s _ h oQ
  |sl l n ds g' N a b c e=>exact .sl l n ds g' _ a b c oQ
theorem KA {t cs x p ah n}(hl:lay P n t=some ah)(h:DataW.Trod enc P w 0 spare true t (.agg cs) x p):
  ∃ds g,dZ ah ds g/\(∀(k:Nat)(d:D),ds[k]? =some d->∃u,cs[k]? =some u/\Rd w (λb=>b<w.heap.size) u d)/\sumTo g ah.length<=Rows.uptoBulk x:=by
 obtain⟨m,hm⟩:=h;obtain⟨ds,g,h1,h2,h3⟩:=opens n m t ah _ (x,p) hl hm;refine⟨ds,g,⟨h1,λk d ty hd ht=>?_⟩,λk d hd=>?_,h3⟩
 .obtain⟨u,ty',e1,e2,e3,e4⟩:=h2 k d hd;rw[ht]at e2;injection e2 with e2
  subst e2;exact e4
 .obtain⟨u,ty',e1,e2,e3,e4⟩:=h2 k d hd;exact⟨u,by simpa[Value.cells] using e1,e3⟩
theorem bound {l}(hk:Rows.uptoSmall H l=true):Rows.uptoBulkAll l<=1048576:=of_decide_eq_true hk
end
set_option linter.unusedSimpArgs false
def fE (c:Nat):Bool:=decide (65<=c)&&decide (c<=90)||decide (97<=c)&&decide (c<=122)
def fF (c:Nat):Bool:=decide (48<=c)&&decide (c<=57)
def bP (c:Nat):Bool:=fE c||fF c||decide (c=95)
namespace cH
theorem Cv (c:Nat)(w):Cl 165 #[.int .u8 c] w λe w'=>e=.returned (.bool (fE c))/\w'=w:=by
 generalize hb:fE c=b;have cs:(c<=64)\/(65<=c/\c<=90)\/(91<=c/\c<=96)\/(97<=c/\c<=122)\/(123<=c):=oQ;rcases cs with h |h |h |h |h
 .obtain rfl:b=false:=by rw[<-hb];simp[fE,fF,bP];omega
  clear hb;have f0:¬(65:Int)<=c:=oQ;have f1:¬(97:Int)<=c:=oQ;go_enter func165,ntmps165;go_wp2;go_ret;exact⟨rfl,rfl⟩
 .obtain rfl:b=true:=by rw[<-hb];simp[fE,fF,bP];omega
  clear hb;have f0:(65:Int)<=c:=oQ;have f1:(c:Int)<=90:=oQ;go_enter func165,ntmps165;go_wp2;go_ret;exact⟨rfl,rfl⟩
 .obtain rfl:b=false:=by rw[<-hb];simp[fE,fF,bP];omega
  clear hb;have f0:(65:Int)<=c:=oQ;have f1:¬(c:Int)<=90:=oQ;have f2:¬(97:Int)<=c:=oQ;go_enter func165,ntmps165;go_wp2;go_ret;exact⟨rfl,rfl⟩
 .obtain rfl:b=true:=by rw[<-hb];simp[fE,fF,bP];omega
  clear hb;have f0:(65:Int)<=c:=oQ;have f1:¬(c:Int)<=90:=oQ;have f2:(97:Int)<=c:=oQ;have f3:(c:Int)<=122:=oQ;go_enter func165,ntmps165;go_wp2;go_ret;exact⟨rfl,rfl⟩
 .obtain rfl:b=false:=by rw[<-hb];simp[fE,fF,bP];omega
  clear hb;have f0:(65:Int)<=c:=oQ;have f1:¬(c:Int)<=90:=oQ;have f2:(97:Int)<=c:=oQ;have f3:¬(c:Int)<=122:=oQ;go_enter func165,ntmps165;go_wp2;go_ret;exact⟨rfl,rfl⟩
theorem GL (c:Nat)(w):Cl 155 #[.int .u8 c] w λe w'=>e=.returned (.bool (fF c))/\w'=w:=by
 generalize hb:fF c=b;have cs:(c<=47)\/(48<=c/\c<=57)\/(58<=c):=oQ;rcases cs with h |h |h
 .obtain rfl:b=false:=by rw[<-hb];simp[fE,fF,bP];omega
  clear hb;have f0:¬(48:Int)<=c:=oQ;go_enter func155,ntmps155;go_wp2;go_ret;exact⟨rfl,rfl⟩
 .obtain rfl:b=true:=by rw[<-hb];simp[fE,fF,bP];omega
  clear hb;have f0:(48:Int)<=c:=oQ;have f1:(c:Int)<=57:=oQ;go_enter func155,ntmps155;go_wp2;go_ret;exact⟨rfl,rfl⟩
 .obtain rfl:b=false:=by rw[<-hb];simp[fE,fF,bP];omega
  clear hb;have f0:(48:Int)<=c:=oQ;have f1:¬(c:Int)<=57:=oQ;go_enter func155,ntmps155;go_wp2;go_ret;exact⟨rfl,rfl⟩
theorem EK (c:Nat)(w):Cl 114 #[.int .i32 c] w λe w'=>e=.returned (.bool (bP c))/\w'=w:=by
 generalize hb:bP c=b;have cs:(c<=47)\/(48<=c/\c<=57)\/(58<=c/\c<=64)\/(65<=c/\c<=90)\/(91<=c/\c<=94)\/(c=95)\/(c=96)\/(97<=c/\c<=122)\/(123<=c):=oQ;rcases cs with h |h |h |h |h |h |h |h |h
 .obtain rfl:b=false:=by rw[<-hb];simp[fE,fF,bP];omega
  clear hb;have f0:¬(65:Int)<=c:=oQ;have f1:¬(97:Int)<=c:=oQ;have f2:¬(48:Int)<=c:=oQ;have f3:((c:Int)==95)=false:=by rw[xV];omega
  go_enter func114,ntmps114;go_wp2;go_ret;exact⟨rfl,rfl⟩
 .obtain rfl:b=true:=by rw[<-hb];simp[fE,fF,bP];omega
  clear hb;have f0:¬(65:Int)<=c:=oQ;have f1:¬(97:Int)<=c:=oQ;have f2:(48:Int)<=c:=oQ;have f3:(c:Int)<=57:=oQ;go_enter func114,ntmps114;go_wp2;go_ret;exact⟨rfl,rfl⟩
 .obtain rfl:b=false:=by rw[<-hb];simp[fE,fF,bP];omega
  clear hb;have f0:¬(65:Int)<=c:=oQ;have f1:¬(97:Int)<=c:=oQ;have f2:(48:Int)<=c:=oQ;have f3:¬(c:Int)<=57:=oQ;have f4:((c:Int)==95)=false:=by rw[xV];omega
  go_enter func114,ntmps114;go_wp2;go_ret;exact⟨rfl,rfl⟩
 .obtain rfl:b=true:=by rw[<-hb];simp[fE,fF,bP];omega
  clear hb;have f0:(65:Int)<=c:=oQ;have f1:(c:Int)<=90:=oQ;go_enter func114,ntmps114;go_wp2;go_ret;exact⟨rfl,rfl⟩
 .obtain rfl:b=false:=by rw[<-hb];simp[fE,fF,bP];omega
  clear hb;have f0:(65:Int)<=c:=oQ;have f1:¬(c:Int)<=90:=oQ;have f2:¬(97:Int)<=c:=oQ;have f3:(48:Int)<=c:=oQ;have f4:¬(c:Int)<=57:=oQ;have f5:((c:Int)==95)=false:=by rw[xV];omega
  go_enter func114,ntmps114;go_wp2;go_ret;exact⟨rfl,rfl⟩
 .obtain rfl:b=true:=by rw[<-hb];simp[fE,fF,bP];omega
  clear hb;have f0:(65:Int)<=c:=oQ;have f1:¬(c:Int)<=90:=oQ;have f2:¬(97:Int)<=c:=oQ;have f3:(48:Int)<=c:=oQ;have f4:¬(c:Int)<=57:=oQ;have f5:((c:Int)==95)=true:=by rw[beq_iff_eq];omega
  go_enter func114,ntmps114;go_wp2;go_ret;exact⟨rfl,rfl⟩
 .obtain rfl:b=false:=by rw[<-hb];simp[fE,fF,bP];omega
  clear hb;have f0:(65:Int)<=c:=oQ;have f1:¬(c:Int)<=90:=oQ;have f2:¬(97:Int)<=c:=oQ;have f3:(48:Int)<=c:=oQ;have f4:¬(c:Int)<=57:=oQ;have f5:((c:Int)==95)=false:=by rw[xV];omega
  go_enter func114,ntmps114;go_wp2;go_ret;exact⟨rfl,rfl⟩
 .obtain rfl:b=true:=by rw[<-hb];simp[fE,fF,bP];omega
  clear hb;have f0:(65:Int)<=c:=oQ;have f1:¬(c:Int)<=90:=oQ;have f2:(97:Int)<=c:=oQ;have f3:(c:Int)<=122:=oQ;go_enter func114,ntmps114;go_wp2;go_ret;exact⟨rfl,rfl⟩
 .obtain rfl:b=false:=by rw[<-hb];simp[fE,fF,bP];omega
  clear hb;have f0:(65:Int)<=c:=oQ;have f1:¬(c:Int)<=90:=oQ;have f2:(97:Int)<=c:=oQ;have f3:¬(c:Int)<=122:=oQ;have f4:(48:Int)<=c:=oQ;have f5:¬(c:Int)<=57:=oQ;have f6:((c:Int)==95)=false:=by rw[xV];omega
  go_enter func114,ntmps114;go_wp2;go_ret;exact⟨rfl,rfl⟩
theorem KB (c:Nat)(w):Cl 154 #[.int .u8 c] w λe w'=>e=.returned (.bool (bP c))/\w'=w:=by
 have k1:=Hd (Cv c);have k2:=Hd (GL c);generalize hb:bP c=b;have cs:fE c=true\/(fE c=false/\fF c=true)\/(fE c=false/\fF c=false/\c=95)\/(fE c=false/\fF c=false/\¬c=95):=by
  cases fE c<;>cases fF c<;>simp<;>omega
 rcases cs with h1 |⟨h1,h2⟩|⟨h1,h2,h3⟩|⟨h1,h2,h3⟩
 .obtain rfl:b=true:=by rw[<-hb];simp[bP,h1]
  clear hb;go_enter func154,ntmps154;go_wp2_with (go_at_call 165;refine(k1.o _).aR ?_;rw[h1]);go_wp2;go_ret;exact⟨rfl,rfl⟩
 .obtain rfl:b=true:=by rw[<-hb];simp[bP,h2]
  clear hb;go_enter func154,ntmps154;go_wp2_with (go_at_call 165;refine(k1.o _).aR ?_;rw[h1]);go_wp2_with (go_at_call 155;refine(k2.o _).aR ?_;rw[h2]);go_wp2;go_ret;exact⟨rfl,rfl⟩
 .obtain rfl:b=true:=by rw[<-hb];simp[bP,h3]
  clear hb;have f3:((c:Int)==95)=true:=by rw[beq_iff_eq];omega
  clear h3;go_enter func154,ntmps154;go_wp2_with (go_at_call 165;refine(k1.o _).aR ?_;rw[h1]);go_wp2_with (go_at_call 155;refine(k2.o _).aR ?_;rw[h2]);go_wp2;go_ret;exact⟨rfl,rfl⟩
 .obtain rfl:b=false:=by rw[<-hb];simp[bP,h1,h2,h3]
  clear hb;have f3:((c:Int)==95)=false:=by rw[xV];omega
  clear h3;go_enter func154,ntmps154;go_wp2_with (go_at_call 165;refine(k1.o _).aR ?_;rw[h1]);go_wp2_with (go_at_call 155;refine(k2.o _).aR ?_;rw[h2]);go_wp2;go_ret;exact⟨rfl,rfl⟩
end cH
def wD (b:UInt8):UInt8:=if 97<=b.toNat/\b.toNat<=122 then b-32 else b
def yY (s:ByteArray):ByteArray:=⟨s.data.map wD⟩
theorem up_toNat (x):(wD x).toNat=if 97<=x.toNat/\x.toNat<=122 then x.toNat-32 else x.toNat:=by
 unfold wD;split
 .rename_i h;rw[UInt8.toNat_sub_of_le _ _ (by rw[UInt8.le_iff_toNat_le];simp;omega)];rfl
 .rfl
theorem KC (x y)(h:65<=y.toNat/\y.toNat<=90):wD x=y<->fE x.toNat=true/\x.toNat % 32=y.toNat % 32:=by
 rw[<-UInt8.toNat_inj,up_toNat];simp only[fE,Bool.or_eq_true,xK,decide_eq_true_eq];have:=x.toNat_lt;split<;>omega
theorem EL (s k):yY s=k<->s.size=k.size/\∀i (h:i<s.size)(h2:i<k.size),wD s[i]=k[i]:=by
 constructor
 .rintro rfl;refine⟨by show s.data.size=(s.data.map wD).size;simp,λi h h2=>?_⟩;show _=(s.data.map wD)[i]'(by simpa using h)
  rw[Array.getElem_map];rfl
 .rintro⟨h1,h2⟩;apply ByteArray.ext;apply Array.ext
  .show(s.data.map wD).size=_
   simpa using h1
  .intro i h3 h4;have h5:i<s.size:=by
    have:i<(s.data.map wD).size:=h3;simpa using this
   have h6:i<(s.data.map wD).size:=h3;show(s.data.map wD)[i]'h6=_
   rw[Array.getElem_map];exact h2 i h5 h4
namespace cH
theorem yZ (s k)(hk:∀i (h:i<k.size),65<=k[i].toNat/\k[i].toNat<=90)(hs:s.size<=1048576)(w):
  Cl 156 #[.string s,.string k] w λe w'=>e=.returned (.bool (decide (yY s=k)))/\w'=w:=by
 have k1:=Hd Cv;have hb:=Hd (EL s k);by_cases hsz:s.size=k.size
 .have hsz':(s.size:Int)=k.size:=oQ;generalize hc:decide (yY s=k)=b;replace hc:=Hd hc;go_enter func156,ntmps156;go_wp2;go_loopw [5] (λi wr=>∃j:Nat,j<=s.size/\i=.int .i64 j/\wr=w/\(∀i (h:i<s.size)(h2:i<k.size),i<j->wD s[i]=k[i])) (λi _=>s.size- (intOf i).toNat)
  .exact⟨0,zE _,rfl,rfl,λi h h2 h3=>by omega⟩
  obtain⟨j,hj,rfl,rfl,hp⟩:=hrel;replace hp:=Hd hp;by_cases hlt:j<s.size
  .have kW:j<k.size:=oQ;have g0:=aH j;have g1:=aV j s.size;have g2:=aV j k.size;have hy:=hk j kW;have ly:fE (k[j]'kW).toNat=true:=by simp[fE];omega
   by_cases hu:wD (s[j]'hlt)=k[j]'kW
   .have wE:=(KC _ _ hy).1 hu;have lx:=wE.1;have e1:((((s[j]'hlt).toNat:Int) % 32) != (((k[j]'kW).toNat:Int) % 32))=false:=by
     rw[bne_eq_false_iff_eq];omega
    replace hu:=Hd hu;clear wE hy;go_wp2_with (go_at_call 165;refine(k1.o _ _).aR ?_);go_roundw
    .refine⟨j+1,oQ,gQ,by trivial,λi h h2 h3=>?_⟩;by_cases dE:i=j
     .subst dE;exact hu.o
     .exact hp.o i h h2 oQ
    exact mQ
   .have hf:decide (yY s=k)=false:=by
     rw[decide_eq_false_iff_not,EL];exact λh=>hu (h.2 j hlt kW)
    obtain rfl:b=false:=by rw[<-hc.o,hf]
    by_cases lx:fE (s[j]'hlt).toNat=true
    .have e1:((((s[j]'hlt).toNat:Int) % 32) != (((k[j]'kW).toNat:Int) % 32))=true:=by
      rw[bne_iff_ne];intro he;exact hu ((KC _ _ hy).2 ⟨lx,oQ⟩)
     clear hu hy hf;go_wp2_with (go_at_call 165;refine(k1.o _ _).aR ?_);go_ret;exact⟨rfl,rfl⟩
    .have lx':fE (s[j]'hlt).toNat=false:=(by simpa using lx);have e1:((((s[j]'hlt).toNat:Int)) != (((k[j]'kW).toNat:Int)))=true:=by
      rw[bne_iff_ne];intro he;have he2:(s[j]'hlt).toNat=(k[j]'kW).toNat:=oQ;rw[he2]at lx';rw[ly]at lx';cases lx'
     clear hu hy hf lx;go_wp2_with (go_at_call 165;refine(k1.o _ _).aR ?_);go_ret;exact⟨rfl,rfl⟩
  .have g1:=jS j k.size;have g2:¬j<k.size:=oQ;have g3:decide (j<k.size)=false:=zV g2;go_wp2;go_ret;refine⟨?_,rfl⟩;rw[<-hc.o,zW (hb.o.2 ⟨hsz,λi h h2=>hp.o i h h2 oQ⟩)];rfl
 .have hsz':¬(s.size:Int)=k.size:=oQ;have hf:decide (yY s=k)=false:=by
   rw[decide_eq_false_iff_not,EL];exact λh=>hsz h.1
  rw[hf];go_enter func156,ntmps156;go_wp2;go_ret;exact⟨rfl,rfl⟩
end cH
