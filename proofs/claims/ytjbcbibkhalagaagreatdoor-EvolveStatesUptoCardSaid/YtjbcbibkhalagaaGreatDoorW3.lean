/- The program's searches. -/
import Derived.Test.YtjbcbibkhalagaaGreatDoorV9
namespace Go.Proofs.YtjbcbibkhalagaaGreatDoor
set_option maxRecDepth 100000
set_option maxHeartbeats 16000000
open Proofs.Tryz Go.RowKit Go.Deep
set_option linter.unusedVariables false
def ug (p:Kd×Value):List D:=[.v (.string p.1.nm),.v (.int .i64 p.1.fr),.v p.2]
def kcV (p:Kd×Value):List Value:=[.string p.1.nm,.int .i64 p.1.fr,p.2]
theorem abQ (l:List (Kd×Value)):(l.map (·.1)).map (·.nm)=l.map (·.1.nm):=sJ
namespace di
open cH
theorem Sh (nm s fr v q W)(hq:W.cell? ⟨q,0,none⟩=some (.string s)):
  Cl 146 #[.agg #[.string nm,.int .i64 fr,v],.pointer (some ⟨q,0,none⟩)] W λe w'=>e=.returned (.bool (nm.toList==s.toList))/\Bw W w':=by
 have hb:=Hd ((zB W.heap.size W).alloc nR (.cells ⟨[.string nm,.int .i64 fr,v]⟩ 115));have mV:=zX W _ hq;have hne:q≠W.heap.size:=by simp at mV;omega
 go_enter func146,ntmps146;go_wp2;go_ret;exact⟨rfl,hb.o⟩
theorem Z1 (nm s fr fl q W)(hq:W.cell? ⟨q,2,none⟩=some (.string s)):
  Cl 147 #[.agg #[.string nm,.int .i64 fr,.int .i64 fl],.pointer (some ⟨q,0,none⟩)] W λe w'=>e=.returned (.bool (nm.toList==s.toList))/\Bw W w':=by
 have hb:=Hd ((zB W.heap.size W).alloc nR (.cells ⟨[.string nm,.int .i64 fr,.int .i64 fl]⟩ 117));have mV:=zX W _ hq;have hne:q≠W.heap.size:=by simp at mV;omega
 go_enter func147,ntmps147;go_wp2;go_ret;exact⟨rfl,hb.o⟩
theorem WL (A c F)(l:List (Kd×Value))(s q)(hl:l.length<=1048576)(w)(hF:∀b,F b->b<w.heap.size)(r:Rd w F (.slice A l.length c) (.sl l.length (l.flatMap ug)))(hq:w.cell? ⟨q,0,none⟩=some (.string s)):
  Cl 75 #[.slice A l.length c,.func (.func 146) #[] #[.pointer (some ⟨q,0,none⟩)]] w λe w'=>e=.returned (.int .i64 (cm (eu (l.map (·.1)) s)))/\Bw w w':=by
 rw[eu,nI];generalize hc:aj ((l.map (·.1)).map (·.nm)) s=b;have Z2:q<w.heap.size:=zX w _ hq;have hk:∀W,Bw w W->∀nm fr v,Cl 146 #[.agg #[.string nm,.int .i64 fr,v],.pointer (some ⟨q,0,none⟩)] W λe w'=>e=.returned (.bool (nm.toList==s.toList))/\Bw W w':=λW hW nm fr v=>
  Sh nm s fr v q W ((hW.cell (p:=⟨q,0,none⟩) Z2).trans hq)
 replace⟨r,hc,hk,hF⟩:=H4 r hc hk hF;clear hq;go_enter func75,ntmps75;go_wp2;go_loopw [5,8] (λ_ i wr=>∃j:Nat,j<=l.length/\i=.int .i64 j/\Bw w wr/\(∀(i:Nat) a,((l.map (·.1)).map (·.nm))[i]? =some a->i<j->a≠s)) (λ_ i _=>l.length- (intOf i).toNat)
 .exact⟨0,zE _,rfl,bR,λi a h h3=>by omega⟩
 obtain⟨j,hj,rfl,hB,hp⟩:=hrel;replace hp:=Hd hp;by_cases hlt:j<l.length
 .obtain⟨x,hx⟩:=av hlt;obtain⟨g,off,rfl,_,ha,_⟩:=(r.o.under hB hF.o).cP (m:=3) (λ_=>rfl) hx oQ;have a0:wr.cell? ⟨g,off+j*3,none⟩=some (.string x.1.nm):=ha 0 _ rfl;have a1:wr.cell? ⟨g,off+j*3+1,none⟩=some (.int .i64 x.1.fr):=ha 1 _ rfl;have a2:wr.cell? ⟨g,off+j*3+2,none⟩=some x.2:=ha 2 _ rfl;have g0:=aH j;have g1:=aV j l.length;have iq:((l.map (·.1)).map (·.nm))[j]? =some x.1.nm:=by rw[zG,zG,hx];rfl
  have gC:=Hd (hk.o wr hB x.1.nm x.1.fr x.2);replace iq:=Hd iq;clear ha hx;by_cases hu:x.1.nm=s
  .have la:(x.1.nm.toList==s.toList)=true:=(by rw[ji];exact zW hu);obtain rfl:b=(j:Int):=by rw[<-hc.o];exact dC (by rw[iq.o,hu]) hp.o
   replace hu:=Hd hu;go_wp2_with (go_at_call 146;refine gC.o.mono ?_;rintro e w' ⟨rfl,az⟩);go_ret;exact⟨rfl,hB.trans (az.mono hB.size)⟩
  .have la:(x.1.nm.toList==s.toList)=false:=(by rw[ji];exact zV hu);replace hu:=Hd hu;go_wp2_with (go_at_call 146;refine gC.o.mono ?_;rintro e w' ⟨rfl,az⟩);go_roundw
   .refine⟨j+1,oQ,gQ,hB.trans (az.mono hB.size),λi a h h3=>?_⟩;by_cases dE:i=j
    .subst dE;obtain rfl:x.1.nm=a:=by have:=iq.o;rw[h]at this;exact(eO this).symm
     exact hu.o
    .exact hp.o i a h oQ
   exact mQ
 .have g1:=jS j l.length;obtain rfl:b= -1:=by
   rw[<-hc.o];exact dH λi a h=>hp.o i a h (by have:=(zC.1 h).1;simp at this;omega)
  go_wp2;go_ret;exact⟨rfl,hB⟩
theorem WM (A c F l s q)(hl:l.length<=1048576)(w)(hF:∀b,F b->b<w.heap.size)(r:Rd w F (.slice A l.length c) (.sl l.length (l.flatMap dt)))(hq:w.cell? ⟨q,2,none⟩=some (.string s)):
  Cl 112 #[.slice A l.length c,.func (.func 147) #[] #[.pointer (some ⟨q,0,none⟩)]] w λe w'=>e=.returned (.int .i64 (cm (iB l s)))/\Bw w w':=by
 rw[iB,nI];generalize hc:aj (l.map (·.nm)) s=b;have Z2:q<w.heap.size:=zX w _ hq;have hk:∀W,Bw w W->∀nm fr fl,Cl 147 #[.agg #[.string nm,.int .i64 fr,.int .i64 fl],.pointer (some ⟨q,0,none⟩)] W λe w'=>e=.returned (.bool (nm.toList==s.toList))/\Bw W w':=λW hW nm fr fl=>
  Z1 nm s fr fl q W ((hW.cell (p:=⟨q,2,none⟩) Z2).trans hq)
 replace⟨r,hc,hk,hF⟩:=H4 r hc hk hF;clear hq;go_enter func112,ntmps112;go_wp2;go_loopw [5,8] (λ_ i wr=>∃j:Nat,j<=l.length/\i=.int .i64 j/\Bw w wr/\(∀(i:Nat) a,(l.map (·.nm))[i]? =some a->i<j->a≠s)) (λ_ i _=>l.length- (intOf i).toNat)
 .exact⟨0,zE _,rfl,bR,λi a h h3=>by omega⟩
 obtain⟨j,hj,rfl,hB,hp⟩:=hrel;replace hp:=Hd hp;by_cases hlt:j<l.length
 .obtain⟨x,hx⟩:=av hlt;obtain⟨g,off,rfl,_,ha,_⟩:=(r.o.under hB hF.o).cP (m:=3) (λ_=>rfl) hx oQ;have a0:wr.cell? ⟨g,off+j*3,none⟩=some (.string x.nm):=ha 0 _ rfl;have a1:wr.cell? ⟨g,off+j*3+1,none⟩=some (.int .i64 x.fr):=ha 1 _ rfl;have a2:wr.cell? ⟨g,off+j*3+2,none⟩=some (.int .i64 x.fl):=ha 2 _ rfl;have g0:=aH j;have g1:=aV j l.length;have iq:(l.map (·.nm))[j]? =some x.nm:=by rw[zG,hx];rfl
  have gC:=Hd (hk.o wr hB x.nm x.fr x.fl);replace iq:=Hd iq;clear ha hx;by_cases hu:x.nm=s
  .have la:(x.nm.toList==s.toList)=true:=(by rw[ji];exact zW hu);obtain rfl:b=(j:Int):=by rw[<-hc.o];exact dC (by rw[iq.o,hu]) hp.o
   replace hu:=Hd hu;go_wp2_with (go_at_call 147;refine gC.o.mono ?_;rintro e w' ⟨rfl,az⟩);go_ret;exact⟨rfl,hB.trans (az.mono hB.size)⟩
  .have la:(x.nm.toList==s.toList)=false:=(by rw[ji];exact zV hu);replace hu:=Hd hu;go_wp2_with (go_at_call 147;refine gC.o.mono ?_;rintro e w' ⟨rfl,az⟩);go_roundw
   .refine⟨j+1,oQ,gQ,hB.trans (az.mono hB.size),λi a h h3=>?_⟩;by_cases dE:i=j
    .subst dE;obtain rfl:x.nm=a:=by have:=iq.o;rw[h]at this;exact(eO this).symm
     exact hu.o
    .exact hp.o i a h oQ
   exact mQ
 .have g1:=jS j l.length;obtain rfl:b= -1:=by
   rw[<-hc.o];exact dH λi a h=>hp.o i a h (by have:=(zC.1 h).1;simp at this;omega)
  go_wp2;go_ret;exact⟨rfl,hB⟩
end di
theorem Oc:nW prog 110 141 3 24:=.of underlying110 kQ oQ
structure Ls where
 ty:Int
 at_:Int
 au:Int
def Tj (a b c:Int):List Value:=[.int .i64 a,.int .i64 b,.int .i64 c]
def lsD (a b c:Int):List D:=[.v (.int .i64 a),.v (.int .i64 b),.v (.int .i64 c)]
def Jj (x:Ls):List D:=lsD x.ty x.at_ x.au
abbrev bE:Nat->Prop:=λ_=>False
structure DX (w:World)(B g:Nat)(vk vl:Value)(au:Int)(nl:List Ls)(l:List (Kd×Value)):Prop where
 gB:B<=g
 bx:ao w g 112 [vk,vl,.int .i64 au]
 kr:OL w B bE 115 3 vk l.length (l.flatMap ug)
 fr:∀p∈l,OL w B bE 117 3 p.2 p.1.fs.length (p.1.fs.flatMap dt)
 ne:∀(i j:Nat)(p q:Kd×Value),l[i]? =some p->l[j]? =some q->i≠j->p.2.ownBlock=none\/p.2.ownBlock≠q.2.ownBlock
 lr:OL w B bE 141 3 vl nl.length (nl.flatMap Jj)
theorem DX.stay {w w2 B g nl vk vl au l}(h:DX w B g vk vl au nl l)(hb:Bw w w2):DX w2 B g vk vl au nl l:=
 ⟨h.gB,h.bx.stay hb,h.kr.stay hb,λp hp=>(h.fr p hp).stay hb,h.ne,h.lr.stay hb⟩
theorem OL.aU {w B e size n g t F v ds cs}(h:OL w B F e size v n ds)(hb:ao w g t cs)(hne:e≠t):v.ownBlock≠some g:=by
 obtain⟨cells,h1,_⟩:=h;rcases h1.2 with⟨rfl,_⟩|⟨g',cap,cur,rfl,_,hg,_⟩
 .simp[Value.ownBlock]
 .intro he;simp[Value.ownBlock]at he;subst he;unfold ao at hb;rw[hg]at hb;injection hb with hb
  injection hb with _ ht
  exact hne ht
theorem Ei (v:Value):v.ownBlock=none\/v.ownBlock≠none:=by cases v.ownBlock<;>simp
theorem OL.jt {w B e size n B' e' Kq n' gk o c m F F' v ds BM}(h:OL w B F e size v n ds)(hk:OL w B' F' e' Kq (.slice (some ⟨gk,o,none⟩) m c) n' BM)(hne:e≠e'):v.ownBlock≠some gk:=by
 rcases h.ne hk hne with e |e
 .rw[e];simp
 .exact e
theorem none_or {v:Value}{g}(h:v.ownBlock≠some g):v.ownBlock=none\/v.ownBlock≠some g:=.inr h
theorem mR {w:World}{p x}:w.grownBy (w.setCell p x) (some p.block):=
 ⟨rfl,rfl,rfl,by simp[World.setCell],λk hk hne=>Below.heap_setCell _ _ _ _ (λe=>hne (by rw[e]))⟩
theorem tR {w w1 w2:World}{row}(h:w.grownBy w1 row)(h2:w1.grownBy w2 row):w.grownBy w2 row:=
 ⟨h2.os.trans h.os,h2.tape.trans h.tape,h2.output.trans h.output,zU h.size h2.size,λj hj hne=>(h2.block j (zF hj h.size) hne).trans (h.block j hj hne)⟩
section
variable {w:World}{B g:Nat}{nl:List Ls}{vk vl:Value}{au:Int}{l:List (Kd×Value)}
theorem DX.c0 (h:DX w B g vk vl au nl l):w.cell? ⟨g,0,none⟩=some vk:=h.bx.cell 0
theorem DX.c1 (h:DX w B g vk vl au nl l):w.cell? ⟨g,1,none⟩=some vl:=h.bx.cell 1
theorem DX.c2 (h:DX w B g vk vl au nl l):w.cell? ⟨g,2,none⟩=some (.int .i64 au):=h.bx.cell 2
theorem DX.at_ (h:DX w B g vk vl au nl l){i p}(hp:l[i]? =some p):∃gk cap,vk=.slice (some ⟨gk,0,none⟩) l.length cap/\B<=gk/\gk<w.heap.size/\(∀j,w.frozen? ⟨gk,j,none⟩=false)/\
  w.cell? ⟨gk,i*3,none⟩=some (.string p.1.nm)/\w.cell? ⟨gk,i*3+1,none⟩=some (.int .i64 p.1.fr)/\w.cell? ⟨gk,i*3+2,none⟩=some p.2:=by
 have hi:=(zC.1 hp).1;obtain⟨gk,cap,e,h1,h2,h3,h4⟩:=h.kr.row oQ;refine⟨gk,cap,e,h1,h2,h3,?_,?_,?_⟩
 .obtain⟨u,hu,hr⟩:=h4 (i*3+0) _ (po (f:=ug) (m:=3) (λ_=>rfl) hp rfl);rw[hr.bH]at hu;exact hu
 .obtain⟨u,hu,hr⟩:=h4 (i*3+1) _ (po (f:=ug) (m:=3) (λ_=>rfl) hp rfl);rw[hr.bH]at hu;exact hu
 .obtain⟨u,hu,hr⟩:=h4 (i*3+2) _ (po (f:=ug) (m:=3) (λ_=>rfl) hp rfl);rw[hr.bH]at hu;exact hu
theorem Od {c p p' x}(hc:c<3)(h:ug p'=(ug p).set c (.v x)):∀{l:List (Kd×Value)}{i:Nat},l[i]? =some p->(l.flatMap ug).set (i*3+c) (.v x)=(l.set i p').flatMap ug:=by
 intro l;induction l with
 |nil=>intro i hp;simp at hp
 |cons a l ih=>
  intro i hp;cases i with
  |zero=>
   simp only[zY,Option.some.injEq]at hp;subst hp;rw[List.set_cons_zero,zK,zK,h,List.set_append,show(ug a).length=3 from rfl,if_pos oQ,Nat.zero_mul,Nat.zero_add]
  |succ k=>
   simp only[xA]at hp;rw[List.set_cons_succ,zK,zK,<-ih hp,List.set_append,show(ug a).length=3 from rfl,if_neg oQ,show(k+1)*3+c-3=k*3+c by omega]
theorem Si {p p'}(h:ug p'=ug p):∀{l:List (Kd×Value)}{i:Nat},l[i]? =some p->(l.set i p').flatMap ug=l.flatMap ug:=by
 intro l;induction l with
 |nil=>intro i hp;simp at hp
 |cons a l ih=>
  intro i hp;cases i with
  |zero=>
   simp only[zY,Option.some.injEq]at hp;subst hp;rw[List.set_cons_zero,zK,zK,h]
  |succ k=>
   simp only[xA]at hp;rw[List.set_cons_succ,zK,zK,ih hp]
theorem kF {v u:Value}(h:v.ownBlock=none\/v.ownBlock≠u.ownBlock):u.ownBlock=none\/u.ownBlock≠v.ownBlock:=by
 rcases h with h |h
 .rw[h];cases hu:u.ownBlock with
  |none=>exact .inl rfl
  |some q=>exact .inr sJ
 .exact .inr (λe=>h e.symm)
theorem DX.Gw (h:DX w B g vk vl au nl l){i p p'}(hp:l[i]? =some p)(hv:p'.2.ownBlock=p.2.ownBlock\/∀q,p'.2.ownBlock=some q->w.heap.size<=q):
  ∀(a b:Nat)(x y:Kd×Value),(l.set i p')[a]? =some x->(l.set i p')[b]? =some y->a≠b->x.2.ownBlock=none\/x.2.ownBlock≠y.2.ownBlock:=by
 have key:∀(b:Nat)(y:Kd×Value),l[b]? =some y->i≠b->p'.2.ownBlock=none\/p'.2.ownBlock≠y.2.ownBlock:=λb y hy Yo=>by
  rcases hv with e |e
  .rw[e];exact h.ne i b p y hp hy Yo
  .cases hq:p'.2.ownBlock with
   |none=>exact .inl rfl
   |some q=>
    refine .inr λhe=>?_
    have:=e q hq;have:=((h.fr y (zA hy)).lt q he.symm).2;omega
 intro a b x y hx hy jX;rw[xL]at hx hy;by_cases ha:i=a
 .rw[if_pos ha]at hx;split at hx
  .injection hx with hx;subst hx
   rw[if_neg oQ]at hy;exact key b y hy oQ
  .cases hx
 .rw[if_neg ha]at hx;by_cases hb:i=b
  .rw[if_pos hb]at hy;split at hy
   .injection hy with hy;subst hy
    exact kF (key a x hx ha)
   .cases hy
  .rw[if_neg hb]at hy;exact h.ne a b x y hx hy jX
theorem DX.WN {w1 row gk cap i p Sd v'}(h:DX w B g (.slice (some ⟨gk,0,none⟩) l.length cap) vl au nl l)(hp:l[i]? =some p)(hg:w.grownBy w1 row)(jD:row=none\/row=p.2.ownBlock)(hv:OL w1 B bE 117 3 v' Sd.length (Sd.flatMap dt))(hvn:v'.ownBlock=p.2.ownBlock\/∀q,v'.ownBlock=some q->w.heap.size<=q):
  DX (w1.setCell ⟨gk,i*3+2,none⟩ v') B g (.slice (some ⟨gk,0,none⟩) l.length cap) vl au nl (l.set i ({p.1 with fs:=Sd},v')):=by
 have fe:=zA hp;have Ko:=h.fr p fe;have r1:∀{e size n:Nat}{v:Value}{ds:List D},OL w B bE e size v n ds->e≠117->OL w1 B bE e size v n ds:=λho hne=>
  ho.kept hg (by
   rcases jD with e |e
   .rw[e];exact Ei _
   .rw[e];exact ho.ne Ko hne) (λ_ hb=>hb.elim)
 have hgb:some g≠row:=by
  rcases jD with e |e
  .rw[e];simp
  .rw[e];exact λe=>Ko.aU h.bx dQ e.symm
 have Oe:=r1 h.kr dQ;have qP:=h.lr;have Z3:=r1 qP dQ;have vZ:=h.bx.grown hg hgb;have Vi:gk≠g:=λe=>h.kr.aU h.bx dQ (by rw[<-e];rfl)
 refine⟨h.gB,vZ.far (λe=>Vi e.symm) _,?_,?_,h.Gw hp hvn,Z3.setCell (p:=⟨gk,i*3+2,none⟩) (Z3.jt Oe dQ) (λh=>h) _⟩
 .have hu:=Oe.set (j:=i*3+2) (u:=v') (d:=.v v') (by
   obtain⟨A,c,rfl⟩:=hv.form;exact .v _ rfl)
  rw[Od (p:=p) (p':=({p.1 with fs:=Sd},v')) oQ rfl hp]at hu;simpa using hu
 .intro q hq;rcases iW hq with mV |rfl
  .by_cases Z4:q=({p.1 with fs:=Sd},v')
   .subst Z4;exact hv.setCell (p:=⟨gk,i*3+2,none⟩) (hv.jt Oe dQ) (λh=>h) _
   .have pP:∃j,j≠i/\l[j]? =some q:=by
     obtain⟨j,hj⟩:=zN hq;rw[xL]at hj;by_cases dE:i=j
     .rw[if_pos dE]at hj;split at hj
      .injection hj with hj;exact absurd hj.symm Z4
      .cases hj
     .rw[if_neg dE]at hj;exact⟨j,λe=>dE e.symm,hj⟩
    obtain⟨j,sQ,hj⟩:=pP;have oU:OL w1 B bE 117 3 q.2 q.1.fs.length (q.1.fs.flatMap dt):=(h.fr q mV).kept hg (by
     rcases jD with e |e
     .rw[e];exact Ei _
     .rw[e];exact h.ne j i q p hj hp sQ) (λ_ hb=>hb.elim)
    exact oU.setCell (p:=⟨gk,i*3+2,none⟩) (oU.jt Oe dQ) (λh=>h) _
  .exact hv.setCell (p:=⟨gk,i*3+2,none⟩) (hv.jt Oe dQ) (λh=>h) _
theorem DX.afb {gk cap i p s}(h:DX w B g (.slice (some ⟨gk,0,none⟩) l.length cap) vl au nl l)(hp:l[i]? =some p):
  DX (w.setCell ⟨gk,i*3,none⟩ (.string s)) B g (.slice (some ⟨gk,0,none⟩) l.length cap) vl au nl (l.set i ({p.1 with nm:=s},p.2)):=by
 have fe:=zA hp;have Vi:gk≠g:=λe=>h.kr.aU h.bx dQ (by rw[<-e];rfl)
 have qP:=h.lr;refine⟨h.gB,h.bx.far (λe=>Vi e.symm) _,?_,?_,h.Gw hp (.inl rfl),qP.setCell (p:=⟨gk,i*3,none⟩) (qP.jt h.kr dQ) (λh=>h) _⟩
 .have hu:=h.kr.set (j:=i*3+0) (u:=.string s) (d:=.v (.string s)) (.v _ rfl);rw[Od (p:=p) (p':=({p.1 with nm:=s},p.2)) oQ rfl hp]at hu;simpa using hu
 .intro q hq;have key:∀q∈l,OL (w.setCell ⟨gk,i*3,none⟩ (.string s)) B bE 117 3 q.2 q.1.fs.length (q.1.fs.flatMap dt):=λq hq=>(h.fr q hq).setCell (p:=⟨gk,i*3,none⟩) ((h.fr q hq).jt h.kr dQ) (λh=>h) _
  rcases iW hq with mV |rfl
  .exact key q mV
  .exact key p fe
theorem DX.afc {gf cap i k p x s}(h:DX w B g vk vl au nl l)(hp:l[i]? =some p)(hv:p.2=.slice (some ⟨gf,0,none⟩) p.1.fs.length cap)(hx:p.1.fs[k]? =some x):
  DX (w.setCell ⟨gf,k*3,none⟩ (.string s)) B g vk vl au nl (l.set i ({p.1 with fs:=p.1.fs.set k {x with nm:=s}},p.2)):=by
 have fe:=zA hp;have Ko:=h.fr p fe;rw[hv]at Ko;have hgf:gf≠g:=λe=>Ko.aU h.bx dQ (by rw[<-e];rfl)
 have qP:=h.lr;refine⟨h.gB,h.bx.far (λe=>hgf e.symm) _,?_,?_,h.Gw hp (.inl rfl),qP.setCell (p:=⟨gf,k*3,none⟩) (qP.jt Ko dQ) (λh=>h) _⟩
 .rw[Si (p:=p) (p':=({p.1 with fs:=p.1.fs.set k {x with nm:=s}},p.2)) rfl hp,List.length_set];exact h.kr.setCell (p:=⟨gf,k*3,none⟩) (h.kr.jt Ko dQ) (λh=>h) _
 .intro q hq;have hu:=Ko.set (j:=k*3) (u:=.string s) (d:=.v (.string s)) (.v _ rfl);rw[NR _ k x s hx]at hu;by_cases Z4:q=({p.1 with fs:=p.1.fs.set k {x with nm:=s}},p.2)
  .subst Z4;show OL _ _ _ _ _ p.2 (p.1.fs.set k {x with nm:=s}).length _
   rw[List.length_set,hv];exact hu
  .obtain⟨j,hj⟩:=zN hq;rw[xL]at hj;by_cases dE:i=j
   .rw[if_pos dE]at hj;split at hj
    .injection hj with hj;exact absurd hj.symm Z4
    .cases hj
   .rw[if_neg dE]at hj;have mV:=zA hj;refine(h.fr q mV).setCell (p:=⟨gf,k*3,none⟩) ?_ (λh=>h) _;rcases h.ne j i q p hj hp (λe=>dE e.symm)with e |e
    .rw[e];simp
    .rw[hv]at e;exact e
theorem DX.Z5 {w1 vl' nl'}(h:DX w B g vk vl au nl l)(hg:w.grownBy w1 vl.ownBlock)(hv:OL w1 B bE 141 3 vl' nl'.length (nl'.flatMap Jj)):
  DX (w1.setCell ⟨g,1,none⟩ vl') B g vk vl' au nl' l:=by
 have qP:=h.lr;have r1:∀{e size n:Nat}{v:Value}{ds:List D},OL w B bE e size v n ds->e≠141->OL w1 B bE e size v n ds:=λho hne=>ho.kept hg (ho.ne qP hne) (λ_ hb=>hb.elim)
 have vZ:=h.bx.grown hg (λe=>qP.aU h.bx dQ e.symm);have fM:=r1 h.kr dQ;refine⟨h.gB,vZ.dz 1 vl',fM.setCell (p:=⟨g,1,none⟩) (fM.aU vZ dQ) (λh=>h) _,λp hp=>?_,h.ne,hv.setCell (p:=⟨g,1,none⟩) (hv.aU vZ dQ) (λh=>h) _⟩;have I3:=r1 (h.fr p hp) dQ;exact I3.setCell (p:=⟨g,1,none⟩) (I3.aU vZ dQ) (λh=>h) _
theorem DX.Z6 {w1 vk' l'}(h:DX w B g vk vl au nl l)(hg:w.grownBy w1 vk.ownBlock)(hv:OL w1 B bE 115 3 vk' l'.length (l'.flatMap ug))(sV:∀p∈l',p∈l\/OL w1 B bE 117 3 p.2 p.1.fs.length (p.1.fs.flatMap dt))(hne:∀(i j:Nat)(p q:Kd×Value),l'[i]? =some p->l'[j]? =some q->i≠j->p.2.ownBlock=none\/p.2.ownBlock≠q.2.ownBlock):
  DX (w1.setCell ⟨g,0,none⟩ vk') B g vk' vl au nl l':=by
 have qP:=h.lr;have r1:∀{e size n:Nat}{v:Value}{ds:List D},OL w B bE e size v n ds->e≠115->OL w1 B bE e size v n ds:=λho hne=>ho.kept hg (ho.ne h.kr hne) (λ_ hb=>hb.elim)
 have vZ:=h.bx.grown hg (λe=>h.kr.aU h.bx dQ e.symm);have qK:=r1 qP dQ;refine⟨h.gB,vZ.dz 0 vk',hv.setCell (p:=⟨g,0,none⟩) (hv.aU vZ dQ) (λh=>h) _,λp hp=>?_,hne,qK.setCell (p:=⟨g,0,none⟩) (qK.aU vZ dQ) (λh=>h) _⟩;have I3:OL w1 B bE 117 3 p.2 p.1.fs.length (p.1.fs.flatMap dt):=by
  rcases sV p hp with hq |hq
  .exact r1 (h.fr p hq) dQ
  .exact hq
 exact I3.setCell (p:=⟨g,0,none⟩) (I3.aU vZ dQ) (λh=>h) _
theorem DX.afd (h:DX w B g vk vl au nl l)(b2):DX (w.setCell ⟨g,2,none⟩ (.int .i64 b2)) B g vk vl b2 nl l:=by
 have qP:=h.lr;exact⟨h.gB,h.bx.dz 2 _,h.kr.setCell (p:=⟨g,2,none⟩) (h.kr.aU h.bx dQ) (λh=>h) _,λp hp=>(h.fr p hp).setCell (p:=⟨g,2,none⟩) ((h.fr p hp).aU h.bx dQ) (λh=>h) _,h.ne,
  qP.setCell (p:=⟨g,2,none⟩) (qP.aU h.bx dQ) (λh=>h) _⟩
theorem DX.Og (h:DX w B g vk vl au nl l)(i):∀(a b:Nat)(x y:Kd×Value),(l.eraseIdx i)[a]? =some x->(l.eraseIdx i)[b]? =some y->a≠b->x.2.ownBlock=none\/x.2.ownBlock≠y.2.ownBlock:=by
 intro a b x y hx hy jX;rw[List.getElem?_eraseIdx]at hx hy;split at hx<;>split at hy<;>exact h.ne _ _ x y hx hy oQ
theorem DX.abT (h:DX w B g vk vl au nl l){p'}(hv:∀q,p'.2.ownBlock=some q->w.heap.size<=q):∀(a b:Nat)(x y:Kd×Value),(l++[p'])[a]? =some x->(l++[p'])[b]? =some y->a≠b->x.2.ownBlock=none\/x.2.ownBlock≠y.2.ownBlock:=by
 have key:∀y∈l,p'.2.ownBlock=none\/p'.2.ownBlock≠y.2.ownBlock:=λy hy=>by
  cases hq:p'.2.ownBlock with
  |none=>exact .inl rfl
  |some q=>
   refine .inr λhe=>?_
   have:=hv q hq;have:=((h.fr y hy).lt q he.symm).2;omega
 intro a b x y hx hy jX;have get:∀{a:Nat} {x},(l++[p'])[a]? =some x->(a<l.length/\l[a]? =some x)\/(a=l.length/\x=p'):=λ {a x} hx=>by
  by_cases ha:a<l.length
  .rw[zS ha]at hx;exact .inl ⟨ha,hx⟩
  .rw[zP oQ]at hx;have:=(zC.1 hx).1;simp at this;have e:a-l.length=0:=oQ;rw[e]at hx;exact .inr ⟨oQ,by simpa using hx.symm⟩
 rcases get hx with⟨h1,h2⟩|⟨h1,rfl⟩
 .rcases get hy with⟨h3,h4⟩|⟨h3,rfl⟩
  .exact h.ne a b x y h2 h4 jX
  .exact kF (key x (zA h2))
 .rcases get hy with⟨h3,h4⟩|⟨h3,rfl⟩
  .exact key y (zA h4)
  .omega
end
def rX (t:List Kd)(c:Cg)(i k:Int)(b:Bool):Prop:=
 (b=false/\(eu t c.ty=none\/∃(i':Nat)(p:Kd),eu t c.ty=some i'/\t[i']? =some p/\iB p.fs c.at_=none))\/
 (b=true/\∃(i' k':Nat)(p:Kd),i=i'/\k=k'/\eu t c.ty=some i'/\t[i']? =some p/\iB p.fs c.at_=some k')
def rY (t:List Kd)(c:Cg)(w:World)(e:Ending)(w':World):Prop:=∃i k b,e=.returned (.tuple #[.int .i64 i,.int .i64 k,.bool b])/\rX t c i k b/\Bw w w'
theorem rY.mk' {t c w w' i k b}(h:rX t c i k b)(hb:Bw w w'):rY t c w (.returned (.tuple #[.int .i64 i,.int .i64 k,.bool b])) w':=⟨i,k,b,rfl,h,hb⟩
namespace di
open cH
theorem BF {w B g nl vk vl au l}(h:DX w B g vk vl au nl l)(hm:l.length<=1048576)(s):
  Cl 116 #[.pointer (some ⟨g,0,none⟩),.string s] w λe w'=>e=.returned (.int .i64 (cm (eu (l.map (·.1)) s)))/\Bw w w':=by
 obtain⟨A,c,rfl⟩:=h.kr.form;have h0:Bw w (w.alloc (.cells ⟨[.string s]⟩ 9)):=bA;have hk:=WL A c (λb=>b<w.heap.size) l s w.heap.size hm (w.alloc (.cells ⟨[.string s]⟩ 9)) (λb hb=>by simp;omega) ((h.kr.rd (G:=λb=>b<w.heap.size) (λb hb _=>hb.elim) (λb _ hb=>hb)).alloc _) ((ao.new w 9 [.string s]).cell 0);have g0:=h.c0;have hg:=h.bx.lt;have CV:=tS
 replace⟨hk,h0⟩:=H2 hk h0;clear h;go_enter func116,ntmps116;go_wp2_with (go_at_call 75;refine hk.o.mono ?_;rintro e w' ⟨rfl,az⟩);go_ret;exact⟨rfl,h0.o.trans (az.mono h0.o.size)⟩
theorem WO {w B g nl vk vl au l}(h:DX w B g vk vl au nl l)(hm:nO (l.map (·.1)))(c A d):
  Cl 118 #[.pointer (some ⟨g,0,none⟩),.agg #[.int .i64 c.kd,.string c.ty,.string c.at_,.string c.nm,.slice A c.ats.length d,.int .i64 c.n]] w (rY (l.map (·.1)) c w):=by
 have yA:l.length<=1048576:=by have:=hm.len;simp at this;omega
 have h0:Bw w (w.alloc (.cells ⟨je c A d⟩ 73)):=bA;have iz:ao (w.alloc (.cells ⟨je c A d⟩ 73)) w.heap.size 73 (je c A d):=ao.new _ _ _;have fM:=BF (h.stay h0) yA c.ty;have hg:=h.bx.lt;have CV:=tS
 cases hty:eu (l.map (·.1)) c.ty with
 |none=>
  rw[hty,show cm none= -1 from rfl]at fM;have Fk:=Hd (show rX (l.map (·.1)) c 0 0 false from .inl ⟨rfl,.inl hty⟩);replace⟨fM,h0⟩:=H2 fM h0;clear h hm iz;go_enter func118,ntmps118;go_wp2_with (go_at_call 116;refine fM.o.mono ?_;rintro e w' ⟨rfl,az⟩);go_ret3;exact rY.mk' Fk.o (h0.o.trans (az.mono h0.o.size))
 |some i=>
  rw[hty,show cm (some i)=(i:Int)from rfl]at fM;have iT:=lC hty;obtain⟨p1,fR⟩:=av iT;rw[zG]at fR;obtain⟨p,hp,rfl⟩:=xG.1 fR;have fR:(l.map (·.1))[i]? =some p.1:=by rw[zG,hp];rfl
  have fe:=zA hp;have yB:p.1.fs.length<=8:=hm.fl p.1 (xJ fe);have BG:i<l.length:=(zC.1 hp).1;have g0:=aH i;have g1:=aV i l.length;obtain⟨gk,cap,rfl,h1,h2,h3,k0,k1,k2⟩:=h.at_ hp;have hf:=h.fr p fe;obtain⟨A2,c2,pT⟩:=hf.form;have Fk:∀r:Int,r=cm (iB p.1.fs c.at_)->rX (l.map (·.1)) c i r (decide (r>=0)):=λr hr=>by
   subst hr;cases FP:iB p.1.fs c.at_ with
   |none=>exact .inl ⟨rfl,.inr ⟨i,p.1,hty,fR,FP⟩⟩
   |some k=>exact .inr ⟨by simp[cm],i,k,p.1,rfl,rfl,hty,fR,FP⟩
  have oY:∀W,Bw w W->W.cell? ⟨w.heap.size,2,none⟩=some (.string c.at_)->Cl 112 #[.slice A2 p.1.fs.length c2,.func (.func 147) #[] #[.pointer (some ⟨w.heap.size,0,none⟩)]] W λe w'=>e=.returned (.int .i64 (cm (iB p.1.fs c.at_)))/\Bw W w':=λW hW hq=>by
   have hr:=hf.rd (G:=λb=>b<w.heap.size) (λb hb _=>hb.elim) (λb _ hb=>hb);rw[pT]at hr;exact WM A2 c2 (λb=>b<w.heap.size) p.1.fs c.at_ w.heap.size oQ W (λb hb=>by have:=hW.size;omega) (hr.under hW (λb hb=>hb)) hq
  rw[pT]at k2;have kc:∀W,Bw w W->W.cell? ⟨g,0,none⟩=some (.slice (some ⟨gk,0,none⟩) l.length cap)/\W.cell? ⟨gk,i*3+2,none⟩=some (.slice A2 p.1.fs.length c2):=λW hW=>⟨(hW.cell (p:=⟨g,0,none⟩) hg).trans h.c0,(hW.cell (p:=⟨gk,i*3+2,none⟩) h2).trans k2⟩
  generalize cm (iB p.1.fs c.at_)=r at Fk oY;replace Fk:=Hd (Fk r rfl);replace⟨fM,oY,h0,iz,kc⟩:=H5 fM oY h0 iz kc;clear h hm hf hp fR fe hty k0 k1 k2 h3;go_enter func118,ntmps118;go_wp2_with (first
   |(go_at_call 116;refine fM.o.mono ?_;rintro e w' ⟨rfl,az⟩;have a9:=Hd (h0.o.trans (az.mono h0.o.size));obtain⟨q0,q1⟩:=kc.o w' a9.o;have q2:w'.cell? ⟨w.heap.size,2,none⟩=some (.string c.at_):=(iz.o.stay az).cell 2;have hk3:=Hd (oY.o w' a9.o q2))
   |(go_at_call 112;refine hk3.o.mono ?_;rintro e w2 ⟨rfl,cD⟩))
  go_ret3;exact rY.mk' Fk.o (a9.o.trans (cD.mono a9.o.size))
end di
set_option linter.unusedSimpArgs false
def DS (w:World)(B g:Nat)(t:List Kd)(N:List Ls):Prop:=∃vk vl au l,DX w B g vk vl au N l/\l.map (·.1)=t
def dV (t:List Kd)(c:Cg)(B g:Nat)(N:List Ls)(w:World)(e:Ending)(w':World):Prop:=∃b,e=.returned (.bool b)/\(∀t',l6 t c=some t'->b=true/\DS w' B g t' N)/\(l6 t c=none->b=false)/\Below B w w'
theorem dV.du {t c B g N w w'}(h:l6 t c=none)(hb:Below B w w'):dV t c B g N w (.returned (.bool false)) w':=
 ⟨false,rfl,λt' h'=>(by rw[h]at h';cases h'),λ_=>rfl,hb⟩
theorem dV.ey {t t' c B g N nl w w' vk vl au l}(h:l6 t c=some t')(hd:DX w' B g vk vl au nl l)(hl:l.map (·.1)=t')(hn:nl=N)(hb:Below B w w'):dV t c B g N w (.returned (.bool true)) w':=
 ⟨true,rfl,λt2 h'=>(by rw[h]at h';injection h' with h';subst h' hn;exact⟨rfl,vk,vl,au,l,hd,hl⟩),λh'=>(by rw[h]at h';cases h'),hb⟩
def iX (t:List Kd)(c:Cg)(b:Int):List Ls:=
 match eu t c.ty with
 |none=>[]
 |some i=>match t[i]? with
  |none=>[]
  |some p=>if c.kd=2 then [⟨p.fr,-2,b⟩]else if c.kd=5 then(match iB p.fs c.at_ with
   |none=>[]
   |some k=>match p.fs[k]? with
    |none=>[]
    |some x=>[⟨p.fr,x.fr,b⟩])else []
theorem iO {t c b}(h2:c.kd≠2)(h5:c.kd≠5):iX t c b=[]:=by
 unfold iX;split
 .rfl
 .split
  .rfl
  .rw[if_neg h2,if_neg h5]
theorem Mf {t c b i p}(h2:c.kd=2)(h:eu t c.ty=some i)(hp:t[i]? =some p):iX t c b=[⟨p.fr,-2,b⟩]:=by
 unfold iX;simp only[h,hp,h2,if_true]
theorem Mg {t c b i k p x}(h5:c.kd=5)(h:eu t c.ty=some i)(hp:t[i]? =some p)(hk:iB p.fs c.at_=some k)(hx:p.fs[k]? =some x):iX t c b=[⟨p.fr,x.fr,b⟩]:=by
 have h2:¬c.kd=2:=oQ;unfold iX;simp only[h,hp,h2,h5,hk,hx,if_true];rfl
def dr (S:List Td)(L:List Cg):Nat->List Ls
 |0=>[]
 |k+1=>dr S L k++match L[k]? with
  |some c=>iX (aD S L k) c k
  |none=>[]
theorem sS {S L k c}(h:L[k]? =some c):dr S L k++iX (aD S L k) c k=dr S L (k+1):=by
 show _=dr S L k++_
 rw[h]
theorem Oh (t c b):(iX t c b).length<=1:=by
 unfold iX;repeat' split
 all_goals simp
theorem vF (S L):∀k,(dr S L k).length<=k
 |0=>nR
 |k+1=>by
  have h1:=vF S L k;show(dr S L k++_).length<=_
  rw[zH];split
  .have:=Oh (aD S L k) (by assumption) (k:Int);omega
  .simp;omega
theorem DX.at' {w B g gk n cap nl vl au l}(h:DX w B g (.slice (some ⟨gk,0,none⟩) n cap) vl au nl l){i p}(hp:l[i]? =some p):
  w.cell? ⟨g,0,none⟩=some (.slice (some ⟨gk,0,none⟩) n cap)/\w.cell? ⟨gk,i*3,none⟩=some (.string p.1.nm)/\w.cell? ⟨gk,i*3+1,none⟩=some (.int .i64 p.1.fr)/\w.cell? ⟨gk,i*3+2,none⟩=some p.2/\(∀j,w.frozen? ⟨gk,j,none⟩=false):=by
 obtain⟨gk',cap',e,_,_,h3,h4,h5,h6⟩:=h.at_ hp;injection e with e1 e2 e3
 injection e1 with e1
 injection e1 with e1
 subst e1;exact⟨h.c0,h4,h5,h6,h3⟩
theorem jc {l:List (Kd×Value)}{i x}:(l.set i x).map (·.1)=(l.map (·.1)).set i x.1:=by
 rw[List.map_set]
theorem Z7 {t c i x}(h:c.kd=3)(ht:eu t c.ty=some i)(hx:t[i]? =some x):l6 t c=some (t.set i {x with nm:=c.nm}):=by
 unfold l6;rw[if_neg oQ,if_pos oQ,ht];show(if _ then _ else if _ then _ else _)=_
 rw[if_neg oQ,if_pos h,pz hx]
theorem H' {t c i x fs}(h:4<=c.kd)(h7:c.kd<=7)(ht:eu t c.ty=some i)(hx:t[i]? =some x)(hc:jx x.fs c=some fs):l6 t c=some (t.set i {x with fs:=fs}):=by
 unfold l6;rw[if_neg oQ,if_pos oQ,ht];show(if _ then _ else if _ then _ else _)=_
 rw[if_neg oQ,if_neg oQ,hx];show Option.map _ (jx x.fs c)=_
 rw[hc];rfl
theorem Z8 {l c k x}(h:c.kd=6)(hf:iB l c.at_=some k)(hx:l[k]? =some x):jx l c=some (l.set k {x with nm:=c.nm}):=by
 unfold jx;rw[if_neg oQ,hf];show(if _ then _ else if _ then _ else _)=_
 rw[if_neg oQ,if_pos h,pz hx]
theorem WQ {l c}(h:c.kd≠4)(hf:iB l c.at_=none):jx l c=none:=by
 unfold jx;rw[if_neg h,hf]
namespace di
open cH
theorem BH {w B g nl vk vl au l}(h:DX w B g vk vl au nl l)(hm:nO (l.map (·.1)))(c)(hc:c.kd=3)(A d):
  Cl 70 #[.pointer (some ⟨g,0,none⟩),.agg #[.int .i64 c.kd,.string c.ty,.string c.at_,.string c.nm,.slice A c.ats.length d,.int .i64 c.n]] w (dV (l.map (·.1)) c B g nl w):=by
 have yA:l.length<=1048576:=by have:=hm.len;simp at this;omega
 have h0:Bw w (w.alloc (.cells ⟨je c A d⟩ 73)):=bA;have iz:ao (w.alloc (.cells ⟨je c A d⟩ 73)) w.heap.size 73 (je c A d):=ao.new _ _ _;have fM:=BF (h.stay h0) yA c.ty;have hg:=h.bx.lt;have sv:B<=w.heap.size:=zU h.gB (Nat.le_of_lt hg);cases hty:eu (l.map (·.1)) c.ty with
 |none=>
  rw[hty,show cm none= -1 from rfl]at fM;have hch:=Hd (vU (l:=l.map (·.1)) (c:=c) oQ hty);replace⟨fM,h0⟩:=H2 fM h0;clear h hm iz hc;go_enter func70,ntmps70;go_wp2_with (go_at_call 116;refine fM.o.mono ?_;rintro e w' ⟨rfl,az⟩);go_ret;exact dV.du hch.o ((h0.o.trans (az.mono h0.o.size)).mono sv)
 |some i=>
  rw[hty,show cm (some i)=(i:Int)from rfl]at fM;have iT:=lC hty;obtain⟨p1,fR⟩:=av iT;rw[zG]at fR;obtain⟨p,hp,rfl⟩:=xG.1 fR;have fR:(l.map (·.1))[i]? =some p.1:=by rw[zG,hp];rfl
  have BG:i<l.length:=(zC.1 hp).1;have g0:=aH i;have g1:=aV i l.length;obtain⟨gk,cap,rfl,h1,h2,_⟩:=h.at_ hp;have hch:=Z7 hc hty fR;have kc:=λW (hW:Bw w W)=>(h.stay hW).at' hp
  have kd:∀W,Bw w W->DX (W.drew.setCell ⟨gk,i*3,none⟩ (.string c.nm)) B g (.slice (some ⟨gk,0,none⟩) l.length cap) vl au nl (l.set i ({p.1 with nm:=c.nm},p.2)):=λW hW=>(h.stay hW.drew).afb hp
  have uj:(l.set i ({p.1 with nm:=c.nm},p.2)).map (·.1)=(l.map (·.1)).set i {p.1 with nm:=c.nm}:=jc;replace⟨hch,fM,h0,iz,kc,kd,uj⟩:=H7 hch fM h0 iz kc kd uj;clear h hm hp fR hty hc;go_enter func70,ntmps70;go_upto_region 3 with(go_at_call 116;refine fM.o.mono ?_;rintro e w' ⟨rfl,az⟩)
  have a9:=Hd (h0.o.trans (az.mono h0.o.size));obtain⟨q0,q1,_,_,q2⟩:=kc.o w' a9.o;have q3:w'.cell? ⟨w.heap.size,3,none⟩=some (.string c.nm):=(iz.o.stay az).cell 3;have q4:w'.frozen? ⟨gk,i*3,none⟩=false:=q2 _;clear q2;go_region
  all_goals
   go_wp2;go_ret;exact dV.ey hch.o (kd.o w' a9.o) uj.o rfl ((a9.o.mono sv).drew.setCell h1 _)
end di
