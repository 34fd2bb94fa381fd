/- The program's searches. -/
import Derived.Test.YtfiodnlgiglhfaaGreatDoorV9
namespace Go.Proofs.YtfiodnlgiglhfaaGreatDoor
set_option maxRecDepth 100000
set_option maxHeartbeats 16000000
open Go.RowKit Go.Deep
set_option linter.unusedVariables false
def kcD (p:Kd×Value):List D:=[.v (.string p.1.nm),.v (.int .i64 p.1.fr),.v p.2]
namespace evW
open nmW
theorem findf_k (nm s:ByteArray)(fr:Int)(v:Value)(q:Nat)(W:World)(hq:W.cell? ⟨q,0,none⟩=some (.string s)):
  Calls Tryz.prog 141 #[.agg #[.string nm,.int .i64 fr,v],.pointer (some ⟨q,0,none⟩)] W fun e w'=>e=.returned (.bool (nm.toList==s.toList))∧Bw W w':=by
 have hb:=Hd ((zB W.heap.size W).alloc nR (.cells ⟨[.string nm,.int .i64 fr,v]⟩ 90));have hq2:=zX W _ hq;have hne:q≠W.heap.size:=by simp at hq2;omega
 go_enter Tryz.func141,Tryz.ntmps141;go_wp2;go_ret;exact⟨rfl,hb.out⟩
theorem atf_k (nm s:ByteArray)(fr fl:Int)(q:Nat)(W:World)(hq:W.cell? ⟨q,2,none⟩=some (.string s)):
  Calls Tryz.prog 142 #[.agg #[.string nm,.int .i64 fr,.int .i64 fl],.pointer (some ⟨q,0,none⟩)] W fun e w'=>e=.returned (.bool (nm.toList==s.toList))∧Bw W w':=by
 have hb:=Hd ((zB W.heap.size W).alloc nR (.cells ⟨[.string nm,.int .i64 fr,.int .i64 fl]⟩ 92));have hq2:=zX W _ hq;have hne:q≠W.heap.size:=by simp at hq2;omega
 go_enter Tryz.func142,Tryz.ntmps142;go_wp2;go_ret;exact⟨rfl,hb.out⟩
theorem idxK_k (A:Option Addr)(c:Nat)(F:Nat→Prop)(l:List (Kd×Value))(s:ByteArray)(q:Nat)(hl:l.length≤1048576)(w:World)(hF:∀b,F b→b<w.heap.size)(r:Rd w F (.slice A l.length c) (.sl l.length (l.flatMap kcD)))(hq:w.cell? ⟨q,0,none⟩=some (.string s)):
  Calls Tryz.prog 88 #[.slice A l.length c,.func (.func 141) #[] #[.pointer (some ⟨q,0,none⟩)]] w fun e w'=>e=.returned (.int .i64 (optI (tyAt (l.map (·.1)) s)))∧Bw w w':=by
 rw[tyAt,optI_place];generalize hc:placeI ((l.map (·.1)).map (·.nm)) s=b;have hql:q<w.heap.size:=zX w _ hq;have hk:∀W,Bw w W→∀nm fr v,Calls Tryz.prog 141 #[.agg #[.string nm,.int .i64 fr,v],.pointer (some ⟨q,0,none⟩)] W fun e w'=>e=.returned (.bool (nm.toList==s.toList))∧Bw W w':=fun W hW nm fr v=>
  findf_k nm s fr v q W ((hW.cell (p:=⟨q,0,none⟩) hql).trans hq)
 replace r:=Hd r;replace hc:=Hd hc;replace hk:=Hd hk;replace hF:=Hd hF;clear hq;go_enter Tryz.func88,Tryz.ntmps88;go_wp2;go_loopw [5,8] (fun _ i wr=>∃j:Nat,j≤l.length∧i=.int .i64 j∧Bw w wr∧(∀(i:Nat) a,((l.map (·.1)).map (·.nm))[i]? =some a→i<j→a≠s)) (fun _ i _=>l.length- (intOf i).toNat)
 case atStart=>exact⟨0,zE _,rfl,bR,fun i a h h3=>by omega⟩
 case round=>
  obtain⟨j,hj,rfl,hB,hp⟩:=hrel;replace hp:=Hd hp;by_cases hlt:j<l.length
  ·obtain⟨x,hx⟩:=getx hlt;obtain⟨g,off,rfl,_,ha,_⟩:=(r.out.under hB hF.out).rowv (m:=3) (fun _=>rfl) hx (by omega);have a0:wr.cell? ⟨g,off+j*3,none⟩=some (.string x.1.nm):=ha 0 _ rfl;have a1:wr.cell? ⟨g,off+j*3+1,none⟩=some (.int .i64 x.1.fr):=ha 1 _ rfl;have a2:wr.cell? ⟨g,off+j*3+2,none⟩=some x.2:=ha 2 _ rfl;have g0:(0:Int)≤(j:Int):=by omega
   have g1:(j:Int)<l.length:=by omega
   have hx2:((l.map (·.1)).map (·.nm))[j]? =some x.1.nm:=by rw[zG,zG,hx];rfl
   have hk':=Hd (hk.out wr hB x.1.nm x.1.fr x.2);replace hx2:=Hd hx2;clear ha hx;by_cases hu:x.1.nm=s
   ·have hu':(x.1.nm.toList==s.toList)=true:=(by rw[bqb];exact zW hu);obtain rfl:b=(j:Int):=by rw[←hc.out];exact placeI_at (by rw[hx2.out,hu]) hp.out
    replace hu:=Hd hu;go_wp2_with (go_at_call 141;refine hk'.out.mono ?_;rintro e w' ⟨rfl,hB1⟩);go_ret;exact⟨rfl,hB.trans (hB1.mono hB.size)⟩
   ·have hu':(x.1.nm.toList==s.toList)=false:=(by rw[bqb];exact zV hu);replace hu:=Hd hu;go_wp2_with (go_at_call 141;refine hk'.out.mono ?_;rintro e w' ⟨rfl,hB1⟩);go_roundw
    case rel=>
     refine⟨j+1,by omega,by go_num,hB.trans (hB1.mono hB.size),fun i a h h3=>?_⟩;by_cases hij:i=j
     ·subst hij;obtain rfl:x.1.nm=a:=by have:=hx2.out;rw[h]at this;exact(zq9 this).symm
      exact hu.out
     ·exact hp.out i a h (by omega)
    case measure=>simp[intOf];omega
  ·have g1:¬(j:Int)<l.length:=by omega
   obtain rfl:b= -1:=by
    rw[←hc.out];exact placeI_none fun i a h=>hp.out i a h (by have:=(zC.1 h).1;simp at this;omega)
   go_wp2;go_ret;exact⟨rfl,hB⟩
theorem idxF_k (A:Option Addr)(c:Nat)(F:Nat→Prop)(l:List Fd)(s:ByteArray)(q:Nat)(hl:l.length≤1048576)(w:World)(hF:∀b,F b→b<w.heap.size)(r:Rd w F (.slice A l.length c) (.sl l.length (l.flatMap fdD)))(hq:w.cell? ⟨q,2,none⟩=some (.string s)):
  Calls Tryz.prog 94 #[.slice A l.length c,.func (.func 142) #[] #[.pointer (some ⟨q,0,none⟩)]] w fun e w'=>e=.returned (.int .i64 (optI (flAt l s)))∧Bw w w':=by
 rw[flAt,optI_place];generalize hc:placeI (l.map (·.nm)) s=b;have hql:q<w.heap.size:=zX w _ hq;have hk:∀W,Bw w W→∀nm fr fl,Calls Tryz.prog 142 #[.agg #[.string nm,.int .i64 fr,.int .i64 fl],.pointer (some ⟨q,0,none⟩)] W fun e w'=>e=.returned (.bool (nm.toList==s.toList))∧Bw W w':=fun W hW nm fr fl=>
  atf_k nm s fr fl q W ((hW.cell (p:=⟨q,2,none⟩) hql).trans hq)
 replace r:=Hd r;replace hc:=Hd hc;replace hk:=Hd hk;replace hF:=Hd hF;clear hq;go_enter Tryz.func94,Tryz.ntmps94;go_wp2;go_loopw [5,8] (fun _ i wr=>∃j:Nat,j≤l.length∧i=.int .i64 j∧Bw w wr∧(∀(i:Nat) a,(l.map (·.nm))[i]? =some a→i<j→a≠s)) (fun _ i _=>l.length- (intOf i).toNat)
 case atStart=>exact⟨0,zE _,rfl,bR,fun i a h h3=>by omega⟩
 case round=>
  obtain⟨j,hj,rfl,hB,hp⟩:=hrel;replace hp:=Hd hp;by_cases hlt:j<l.length
  ·obtain⟨x,hx⟩:=getx hlt;obtain⟨g,off,rfl,_,ha,_⟩:=(r.out.under hB hF.out).rowv (m:=3) (fun _=>rfl) hx (by omega);have a0:wr.cell? ⟨g,off+j*3,none⟩=some (.string x.nm):=ha 0 _ rfl;have a1:wr.cell? ⟨g,off+j*3+1,none⟩=some (.int .i64 x.fr):=ha 1 _ rfl;have a2:wr.cell? ⟨g,off+j*3+2,none⟩=some (.int .i64 x.fl):=ha 2 _ rfl;have g0:(0:Int)≤(j:Int):=by omega
   have g1:(j:Int)<l.length:=by omega
   have hx2:(l.map (·.nm))[j]? =some x.nm:=by rw[zG,hx];rfl
   have hk':=Hd (hk.out wr hB x.nm x.fr x.fl);replace hx2:=Hd hx2;clear ha hx;by_cases hu:x.nm=s
   ·have hu':(x.nm.toList==s.toList)=true:=(by rw[bqb];exact zW hu);obtain rfl:b=(j:Int):=by rw[←hc.out];exact placeI_at (by rw[hx2.out,hu]) hp.out
    replace hu:=Hd hu;go_wp2_with (go_at_call 142;refine hk'.out.mono ?_;rintro e w' ⟨rfl,hB1⟩);go_ret;exact⟨rfl,hB.trans (hB1.mono hB.size)⟩
   ·have hu':(x.nm.toList==s.toList)=false:=(by rw[bqb];exact zV hu);replace hu:=Hd hu;go_wp2_with (go_at_call 142;refine hk'.out.mono ?_;rintro e w' ⟨rfl,hB1⟩);go_roundw
    case rel=>
     refine⟨j+1,by omega,by go_num,hB.trans (hB1.mono hB.size),fun i a h h3=>?_⟩;by_cases hij:i=j
     ·subst hij;obtain rfl:x.nm=a:=by have:=hx2.out;rw[h]at this;exact(zq9 this).symm
      exact hu.out
     ·exact hp.out i a h (by omega)
    case measure=>simp[intOf];omega
  ·have g1:¬(j:Int)<l.length:=by omega
   obtain rfl:b= -1:=by
    rw[←hc.out];exact placeI_none fun i a h=>hp.out i a h (by have:=(zC.1 h).1;simp at this;omega)
   go_wp2;go_ret;exact⟨rfl,hB⟩
end evW
theorem elLoss:ElT Tryz.prog 85 104 3 24:=.of Tryz.underlying85 (by kernel_rfl) (by omega)
structure Ls where
 ty:Int
 at_:Int
 by_:Int
def lsV (a b c:Int):List Value:=[.int .i64 a,.int .i64 b,.int .i64 c]
def lsD (a b c:Int):List D:=[.v (.int .i64 a),.v (.int .i64 b),.v (.int .i64 c)]
def lsDD (x:Ls):List D:=lsD x.ty x.at_ x.by_
abbrev NoB:Nat→Prop:=fun _=>False
structure DX (w:World)(B g:Nat)(vk vl:Value)(by_:Int)(nl:List Ls)(l:List (Kd×Value)):Prop where
 gB:B≤g
 bx:Blk w g 87 [vk,vl,.int .i64 by_]
 kr:OL w B NoB 90 3 vk l.length (l.flatMap kcD)
 fr:∀p∈l,OL w B NoB 92 3 p.2 p.1.fs.length (p.1.fs.flatMap fdD)
 ne:∀(i j:Nat)(p q:Kd×Value),l[i]? =some p→l[j]? =some q→i≠j→p.2.ownBlock=none∨p.2.ownBlock≠q.2.ownBlock
 lr:OL w B NoB 104 3 vl nl.length (nl.flatMap lsDD)
theorem DX.stay {w w2:World}{B g:Nat}{nl:List Ls}{vk vl:Value}{by_:Int}{l:List (Kd×Value)}(h:DX w B g vk vl by_ nl l)(hb:Bw w w2):DX w2 B g vk vl by_ nl l:=
 ⟨h.gB,h.bx.stay hb,h.kr.stay hb,fun p hp=>(h.fr p hp).stay hb,h.ne,h.lr.stay hb⟩
theorem OL.neBlk {w:World}{B e size n g t:Nat}{F:Nat→Prop}{v:Value}{ds:List D}{cs:List Value}(h:OL w B F e size v n ds)(hb:Blk w g t cs)(hne:e≠t):v.ownBlock≠some g:=by
 obtain⟨cells,h1,_⟩:=h;rcases h1.2 with⟨rfl,_⟩|⟨g',cap,cur,rfl,_,hg,_⟩
 ·simp[Value.ownBlock]
 ·intro he;simp[Value.ownBlock]at he;subst he;unfold Blk at hb;rw[hg]at hb;injection hb with hb
  injection hb with _ ht
  exact hne ht
theorem none_row (v:Value):v.ownBlock=none∨v.ownBlock≠none:=by cases v.ownBlock<;>simp
theorem OL.offRow {w:World}{B e size n B' e' size' n' gk o c m:Nat}{F F':Nat→Prop}{v:Value}{ds ds':List D}(h:OL w B F e size v n ds)(hk:OL w B' F' e' size' (.slice (some ⟨gk,o,none⟩) m c) n' ds')(hne:e≠e'):v.ownBlock≠some gk:=by
 rcases h.ne hk hne with e |e
 ·rw[e];simp
 ·exact e
theorem grown_set {w:World}{p:Addr}{x:Value}:w.grownBy (w.setCell p x) (some p.block):=
 ⟨rfl,rfl,rfl,by simp[World.setCell],fun k hk hne=>Below.heap_setCell _ _ _ _ (fun e=>hne (by rw[e]))⟩
theorem grown_trans {w w1 w2:World}{row:Option Nat}(h:w.grownBy w1 row)(h2:w1.grownBy w2 row):w.grownBy w2 row:=
 ⟨h2.os.trans h.os,h2.tape.trans h.tape,h2.output.trans h.output,zU h.size h2.size,fun j hj hne=>(h2.block j (zF hj h.size) hne).trans (h.block j hj hne)⟩
section
variable {w:World}{B g:Nat}{nl:List Ls}{vk vl:Value}{by_:Int}{l:List (Kd×Value)}
theorem DX.c0 (h:DX w B g vk vl by_ nl l):w.cell? ⟨g,0,none⟩=some vk:=h.bx.cell 0
theorem DX.c1 (h:DX w B g vk vl by_ nl l):w.cell? ⟨g,1,none⟩=some vl:=h.bx.cell 1
theorem DX.c2 (h:DX w B g vk vl by_ nl l):w.cell? ⟨g,2,none⟩=some (.int .i64 by_):=h.bx.cell 2
theorem DX.at_ (h:DX w B g vk vl by_ nl l){i:Nat}{p:Kd×Value}(hp:l[i]? =some p):∃gk cap,vk=.slice (some ⟨gk,0,none⟩) l.length cap∧B≤gk∧gk<w.heap.size∧(∀j,w.frozen? ⟨gk,j,none⟩=false)∧
  w.cell? ⟨gk,i*3,none⟩=some (.string p.1.nm)∧w.cell? ⟨gk,i*3+1,none⟩=some (.int .i64 p.1.fr)∧w.cell? ⟨gk,i*3+2,none⟩=some p.2:=by
 have hi:=(zC.1 hp).1;obtain⟨gk,cap,e,h1,h2,h3,h4⟩:=h.kr.row (by omega);refine⟨gk,cap,e,h1,h2,h3,?_,?_,?_⟩
 ·obtain⟨u,hu,hr⟩:=h4 (i*3+0) _ (fmg (f:=kcD) (m:=3) (fun _=>rfl) hp rfl);rw[hr.v_inv]at hu;exact hu
 ·obtain⟨u,hu,hr⟩:=h4 (i*3+1) _ (fmg (f:=kcD) (m:=3) (fun _=>rfl) hp rfl);rw[hr.v_inv]at hu;exact hu
 ·obtain⟨u,hu,hr⟩:=h4 (i*3+2) _ (fmg (f:=kcD) (m:=3) (fun _=>rfl) hp rfl);rw[hr.v_inv]at hu;exact hu
theorem kc_set {c:Nat}{p p':Kd×Value}{x:Value}(hc:c<3)(h:kcD p'=(kcD p).set c (.v x)):∀{l:List (Kd×Value)}{i:Nat},l[i]? =some p→(l.flatMap kcD).set (i*3+c) (.v x)=(l.set i p').flatMap kcD:=by
 intro l;induction l with
 |nil=>intro i hp;simp at hp
 |cons a l ih=>
  intro i hp;cases i with
  |zero=>
   simp only[zY,Option.some.injEq]at hp;subst hp;rw[List.set_cons_zero,zK,zK,h,List.set_append,show(kcD a).length=3 from rfl,if_pos (by omega),Nat.zero_mul,Nat.zero_add]
  |succ k=>
   simp only[xA]at hp;rw[List.set_cons_succ,zK,zK,←ih hp,List.set_append,show(kcD a).length=3 from rfl,if_neg (by omega),show(k+1)*3+c-3=k*3+c by omega]
theorem kc_same {p p':Kd×Value}(h:kcD p'=kcD p):∀{l:List (Kd×Value)}{i:Nat},l[i]? =some p→(l.set i p').flatMap kcD=l.flatMap kcD:=by
 intro l;induction l with
 |nil=>intro i hp;simp at hp
 |cons a l ih=>
  intro i hp;cases i with
  |zero=>
   simp only[zY,Option.some.injEq]at hp;subst hp;rw[List.set_cons_zero,zK,zK,h]
  |succ k=>
   simp only[xA]at hp;rw[List.set_cons_succ,zK,zK,ih hp]
theorem ne_sym {v u:Value}(h:v.ownBlock=none∨v.ownBlock≠u.ownBlock):u.ownBlock=none∨u.ownBlock≠v.ownBlock:=by
 rcases h with h |h
 ·rw[h];cases hu:u.ownBlock with
  |none=>exact .inl rfl
  |some q=>exact .inr (by simp)
 ·exact .inr (fun e=>h e.symm)
theorem DX.ne_set (h:DX w B g vk vl by_ nl l){i:Nat}{p p':Kd×Value}(hp:l[i]? =some p)(hv:p'.2.ownBlock=p.2.ownBlock∨∀q,p'.2.ownBlock=some q→w.heap.size≤q):
  ∀(a b:Nat)(x y:Kd×Value),(l.set i p')[a]? =some x→(l.set i p')[b]? =some y→a≠b→x.2.ownBlock=none∨x.2.ownBlock≠y.2.ownBlock:=by
 have key:∀(b:Nat)(y:Kd×Value),l[b]? =some y→i≠b→p'.2.ownBlock=none∨p'.2.ownBlock≠y.2.ownBlock:=fun b y hy hib=>by
  rcases hv with e |e
  ·rw[e];exact h.ne i b p y hp hy hib
  ·cases hq:p'.2.ownBlock with
   |none=>exact .inl rfl
   |some q=>
    refine .inr fun he=>?_
    have:=e q hq;have:=((h.fr y (zA hy)).lt q he.symm).2;omega
 intro a b x y hx hy hab;rw[xL]at hx hy;by_cases ha:i=a
 ·rw[if_pos ha]at hx;split at hx
  ·injection hx with hx;subst hx
   rw[if_neg (by omega)]at hy;exact key b y hy (by omega)
  ·cases hx
 ·rw[if_neg ha]at hx;by_cases hb:i=b
  ·rw[if_pos hb]at hy;split at hy
   ·injection hy with hy;subst hy
    exact ne_sym (key a x hx ha)
   ·cases hy
  ·rw[if_neg hb]at hy;exact h.ne a b x y hx hy hab
theorem DX.putF {w1:World}{row:Option Nat}{gk cap i:Nat}{p:Kd×Value}{fs':List Fd}{v':Value}(h:DX w B g (.slice (some ⟨gk,0,none⟩) l.length cap) vl by_ nl l)(hp:l[i]? =some p)(hg:w.grownBy w1 row)(hrow:row=none∨row=p.2.ownBlock)
  (hv:OL w1 B NoB 92 3 v' fs'.length (fs'.flatMap fdD))(hvn:v'.ownBlock=p.2.ownBlock∨∀q,v'.ownBlock=some q→w.heap.size≤q):
  DX (w1.setCell ⟨gk,i*3+2,none⟩ v') B g (.slice (some ⟨gk,0,none⟩) l.length cap) vl by_ nl (l.set i ({p.1 with fs:=fs'},v')):=by
 have hpm:=zA hp;have hfp:=h.fr p hpm;have r1:∀{e size n:Nat}{v:Value}{ds:List D},OL w B NoB e size v n ds→e≠92→OL w1 B NoB e size v n ds:=fun ho hne=>
  ho.kept hg (by
   rcases hrow with e |e
   ·rw[e];exact none_row _
   ·rw[e];exact ho.ne hfp hne) (fun _ hb=>hb.elim)
 have hgb:some g≠row:=by
  rcases hrow with e |e
  ·rw[e];simp
  ·rw[e];exact fun e=>hfp.neBlk h.bx (by decide) e.symm
 have hkr1:=r1 h.kr (by decide);have hlr:=h.lr;have hlr1:=r1 hlr (by decide);have hbx1:=h.bx.grown hg hgb;have hgk:gk≠g:=fun e=>h.kr.neBlk h.bx (by decide) (by rw[←e];rfl)
 refine⟨h.gB,hbx1.far (fun e=>hgk e.symm) _,?_,?_,h.ne_set hp hvn,hlr1.setCell (p:=⟨gk,i*3+2,none⟩) (hlr1.offRow hkr1 (by decide)) (fun h=>h) _⟩
 ·have hu:=hkr1.set (j:=i*3+2) (u:=v') (d:=.v v') (by
   obtain⟨A,c,rfl⟩:=hv.form;exact .v _ rfl)
  rw[kc_set (p:=p) (p':=({p.1 with fs:=fs'},v')) (by omega) rfl hp]at hu;simpa using hu
 ·intro q hq;rcases mem_set_ hq with hq2 |rfl
  ·by_cases hqp:q=({p.1 with fs:=fs'},v')
   ·subst hqp;exact hv.setCell (p:=⟨gk,i*3+2,none⟩) (hv.offRow hkr1 (by decide)) (fun h=>h) _
   ·have hmem:∃j,j≠i∧l[j]? =some q:=by
     obtain⟨j,hj⟩:=zN hq;rw[xL]at hj;by_cases hij:i=j
     ·rw[if_pos hij]at hj;split at hj
      ·injection hj with hj;exact absurd hj.symm hqp
      ·cases hj
     ·rw[if_neg hij]at hj;exact⟨j,fun e=>hij e.symm,hj⟩
    obtain⟨j,hji,hj⟩:=hmem;have hq1:OL w1 B NoB 92 3 q.2 q.1.fs.length (q.1.fs.flatMap fdD):=(h.fr q hq2).kept hg (by
     rcases hrow with e |e
     ·rw[e];exact none_row _
     ·rw[e];exact h.ne j i q p hj hp hji) (fun _ hb=>hb.elim)
    exact hq1.setCell (p:=⟨gk,i*3+2,none⟩) (hq1.offRow hkr1 (by decide)) (fun h=>h) _
  ·exact hv.setCell (p:=⟨gk,i*3+2,none⟩) (hv.offRow hkr1 (by decide)) (fun h=>h) _
theorem DX.setN {gk cap i:Nat}{p:Kd×Value}{s:ByteArray}(h:DX w B g (.slice (some ⟨gk,0,none⟩) l.length cap) vl by_ nl l)(hp:l[i]? =some p):
  DX (w.setCell ⟨gk,i*3,none⟩ (.string s)) B g (.slice (some ⟨gk,0,none⟩) l.length cap) vl by_ nl (l.set i ({p.1 with nm:=s},p.2)):=by
 have hpm:=zA hp;have hgk:gk≠g:=fun e=>h.kr.neBlk h.bx (by decide) (by rw[←e];rfl)
 have hlr:=h.lr;refine⟨h.gB,h.bx.far (fun e=>hgk e.symm) _,?_,?_,h.ne_set hp (.inl rfl),hlr.setCell (p:=⟨gk,i*3,none⟩) (hlr.offRow h.kr (by decide)) (fun h=>h) _⟩
 ·have hu:=h.kr.set (j:=i*3+0) (u:=.string s) (d:=.v (.string s)) (.v _ rfl);rw[kc_set (p:=p) (p':=({p.1 with nm:=s},p.2)) (by omega) rfl hp]at hu;simpa using hu
 ·intro q hq;have key:∀q∈l,OL (w.setCell ⟨gk,i*3,none⟩ (.string s)) B NoB 92 3 q.2 q.1.fs.length (q.1.fs.flatMap fdD):=fun q hq=>(h.fr q hq).setCell (p:=⟨gk,i*3,none⟩) ((h.fr q hq).offRow h.kr (by decide)) (fun h=>h) _
  rcases mem_set_ hq with hq2 |rfl
  ·exact key q hq2
  ·exact key p hpm
theorem DX.setF {gf cap i k:Nat}{p:Kd×Value}{x:Fd}{s:ByteArray}(h:DX w B g vk vl by_ nl l)(hp:l[i]? =some p)(hv:p.2=.slice (some ⟨gf,0,none⟩) p.1.fs.length cap)(hx:p.1.fs[k]? =some x):
  DX (w.setCell ⟨gf,k*3,none⟩ (.string s)) B g vk vl by_ nl (l.set i ({p.1 with fs:=p.1.fs.set k {x with nm:=s}},p.2)):=by
 have hpm:=zA hp;have hfp:=h.fr p hpm;rw[hv]at hfp;have hgf:gf≠g:=fun e=>hfp.neBlk h.bx (by decide) (by rw[←e];rfl)
 have hlr:=h.lr;refine⟨h.gB,h.bx.far (fun e=>hgf e.symm) _,?_,?_,h.ne_set hp (.inl rfl),hlr.setCell (p:=⟨gf,k*3,none⟩) (hlr.offRow hfp (by decide)) (fun h=>h) _⟩
 ·rw[kc_same (p:=p) (p':=({p.1 with fs:=p.1.fs.set k {x with nm:=s}},p.2)) rfl hp,List.length_set];exact h.kr.setCell (p:=⟨gf,k*3,none⟩) (h.kr.offRow hfp (by decide)) (fun h=>h) _
 ·intro q hq;have hu:=hfp.set (j:=k*3) (u:=.string s) (d:=.v (.string s)) (.v _ rfl);rw[fd_set _ k x s hx]at hu;by_cases hqp:q=({p.1 with fs:=p.1.fs.set k {x with nm:=s}},p.2)
  ·subst hqp;show OL _ _ _ _ _ p.2 (p.1.fs.set k {x with nm:=s}).length _
   rw[List.length_set,hv];exact hu
  ·obtain⟨j,hj⟩:=zN hq;rw[xL]at hj;by_cases hij:i=j
   ·rw[if_pos hij]at hj;split at hj
    ·injection hj with hj;exact absurd hj.symm hqp
    ·cases hj
   ·rw[if_neg hij]at hj;have hq2:=zA hj;refine(h.fr q hq2).setCell (p:=⟨gf,k*3,none⟩) ?_ (fun h=>h) _;rcases h.ne j i q p hj hp (fun e=>hij e.symm)with e |e
    ·rw[e];simp
    ·rw[hv]at e;exact e
theorem DX.putL {w1:World}{vl':Value}{nl':List Ls}(h:DX w B g vk vl by_ nl l)(hg:w.grownBy w1 vl.ownBlock)(hv:OL w1 B NoB 104 3 vl' nl'.length (nl'.flatMap lsDD)):
  DX (w1.setCell ⟨g,1,none⟩ vl') B g vk vl' by_ nl' l:=by
 have hlr:=h.lr;have r1:∀{e size n:Nat}{v:Value}{ds:List D},OL w B NoB e size v n ds→e≠104→OL w1 B NoB e size v n ds:=fun ho hne=>ho.kept hg (ho.ne hlr hne) (fun _ hb=>hb.elim)
 have hbx1:=h.bx.grown hg (fun e=>hlr.neBlk h.bx (by decide) e.symm);have hk1:=r1 h.kr (by decide);refine⟨h.gB,hbx1.set_ 1 vl',hk1.setCell (p:=⟨g,1,none⟩) (hk1.neBlk hbx1 (by decide)) (fun h=>h) _,fun p hp=>?_,h.ne,hv.setCell (p:=⟨g,1,none⟩) (hv.neBlk hbx1 (by decide)) (fun h=>h) _⟩;have hf1:=r1 (h.fr p hp) (by decide);exact hf1.setCell (p:=⟨g,1,none⟩) (hf1.neBlk hbx1 (by decide)) (fun h=>h) _
theorem DX.putK {w1:World}{vk':Value}{l':List (Kd×Value)}(h:DX w B g vk vl by_ nl l)(hg:w.grownBy w1 vk.ownBlock)(hv:OL w1 B NoB 90 3 vk' l'.length (l'.flatMap kcD))
  (hfr:∀p∈l',p∈l∨OL w1 B NoB 92 3 p.2 p.1.fs.length (p.1.fs.flatMap fdD))(hne:∀(i j:Nat)(p q:Kd×Value),l'[i]? =some p→l'[j]? =some q→i≠j→p.2.ownBlock=none∨p.2.ownBlock≠q.2.ownBlock):
  DX (w1.setCell ⟨g,0,none⟩ vk') B g vk' vl by_ nl l':=by
 have hlr:=h.lr;have r1:∀{e size n:Nat}{v:Value}{ds:List D},OL w B NoB e size v n ds→e≠90→OL w1 B NoB e size v n ds:=fun ho hne=>ho.kept hg (ho.ne h.kr hne) (fun _ hb=>hb.elim)
 have hbx1:=h.bx.grown hg (fun e=>h.kr.neBlk h.bx (by decide) e.symm);have hl1:=r1 hlr (by decide);refine⟨h.gB,hbx1.set_ 0 vk',hv.setCell (p:=⟨g,0,none⟩) (hv.neBlk hbx1 (by decide)) (fun h=>h) _,fun p hp=>?_,hne,hl1.setCell (p:=⟨g,0,none⟩) (hl1.neBlk hbx1 (by decide)) (fun h=>h) _⟩;have hf1:OL w1 B NoB 92 3 p.2 p.1.fs.length (p.1.fs.flatMap fdD):=by
  rcases hfr p hp with hq |hq
  ·exact r1 (h.fr p hq) (by decide)
  ·exact hq
 exact hf1.setCell (p:=⟨g,0,none⟩) (hf1.neBlk hbx1 (by decide)) (fun h=>h) _
theorem DX.setB (h:DX w B g vk vl by_ nl l)(b2:Int):DX (w.setCell ⟨g,2,none⟩ (.int .i64 b2)) B g vk vl b2 nl l:=by
 have hlr:=h.lr;exact⟨h.gB,h.bx.set_ 2 _,h.kr.setCell (p:=⟨g,2,none⟩) (h.kr.neBlk h.bx (by decide)) (fun h=>h) _,fun p hp=>(h.fr p hp).setCell (p:=⟨g,2,none⟩) ((h.fr p hp).neBlk h.bx (by decide)) (fun h=>h) _,h.ne,
  hlr.setCell (p:=⟨g,2,none⟩) (hlr.neBlk h.bx (by decide)) (fun h=>h) _⟩
theorem DX.ne_erase (h:DX w B g vk vl by_ nl l)(i:Nat):∀(a b:Nat)(x y:Kd×Value),(l.eraseIdx i)[a]? =some x→(l.eraseIdx i)[b]? =some y→a≠b→x.2.ownBlock=none∨x.2.ownBlock≠y.2.ownBlock:=by
 intro a b x y hx hy hab;rw[List.getElem?_eraseIdx]at hx hy;split at hx<;>split at hy<;>exact h.ne _ _ x y hx hy (by omega)
end
def AtIs (t:List Kd)(c:Cg)(i k:Int)(b:Bool):Prop:=
 (b=false∧(tyAt t c.ty=none∨∃(i':Nat)(p:Kd),tyAt t c.ty=some i'∧t[i']? =some p∧flAt p.fs c.at_=none))∨
 (b=true∧∃(i' k':Nat)(p:Kd),i=i'∧k=k'∧tyAt t c.ty=some i'∧t[i']? =some p∧flAt p.fs c.at_=some k')
def AtIPost (t:List Kd)(c:Cg)(w:World)(e:Ending)(w':World):Prop:=∃i k b,e=.returned (.tuple #[.int .i64 i,.int .i64 k,.bool b])∧AtIs t c i k b∧Bw w w'
theorem AtIPost.mk' {t:List Kd}{c:Cg}{w w':World}{i k:Int}{b:Bool}(h:AtIs t c i k b)(hb:Bw w w'):AtIPost t c w (.returned (.tuple #[.int .i64 i,.int .i64 k,.bool b])) w':=⟨i,k,b,rfl,h,hb⟩
namespace evW
open nmW
theorem find_k {w:World}{B g:Nat}{nl:List Ls}{vk vl:Value}{by_:Int}{l:List (Kd×Value)}(h:DX w B g vk vl by_ nl l)(hm:l.length≤1048576)(s:ByteArray):
  Calls Tryz.prog 114 #[.pointer (some ⟨g,0,none⟩),.string s] w fun e w'=>e=.returned (.int .i64 (optI (tyAt (l.map (·.1)) s)))∧Bw w w':=by
 obtain⟨A,c,rfl⟩:=h.kr.form;have h0:Bw w (w.alloc (.cells ⟨[.string s]⟩ 9)):=bA;have hk:=idxK_k A c (fun b=>b<w.heap.size) l s w.heap.size hm (w.alloc (.cells ⟨[.string s]⟩ 9)) (fun b hb=>by simp;omega) ((h.kr.rd (G:=fun b=>b<w.heap.size) (fun b hb _=>hb.elim) (fun b _ hb=>hb)).alloc _) ((Blk.new w 9 [.string s]).cell 0);have g0:=h.c0;have hg:=h.bx.lt;have hmf:∀(fn:Fn) (first cap:Array Value) (w:World),(Instr.makeFunc fn first cap).run Tryz.prog w=.ok (.func fn first cap) w:=fun _ _ _ _=>rfl
 replace hk:=Hd hk;replace h0:=Hd h0;clear h;go_enter Tryz.func114,Tryz.ntmps114;go_wp2_with (go_at_call 88;refine hk.out.mono ?_;rintro e w' ⟨rfl,hB1⟩);go_ret;exact⟨rfl,h0.out.trans (hB1.mono h0.out.size)⟩
theorem at_k {w:World}{B g:Nat}{nl:List Ls}{vk vl:Value}{by_:Int}{l:List (Kd×Value)}(h:DX w B g vk vl by_ nl l)(hm:SmK (l.map (·.1)))(c:Cg)(A:Option Addr)(d:Nat):
  Calls Tryz.prog 116 #[.pointer (some ⟨g,0,none⟩),.agg #[.int .i64 c.kd,.string c.ty,.string c.at_,.string c.nm,.slice A c.ats.length d,.int .i64 c.n]] w (AtIPost (l.map (·.1)) c w):=by
 have hll:l.length≤1048576:=by have:=hm.len;simp at this;omega
 have h0:Bw w (w.alloc (.cells ⟨cgC c A d⟩ 51)):=bA;have hX0:Blk (w.alloc (.cells ⟨cgC c A d⟩ 51)) w.heap.size 51 (cgC c A d):=Blk.new _ _ _;have hk1:=find_k (h.stay h0) hll c.ty;have hg:=h.bx.lt;have hmf:∀(fn:Fn) (first cap:Array Value) (w:World),(Instr.makeFunc fn first cap).run Tryz.prog w=.ok (.func fn first cap) w:=fun _ _ _ _=>rfl
 cases hty:tyAt (l.map (·.1)) c.ty with
 |none=>
  rw[hty,show optI none= -1 from rfl]at hk1;have hat:=Hd (show AtIs (l.map (·.1)) c 0 0 false from .inl ⟨rfl,.inl hty⟩);replace hk1:=Hd hk1;replace h0:=Hd h0;clear h hm hX0;go_enter Tryz.func116,Tryz.ntmps116;go_wp2_with (go_at_call 114;refine hk1.out.mono ?_;rintro e w' ⟨rfl,hB1⟩);go_ret3;exact AtIPost.mk' hat.out (h0.out.trans (hB1.mono h0.out.size))
 |some i=>
  rw[hty,show optI (some i)=(i:Int)from rfl]at hk1;have hil:=tyAt_lt hty;obtain⟨p1,hp1⟩:=getx hil;rw[zG]at hp1;obtain⟨p,hp,rfl⟩:=xG.1 hp1;have hp1:(l.map (·.1))[i]? =some p.1:=by rw[zG,hp];rfl
  have hpm:=zA hp;have hfl:p.1.fs.length≤8:=hm.fl p.1 (xJ hpm);have hilt:i<l.length:=(zC.1 hp).1;have g0:(0:Int)≤(i:Int):=by omega
  have g1:(i:Int)<l.length:=by omega
  obtain⟨gk,cap,rfl,h1,h2,h3,k0,k1,k2⟩:=h.at_ hp;have hf:=h.fr p hpm;obtain⟨A2,c2,hv2⟩:=hf.form;have hat:∀r:Int,r=optI (flAt p.1.fs c.at_)→AtIs (l.map (·.1)) c i r (decide (r≥0)):=fun r hr=>by
   subst hr;cases hfa:flAt p.1.fs c.at_ with
   |none=>exact .inl ⟨rfl,.inr ⟨i,p.1,hty,hp1,hfa⟩⟩
   |some k=>exact .inr ⟨by simp[optI],i,k,p.1,rfl,rfl,hty,hp1,hfa⟩
  have hk2:∀W,Bw w W→W.cell? ⟨w.heap.size,2,none⟩=some (.string c.at_)→Calls Tryz.prog 94 #[.slice A2 p.1.fs.length c2,.func (.func 142) #[] #[.pointer (some ⟨w.heap.size,0,none⟩)]] W fun e w'=>e=.returned (.int .i64 (optI (flAt p.1.fs c.at_)))∧Bw W w':=fun W hW hq=>by
   have hr:=hf.rd (G:=fun b=>b<w.heap.size) (fun b hb _=>hb.elim) (fun b _ hb=>hb);rw[hv2]at hr;exact idxF_k A2 c2 (fun b=>b<w.heap.size) p.1.fs c.at_ w.heap.size (by omega) W (fun b hb=>by have:=hW.size;omega) (hr.under hW (fun b hb=>hb)) hq
  rw[hv2]at k2;have kc:∀W,Bw w W→W.cell? ⟨g,0,none⟩=some (.slice (some ⟨gk,0,none⟩) l.length cap)∧W.cell? ⟨gk,i*3+2,none⟩=some (.slice A2 p.1.fs.length c2):=fun W hW=>⟨(hW.cell (p:=⟨g,0,none⟩) hg).trans h.c0,(hW.cell (p:=⟨gk,i*3+2,none⟩) h2).trans k2⟩
  generalize optI (flAt p.1.fs c.at_)=r at hat hk2;replace hat:=Hd (hat r rfl);replace hk1:=Hd hk1;replace hk2:=Hd hk2;replace h0:=Hd h0;replace hX0:=Hd hX0;replace kc:=Hd kc;clear h hm hf hp hp1 hpm hty k0 k1 k2 h3;go_enter Tryz.func116,Tryz.ntmps116;go_wp2_with (first
   |(go_at_call 114;refine hk1.out.mono ?_;rintro e w' ⟨rfl,hB1⟩;have hW1:=Hd (h0.out.trans (hB1.mono h0.out.size));obtain⟨q0,q1⟩:=kc.out w' hW1.out;have q2:w'.cell? ⟨w.heap.size,2,none⟩=some (.string c.at_):=(hX0.out.stay hB1).cell 2;have hk3:=Hd (hk2.out w' hW1.out q2))
   |(go_at_call 94;refine hk3.out.mono ?_;rintro e w2 ⟨rfl,hB2⟩))
  go_ret3;exact AtIPost.mk' hat.out (hW1.out.trans (hB2.mono hW1.out.size))
end evW
set_option linter.unusedSimpArgs false
def DS (w:World)(B g:Nat)(t:List Kd)(N:List Ls):Prop:=∃vk vl by_ l,DX w B g vk vl by_ N l∧l.map (·.1)=t
def DPost (t:List Kd)(c:Cg)(B g:Nat)(N:List Ls)(w:World)(e:Ending)(w':World):Prop:=∃b,e=.returned (.bool b)∧(∀t',chK t c=some t'→b=true∧DS w' B g t' N)∧(chK t c=none→b=false)∧Below B w w'
theorem DPost.mk_none {t:List Kd}{c:Cg}{B g:Nat}{N:List Ls}{w w':World}(h:chK t c=none)(hb:Below B w w'):DPost t c B g N w (.returned (.bool false)) w':=
 ⟨false,rfl,fun t' h'=>(by rw[h]at h';cases h'),fun _=>rfl,hb⟩
theorem DPost.mk_some {t t':List Kd}{c:Cg}{B g:Nat}{N nl:List Ls}{w w':World}{vk vl:Value}{by_:Int}{l:List (Kd×Value)}(h:chK t c=some t')(hd:DX w' B g vk vl by_ nl l)(hl:l.map (·.1)=t')(hn:nl=N)(hb:Below B w w'):DPost t c B g N w (.returned (.bool true)) w':=
 ⟨true,rfl,fun t2 h'=>(by rw[h]at h';injection h' with h';subst h' hn;exact⟨rfl,vk,vl,by_,l,hd,hl⟩),fun h'=>(by rw[h]at h';cases h'),hb⟩
def lsOf (t:List Kd)(c:Cg)(b:Int):List Ls:=
 match tyAt t c.ty with
 |none=>[]
 |some i=>match t[i]? with
  |none=>[]
  |some p=>if c.kd=2 then [⟨p.fr,-2,b⟩]else if c.kd=5 then(match flAt p.fs c.at_ with
   |none=>[]
   |some k=>match p.fs[k]? with
    |none=>[]
    |some x=>[⟨p.fr,x.fr,b⟩])else []
theorem lsOf_no {t:List Kd}{c:Cg}{b:Int}(h2:c.kd≠2)(h5:c.kd≠5):lsOf t c b=[]:=by
 unfold lsOf;split
 ·rfl
 ·split
  ·rfl
  ·rw[if_neg h2,if_neg h5]
theorem lsOf_2 {t:List Kd}{c:Cg}{b:Int}{i:Nat}{p:Kd}(h2:c.kd=2)(h:tyAt t c.ty=some i)(hp:t[i]? =some p):lsOf t c b=[⟨p.fr,-2,b⟩]:=by
 unfold lsOf;simp only[h,hp,h2,if_true]
theorem lsOf_5 {t:List Kd}{c:Cg}{b:Int}{i k:Nat}{p:Kd}{x:Fd}(h5:c.kd=5)(h:tyAt t c.ty=some i)(hp:t[i]? =some p)(hk:flAt p.fs c.at_=some k)(hx:p.fs[k]? =some x):lsOf t c b=[⟨p.fr,x.fr,b⟩]:=by
 have h2:¬c.kd=2:=by omega
 unfold lsOf;simp only[h,hp,h2,h5,hk,hx,if_true];rfl
def lsTo (S:List Td)(L:List Cg):Nat→List Ls
 |0=>[]
 |k+1=>lsTo S L k++match L[k]? with
  |some c=>lsOf (mdTo S L k) c k
  |none=>[]
theorem lsTo_next {S:List Td}{L:List Cg}{k:Nat}{c:Cg}(h:L[k]? =some c):lsTo S L k++lsOf (mdTo S L k) c k=lsTo S L (k+1):=by
 show _=lsTo S L k++_
 rw[h]
theorem lsOf_len (t:List Kd)(c:Cg)(b:Int):(lsOf t c b).length≤1:=by
 unfold lsOf;repeat' split
 all_goals simp
theorem lsTo_len (S:List Td)(L:List Cg):∀k,(lsTo S L k).length≤k
 |0=>nR
 |k+1=>by
  have h1:=lsTo_len S L k;show(lsTo S L k++_).length≤_
  rw[zH];split
  ·have:=lsOf_len (mdTo S L k) (by assumption) (k:Int);omega
  ·simp;omega
theorem DX.at' {w:World}{B g gk n cap:Nat}{nl:List Ls}{vl:Value}{by_:Int}{l:List (Kd×Value)}(h:DX w B g (.slice (some ⟨gk,0,none⟩) n cap) vl by_ nl l){i:Nat}{p:Kd×Value}(hp:l[i]? =some p):
  w.cell? ⟨g,0,none⟩=some (.slice (some ⟨gk,0,none⟩) n cap)∧w.cell? ⟨gk,i*3,none⟩=some (.string p.1.nm)∧w.cell? ⟨gk,i*3+1,none⟩=some (.int .i64 p.1.fr)∧w.cell? ⟨gk,i*3+2,none⟩=some p.2∧(∀j,w.frozen? ⟨gk,j,none⟩=false):=by
 obtain⟨gk',cap',e,_,_,h3,h4,h5,h6⟩:=h.at_ hp;injection e with e1 e2 e3
 injection e1 with e1
 injection e1 with e1
 subst e1;exact⟨h.c0,h4,h5,h6,h3⟩
theorem map_set_fst {l:List (Kd×Value)}{i:Nat}{x:Kd×Value}:(l.set i x).map (·.1)=(l.map (·.1)).set i x.1:=by
 rw[List.map_set]
theorem chK_3 {t:List Kd}{c:Cg}{i:Nat}{x:Kd}(h:c.kd=3)(ht:tyAt t c.ty=some i)(hx:t[i]? =some x):chK t c=some (t.set i {x with nm:=c.nm}):=by
 unfold chK;rw[if_neg (by omega),if_pos (by omega),ht];show(if _ then _ else if _ then _ else _)=_
 rw[if_neg (by omega),if_pos h,mod_set hx]
theorem chK_4 {t:List Kd}{c:Cg}{i:Nat}{x:Kd}{fs:List Fd}(h:4≤c.kd)(h7:c.kd≤7)(ht:tyAt t c.ty=some i)(hx:t[i]? =some x)(hc:chF x.fs c=some fs):chK t c=some (t.set i {x with fs:=fs}):=by
 unfold chK;rw[if_neg (by omega),if_pos (by omega),ht];show(if _ then _ else if _ then _ else _)=_
 rw[if_neg (by omega),if_neg (by omega),hx];show Option.map _ (chF x.fs c)=_
 rw[hc];rfl
theorem chF_6 {l:List Fd}{c:Cg}{k:Nat}{x:Fd}(h:c.kd=6)(hf:flAt l c.at_=some k)(hx:l[k]? =some x):chF l c=some (l.set k {x with nm:=c.nm}):=by
 unfold chF;rw[if_neg (by omega),hf];show(if _ then _ else if _ then _ else _)=_
 rw[if_neg (by omega),if_pos h,mod_set hx]
theorem chF_no {l:List Fd}{c:Cg}(h:c.kd≠4)(hf:flAt l c.at_=none):chF l c=none:=by
 unfold chF;rw[if_neg h,hf]
namespace evW
open nmW
theorem renameType_k {w:World}{B g:Nat}{nl:List Ls}{vk vl:Value}{by_:Int}{l:List (Kd×Value)}(h:DX w B g vk vl by_ nl l)(hm:SmK (l.map (·.1)))(c:Cg)(hc:c.kd=3)(A:Option Addr)(d:Nat):
  Calls Tryz.prog 64 #[.pointer (some ⟨g,0,none⟩),.agg #[.int .i64 c.kd,.string c.ty,.string c.at_,.string c.nm,.slice A c.ats.length d,.int .i64 c.n]] w (DPost (l.map (·.1)) c B g nl w):=by
 have hll:l.length≤1048576:=by have:=hm.len;simp at this;omega
 have h0:Bw w (w.alloc (.cells ⟨cgC c A d⟩ 51)):=bA;have hX0:Blk (w.alloc (.cells ⟨cgC c A d⟩ 51)) w.heap.size 51 (cgC c A d):=Blk.new _ _ _;have hk1:=find_k (h.stay h0) hll c.ty;have hg:=h.bx.lt;have hBg:B≤w.heap.size:=zU h.gB (Nat.le_of_lt hg);cases hty:tyAt (l.map (·.1)) c.ty with
 |none=>
  rw[hty,show optI none= -1 from rfl]at hk1;have hch:=Hd (chK_no (l:=l.map (·.1)) (c:=c) (by omega) hty);replace hk1:=Hd hk1;replace h0:=Hd h0;clear h hm hX0 hc;go_enter Tryz.func64,Tryz.ntmps64;go_wp2_with (go_at_call 114;refine hk1.out.mono ?_;rintro e w' ⟨rfl,hB1⟩);go_ret;exact DPost.mk_none hch.out ((h0.out.trans (hB1.mono h0.out.size)).mono hBg)
 |some i=>
  rw[hty,show optI (some i)=(i:Int)from rfl]at hk1;have hil:=tyAt_lt hty;obtain⟨p1,hp1⟩:=getx hil;rw[zG]at hp1;obtain⟨p,hp,rfl⟩:=xG.1 hp1;have hp1:(l.map (·.1))[i]? =some p.1:=by rw[zG,hp];rfl
  have hilt:i<l.length:=(zC.1 hp).1;have g0:(0:Int)≤(i:Int):=by omega
  have g1:(i:Int)<l.length:=by omega
  obtain⟨gk,cap,rfl,h1,h2,_⟩:=h.at_ hp;have hch:=chK_3 hc hty hp1;have kc:=fun W (hW:Bw w W)=>(h.stay hW).at' hp
  have kd:∀W,Bw w W→DX (W.drew.setCell ⟨gk,i*3,none⟩ (.string c.nm)) B g (.slice (some ⟨gk,0,none⟩) l.length cap) vl by_ nl (l.set i ({p.1 with nm:=c.nm},p.2)):=fun W hW=>(h.stay hW.drew).setN hp
  have hmp:(l.set i ({p.1 with nm:=c.nm},p.2)).map (·.1)=(l.map (·.1)).set i {p.1 with nm:=c.nm}:=map_set_fst;replace hch:=Hd hch;replace hk1:=Hd hk1;replace h0:=Hd h0;replace hX0:=Hd hX0;replace kc:=Hd kc;replace kd:=Hd kd;replace hmp:=Hd hmp;clear h hm hp hp1 hty hc;go_enter Tryz.func64,Tryz.ntmps64;go_upto_region 3 with(go_at_call 114;refine hk1.out.mono ?_;rintro e w' ⟨rfl,hB1⟩)
  have hW1:=Hd (h0.out.trans (hB1.mono h0.out.size));obtain⟨q0,q1,_,_,q2⟩:=kc.out w' hW1.out;have q3:w'.cell? ⟨w.heap.size,3,none⟩=some (.string c.nm):=(hX0.out.stay hB1).cell 3;have q4:w'.frozen? ⟨gk,i*3,none⟩=false:=q2 _;clear q2;go_region
  all_goals
   go_wp2;go_ret;exact DPost.mk_some hch.out (kd.out w' hW1.out) hmp.out rfl ((hW1.out.mono hBg).drew.setCell h1 _)
end evW
end Go.Proofs.YtfiodnlgiglhfaaGreatDoor
