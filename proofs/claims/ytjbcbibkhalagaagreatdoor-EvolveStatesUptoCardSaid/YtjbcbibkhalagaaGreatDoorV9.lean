/- Schemas that change. -/
import Derived.Test.YtjbcbibkhalagaaGreatDoorV
import Derived.OwnWalk
import Derived.Lib.SliceRun
import Derived.Lib.Overlaps
import Derived.Laws.IdiomCopy
namespace Go.Proofs.YtjbcbibkhalagaaGreatDoor
set_option maxRecDepth 100000
set_option maxHeartbeats 16000000
open Proofs.Tryz Go.RowKit Go.Deep
set_option linter.unusedVariables false
theorem pF {s}(h:br s=true):s.size<=16:=by
 by_cases hn:Jf s
 .exact hn.le
 .rw[cG hn]at h;cases h
theorem WC {l k a}(h:l[k]? =some a)(h0:wW l k=0):br a=true:=by
 cases hn:br a with
 |true=>rfl
 |false=>rw[sU h (.inl hn)]at h0;omega
theorem WD {l i t}(h:l[i]? =some t)(h0:qO l i=0):br t.name=true/\t.attrs.length<=8/\∀a∈t.attrs,br a=true:=by
 have h1:br t.name=true:=by
  cases hn:br t.name with
  |true=>rfl
  |false=>rw[AK h hn]at h0;omega
 have h3:aj (l.map (·.name)) t.name=i:=Classical.byContradiction λh3=>by rw[AL h h1 h3]at h0;omega
 have h4:¬8<t.attrs.length:=λh4=>by rw[FU h h1 h3 h4]at h0;omega
 refine⟨h1,oQ,λa ha=>?_⟩;rw[AO h h1 h3 h4]at h0;obtain⟨k,hk⟩:=zN ha;exact WC hk (mJ h0 k (zC.1 hk).1)
theorem oP {l}(h:dy l=0):1<=l.length/\l.length<=16/\∀t∈l,br t.name=true/\t.attrs.length<=8/\∀a∈t.attrs,br a=true:=by
 have h1:¬(l.length<1\/16<l.length):=λh1=>by rw[qE h1]at h;omega
 refine⟨oQ,oQ,λt ht=>?_⟩;rw[vw oQ oQ]at h;obtain⟨k,hk⟩:=zN ht;exact WD hk (mJ h k (zC.1 hk).1)
structure nO (l:List Kd):Prop where
 len:l.length<=16
 nm:∀k∈l,k.nm.size<=16
 fl:∀k∈l,k.fs.length<=8
 fn:∀k∈l,∀f∈k.fs,f.nm.size<=16
theorem nO.of {l}(h:dy (l.map cR)=0):nO l:=by
 obtain⟨_,h1,h2⟩:=oP h;have h3:∀k∈l,br k.nm=true/\(k.fs.map (·.nm)).length<=8/\∀a∈k.fs.map (·.nm),br a=true:=λk hk=>h2 (cR k) (xJ hk)
 exact⟨by simpa using h1,λk hk=>pF (h3 k hk).1,λk hk=>by simpa using (h3 k hk).2.1,λk hk f hf=>pF ((h3 k hk).2.2 _ (xJ hf))⟩
theorem nO.szK {l}(h:nO l):SzK l:=⟨by have:=h.len;omega,λk hk=>by have:=h.fl k hk;omega⟩
structure ED (c:Cg):Prop where
 ty:c.ty.size<=1048576
 nm:c.nm.size<=1048576
 ats:Xw c.ats
def SzF (l:List Fd):Prop:=l.length<=1048576/\∀f∈l,f.nm.size<=1048576
theorem SzF.szS {l}(h:SzF l):Xw (l.map (·.nm)):=⟨by simpa using h.1,λa ha=>by
 obtain⟨f,hf,rfl⟩:=List.mem_map.1 ha;exact h.2 f hf⟩
structure Gr (k:Kd):Prop where
 nm:k.nm.size<=1048576
 fs:SzF k.fs
theorem nO.ZN {l}(h:nO l):∀k∈l,Gr k:=λk hk=>⟨by have:=h.nm k hk;omega,by have:=h.fl k hk;omega,λf hf=>by have:=h.fn k hk f hf;omega⟩
theorem cZ {α:Type}{l:List α}{i x}(h:x∈l.eraseIdx i):x∈l:=(List.eraseIdx_sublist l i).mem h
theorem mem_modify {α:Type}{l:List α}{i f x}(h:x∈l.modify i f):x∈l\/∃y∈l,x=f y:=by
 obtain⟨j,hj⟩:=zN h;rw[List.getElem?_modify]at hj;obtain⟨y,hy,he⟩:=xG.1 hj;have hm:=zA hy;by_cases e:i=j
 .rw[if_pos e]at he;exact .inr ⟨y,hm,he.symm⟩
 .rw[if_neg e]at he;exact .inl (he▸hm)
theorem iW {α:Type}{l:List α}{i y x}(h:x∈l.set i y):x∈l\/x=y:=by
 rcases List.mem_or_eq_of_mem_set h with h |h
 .exact .inl h
 .exact .inr h
theorem WE {l c fs}(hl:l.length<=8)(hn:∀f∈l,f.nm.size<=1048576)(hc:ED c)(h:jx l c=some fs):fs.length<=9/\∀f∈fs,f.nm.size<=1048576:=by
 unfold jx at h;split at h
 .injection h with h
  subst h;refine⟨by simp;omega,λf hf=>?_⟩;rcases zM.1 hf with hf |hf
  .exact hn f hf
  .simp at hf;subst hf;exact hc.nm
 .split at h
  .cases h
  .rename_i k hk;have ux:=uF hk;split at h
   .injection h with h
    subst h;exact⟨by rw[List.length_eraseIdx_of_lt ux];omega,λf hf=>hn f (cZ hf)⟩
   .split at h
    .injection h with h
     subst h;refine⟨by simp;omega,λf hf=>?_⟩;rcases mem_modify hf with hf |⟨y,hy,rfl⟩
     .exact hn f hf
     .exact hc.nm
    .split at h
     .injection h with h
      subst h;refine⟨?_,λf hf=>?_⟩
      .obtain⟨x,hx⟩:=av ux;unfold yu;rw[hx];simp[List.length_eraseIdx_of_lt ux];omega
      .unfold yu at hf;rcases zM.1 hf with hf |hf
       .exact hn f (cZ (List.mem_of_mem_take hf))
       .rcases zM.1 hf with hf |hf
        .exact hn f (zA (by simpa using hf))
        .exact hn f (cZ (List.mem_of_mem_drop hf))
     .cases h
theorem NZ {l l' c}(hl:nO l)(hc:ED c)(h:l6 l c=some l'):l'.length<=17/\∀k∈l',Gr k:=by
 have h0:=hl.ZN;have hlen:=hl.len;unfold l6 at h;split at h
 .injection h with h
  subst h;refine⟨by simp;omega,λk hk=>?_⟩;rcases zM.1 hk with hk |hk
  .exact h0 k hk
  .simp at hk;subst hk;refine⟨hc.ty,by have:=hc.ats.1;simpa[lS] using this,λf hf=>?_⟩;simp[lS]at hf;obtain⟨a,ha,rfl⟩:=hf;exact hc.ats.2 a ha
 .split at h
  .split at h
   .cases h
   .rename_i i hi;have iT:=lC hi;split at h
    .injection h with h
     subst h;exact⟨by rw[List.length_eraseIdx_of_lt iT];omega,λk hk=>h0 k (cZ hk)⟩
    .split at h
     .injection h with h
      subst h;refine⟨by simp;omega,λk hk=>?_⟩;rcases mem_modify hk with hk |⟨y,hy,rfl⟩
      .exact h0 k hk
      .exact⟨hc.nm,(h0 y hy).fs⟩
     .split at h
      .cases h
      .rename_i k hk;obtain⟨fs,hfs,rfl⟩:=xG.1 h;have Ch:=zA hk;obtain⟨s1,s2⟩:=WE (hl.fl k Ch) (λf hf=>by have:=hl.fn k Ch f hf;omega) hc hfs;refine⟨by simp;omega,λx hx=>?_⟩;rcases iW hx with hx |rfl
       .exact h0 x hx
       .exact⟨(h0 k Ch).nm,by show fs.length<=_;omega,s2⟩
  .cases h
theorem Ef {l:List Kd}(h1:l.length<=17)(h2:∀k∈l,Gr k):iI (l.map cR):=⟨by simp;omega,λt ht=>by
 obtain⟨k,hk,rfl⟩:=List.mem_map.1 ht;exact⟨(h2 k hk).nm,(h2 k hk).fs.szS⟩⟩
theorem WG {l}(h1:l.length<=17)(h2:∀k∈l,Gr k):SzK l:=⟨oQ,λk hk=>by have:=(h2 k hk).fs.1;omega⟩
theorem N4 (S):(fu S).map cR=S:=by
 apply List.ext_getElem?;intro i;simp only[fu,zG,xQ];cases S[i]? with
 |none=>rfl
 |some t=>
  show some (Td.mk t.name ((e9 t.attrs).map (·.nm)))=some t
  have:(e9 t.attrs).map (·.nm)=t.attrs:=by
   apply List.ext_getElem?;intro j;simp only[e9,zG,xQ];cases t.attrs[j]? <;>rfl
  rw[this]
theorem Dm {S L k}(h0:dy S=0)(h:∀j,j<k->eH S L j):dy ((aD S L k).map cR)=0:=by
 cases k with
 |zero=>rw[show aD S L 0=fu S from rfl,N4];exact h0
 |succ k=>
  obtain⟨c,l,h1,h2,h3⟩:=h k oQ;rw[mI h1 h2];exact h3
def nC (S:List Td)(L:List Cg)(w:World)(e:Ending)(w':World):Prop:=∃v code at_ T,e=.returned (.tuple #[v,.int .i64 code,.int .i64 at_])/\fJ S L T code at_/\
 (∀t,T=some t->nO t/\Rd w' (λb=>b<w'.heap.size) v (.sl t.length (t.flatMap lW)))/\Bw w w'
theorem nC.bad {S L w w' v code at_}(h:fJ S L none code at_)(hb:Bw w w'):nC S L w (.returned (.tuple #[v,.int .i64 code,.int .i64 at_])) w':=
 ⟨v,code,at_,none,rfl,h,(λt h=>by cases h),hb⟩
def N7 (w:World)(S:List Td)(L:List Cg)(v x:Value)(wr:World):Prop:=
 ∃j:Nat,j<=L.length/\x=.int .i64 j/\Rd wr (λb=>b<wr.heap.size) v (.sl (aD S L j).length ((aD S L j).flatMap lW))/\(∀i,i<j->eH S L i)/\Bw w wr
theorem N7.mk {w S L v x wr}(j)(h1:j<=L.length)(h2:x=.int .i64 j)(h3:Rd wr (λb=>b<wr.heap.size) v (.sl (aD S L j).length ((aD S L j).flatMap lW)))(h4:∀i,i<j->eH S L i)(h5:Bw w wr):N7 w S L v x wr:=⟨j,h1,h2,h3,h4,h5⟩
theorem N8 {S L j c}(h:L[j]? =some c)(hc:l6 (aD S L j) c=none):¬eH S L j:=by
 rintro⟨c',l,h1,h2,_⟩;rw[h]at h1;injection h1 with h1;subst h1;rw[hc]at h2;cases h2
theorem N9 {S L j c l}(h:L[j]? =some c)(hc:l6 (aD S L j) c=some l)(hs:dy (l.map cR)≠0):¬eH S L j:=by
 rintro⟨c',l',h1,h2,h3⟩;rw[h]at h1;injection h1 with h1;subst h1;rw[hc]at h2;injection h2 with h2;subst h2;exact hs h3
theorem Oa {S L j c l}(h:L[j]? =some c)(hc:l6 (aD S L j) c=some l)(hs:dy (l.map cR)=0)(ho:∀i,i<j->eH S L i):∀i,i<j+1->eH S L i:=λi hi=>by
 by_cases e:i=j
 .subst e;exact⟨c,l,h,hc,hs⟩
 .exact ho i oQ
namespace di
open cH
theorem uH (A B ca cb F G S L)(hS:iI S)(hL:L.length<=1048576)(hC:∀c∈L,ED c)(w)(hK:cW w)(hF:∀b,F b->b<w.heap.size)(hG:∀b,G b->b<w.heap.size)(r:Rd w F (.slice A S.length ca) (.sl S.length (S.flatMap fj)))(rc:Rd w G (.slice B L.length cb) (.sl L.length (L.flatMap pB))):
  Cl 42 #[.agg #[.slice A S.length ca],.slice B L.length cb] w (nC S L w):=by
 have h0:Bw w (w.alloc (.cells ⟨[.slice A S.length ca]⟩ 24)):=bA;have k1:Cl 77 #[.agg #[.slice A S.length ca]] (w.alloc (.cells ⟨[.slice A S.length ca]⟩ 24)) λe w'=>e=.returned (.int .i64 (dy S))/\Below (w.alloc (.cells ⟨[.slice A S.length ca]⟩ 24)).heap.size (w.alloc (.cells ⟨[.slice A S.length ca]⟩ 24)) w':=
  gW A ca F S hS _ (hK.stay h0) (λb h=>zF (hF b h) h0.size) (r.under h0 hF)
 have k2:∀W,Bw w W->Cl 78 #[.agg #[.slice A S.length ca]] W λe w'=>∃v,e=.returned v/\OL w' W.heap.size (λb=>b<w'.heap.size) 171 3 v S.length ((fu S).flatMap lW)/\Bw W w':=
  λW hW=>Sf A ca F S hS W (λb h=>zF (hF b h) hW.size) (r.under hW hF)
 have k3:∀(W:World)(B':Option Addr)(d':Nat)(l:List Kd)(c:Cg)(A':Option Addr)(c':Nat),nO l->ED c->Bw w W->Rd W (λb=>b<W.heap.size) (.slice A' l.length c') (.sl l.length (l.flatMap lW))->Rd W G (.slice B' c.ats.length d') (.sl c.ats.length (c.ats.flatMap aG))->
   Cl 79 #[.slice A' l.length c',.agg #[.int .i64 c.kd,.string c.ty,.string c.at_,.string c.nm,.slice B' c.ats.length d',.int .i64 c.n]] W (jr l c W):=λW B' d' l c A' c' hl hc hW ra rb=>
  NW A' B' c' d' _ G l c (by have:=hl.len;omega) (λk hk=>by have:=hl.fl k hk;omega) hc.ats.1 W (λ_ h=>h) (λb h=>zF (hG b h) hW.size) ra rb
 have k4:∀(W:World)(l:List Kd)(v:Value),l.length<=17->(∀k∈l,Gr k)->Rd W (λb=>b<W.heap.size) v (.sl l.length (l.flatMap lW))->Cl 48 #[v] W (Gp (l.map cR) W):=λW l v h1 h2 ra=>by
  obtain⟨A',c',rfl,_⟩:=ra.cU;exact HX A' c' _ l (WG h1 h2) W (λ_ h=>h) ra
 have k5:∀(W:World)(l:List Kd)(v:Value),l.length<=17->(∀k∈l,Gr k)->Bw w W->Rd W (λb=>b<W.heap.size) v (.sl (l.map cR).length ((l.map cR).flatMap fj))->Cl 77 #[.agg #[v]] W λe w'=>e=.returned (.int .i64 (dy (l.map cR)))/\Bw W w':=λW l v h1 h2 hW ra=>by
  obtain⟨A',c',rfl,_⟩:=ra.cU;exact gW A' c' _ (l.map cR) (Ef h1 h2) W (hK.stay hW) (λ_ h=>h) ra
 replace⟨k1,k2,k3,k4,k5,hC,hG,h0,rc⟩:=H9 k1 k2 k3 k4 k5 hC hG h0 rc;clear r hF hS;by_cases hs:dy S=0
 .by_cases hlen:32<L.length
  .have vJ:fJ S L none 290 32:=.inr (.inl ⟨hs,hlen,rfl,rfl,rfl⟩);rw[hs]at k1;have g0:(L.length:Int)>32:=oQ;replace vJ:=Hd vJ;go_enter func42,ntmps42;go_wp2_with (go_at_call 77;refine k1.o.mono ?_;rintro e w' ⟨rfl,az⟩);go_ret3;exact nC.bad vJ.o (h0.o.trans (az.mono h0.o.size))
  .have g0:¬(L.length:Int)>32:=oQ;rw[hs]at k1;have Gt:∀i,i<0->eH S L i:=λi hi=>by omega
   have vW:∀j,j<L.length->(∀i,i<j->eH S L i)->¬eH S L j->fJ S L none 290 j:=λj hj h1 h2=>.inr (.inr (.inl ⟨hs,oQ,j,hj,h1,h2,rfl,rfl,rfl⟩))
   have ae:(∀i,i<L.length->eH S L i)->fJ S L (some (aD S L L.length)) 0 0:=λh1=>.inr (.inr (.inr ⟨hs,oQ,h1,rfl,rfl,rfl⟩))
   have hsm:∀j,(∀i,i<j->eH S L i)->nO (aD S L j):=λj h=>nO.of (Dm hs h)
   replace⟨vW,ae,hsm,Gt⟩:=H4 vW ae hsm Gt;go_enter func42,ntmps42;go_wp2_with (first
    |(go_at_call 77;refine k1.o.mono ?_;rintro e w' ⟨rfl,az⟩;have uL:=Hd (h0.o.trans (az.mono h0.o.size));have y0:w'.cell? ⟨w.heap.size,0,none⟩=some (.slice A S.length ca):=(ao.stay (ao.new w 24 [.slice A S.length ca]) az).cell 0)
    |(go_at_call 78;refine(k2.o _ uL.o).mono ?_;rintro e w2 ⟨v,rfl,ax,cD⟩;have Gu:=Hd (uL.o.trans (cD.mono uL.o.size));replace ax:=Hd ax))
   go_loopw [8,9] (λv x wr=>N7 w S L v x wr) (λ_ x _=>L.length- (intOf x).toNat)
   .refine N7.mk 0 (zE _) rfl ?_ Gt.o Gu.o;show Rd _ _ _ (.sl (fu S).length _)
    rw[vT];exact ax.o.rd (λb h _=>h) (λb h h2=>h2)
   obtain⟨j,hj,rfl,hR,cK,hB⟩:=hrel;have hm:=Hd (hsm.o j cK);replace cK:=Hd cK;by_cases hlt:j<L.length
   .obtain⟨c,hc⟩:=av hlt;have hcs:=hC.o c (zA hc);obtain⟨b,off,rfl,Ke,hv,hsl⟩:=rc.o.cP (m:=6) (λ_=>rfl) hc oQ;have Gn:=hG.o b Ke;obtain⟨B2,d2,a4,r4⟩:=hsl 4 _ _ rfl;have v0:wr.cell? ⟨b,off+j*6,none⟩=some (.int .i64 c.kd):=(hB.cell (p:=⟨b,off+j*6,none⟩) Gn).trans (hv 0 _ rfl);have v1:wr.cell? ⟨b,off+j*6+1,none⟩=some (.string c.ty):=(hB.cell (p:=⟨b,off+j*6+1,none⟩) Gn).trans (hv 1 _ rfl);have v2:wr.cell? ⟨b,off+j*6+2,none⟩=some (.string c.at_):=(hB.cell (p:=⟨b,off+j*6+2,none⟩) Gn).trans (hv 2 _ rfl);have v3:wr.cell? ⟨b,off+j*6+3,none⟩=some (.string c.nm):=(hB.cell (p:=⟨b,off+j*6+3,none⟩) Gn).trans (hv 3 _ rfl);have v4:wr.cell? ⟨b,off+j*6+4,none⟩=some (.slice B2 c.ats.length d2):=(hB.cell (p:=⟨b,off+j*6+4,none⟩) Gn).trans a4;have v5:wr.cell? ⟨b,off+j*6+5,none⟩=some (.int .i64 c.n):=(hB.cell (p:=⟨b,off+j*6+5,none⟩) Gn).trans (hv 5 _ rfl);have g1:=aH j;have g2:=aV j L.length;obtain⟨A',c',rfl,_⟩:=hR.cU;have Ag:=Hd (k3.o wr B2 d2 (aD S L j) c A' c' hm.o hcs hB hR (r4.under hB hG.o));have nB:=λh=>vW.o j hlt cK.o h
    replace⟨nB,hcs⟩:=H2 nB hcs;clear hv hsl a4 r4;cases hch:l6 (aD S L j) c with
    |none=>
     have hno:=Hd (nB.o (N8 hc hch));replace hch:=Hd hch;clear hc;go_wp2_with (go_at_call 79;refine Ag.o.mono ?_;rintro e w' ⟨v,b,rfl,_,bL,az⟩;obtain rfl:=bL hch.o;clear bL);go_ret3;exact nC.bad hno.o (hB.trans (az.mono hB.size))
    |some l=>
     obtain⟨s1,s2⟩:=NZ hm.o hcs.o hch;replace s2:=Hd s2;by_cases BD:dy (l.map cR)=0
     .have WH:=Hd (Oa hc hch BD cK.o);have vJ:=Hd (mI hc hch);replace hch:=Hd hch;clear hc;go_wp2_with (first
       |(go_at_call 79;refine Ag.o.mono ?_;rintro e w' ⟨v,b,rfl,gp,_,az⟩;obtain⟨rfl,j7⟩:=gp l hch.o;clear gp;have a9:=Hd (hB.trans (az.mono hB.size));replace j7:=Hd j7)
       |(go_at_call 48;refine(k4.o _ l _ s1 s2.o j7.o).mono ?_;rintro e w2 ⟨u,rfl,iK,cD⟩;have aX:=Hd (a9.o.trans (cD.mono a9.o.size));replace iK:=Hd iK)
       |(go_at_call 77;refine(k5.o _ l _ s1 s2.o aX.o (iK.o.rd (λb h _=>h.2) (λb _ h=>h))).eQ λw3 ig=>?_;rw[BD]))
      go_roundw
      .refine N7.mk (j+1) oQ gQ ?_ WH.o (aX.o.trans (ig.mono aX.o.size));rw[vJ.o];exact((j7.o.stay cD).stay ig).mono λb h h2=>h2
      exact mQ
     .have hno:=Hd (nB.o (N9 hc hch BD));have hne:(dy (l.map cR)==0)=false:=by simpa using BD
      replace hch:=Hd hch;clear hc;go_wp2_with (first
       |(go_at_call 79;refine Ag.o.mono ?_;rintro e w' ⟨v,b,rfl,gp,_,az⟩;obtain⟨rfl,j7⟩:=gp l hch.o;clear gp;have a9:=Hd (hB.trans (az.mono hB.size));replace j7:=Hd j7)
       |(go_at_call 48;refine(k4.o _ l _ s1 s2.o j7.o).mono ?_;rintro e w2 ⟨u,rfl,iK,cD⟩;have aX:=Hd (a9.o.trans (cD.mono a9.o.size));replace iK:=Hd iK)
       |(go_at_call 77;refine(k5.o _ l _ s1 s2.o aX.o (iK.o.rd (λb h _=>h.2) (λb _ h=>h))).eQ λw3 ig=>?_))
      go_ret3;exact nC.bad hno.o (aX.o.trans (ig.mono aX.o.size))
   .obtain rfl:j=L.length:=oQ;have hf:=Hd (ae.o cK.o);replace⟨hR,hB⟩:=H2 hR hB;go_wp2;go_ret3;exact⟨_,_,_,_,rfl,hf.o,λt h=>by injection h with h;subst h;exact⟨hm.o,hR.o⟩,hB.o⟩
 .have vJ:fJ S L none (dy S) 0:=.inl ⟨hs,rfl,rfl,rfl⟩;have hne:(dy S==0)=false:=by simpa using hs
  replace vJ:=Hd vJ;go_enter func42,ntmps42;go_wp2_with (go_at_call 77;refine k1.o.mono ?_;rintro e w' ⟨rfl,az⟩);go_ret3;exact nC.bad vJ.o (h0.o.trans (az.mono h0.o.size))
end di
def Tt (T:Option (List Kd)):List Td:=(T.getD []).map cR
def WI (S:List Td)(L:List Cg)(w:World)(e:Ending)(w':World):Prop:=∃v code at_ T,e=.returned (.tuple #[.agg #[v],.int .i64 code,.int .i64 at_])/\fJ S L T code at_/\
 (∀t,T=some t->nO t)/\Rd w' (λb=>w.heap.size<=b/\b<w'.heap.size) v (.sl (Tt T).length ((Tt T).flatMap fj))/\Bw w w'
theorem fJ.ok {S L T a}(h:fJ S L T 0 a):∃t,T=some t/\a=0:=by
 rcases h with⟨h1,_,h2,_⟩|⟨_,_,_,h2,_⟩|⟨_,_,k,_,_,_,_,h2,_⟩|⟨_,_,_,h1,_,h2⟩
 .exact absurd h2.symm h1
 .cases h2
 .cases h2
 .exact⟨_,h1,h2⟩
theorem fJ.no {S L T c a}(h:fJ S L T c a)(hc:c≠0):T=none:=by
 rcases h with⟨h1,h2,_⟩|⟨_,_,h2,_,_⟩|⟨_,_,k,_,_,_,h2,_⟩|⟨_,_,_,_,h2,_⟩
 .exact h2
 .exact h2
 .exact h2
 .exact absurd h2 hc
namespace di
open cH
theorem Eh (A B ca cb F G S L)(hS:iI S)(hL:L.length<=1048576)(hC:∀c∈L,ED c)(w)(hK:cW w)(hF:∀b,F b->b<w.heap.size)(hG:∀b,G b->b<w.heap.size)(r:Rd w F (.slice A S.length ca) (.sl S.length (S.flatMap fj)))(rc:Rd w G (.slice B L.length cb) (.sl L.length (L.flatMap pB))):
  Cl 26 #[.agg #[.slice A S.length ca],.slice B L.length cb] w (WI S L w):=by
 have h0:Bw w ((w.alloc (.cells ⟨[.slice A S.length ca]⟩ 24)).alloc (.cells ⟨[.slice none 0 0]⟩ 24)):=(bA).alloc sJ _;have bL:ao ((w.alloc (.cells ⟨[.slice A S.length ca]⟩ 24)).alloc (.cells ⟨[.slice none 0 0]⟩ 24)) (w.heap.size+1) 24 [.slice none 0 0]:=ao.new' sJ;have kt:Cl 42 #[.agg #[.slice A S.length ca],.slice B L.length cb] ((w.alloc (.cells ⟨[.slice A S.length ca]⟩ 24)).alloc (.cells ⟨[.slice none 0 0]⟩ 24)) (nC S L ((w.alloc (.cells ⟨[.slice A S.length ca]⟩ 24)).alloc (.cells ⟨[.slice none 0 0]⟩ 24))):=
  uH A B ca cb F G S L hS hL hC _ (hK.stay h0) (λb h=>zF (hF b h) h0.size) (λb h=>zF (hG b h) h0.size) (r.under h0 hF) (rc.under h0 hG)
 have kp:∀(W:World)(l:List Kd)(v:Value),nO l->Rd W (λb=>b<W.heap.size) v (.sl l.length (l.flatMap lW))->Cl 48 #[v] W (Gp (l.map cR) W):=λW l v h1 ra=>by
  obtain⟨A',c',rfl,_⟩:=ra.cU;exact HX A' c' _ l h1.szK W (λ_ h=>h) ra
 replace⟨h0,bL,kt,kp⟩:=H4 h0 bL kt kp;clear hK hF hG r rc hC;go_enter func26,ntmps26;go_upto_region 2 with(go_at_call 42;refine kt.o.mono ?_;rintro e w' ⟨v,code,at_,T,rfl,hM,hT,az⟩)
 have uQ:=bL.o.stay az;have uL:=Hd (h0.o.trans (az.mono h0.o.size));have f0:w'.cell? ⟨w.heap.size+1,0,none⟩=some (.slice none 0 0):=uQ.cell 0;have f1:w'.frozen? ⟨w.heap.size+1,0,none⟩=false:=uQ.frozen 0;have hlt:=uQ.lt;replace uQ:=Hd uQ;by_cases hc:code=0
 .subst hc;obtain⟨t,rfl,rfl⟩:=hM.ok;obtain⟨hm,hR⟩:=hT t rfl;have hm':=Hd hm;have hk:=Hd (kp.o w' t v hm hR);replace hM:=Hd hM;clear hT hR hm;go_wp2_with (go_at_call 48;refine hk.o.mono ?_;rintro e w2 ⟨u,rfl,hO,cD⟩;obtain⟨U,cu,rfl⟩:=hO.form;have f2:w2.cell? ⟨w.heap.size+1,0,none⟩=some (.slice none 0 0):=(uQ.o.stay cD).cell 0;have f3:w2.frozen? ⟨w.heap.size+1,0,none⟩=false:=(uQ.o.stay cD).frozen 0);rw[xC]at hO;have e1:ao (w2.setCell ⟨w.heap.size+1,0,none⟩ (.slice U t.length cu)) (w.heap.size+1) 24 [.slice U t.length cu]:=(uQ.o.stay cD).dz 0 _;have e2:Rd (w2.setCell ⟨w.heap.size+1,0,none⟩ (.slice U t.length cu)) (λb=>w.heap.size<=b/\b<(w2.setCell ⟨w.heap.size+1,0,none⟩ (.slice U t.length cu)).heap.size) (.slice U t.length cu) (.sl (Tt (some t)).length ((Tt (some t)).flatMap fj)):=by
   have iK:=hO.setCell (p:=⟨w.heap.size+1,0,none⟩) (λe=>by have:=(hO.lt _ e).1;simp at this;omega) (by show¬(w'.heap.size<=w.heap.size+1/\_);omega) (.slice U t.length cu);rw[show(Tt (some t)).length=t.length from xC ..];exact iK.rd (λb h1 h=>⟨oQ,h⟩) (λb h1 h=>⟨oQ,h⟩)
  have e3:Bw w (w2.setCell ⟨w.heap.size+1,0,none⟩ (.slice U t.length cu)):=(uL.o.trans (cD.mono uL.o.size)).setCell (by show _<=w.heap.size+1;omega) _;exact yF rfl e1 DT rfl rfl rfl rfl ⟨_,_,_,_,rfl,hM.o,λt' h=>(by injection h with h;subst h;exact hm'.o),e2,e3⟩
 .have hne:(code==0)=false:=by simpa using hc
  obtain rfl:=hM.no hc;replace hM:=Hd hM;clear hT hc;go_wp2;have e1:ao (w'.setCell ⟨w.heap.size+1,0,none⟩ (.slice none 0 0)) (w.heap.size+1) 24 [.slice none 0 0]:=uQ.o.dz 0 _;have e3:Bw w (w'.setCell ⟨w.heap.size+1,0,none⟩ (.slice none 0 0)):=uL.o.setCell (by show _<=w.heap.size+1;omega) _;exact yF rfl e1 DT rfl rfl rfl rfl ⟨_,_,_,_,rfl,hM.o,λt' h=>(by cases h),Rd.nil _ _,e3⟩
end di
theorem ao.setCells {g t}(cs'):∀(o:Nat)(w:World)(cs:List Value),ao w g t cs->o+cs'.length<=cs.length->ao (w.setCells g o cs') g t (cs.take o++cs'++cs.drop (o+cs'.length))/\w.grownBy (w.setCells g o cs') (some g):=by
 induction cs' with
 |nil=>
  intro o w cs h hl;simp only[World.setCells,zT,List.length_nil,Nat.add_zero,List.take_append_drop];exact⟨h,World.grownBy.refl w _⟩
 |cons v r ih=>
  intro o w cs h hl;simp only[List.length_cons]at hl;obtain⟨h1,h2⟩:=ih (o+1) (w.setCell ⟨g,o,none⟩ v) (cs.set o v) (h.dz o v) (by simp;omega);refine⟨?_,?_⟩
  .have e1:(cs.set o v).take (o+1)=cs.take o++[v]:=by
    rw[zJ,xL,if_pos rfl,if_pos oQ,List.take_set_of_le nR];rfl
   have e2:(cs.set o v).drop (o+1+r.length)=cs.drop (o+(v::r).length):=by
    rw[List.drop_set_of_lt oQ,List.length_cons,show o+1+r.length=o+(r.length+1) by omega]
   rw[e1,e2]at h1;simpa[World.setCells] using h1
  .refine⟨h2.os,h2.tape,h2.output,?_,λk hk hne=>?_⟩
   .have:=h2.size;refine zU ?_ this;simp[World.setCell]
   .show(((w.setCell ⟨g,o,none⟩ v).setCells g (o+1) r).heap[k]?)=_
    rw[h2.block k (by simpa[World.setCell] using hk) hne];exact Below.heap_setCell _ _ _ _ (λe=>hne (by rw[e]))
theorem Pt (g cs):∀(o:Nat)(w:World),(w.setCells g o cs).heap.size=w.heap.size:=by
 induction cs with
 |nil=>intro o w;rfl
 |cons v r ih=>intro o w;rw[World.setCells,ih];simp[World.setCell]
theorem qk {P t e size bytes}(T:nW P t e size bytes)(h1:((P.info? e).bind (·.zero)).map (λz=>z.cells.toList.all Value.oneCell')=some true)(n)(hn:0<n):
  ∃zs:List Value,zs.length=n*size/\∀(ty:Nat)(w:World)(b o c:Nat),(∀j,j<n*size->(w.cell? ⟨b,o+j,none⟩).isSome=true)->(∀j,j<n*size->w.frozen? ⟨b,o+j,none⟩=false)->
   (Builtin.clear_ #[t] ty #[.slice (some ⟨b,o,none⟩) n c]).run P w=.ok (.tuple #[]) (w.setCells b o zs):=by
 obtain⟨ht,⟨i,z,hi,hz,nK,ju,EH⟩,hp⟩:=T;rw[hi]at h1;simp only[Option.bind_some,hz,Option.map_some,Option.some.injEq]at h1;have hv:∀w,(zeroValue e).run P w=.ok z w:=λw=>by simp[zeroValue,typeInfo,hi,hz]
 refine⟨(Builtin.zeroCells z.cells n).toList,by simp[Builtin.zeroCells,EH],λty w b o c hc hf=>?_⟩;have hl:(Builtin.zeroCells z.cells n).toList.length=n*size:=by simp[Builtin.zeroCells,EH]
 have xu:∀v∈(Builtin.zeroCells z.cells n).toList,v.oneCell'=true:=by
  intro v hv;simp only[Builtin.zeroCells,Array.toList_map,List.mem_map]at hv;obtain⟨k,_,rfl⟩:=hv;have hk:k % z.cells.size<z.cells.size:=Nat.mod_lt _ oQ;rw[getElem!_pos z.cells _ hk];exact xP.1 h1 _ (Array.getElem_mem_toList hk)
 have hst:=run_storeCells_cells (P:=P) b o (Builtin.zeroCells z.cells n).toList 0 w (by rw[hl];simpa using hc) (by rw[hl];simpa using hf) xu;simp only[Nat.add_zero]at hst;obtain⟨m,rfl⟩:∃m,n=m+1:=⟨n-1,oQ⟩
 simp[Builtin.clear_,run_underlying ht,hv,hst]
theorem run_copy_row {P t e size bytes}(ty:Nat)(T:nW P t e size bytes)(w b o ZX ae5 a ZY ae6 m cs)(hm:m=Nat.min ZY ZX)(hn:cs.length=m*size)(ik:∀j v,cs[j]? =some v->w.cell? (a.add j)=some v)(hc:∀j,j<cs.length->(w.cell? ⟨b,o+j,none⟩).isSome=true)(hf:∀j,j<cs.length->w.frozen? ⟨b,o+j,none⟩=false)(h1:∀v∈cs,v.oneCell'=true):
  (Builtin.copy_ #[t,t] ty #[.slice (some ⟨b,o,none⟩) ZX ae5,.slice (some a) ZY ae6]).run P w=.ok (goInt m) (w.setCells b o cs):=by
 obtain⟨ht,⟨i,z,hi,hz,nK,ju,EH⟩,hp⟩:=T;have hl:=run_loadCells_list (P:=P) w a cs ik;have hst:=run_storeCells_cells (P:=P) b o cs 0 w (by simpa using hc) (by simpa using hf) h1;rw[hn]at hl;simp[Builtin.copy_,run_underlying ht,Builtin.lenOf,Builtin.firstCells,sizeOf,typeInfo,hi,nK,<-hm,hl,hst]
theorem OL.vM {w B e size n g cap F ds}(h:OL w B F e size (.slice (some ⟨g,0,none⟩) n cap) n ds):
  ∃cs,B<=g/\ao w g e cs/\n<=cap/\cap<=maxLen/\cs.length=cap*size/\ds.length=n*size/\∀(k:Nat)(d:D),ds[k]? =some d->∃u,cs[k]? =some u/\Rd w (λb=>F b/\b≠g) u d:=by
 obtain⟨cells,⟨h1,h2⟩,h3,h4⟩:=h;rcases h2 with⟨h2,_⟩|⟨g',cap',cur,h2,hB,hb,Ct,hm,hs,ht⟩
 .cases h2
 .injection h2 with e1 e2 e3
  injection e1 with e1
  injection e1 with e1 e4
  subst e1 e3;refine⟨cur.toList,hB,hb,Ct,hm,by simpa using hs,by rw[h3,h1],λk d hd=>?_⟩;obtain⟨u,hu,hr⟩:=h4 k d hd;refine⟨u,?_,hr.mono λb fA _=>⟨fA.1,λe=>fA.2 (by rw[e];rfl)⟩⟩;rw[<-ht,zZ]at hu;split at hu
  .exact hu
  .cases hu
theorem OL.Gv {w B e size n g cap F ds cs}(hB:B<=g)(hb:ao w g e cs)(hn:n<=cap)(hm:cap<=maxLen)(hl:cs.length=cap*size)(hd:ds.length=n*size)(h:∀(k:Nat)(d:D),ds[k]? =some d->∃u,cs[k]? =some u/\Rd w (λb=>F b/\b≠g) u d):OL w B F e size (.slice (some ⟨g,0,none⟩) n cap) n ds:=by
 have hns:n*size<=cap*size:=Nat.mul_le_mul hn nR;refine⟨cs.take (n*size),⟨by simp;omega,.inr ⟨g,cap,⟨cs⟩,rfl,hB,hb,hn,hm,by simpa using hl,rfl⟩⟩,by simp;omega,λk d hk=>?_⟩;obtain⟨u,hu,hr⟩:=h k d hk;refine⟨u,?_,hr.mono λb fA _=>⟨fA.1,λe=>fA.2 (by simpa[Value.ownBlock] using e)⟩⟩;have:=(zC.1 hk).1;rw[zZ,if_pos oQ];exact hu
theorem OL.cut {w w2 B e size n g cap k F ds cs CY}(h:OL w B F e size (.slice (some ⟨g,0,none⟩) n cap) n ds)(hg:w.grownBy w2 (some g))(hk:k<n)(hb:ao w g e cs)(df:ao w2 g e CY)(hl:CY.length=cs.length)(hc:CY.take ((n-1)*size)=cs.take (k*size)++(cs.take (n*size)).drop ((k+1)*size)):
  OL w2 B F e size (.slice (some ⟨g,0,none⟩) (n-1) cap) (n-1) (ds.take (k*size)++ds.drop ((k+1)*size)):=by
 obtain⟨cs',hB,fA,Ct,hm,hlen,hd,hr⟩:=h.vM;have e1:cs'=cs:=by
  unfold ao at hb fA;rw[hb]at fA;injection fA with e;injection e with e;injection e with e;exact e.symm
 subst e1;have uv:k*size+size<=n*size:=by rw[<-Nat.succ_mul];exact Nat.mul_le_mul hk nR
 have J5:(k+1)*size=k*size+size:=Nat.succ_mul _ _;have zy:(n-1)*size+size=n*size:=by rw[<-Nat.succ_mul,show(n-1).succ=n by omega]
 have ae7:n*size<=cap*size:=Nat.mul_le_mul Ct nR;refine OL.Gv hB df oQ hm oQ (by simp;omega) λj d hj=>?_
 have S6:=(zC.1 hj).1;simp at S6;have jj:CY[j]? =(CY.take ((n-1)*size))[j]? :=by rw[zZ,if_pos oQ]
 rw[jj,hc];have nQ:∀u y,Rd w (λb=>F b/\b≠g) u y->Rd w2 (λb=>F b/\b≠g) u y:=λu y h=>h.grown hg λb hb=>by simpa using hb.2
 by_cases JW:j<k*size
 .rw[zS (by simp;omega),zZ,if_pos JW]at hj;obtain⟨u,hu,hx⟩:=hr j d hj;exact⟨u,by rw[zS (by simp;omega),zZ,if_pos JW];exact hu,nQ _ _ hx⟩
 .have e5:(ds.take (k*size)).length=k*size:=by simp;omega
  have e6:(cs'.take (k*size)).length=k*size:=by simp;omega
  rw[zP oQ,e5,xT]at hj;obtain⟨u,hu,hx⟩:=hr _ d hj;refine⟨u,?_,nQ _ _ hx⟩;have:=(zC.1 hj).1;rw[zP oQ,e6,xT,zZ,if_pos oQ];exact hu
theorem yV {cs news zs Us:List Value}{a b X}(hX:X=a+news.length)(ha:a<=cs.length):((cs.take a++news++cs.drop b).take X++zs++Us).take X=cs.take a++news:=by
 have e1:(cs.take a).length=a:=by simp;omega
 have e2:(cs.take a++news).length=X:=by rw[zH,e1,hX]
 have e3:(cs.take a++news++cs.drop b).take X=cs.take a++news:=by rw[<-e2,List.take_left]
 rw[e3,zR,<-e2,List.take_left]
theorem OL.WJ {w w2 B e size n g cap k F ds vd vs cs CY}(h:OL w B F e size (.slice (some ⟨g,0,none⟩) n cap) n ds)(hg:w.grownBy w2 (some g))(hk:k<=n)(ZZ:n+1<=cap)(hb:ao w g e cs)(df:ao w2 g e CY)(hl:CY.length=cs.length)(hvl:vs.length=size)(hvd:vd.length=size)(hv:∀(j:Nat) d,vd[j]? =some d->∃u,vs[j]? =some u/\Rd w (λb=>F b/\b≠g) u d)(hc:CY.take ((n+1)*size)=cs.take (k*size)++vs++(cs.take (n*size)).drop (k*size)):
  OL w2 B F e size (.slice (some ⟨g,0,none⟩) (n+1) cap) (n+1) (ds.take (k*size)++vd++ds.drop (k*size)):=by
 obtain⟨cs',hB,fA,Ct,hm,hlen,hd,hr⟩:=h.vM;have e1:cs'=cs:=by
  unfold ao at hb fA;rw[hb]at fA;injection fA with e;injection e with e;injection e with e;exact e.symm
 subst e1;have uv:k*size<=n*size:=Nat.mul_le_mul hk nR;have J5:(n+1)*size=n*size+size:=Nat.succ_mul _ _;have ae7:(n+1)*size<=cap*size:=Nat.mul_le_mul ZZ nR;refine OL.Gv hB df ZZ hm oQ (by simp;omega) λj d hj=>?_
 have S6:=(zC.1 hj).1;simp at S6;have jj:CY[j]? =(CY.take ((n+1)*size))[j]? :=by rw[zZ,if_pos oQ]
 rw[jj,hc];have nQ:∀u y,Rd w (λb=>F b/\b≠g) u y->Rd w2 (λb=>F b/\b≠g) u y:=λu y h=>h.grown hg λb hb=>by simpa using hb.2
 have e5:(ds.take (k*size)).length=k*size:=by simp;omega
 have e6:(cs'.take (k*size)).length=k*size:=by simp;omega
 rw[zR]at hj |-;by_cases JW:j<k*size
 .rw[zS oQ,zZ,if_pos JW]at hj;obtain⟨u,hu,hx⟩:=hr j d hj;exact⟨u,by rw[zS oQ,zZ,if_pos JW];exact hu,nQ _ _ hx⟩
 .rw[zP oQ,e5]at hj;rw[zP oQ,e6];by_cases hj2:j-k*size<size
  .rw[zS oQ]at hj;obtain⟨u,hu,hx⟩:=hv _ d hj;exact⟨u,by rw[zS oQ];exact hu,nQ _ _ hx⟩
  .rw[zP oQ,hvd,xT]at hj;obtain⟨u,hu,hx⟩:=hr _ d hj;refine⟨u,?_,nQ _ _ hx⟩;have:=(zC.1 hj).1;rw[zP oQ,hvl,xT,zZ,if_pos oQ];exact hu
theorem vX:nW prog 109 115 3 48:=.of underlying109 kQ oQ
theorem gZ:nW prog 113 117 3 32:=.of underlying113 kQ oQ
theorem Z0:((prog.info? 115).bind (·.zero)).map (λz=>z.cells.toList.all Value.oneCell')=some true:=kQ
theorem WK:((prog.info? 117).bind (·.zero)).map (λz=>z.cells.toList.all Value.oneCell')=some true:=kQ
namespace di
open cH
theorem vY (B g cap n k F ds w)(h:OL w B F 117 3 (.slice (some ⟨g,0,none⟩) n cap) n ds)(hk:k<n):
  Cl 119 #[.slice (some ⟨g,0,none⟩) n cap,.int .i64 (k:Int),.int .i64 ((k:Int)+1)] w λe w'=>e=.returned (.slice (some ⟨g,0,none⟩) (n-1) cap)/\
   OL w' B F 117 3 (.slice (some ⟨g,0,none⟩) (n-1) cap) (n-1) (ds.take (k*3)++ds.drop ((k+1)*3))/\w.grownBy w' (some g):=by
 obtain⟨cs,hB,hb,Ct,hm,hlen,hd,hr⟩:=h.vM;obtain⟨i0,z0,qa,hz0,gp,bL,ae8⟩:=gZ.info;obtain⟨news,ja⟩:=aB ((cs.take (n*3)).drop ((k+1)*3))
 have tK:news.length=(n- (k+1))*3:=by rw[ja];simp;omega
 have xu:∀u∈news,u.oneCell'=true:=by
  intro u hu;rw[ja]at hu;obtain⟨j,hj⟩:=zN hu;rw[xT,zZ]at hj;split at hj
  .obtain⟨u',la,hx⟩:=hr ((k+1)*3+j) _ (zI oQ);rw[hj]at la;injection la with e;subst e
   exact hx.one
  .cases hj
 obtain⟨A,hA,ik⟩:∃A:Addr,(if cap=k+1 then some (⟨g,0,none⟩:Addr)else some ⟨g,(k+1)*3,none⟩)=some A/\Hid (∀t u,news[t]? =some u->w.drew.cell? (A.add t)=some u):=by
  by_cases hc:cap=k+1
  .refine⟨⟨g,0,none⟩,by simp[hc],Hd λt u hu=>?_⟩;have h0:news.length=0:=by rw[tK];omega
   rw[List.length_eq_zero_iff.1 h0]at hu;simp at hu
  .refine⟨⟨g,(k+1)*3,none⟩,by simp[hc],Hd λt u hu=>?_⟩;rw[ja,xT,zZ]at hu;split at hu
   .rw[jT];exact(hb.cell _).trans hu
   .cases hu
 have ch:=ao.setCells news (k*3) w.drew cs hb (by rw[tK,hlen];omega);obtain⟨W1,a9⟩:=aB (w.drew.setCells g (k*3) news)
 rw[<-a9]at ch;obtain⟨ch,aw⟩:=ch;obtain⟨zs,hzl,gE⟩:=qk (P:=prog) gZ WK (n- (n-1)) oQ;have Ob:(cs.take (k*3)++news++cs.drop (k*3+news.length)).length=cs.length:=by simp;omega
 have df:=ao.setCells zs ((n-1)*3) W1 _ ch (by rw[Ob,hzl];omega);have hrun:∀ty c,(Builtin.clear_ #[113] ty #[.slice (some ⟨g,(n-1)*3,none⟩) (n- (n-1)) c]).run prog W1=.ok (.tuple #[]) (W1.setCells g ((n-1)*3) zs):=λty c=>
  gE ty W1 g _ c (λj hj=>by rw[ch.cell];simp;omega) (λj hj=>ch.frozen _)
 have s1:Hid (news.length=(n- (k+1))*3):=Hd tK;have s2:=Hd xu;have s3:Hid (∀t,t<news.length->(w.drew.cell? ⟨g,0+k*3+t,none⟩).isSome=true/\w.drew.frozen? ⟨g,0+k*3+t,none⟩=false):=Hd λt ht=>by
  refine⟨?_,hb.frozen _⟩;show(w.cell? _).isSome=true
  rw[hb.cell];simp;omega
 have hW:Hid (W1=w.drew.setCells g (0+k*3) news):=Hd (by rw[Nat.zero_add];exact a9);have ae:OL (W1.setCells g ((n-1)*3) zs) B F 117 3 (.slice (some ⟨g,0,none⟩) (n-1) cap) (n-1) (ds.take (k*3)++ds.drop ((k+1)*3))/\w.grownBy (W1.setCells g ((n-1)*3) zs) (some g):=by
  have hg:w.grownBy (W1.setCells g ((n-1)*3) zs) (some g):=by
   have mS:w.grownBy W1 (some g):=iD aw;exact⟨df.2.os.trans mS.os,df.2.tape.trans mS.tape,df.2.output.trans mS.output,zU mS.size df.2.size,λj hj hne=>(df.2.block j (zF hj mS.size) hne).trans (mS.block j hj hne)⟩
  refine⟨h.cut hg hk hb df.1 ?_ ?_,hg⟩
  .simp;omega
  .rw[yV (X:=(n-1)*3) (a:=k*3) oQ oQ];rw[ja]
 have IE:k<=cap:=oQ;have p0:(0:Int)<=(k:Int)+1:=oQ;have p1:(k:Int)+1<=(n:Int):=oQ;have p2:(k:Int)<=(cap:Int):=oQ;have p3:¬cap=n-1:=oQ;have hjc:k+1<=cap:=oQ;have qy:k+(n- (k+1))=n-1:=oQ;clear gE df ch aw Ob ja xu a9 hr;replace⟨hrun,ae⟩:=H2 hrun ae;go_enter func119,ntmps119;go_upto_region 5 with fail
 go_region_law ((refine step_append_room rfl (.tmp 22) (.tmp 25) 113 rfl 117 i0 3 gZ.sl qa gp g 0 k cap (by simp[Act.eval,Act.put]) A (n- (k+1)) (cap- (k+1)) news (by simp[Act.eval,Act.put]) s1.o ik.o s2.o oQ s3.o ?_;rw[<-hW.o]))
 all_goals
  go_wp2_with (simp only[hrun.o]);go_ret;exact⟨rfl,ae.o⟩
theorem JH (B g cap n k F ds w)(h:OL w B F 115 3 (.slice (some ⟨g,0,none⟩) n cap) n ds)(hk:k<n):
  Cl 117 #[.slice (some ⟨g,0,none⟩) n cap,.int .i64 (k:Int),.int .i64 ((k:Int)+1)] w λe w'=>e=.returned (.slice (some ⟨g,0,none⟩) (n-1) cap)/\
   OL w' B F 115 3 (.slice (some ⟨g,0,none⟩) (n-1) cap) (n-1) (ds.take (k*3)++ds.drop ((k+1)*3))/\w.grownBy w' (some g):=by
 obtain⟨cs,hB,hb,Ct,hm,hlen,hd,hr⟩:=h.vM;obtain⟨i0,z0,qa,hz0,gp,bL,ae8⟩:=vX.info;obtain⟨news,ja⟩:=aB ((cs.take (n*3)).drop ((k+1)*3))
 have tK:news.length=(n- (k+1))*3:=by rw[ja];simp;omega
 have xu:∀u∈news,u.oneCell'=true:=by
  intro u hu;rw[ja]at hu;obtain⟨j,hj⟩:=zN hu;rw[xT,zZ]at hj;split at hj
  .obtain⟨u',la,hx⟩:=hr ((k+1)*3+j) _ (zI oQ);rw[hj]at la;injection la with e;subst e
   exact hx.one
  .cases hj
 obtain⟨A,hA,ik⟩:∃A:Addr,(if cap=k+1 then some (⟨g,0,none⟩:Addr)else some ⟨g,(k+1)*3,none⟩)=some A/\Hid (∀t u,news[t]? =some u->w.drew.cell? (A.add t)=some u):=by
  by_cases hc:cap=k+1
  .refine⟨⟨g,0,none⟩,by simp[hc],Hd λt u hu=>?_⟩;have h0:news.length=0:=by rw[tK];omega
   rw[List.length_eq_zero_iff.1 h0]at hu;simp at hu
  .refine⟨⟨g,(k+1)*3,none⟩,by simp[hc],Hd λt u hu=>?_⟩;rw[ja,xT,zZ]at hu;split at hu
   .rw[jT];exact(hb.cell _).trans hu
   .cases hu
 have ch:=ao.setCells news (k*3) w.drew cs hb (by rw[tK,hlen];omega);obtain⟨W1,a9⟩:=aB (w.drew.setCells g (k*3) news)
 rw[<-a9]at ch;obtain⟨ch,aw⟩:=ch;obtain⟨zs,hzl,gE⟩:=qk (P:=prog) vX Z0 (n- (n-1)) oQ;have Ob:(cs.take (k*3)++news++cs.drop (k*3+news.length)).length=cs.length:=by simp;omega
 have df:=ao.setCells zs ((n-1)*3) W1 _ ch (by rw[Ob,hzl];omega);have hrun:∀ty c,(Builtin.clear_ #[109] ty #[.slice (some ⟨g,(n-1)*3,none⟩) (n- (n-1)) c]).run prog W1=.ok (.tuple #[]) (W1.setCells g ((n-1)*3) zs):=λty c=>
  gE ty W1 g _ c (λj hj=>by rw[ch.cell];simp;omega) (λj hj=>ch.frozen _)
 have s1:Hid (news.length=(n- (k+1))*3):=Hd tK;have s2:=Hd xu;have s3:Hid (∀t,t<news.length->(w.drew.cell? ⟨g,0+k*3+t,none⟩).isSome=true/\w.drew.frozen? ⟨g,0+k*3+t,none⟩=false):=Hd λt ht=>by
  refine⟨?_,hb.frozen _⟩;show(w.cell? _).isSome=true
  rw[hb.cell];simp;omega
 have hW:Hid (W1=w.drew.setCells g (0+k*3) news):=Hd (by rw[Nat.zero_add];exact a9);have ae:OL (W1.setCells g ((n-1)*3) zs) B F 115 3 (.slice (some ⟨g,0,none⟩) (n-1) cap) (n-1) (ds.take (k*3)++ds.drop ((k+1)*3))/\w.grownBy (W1.setCells g ((n-1)*3) zs) (some g):=by
  have hg:w.grownBy (W1.setCells g ((n-1)*3) zs) (some g):=by
   have mS:w.grownBy W1 (some g):=iD aw;exact⟨df.2.os.trans mS.os,df.2.tape.trans mS.tape,df.2.output.trans mS.output,zU mS.size df.2.size,λj hj hne=>(df.2.block j (zF hj mS.size) hne).trans (mS.block j hj hne)⟩
  refine⟨h.cut hg hk hb df.1 ?_ ?_,hg⟩
  .simp;omega
  .rw[yV (X:=(n-1)*3) (a:=k*3) oQ oQ];rw[ja]
 have IE:k<=cap:=oQ;have p0:(0:Int)<=(k:Int)+1:=oQ;have p1:(k:Int)+1<=(n:Int):=oQ;have p2:(k:Int)<=(cap:Int):=oQ;have p3:¬cap=n-1:=oQ;have hjc:k+1<=cap:=oQ;have qy:k+(n- (k+1))=n-1:=oQ;clear gE df ch aw Ob ja xu a9 hr;replace⟨hrun,ae⟩:=H2 hrun ae;go_enter func117,ntmps117;go_upto_region 5 with fail
 go_region_law ((refine step_append_room rfl (.tmp 22) (.tmp 25) 109 rfl 115 i0 3 vX.sl qa gp g 0 k cap (by simp[Act.eval,Act.put]) A (n- (k+1)) (cap- (k+1)) news (by simp[Act.eval,Act.put]) s1.o ik.o s2.o oQ s3.o ?_;rw[<-hW.o]))
 all_goals
  go_wp2_with (simp only[hrun.o]);go_ret;exact⟨rfl,ae.o⟩
end di
