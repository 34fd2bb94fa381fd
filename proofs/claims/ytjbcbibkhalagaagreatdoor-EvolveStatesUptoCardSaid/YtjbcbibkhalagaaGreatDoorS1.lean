/- States in plain Lean. -/
import Derived.Test.YtjbcbibkhalagaaGreatDoorY3
namespace Go.Proofs.YtjbcbibkhalagaaGreatDoor
set_option maxRecDepth 100000
set_option maxHeartbeats 16000000
open Proofs.Tryz Go.RowKit Go.Deep
set_option linter.unusedVariables false
set_option linter.unusedSimpArgs false
structure RG where
 ts:Int
 id:Int
def EF (x:RG):List Value:=[.int .i64 x.ts,.int .u64 x.id]
def qi (x:RG):List D:=[.v (.int .i64 x.ts),.v (.int .u64 x.id)]
structure XU where
 kn:Bool
 n:Int
def Jx (x:XU):List Value:=[.bool x.kn,.int .i64 x.n]
def uh (x:XU):List D:=[.v (.bool x.kn),.v (.int .i64 x.n)]
structure Mt where
 dec:Int
 iE:List RG
 lens:List Int
 vals:List XU
def Pk (m:Mt):List D:=[.v (.int .i64 m.dec),.sl m.iE.length (m.iE.flatMap qi),.sl m.lens.length (m.lens.flatMap (jf .i64)),.sl m.vals.length (m.vals.flatMap uh)]
def oc (e:Ev):List D:=[.v (.int .i64 e.ts),.v (.int .u64 e.id),.v (.int .i64 e.typ),.v (.int .i64 e.a0),.v (.int .i64 e.a1),.v (.int .i64 e.a2),.v (.int .i64 e.a3),.v (.int .i64 e.a4),.v (.int .i64 e.a5),.v (.int .i64 e.a6),.v (.int .i64 e.a7)]
structure tg where
 S:List Td
 q:Qy
 cap:Int
 mark:Int
 closed:Bool
 held:List Ev
 kept:List Ev
 wait:List Mt
 used:List RG
def HG (T:List Kd)(l:List Ev):List Ev:=l.filterMap λe=>if(oZ T e).2=true then some (oZ T e).1 else none
theorem DI {T}{l:List Ev}{j e}(h:l[j]? =some e):HG T (l.take (j+1))=HG T (l.take j)++(if(oZ T e).2=true then [(oZ T e).1]else []):=by
 unfold HG;rw[zJ,h,List.filterMap_append];congr 1;by_cases h2:(oZ T e).2=true<;>simp[h2]
theorem Bh (T l):(HG T l).length<=l.length:=List.length_filterMap_le _ _
open Classical in
noncomputable def g8 (S:List Td)(T:List Kd)(l:List Ev):Option (List Ev):=if∃e∈l,tj S e≠0 then none else some (HG T l)
theorem Nh {S T l e}(h:e∈l)(hc:tj S e≠0):g8 S T l=none:=if_pos ⟨e,h,hc⟩
theorem Ni {S T l}(h:∀e∈l,tj S e=0):g8 S T l=some (HG T l):=if_neg λ⟨e,h1,h2⟩=>h2 (h e h1)
def F9 (T:List Kd)(st:tg)(q':Qy)(h k:List Ev):tg:={st with S:=Tt (some T),q:=q',held:=h,kept:=k}
def xe (L:List Cg)(st:tg)(R:Option tg)(c a:Int):Prop:=∃Q c1 a1,iY st.S L st.q Q c1 a1/\((Q=none/\R=none/\c=c1/\a=a1)\/∃q',Q=some q'/\
 (((g8 st.S (aD st.S L L.length) st.held=none\/g8 st.S (aD st.S L L.length) st.kept=none)/\R=none/\c=160/\a=0)\/
  ∃h k,g8 st.S (aD st.S L L.length) st.held=some h/\g8 st.S (aD st.S L L.length) st.kept=some k/\R=some (F9 (aD st.S L L.length) st q' h k)/\c=0/\a=0))
theorem xe.uniq {L st R R' c c' a a'}(h:xe L st R c a)(h':xe L st R' c' a'):R'=R/\c'=c/\a'=a:=by
 obtain⟨Q,c1,a1,hq,h⟩:=h;obtain⟨Q',Y9,a1',hq',h'⟩:=h';obtain⟨rfl,rfl,rfl⟩:=hq.uniq hq';rcases h with⟨rfl,rfl,rfl,rfl⟩|⟨q',rfl,h⟩
 .rcases h' with⟨_,rfl,rfl,rfl⟩|⟨_,e,_⟩
  .exact⟨rfl,rfl,rfl⟩
  .cases e
 .rcases h' with⟨e,_⟩|⟨q2,e,h'⟩
  .cases e
  .injection e with e
   subst e;rcases h with⟨hn,rfl,rfl,rfl⟩|⟨x,k,h1,h2,rfl,rfl,rfl⟩<;>rcases h' with⟨hn',rfl,rfl,rfl⟩|⟨x',k',g1,g2,rfl,rfl,rfl⟩
   .exact⟨rfl,rfl,rfl⟩
   .rcases hn with hn |hn
    .rw[g1]at hn;cases hn
    .rw[g2]at hn;cases hn
   .rcases hn' with hn |hn
    .rw[h1]at hn;cases hn
    .rw[h2]at hn;cases hn
   .rw[h1]at g1;rw[h2]at g2;injection g1 with g1
    injection g2 with g2
    subst g1 g2;exact⟨rfl,rfl,rfl⟩
theorem iY.ok {S L q q' c a}(h:iY S L q (some q') c a):fJ S L (some (aD S L L.length)) 0 0/\c=0/\a=0:=by
 rcases h with⟨_,h⟩|⟨h1,h2⟩
 .cases h
 .refine⟨h1,?_⟩;by_cases h:bf (dy S) S q=0
  .cases hl:ei S q (dr S L L.length)with
   |some y=>rw[mL h hl]at h2;injection h2 with h2 _;cases h2
   |none=>
    cases ht:bK S (aD S L L.length) q with
    |none=>rw[mM h hl ht]at h2;injection h2 with h2 _;cases h2
    |some q2=>
     rw[mN h hl ht]at h2;injection h2 with _ h2
     injection h2 with h2 h3
     exact⟨h2,h3⟩
  .rw[mK h]at h2;injection h2 with h2 _
   cases h2
theorem iY.bad {S L q c a}(h:iY S L q none c a):c≠0:=by
 rcases h with⟨h,_⟩|⟨_,h2⟩
 .exact FQ h
 .by_cases h:bf (dy S) S q=0
  .cases hl:ei S q (dr S L L.length)with
   |some y=>rw[mL h hl]at h2;injection h2 with _ h2;injection h2 with h2 _;omega
   |none=>
    cases ht:bK S (aD S L L.length) q with
    |none=>rw[mM h hl ht]at h2;injection h2 with _ h2;injection h2 with h2 _;omega
    |some q2=>rw[mN h hl ht]at h2;injection h2 with h2 _;cases h2
  .rw[mK h]at h2;injection h2 with _ h2
   injection h2 with h2 _
   omega
theorem VL:nW prog 34 51 2 16:=.of underlying34 kQ oQ
theorem Zy:nW prog 53 57 2 16:=.of underlying53 kQ oQ
theorem VM:nW prog 33 55 4 80:=.of underlying33 kQ oQ
theorem Nj (x):fD (qi x):=λd hd=>by simp[qi]at hd;rcases hd with rfl |rfl<;>exact⟨_,rfl⟩
theorem Nk (x):fD (uh x):=λd hd=>by simp[uh]at hd;rcases hd with rfl |rfl<;>exact⟨_,rfl⟩
theorem Nl (x):fD (jf .i64 x):=λd hd=>by simp[jf]at hd;exact⟨_,hd⟩
namespace di
open cH dR
theorem yI (A c F)(l:List RG)(hl:l.length<=1048576)(w)(r:Rd w F (.slice A l.length c) (.sl l.length (l.flatMap qi))):
  Cl 21 #[.slice A l.length c] w λe w'=>∃v,e=.returned v/\OL w' w.heap.size eL 51 2 v l.length (l.flatMap qi)/\Bw w w':=by
 have qK:(l.flatMap qi).length=l.length*2:=BO (f:=qi) (m:=2) (λ_=>rfl) l;have Vl:∀(W:World)(a:Option Addr)(n c:Nat),(binOp .eql 34 (.slice a n c) (.slice none 0 0)).run prog W=.ok (.bool a.isNone) W:=λW a n c=>Lib.run_eql_slice_nil W _ _ a n c 0 0 underlying34
 cases A with
 |none=>
  obtain rfl:l=[]:=by
   cases l with
   |nil=>rfl
   |cons a l=>obtain⟨b,off,e,_⟩:=r.cells (by simp[qi]);cases e
  go_enter func21,ntmps21;go_wp2;go_ret;exact⟨_,rfl,.nil _ _ _ _ _,.refl _ _⟩
 |some a=>
  have r1:=r.alloc (.cells #[] 51);go_enter func21,ntmps21;go_wp2_with (at_builtin;refine ez rfl (.tmp 5) (.tmp 6) _ rfl (m:=l.length) (news:=l.flatMap qi) VL (OL.AV w 51 2) rfl rfl (Rd.Ie (fD.flatMap Nj l) r1) qK oQ oQ sJ ?_;intro v1 w1 ax aw bu;have ch:Bw w w1:=(bA).grown aw sJ (λq hq=>by simp[Value.ownBlock]at hq;omega));go_ret;exact⟨_,rfl,by simpa using ax,ch⟩
theorem Jy (A c F)(l:List Int)(hl:l.length<=1048576)(w)(r:Rd w F (.slice A l.length c) (.sl l.length (l.flatMap (jf .i64)))):
  Cl 22 #[.slice A l.length c] w λe w'=>∃v,e=.returned v/\OL w' w.heap.size eL 3 1 v l.length (l.flatMap (jf .i64))/\Bw w w':=by
 have qK:(l.flatMap (jf .i64)).length=l.length*1:=BO (f:=(jf .i64)) (m:=1) (λ_=>rfl) l;have Vl:∀(W:World)(a:Option Addr)(n c:Nat),(binOp .eql 52 (.slice a n c) (.slice none 0 0)).run prog W=.ok (.bool a.isNone) W:=λW a n c=>Lib.run_eql_slice_nil W _ _ a n c 0 0 underlying52
 cases A with
 |none=>
  obtain rfl:l=[]:=by
   cases l with
   |nil=>rfl
   |cons a l=>obtain⟨b,off,e,_⟩:=r.cells (by simp[jf]);cases e
  go_enter func22,ntmps22;go_wp2;go_ret;exact⟨_,rfl,.nil _ _ _ _ _,.refl _ _⟩
 |some a=>
  have r1:=r.alloc (.cells #[] 3);go_enter func22,ntmps22;go_wp2_with (at_builtin;refine ez rfl (.tmp 5) (.tmp 6) _ rfl (m:=l.length) (news:=l.flatMap (jf .i64)) dS (OL.AV w 3 1) rfl rfl (Rd.Ie (fD.flatMap Nl l) r1) qK oQ oQ sJ ?_;intro v1 w1 ax aw bu;have ch:Bw w w1:=(bA).grown aw sJ (λq hq=>by simp[Value.ownBlock]at hq;omega));go_ret;exact⟨_,rfl,by simpa using ax,ch⟩
theorem Jz (A c F)(l:List XU)(hl:l.length<=1048576)(w)(r:Rd w F (.slice A l.length c) (.sl l.length (l.flatMap uh))):
  Cl 23 #[.slice A l.length c] w λe w'=>∃v,e=.returned v/\OL w' w.heap.size eL 57 2 v l.length (l.flatMap uh)/\Bw w w':=by
 have qK:(l.flatMap uh).length=l.length*2:=BO (f:=uh) (m:=2) (λ_=>rfl) l;have Vl:∀(W:World)(a:Option Addr)(n c:Nat),(binOp .eql 53 (.slice a n c) (.slice none 0 0)).run prog W=.ok (.bool a.isNone) W:=λW a n c=>Lib.run_eql_slice_nil W _ _ a n c 0 0 underlying53
 cases A with
 |none=>
  obtain rfl:l=[]:=by
   cases l with
   |nil=>rfl
   |cons a l=>obtain⟨b,off,e,_⟩:=r.cells (by simp[uh]);cases e
  go_enter func23,ntmps23;go_wp2;go_ret;exact⟨_,rfl,.nil _ _ _ _ _,.refl _ _⟩
 |some a=>
  have r1:=r.alloc (.cells #[] 57);go_enter func23,ntmps23;go_wp2_with (at_builtin;refine ez rfl (.tmp 5) (.tmp 6) _ rfl (m:=l.length) (news:=l.flatMap uh) Zy (OL.AV w 57 2) rfl rfl (Rd.Ie (fD.flatMap Nk l) r1) qK oQ oQ sJ ?_;intro v1 w1 ax aw bu;have ch:Bw w w1:=(bA).grown aw sJ (λq hq=>by simp[Value.ownBlock]at hq;omega));go_ret;exact⟨_,rfl,by simpa using ax,ch⟩
end di
noncomputable def evR (S:List Td)(T:Option (List Kd))(e:Ev):Ev×Bool:=match T with
 |none=>(eK,false)
 |some t=>if tj S e=0 then oZ t e else(eK,false)
theorem Tv {S t e}(h:tj S e=0):evR S (some t) e=oZ t e:=if_pos h
theorem Zz {S t e}(h:tj S e≠0):evR S (some t) e=(eK,false):=if_neg h
def VN (S:List Td)(L:List Cg)(e:Ev)(w:World)(x:Ending)(w':World):Prop:=∃T code at_,fJ S L T code at_/\DJ (evR S T e) w x w'
structure FS (w wr:World)(v:Value)(e:Ev):Prop where
 hb:Bw w wr
 b3:ao wr w.heap.size 24 [v]
 b5:ao wr (w.heap.size+1) 49 (cS e)
 b6:ao wr (w.heap.size+1+1) 49 (cS eK)
theorem FS.stay {w wr w2 v e}(h:FS w wr v e)(hb:Bw wr w2):FS w w2 v e:=
 ⟨h.hb.trans (hb.mono h.hb.size),h.b3.stay hb,h.b5.stay hb,h.b6.stay hb⟩
theorem FS.new (w v e):FS w (((w.alloc (.cells ⟨[v]⟩ 24)).alloc (.cells ⟨cS e⟩ 49)).alloc (.cells ⟨cS eK⟩ 49)) v e:=
 ⟨((bA).alloc sJ _).alloc (by simp;omega) _,((ao.new _ _ _).alloc _).alloc _,(ao.new' sJ).alloc _,ao.new' sJ⟩
theorem FS.cells {w wr v e}(h:FS w wr v e):wr.cell? ⟨w.heap.size,0,none⟩=some v/\wr.cell? ⟨w.heap.size+1,0,none⟩=some (.int .i64 e.ts)/\wr.cell? ⟨w.heap.size+1,1,none⟩=some (.int .u64 e.id)/\
  wr.cell? ⟨w.heap.size+1,2,none⟩=some (.int .i64 e.typ)/\wr.cell? ⟨w.heap.size+1,3,none⟩=some (.int .i64 e.a0)/\wr.cell? ⟨w.heap.size+1,4,none⟩=some (.int .i64 e.a1)/\wr.cell? ⟨w.heap.size+1,5,none⟩=some (.int .i64 e.a2)/\
  wr.cell? ⟨w.heap.size+1,6,none⟩=some (.int .i64 e.a3)/\wr.cell? ⟨w.heap.size+1,7,none⟩=some (.int .i64 e.a4)/\wr.cell? ⟨w.heap.size+1,8,none⟩=some (.int .i64 e.a5)/\wr.cell? ⟨w.heap.size+1,9,none⟩=some (.int .i64 e.a6)/\wr.cell? ⟨w.heap.size+1,10,none⟩=some (.int .i64 e.a7):=
 ⟨h.b3.cell 0,h.b5.cell 0,h.b5.cell 1,h.b5.cell 2,h.b5.cell 3,h.b5.cell 4,h.b5.cell 5,h.b5.cell 6,h.b5.cell 7,h.b5.cell 8,h.b5.cell 9,h.b5.cell 10⟩
structure HS (w w1 wr:World)(v:Value)(e:Ev)(g:Nat)(cs:List Value):Prop where
 fs:FS w wr v e
 bt:Bw w1 wr
 bg:ao wr g 49 cs
 l1:w1.heap.size<=g
 l2:w.heap.size+1+1<w1.heap.size
theorem HS.stay {w w1 wr w2 v e g cs}(h:HS w w1 wr v e g cs)(hb:Bw wr w2):HS w w1 w2 v e g cs:=
 ⟨h.fs.stay hb,h.bt.trans (hb.mono h.bt.size),h.bg.stay hb,h.l1,h.l2⟩
theorem HS.put {w w1 wr v e g cs}(h:HS w w1 wr v e g cs)(i x):HS w w1 (wr.setCell ⟨g,i,none⟩ x) v e g (cs.set i x):=by
 have h1:=h.l1;have h2:=h.l2;exact⟨⟨h.fs.hb.setCell (by show _<=g;omega) _,h.fs.b3.far (by show _≠g;omega) _,h.fs.b5.far (by show _≠g;omega) _,h.fs.b6.far (by show _≠g;omega) _⟩,h.bt.setCell (by show _<=g;omega) _,h.bg.dz i x,h1,h2⟩
namespace di
open cH
theorem Ga (A B ca cb F G S L e)(hS:iI S)(hL:L.length<=1048576)(hC:∀c∈L,ED c)(w)(hK:cW w)(hF:∀b,F b->b<w.heap.size)(hG:∀b,G b->b<w.heap.size)(r:Rd w F (.slice A S.length ca) (.sl S.length (S.flatMap fj)))(rc:Rd w G (.slice B L.length cb) (.sl L.length (L.flatMap pB))):
  Cl 50 #[.agg #[.slice A S.length ca],.slice B L.length cb,.agg #[.int .i64 e.ts,.int .u64 e.id,.int .i64 e.typ,.int .i64 e.a0,.int .i64 e.a1,.int .i64 e.a2,.int .i64 e.a3,.int .i64 e.a4,.int .i64 e.a5,.int .i64 e.a6,.int .i64 e.a7]] w (VN S L e w):=by
 obtain⟨W0,cg⟩:=aB (((w.alloc (.cells ⟨[.slice A S.length ca]⟩ 24)).alloc (.cells ⟨cS e⟩ 49)).alloc (.cells ⟨cS eK⟩ 49))
 have h0:FS w W0 (.slice A S.length ca) e:=by rw[cg];exact FS.new _ _ _
 have kt:Cl 42 #[.agg #[.slice A S.length ca],.slice B L.length cb] W0 (nC S L W0):=
  uH A B ca cb F G S L hS hL hC _ (hK.stay h0.hb) (λb h=>zF (hF b h) h0.hb.size) (λb h=>zF (hG b h) h0.hb.size) (r.under h0.hb hF) (rc.under h0.hb hG)
 have kc:∀W,Bw w W->Cl 49 #[.agg #[.slice A S.length ca],.agg #[.int .i64 e.ts,.int .u64 e.id,.int .i64 e.typ,.int .i64 e.a0,.int .i64 e.a1,.int .i64 e.a2,.int .i64 e.a3,.int .i64 e.a4,.int .i64 e.a5,.int .i64 e.a6,.int .i64 e.a7]] W λx w'=>x=.returned (.int .i64 (tj S e))/\Bw W w':=λW hW=>
  nP A ca F S e hS W (hK.stay hW) (λb h=>zF (hF b h) hW.size) (r.under hW hF)
 rw[cg]at kt;replace⟨kt,kc,h0⟩:=H3 kt kc h0;clear hK hF hG r rc hC hS;go_enter func50,ntmps50;go_upto_region 2 with(go_at_call 42;refine kt.o.mono ?_;rintro x w' ⟨v,code,at_,T,rfl,hM,hT,az⟩;rw[<-cg]at az)
 have hx:=h0.o.stay az;obtain⟨c0,c1,c2,c3,c4,c5,c6,c7,c8,c9,c10,c11⟩:=hx.cells;by_cases hc:code=0
 .subst hc;obtain⟨t,rfl,rfl⟩:=hM.ok;obtain⟨hm,hR⟩:=hT t rfl;have sV:=hM.fr;have hce:=Hd (kc.o w' hx.hb);have ZA:=Hd hM;by_cases h5:tj S e=0
  .have hRe:=Hd (Tv (t:=t) h5);rw[h5]at hce;have BZ:t.length<=16:=hm.len;obtain⟨A',c',rfl,_⟩:=hR.cU;have hRR:=Hd (λW (hW:Bw w' W)=>hR.under hW (λb h=>h));replace⟨hm,sV,hx⟩:=H3 hm sV hx;clear hM hT h5 az hR;go_wp2_with (go_at_call 49;refine hce.o.mono ?_;rintro x w2 ⟨rfl,cD⟩;have iq:=hx.o.stay cD;have Rs:=hx.o.b6.lt;replace iq:=Hd iq);clear c0 c1 c2 c3 c4 c5 c6 c7 c8 c9 c10 c11;go_loopw [11,12,13] (λx _ _ wr=>∃j:Nat,j<=t.length/\x=.int .i64 j/\FS w wr (.slice A S.length ca) e/\Bw w' wr/\(∀(i:Nat) k,t[i]? =some k->i<j->k.fr≠e.typ)) (λx _ _ _=>t.length- (intOf x).toNat)
   .exact⟨0,zE _,rfl,iq.o,cD,λi k h1 h2=>by omega⟩
   obtain⟨j,hj,rfl,hS,ZB,hz⟩:=hrel;obtain⟨wo,gU⟩:=aB wr
   subst gU;replace hz:=Hd hz;obtain⟨d0,d1,d2,d3,d4,d5,d6,d7,d8,d9,d10,d11⟩:=hS.cells;clear d4 d5 d6 d7 d8 d9 d10 d11 d0;by_cases hlt:j<t.length
   .obtain⟨k,hk⟩:=av hlt;obtain⟨b,off,rfl,hb,hv,hsl⟩:=(hRR.o wo ZB).cP (m:=3) (λ_=>rfl) hk oQ;obtain⟨A2,c2,a2,r2⟩:=hsl 2 _ _ rfl;have a1:wo.cell? ⟨b,off+j*3+1,none⟩=some (.int .i64 k.fr):=hv 1 _ rfl;have g0:=aH j;have g1:=aV j t.length;by_cases yp:k.fr=e.typ
    .have aeg:(k.fr==e.typ)=true:=(by simpa using yp);have aeh:(k.fr != e.typ)=false:=by simpa using yp
     have hE:=Hd (yJ (yK hk yp hz.o) hk);have Ch:=zA hk;have yB:k.fs.length<=8:=hm.o.fl k Ch;have F0:=Hd (sV.o k Ch);have fA:b<w'.heap.size:=hb;have ht3:=Hd (λW (hW:Bw wo W)=>show W.cell? ⟨b,off+j*3+2,none⟩=some (.slice A2 k.fs.length c2)/\Rd W (λb=>b<w'.heap.size) (.slice A2 k.fs.length c2) (.sl k.fs.length (k.fs.flatMap dt))from
      ⟨(hW.cell (p:=⟨b,off+j*3+2,none⟩) (zF fA ZB.size)).trans a2,r2.under hW (λb h=>zF h ZB.size)⟩)
     have hH:=Hd (λn W (MD:ao W wo.heap.size 49 (nD k.fs e j 0))(qQ:((wo.drewN n).alloc (.cells ⟨cS eK⟩ 49)).grownBy W (some wo.heap.size))=>show HS w wo W (.slice A S.length ca) e wo.heap.size (nD k.fs e j 0)from by
      have hd0:Bw wo ((wo.drewN n).alloc (.cells ⟨cS eK⟩ 49)):=(below_drewN bR n).alloc sJ _;have hd:Bw wo W:=hd0.grown qQ hd0.size (λq hq=>by injection hq with hq;omega);exact⟨hS.stay hd,hd,MD,nR,hS.b6.lt⟩)
     have ZC:=Hd yp;clear hv hsl r2 hk yp Ch;go_wp2;go_quiet (fail);go_wp2_with (refine ay (.store 49 (.tmp 12) (.tmp 49)) rfl ?_;refine eU rfl 49 (.tmp 12) (.tmp 49) rfl (cs':=nD k.fs e j 0) (ao.new' (cs:=cS eK) sJ) dU rfl rfl rfl rfl ?_;intro w5 MD qQ);go_loopw [13] (λx wx=>∃m:Nat,m<=k.fs.length/\x=.int .i64 m/\HS w wo wx (.slice A S.length ca) e wo.heap.size (nD k.fs e j m)) (λx _=>k.fs.length- (intOf x).toNat)
     .exact⟨0,zE _,rfl,hH.o _ _ MD qQ⟩
     clear a1 a2 d1 d2 d3;obtain⟨m,uv,rfl,hX⟩:=hrel;obtain⟨a2,r2⟩:=ht3.o _ hX.bt;by_cases TV:m<k.fs.length
     .obtain⟨f,hf⟩:=av TV;have ZD:m<8:=oQ;obtain⟨b2,jG,rfl,df,pT,_⟩:=r2.cP (m:=3) (λ_=>rfl) hf oQ;have q1:wr.cell? ⟨b2,jG+m*3+1,none⟩=some (.int .i64 f.fr):=pT 1 _ rfl;have q2:wr.cell? ⟨b2,jG+m*3+2,none⟩=some (.int .i64 f.fl):=pT 2 _ rfl;have hf8:=F0.o f (zA hf);have m0:=aH m;have m1:=aV m k.fs.length;have m2:(m:Int)<8:=oQ;have RH:=rQ (fs:=k.fs) (e:=e) (i:=j) (j:=m) ZD;rw[if_neg oQ]at RH;have y7:wr.cell? ⟨wo.heap.size,3+m,none⟩=some (.int .i64 0):=(hX.bg.cell _).trans RH;have y7f:wr.frozen? ⟨wo.heap.size,3+m,none⟩=false:=hX.bg.frozen _;have Rs:=hX.fs.b6.lt;have hl7:=hX.bg.lt;have hne:¬w.heap.size+1=wo.heap.size:=by have:=hX.l2;omega
      by_cases vK:0<=f.fr
      .obtain⟨n,hn⟩:∃n:Nat,f.fr=n:=⟨f.fr.toNat,oQ⟩
       have hn8:n<8:=oQ;obtain⟨x,PX⟩:=uI (e:=e) hn8;have y3:wr.cell? ⟨w.heap.size+1,3+n,none⟩=some (.int .i64 x):=(hX.fs.b5.cell _).trans (Bi PX);have Kh:=Nm (e:=e) hf hn PX;have n0:=aH n;have n1:(n:Int)<8:=oQ;rw[hn]at q1;have fY:HS w wo (wr.setCell ⟨wo.heap.size,3+m,none⟩ (.int .i64 x)) (.slice A S.length ca) e wo.heap.size (nD k.fs e j (m+1)):=by
        have:=hX.put (3+m) (.int .i64 x);rw[<-Kh,pD ZD]at this;rw[<-Kh];exact this
       replace fY:=Hd fY;clear hX hf RH PX Kh vK hn pT r2;go_wp2;go_roundw
       .exact⟨m+1,oQ,gQ,fY.o⟩
       exact mQ
      .have Kh:=Nn (e:=e) hf vK;have n1:decide (f.fr>=0)=false:=zV vK;have n2:decide (0<=f.fr)=false:=zV vK;have fY:HS w wo (wr.setCell ⟨wo.heap.size,3+m,none⟩ (.int .i64 f.fl)) (.slice A S.length ca) e wo.heap.size (nD k.fs e j (m+1)):=by
        have:=hX.put (3+m) (.int .i64 f.fl);rw[<-Kh,pD ZD]at this;rw[<-Kh];exact this
       replace fY:=Hd fY;clear hX hf RH Kh vK pT r2;go_wp2;go_roundw
       .exact⟨m+1,oQ,gQ,fY.o⟩
       exact mQ
     .have Ki:m=k.fs.length:=oQ;subst Ki;rw[DK e j yB]at hX;have hX':=Hd hX;clear hX;go_wp2_with (first
       |(refine ay (.load 49 (.tmp 12)) rfl ?_;refine aJ rfl 49 (.tmp 12) rfl hX'.o.bg dU rfl ?_)
       |(refine ay (.store 49 (.tmp 6) (.tmp 97)) rfl ?_;refine eU rfl 49 (.tmp 6) (.tmp 97) rfl (cs':=cS (Np k.fs e j)) hX'.o.fs.b6 dU rfl rfl rfl rfl ?_;intro w1 cL aw))
      refine Kv (v:=.bool true) rfl cL dU rfl rfl rfl ⟨_,_,_,ZA.o,.mk' ?_ ?_ (hX'.o.fs.hb.grown aw hX'.o.fs.hb.size (λq hq=>by injection hq with hq;omega))⟩
      .rw[hRe.o,hE.o]
      .rw[hRe.o,hE.o]
    .have aeg:(k.fr==e.typ)=false:=(by simpa using yp);have aeh:(k.fr != e.typ)=true:=by simpa using yp
     have gC:=Hd hk;have ZC:=Hd yp;clear hv hsl r2 hk yp;go_wp2;go_quiet (fail);go_wp2;go_roundw
     .refine⟨j+1,oQ,gQ,hS.stay (below_drewN bR _),below_drewN ZB _,λi k2 h1 h2=>?_⟩;by_cases dE:i=j
      .subst dE;rw[gC.o]at h1;injection h1 with h1
       subst h1;exact ZC.o
      .exact hz.o i k2 h1 oQ
     exact mQ
   .have g1:=jS j t.length;have hno:=Hd (yL (yM λi k h1=>hz.o i k h1 (by have:=(zC.1 h1).1;omega)));have Pm:=Hd hS;clear hS ZB hz;go_wp2_with (refine ay (.store 49 (.tmp 6) (.tmp 98)) rfl ?_;refine eU rfl 49 (.tmp 6) (.tmp 98) rfl (cs':=cS eK) Pm.o.b6 dU rfl rfl rfl rfl ?_;intro w1 cL aw);refine Kv (v:=.bool false) rfl cL dU rfl rfl rfl ⟨_,_,_,ZA.o,.mk' ?_ ?_ (Pm.o.hb.grown aw Pm.o.hb.size (λq hq=>by injection hq with hq;omega))⟩
    .rw[hRe.o,hno.o]
    .rw[hRe.o,hno.o]
  .have hR:=Hd (Zz (t:=t) h5);have hne:(tj S e==0)=false:=by simpa using h5
   have Q0:(tj S e != 0)=true:=by simpa using h5
   replace hx:=Hd hx;clear hM hT hm sV h5 az;go_wp2_with (first
    |(go_at_call 49;refine hce.o.mono ?_;rintro x w2 ⟨rfl,cD⟩;have iq:=hx.o.stay cD;replace iq:=Hd iq)
    |(refine ay (.store 49 (.tmp 6) (.tmp 29)) rfl ?_;refine eU rfl 49 (.tmp 6) (.tmp 29) rfl (cs':=cS eK) iq.o.b6 dU rfl rfl rfl rfl ?_;intro w1 cL aw))
   refine Kv (v:=.bool false) rfl cL dU rfl rfl rfl ⟨_,_,_,ZA.o,.mk' ?_ ?_ (iq.o.hb.grown aw iq.o.hb.size (λq hq=>by injection hq with hq;omega))⟩
   .rw[hR.o]
   .rw[hR.o]
 .have hne:(code==0)=false:=by simpa using hc
  have Q0:(code != 0)=true:=by simpa using hc
  obtain rfl:=hM.no hc;have jW:=Hd hx;replace hM:=Hd hM;clear hT hc az hx;go_wp2_with (refine ay (.store 49 (.tmp 6) (.tmp 29)) rfl ?_;refine eU rfl 49 (.tmp 6) (.tmp 29) rfl (cs':=cS eK) jW.o.b6 dU rfl rfl rfl rfl ?_;intro w1 cL aw);refine Kv (v:=.bool false) rfl cL dU rfl rfl rfl ⟨_,_,_,hM.o,.mk' rfl rfl (jW.o.hb.grown aw jW.o.hb.size (λq hq=>by injection hq with hq;omega))⟩
end di
theorem yN:nW prog 32 49 11 88:=.of underlying32 kQ oQ
theorem aej (l:List Ev):(l.flatMap oc).length=l.length*11:=BO (f:=oc) (m:=11) (λ_=>rfl) l
theorem DL {w F A c i}{t:List Ev}{x}(r:Rd w F (.slice A t.length c) (.sl t.length (t.flatMap oc)))(hp:t[i]? =some x):∃b off,A=some ⟨b,off,none⟩/\F b/\b<w.heap.size/\w.rangeAt b (off+i*11) (cS x):=by
 obtain⟨b,off,rfl,hF,ha,_⟩:=r.cP (m:=11) (λ_=>rfl) hp oQ;refine⟨b,off,rfl,hF,zX w _ (ha 0 _ rfl),λj v hv=>?_⟩;match j,hv with
 |0,hv |1,hv |2,hv |3,hv |4,hv |5,hv |6,hv |7,hv |8,hv |9,hv |10,hv=>exact(ha _ _ rfl).trans hv
 |j+11,hv=>simp[cS]at hv
theorem fQ {P w b o cs ops rest}{op:Oper}{a Q}(EI:op.guard=none)(ty x)(ho:op.op=.load ty x)(h:w.rangeAt b o cs)(T:jV P ty cs.length)(hx:a.eval x=.pointer (some ⟨b,o,none⟩))(hk:wpList P ops Q rest (a.put op.dst (.agg ⟨cs⟩)) w):wpList P ops Q (op::rest) a w:=by
 obtain⟨d,hu,hd,hi⟩:=T;exact wpList_load_mid EI ty x ho b o hx cs d h hu hd hi hk
def jq (S:List Td)(T:List Kd)(l:List Ev)(w:World)(e:Ending)(w':World):Prop:=∃v b,e=.returned (.tuple #[v,.bool b])/\(g8 S T l=none->v=.slice none 0 0/\b=false)/\
 (∀h,g8 S T l=some h->b=true/\OL w' w.heap.size bE 49 11 v h.length (h.flatMap oc))/\Bw w w'
theorem jq.no {S T l w w'}(h:g8 S T l=none)(hb:Bw w w'):jq S T l w (.returned (.tuple #[.slice none 0 0,.bool false])) w':=
 ⟨_,_,rfl,λ_=>⟨rfl,rfl⟩,λx hx=>(by rw[h]at hx;cases hx),hb⟩
theorem jq.ok {S T l w w' v}(h:∀e∈l,tj S e=0)(hO:OL w' w.heap.size bE 49 11 v (HG T l).length ((HG T l).flatMap oc))(hb:Bw w w'):jq S T l w (.returned (.tuple #[v,.bool true])) w':=
 ⟨_,_,rfl,λhx=>(by rw[Ni h]at hx;cases hx),λx hx=>(by rw[Ni h]at hx;injection hx with hx;subst hx;exact⟨rfl,hO⟩),hb⟩
structure Gb (S:List Td)(T:List Kd)(l:List Ev)(w:World)(A:Option Addr)(c j:Nat)(v:Value)(wr:World):Prop where
 hb:Bw w wr
 b4:ao wr w.heap.size 24 [.slice A S.length c]
 ol:OL wr w.heap.size bE 49 11 v (HG T (l.take j)).length ((HG T (l.take j)).flatMap oc)
 ok:∀e∈l.take j,tj S e=0
section
variable {S:List Td}{T:List Kd}{l:List Ev}{w wr W w1:World}{A:Option Addr}{c j:Nat}{v v':Value}{e:Ev}
theorem Gb.stay (h:Gb S T l w A c j v wr)(hb:Bw wr W):Gb S T l w A c j v W:=⟨h.hb.trans (hb.mono h.hb.size),h.b4.stay hb,h.ol.stay hb,h.ok⟩
theorem Gb.ok' (h:Gb S T l w A c j v wr)(he:l[j]? =some e)(hc:tj S e=0):∀x∈l.take (j+1),tj S x=0:=λx hx=>by
 rw[zJ,he]at hx;rcases zM.1 hx with hx |hx
 .exact h.ok x hx
 .simp at hx;subst hx;exact hc
theorem Gb.skip (h:Gb S T l w A c j v wr)(he:l[j]? =some e)(hc:tj S e=0)(h2:(oZ T e).2=false):Gb S T l w A c (j+1) v wr:=by
 refine⟨h.hb,h.b4,?_,h.ok' he hc⟩;rw[DI he,h2];simpa using h.ol
theorem Gb.snoc (h:Gb S T l w A c j v wr)(he:l[j]? =some e)(hc:tj S e=0)(h2:(oZ T e).2=true)(hg:wr.grownBy w1 v.ownBlock)(hO:OL w1 w.heap.size bE 49 11 v' ((HG T (l.take j)).length+1) ((HG T (l.take j)).flatMap oc++oc (oZ T e).1)):Gb S T l w A c (j+1) v' w1:=by
 refine⟨h.hb.grown hg h.hb.size (λq hq=>(h.ol.lt q hq).1),h.b4.grown hg (λe=>h.ol.aU h.b4 dQ e.symm),?_,h.ok' he hc⟩;rw[DI he,h2];simpa using hO
end
namespace di
open cH dR
theorem DM {w B g nl vk vl au kl}(h:DX w B g vk vl au nl kl)(hm:nO (kl.map (·.1)))(sV:DN (kl.map (·.1)))(A c F S)(hS:iI S)(hK:cW w)(hF:∀b,F b->b<w.heap.size)(r:Rd w F (.slice A S.length c) (.sl S.length (S.flatMap fj)))(Al cl G l)(hl:l.length<=1048576)(hG:∀b,G b->b<w.heap.size)(rl:Rd w G (.slice Al l.length cl) (.sl l.length (l.flatMap oc))):
  Cl 24 #[.pointer (some ⟨g,0,none⟩),.agg #[.slice A S.length c],.slice Al l.length cl] w (jq S (kl.map (·.1)) l w):=by
 obtain⟨T,hT⟩:=aB (kl.map (·.1))
 have k1:=λW (hW:Bw w W)(x:Ev)=>Bj A c F S x hS W (hK.stay hW) (λb hb=>zF (hF b hb) hW.size) (r.under hW hF)
 have k2:=λW (hW:Bw w W)(x:Ev)=>RI (h.stay hW) hm sV x
 have ka:=λW (hW:Bw w W)(j:Nat) x (hx:l[j]? =some x)=>DL (rl.under hW hG) hx
 rw[<-hT]at k2 |-;have h0:=Hd (show Gb S T l w A c 0 (.slice none 0 0) (w.alloc (.cells ⟨[.slice A S.length c]⟩ 24)) from ⟨bA,ao.new _ _ _,.nil _ _ _ _ _,λx hx=>by simp at hx⟩);replace⟨k1,k2,ka⟩:=H3 k1 k2 ka;clear h hm sV hK hF r hG rl hT hS;go_enter func24,ntmps24;go_wp2;go_loopw [8,15] (λv x wr=>∃j:Nat,j<=l.length/\x=.int .i64 j/\Gb S T l w A c j v wr) (λ_ x _=>l.length- (intOf x).toNat)
 .exact⟨0,zE _,rfl,h0.o⟩
 clear h0;obtain⟨j,hj,rfl,hI⟩:=hrel;have hle:(HG T (l.take j)).length<=1048576:=by have:=Bh T (l.take j);rw[zO]at this;omega
 by_cases hlt:j<l.length
 .obtain⟨x,hx⟩:=av hlt;obtain⟨b,off,eA,Ke,qL,nQ⟩:=ka.o wr hI.hb j x hx;subst eA;have p0:=aH j;have p1:=aV j l.length;obtain⟨cc,hcc⟩:=aB (tj S x)
  have y4:wr.cell? ⟨w.heap.size,0,none⟩=some (.slice A S.length c):=hI.b4.cell 0;replace⟨hI,hx,nQ,hcc,hle⟩:=H5 hI hx nQ hcc hle;go_upto_region 5 with(first
   |(refine ay (.load 49 (.tmp 17)) rfl ?_;refine fQ rfl 49 (.tmp 17) rfl nQ.o dU rfl ?_)
   |(refine ay (.store 49 (.tmp 10) (.tmp 18)) rfl ?_;refine eU rfl 49 (.tmp 10) (.tmp 18) rfl (cs':=cS x) (ao.new' (cs:=cS eK) rfl) dU rfl rfl rfl rfl ?_;intro w1 cL aw))
  have az:Bw wr w1:=by
   have h1:Bw wr (wr.alloc (.cells ⟨cS eK⟩ 49)):=bA;exact h1.grown aw h1.size (λq hq=>by injection hq with hq;omega)
  have eE:=hI.o.stay az;have y4':w1.cell? ⟨w.heap.size,0,none⟩=some (.slice A S.length c):=eE.b4.cell 0;have eW:=k1.o w1 eE.hb x;rw[<-hcc.o]at eW;replace⟨eW,eE,cL⟩:=H3 eW eE cL;clear y4 aw az hI nQ Ke qL p0 p1;by_cases h0:cc=0
  .subst h0;go_upto_region 7 with(first
    |(refine ay (.load 49 (.tmp 10)) rfl ?_;refine aJ rfl 49 (.tmp 10) rfl cL.o dU rfl ?_)
    |(go_at_call 40;refine eW.o.mono ?_;rintro e W2 ⟨rfl,cD⟩))
   have bn:=Hd (eE.o.stay cD);have Rf:=Hd (cL.o.stay cD);have fS:=Hd (k2.o W2 bn.o.hb x);clear y4' cD eE cL eW;obtain⟨E,hE⟩:=aB (oZ T x)
   rw[<-hE]at fS;replace hE:=Hd hE;obtain⟨E,b⟩:=E;go_upto_region 8 with(first
    |(refine ay (.load 49 (.tmp 10)) rfl ?_;refine aJ rfl 49 (.tmp 10) rfl Rf.o dU rfl ?_)
    |(go_at_call 41;refine fS.o.mono ?_;rintro e W3 ⟨rfl,ig⟩)
    |(refine ay (.store 49 (.tmp 11) (.tmp 27)) rfl ?_;refine eU rfl 49 (.tmp 11) (.tmp 27) rfl (cs':=cS E) (ao.new' (cs:=cS eK) rfl) dU rfl rfl rfl rfl ?_;intro w4 hz4 hg4))
   have fI:Bw W3 w4:=by
    have h1:Bw W3 (W3.alloc (.cells ⟨cS eK⟩ 49)):=bA;exact h1.grown hg4 h1.size (λq hq=>by injection hq with hq;omega)
   have np:=(bn.o.stay ig).stay fI;replace hz4:=Hd hz4;clear hg4 ig fI bn Rf fS;cases b with
   |false=>
    have bz:=Hd (np.skip hx.o hcc.o.symm (by rw[<-hE.o]));clear np;go_wp2;go_roundw
    .exact⟨j+1,oQ,gQ,bz.o⟩
    exact mQ
   |true=>
    have Bk:=np.stay (bX (.cells ⟨cS E⟩ 49));have hlw:=np.b4.lt;have hO:=Hd Bk.ol;replace Bk:=Hd Bk;clear np;go_wp2_with (first
     |(refine ay (.load 49 (.tmp 11)) rfl ?_;refine aJ rfl 49 (.tmp 11) rfl hz4.o dU rfl ?_;simp only[cS])
     |(at_builtin;refine ez rfl (.tmp 30) (.tmp 32) _ rfl (m:=1) (news:=oc E) yN hO.o rfl rfl (Src.lit (show fB w4 _ (cS E) (oc E)from⟨.v _ rfl,.v _ rfl,.v _ rfl,.v _ rfl,.v _ rfl,.v _ rfl,.v _ rfl,.v _ rfl,.v _ rfl,.v _ rfl,.v _ rfl,trivial⟩)) rfl (by have:=hle.o;omega) oQ (by simp;omega) ?_;intro v' w5 iM qQ AY;have bz:=Hd (Bk.o.snoc hx.o hcc.o.symm (by rw[<-hE.o]) qQ (by rw[<-hE.o];exact iM));clear iM qQ AY))
    go_roundw
    .exact⟨j+1,oQ,gQ,bz.o⟩
    exact mQ
  .have f2:=gL h0;have f1:=cM h0;have hno:g8 S T l=none:=Nh (zA hx.o) (by rw[<-hcc.o];exact h0);replace hno:=Hd hno;go_wp2_with (first
    |(refine ay (.load 49 (.tmp 10)) rfl ?_;refine aJ rfl 49 (.tmp 10) rfl cL.o dU rfl ?_)
    |(go_at_call 40;refine eW.o.mono ?_;rintro e W2 ⟨rfl,cD⟩))
   go_ret2;exact jq.no hno.o (eE.o.stay cD).hb
 .obtain rfl:j=l.length:=oQ;have ho:=hI.ol;have hk:=hI.ok;have hb:=hI.hb;rw[zL]at ho hk;replace⟨ho,hk,hb⟩:=H3 ho hk hb;clear hI hle;go_wp2;go_ret2;exact jq.ok hk.o ho.o hb.o
open cH dR
theorem tL (A B ca cb F G S L T)(hS:iI S)(hL:L.length<=1048576)(hC:∀c∈L,ED c)(hM:fJ S L (some T) 0 0)(w)(hK:cW w)(hF:∀b,F b->b<w.heap.size)(hG:∀b,G b->b<w.heap.size)(r:Rd w F (.slice A S.length ca) (.sl S.length (S.flatMap fj)))(rc:Rd w G (.slice B L.length cb) (.sl L.length (L.flatMap pB)))(Al cl H l)(hl:l.length<=1048576)(hH:∀b,H b->b<w.heap.size)(rl:Rd w H (.slice Al l.length cl) (.sl l.length (l.flatMap oc))):
  Cl 27 #[.agg #[.slice A S.length ca],.slice B L.length cb,.slice Al l.length cl] w (jq S T l w):=by
 have k1:=λW (hW:Bw w W)(x:Ev)=>nP A ca F S x hS W (hK.stay hW) (λb hb=>zF (hF b hb) hW.size) (r.under hW hF)
 have k2:=λW (hW:Bw w W)(x:Ev)=>Ga A B ca cb F G S L x hS hL hC W (hK.stay hW) (λb hb=>zF (hF b hb) hW.size) (λb hb=>zF (hG b hb) hW.size) (r.under hW hF) (rc.under hW hG)
 have ka:=λW (hW:Bw w W)(j:Nat) x (hx:l[j]? =some x)=>DL (rl.under hW hH) hx
 have h0:=Hd (show Gb S T l w A ca 0 (.slice none 0 0) (w.alloc (.cells ⟨[.slice A S.length ca]⟩ 24)) from ⟨bA,ao.new _ _ _,.nil _ _ _ _ _,λx hx=>by simp at hx⟩);replace⟨k1,k2,ka,hM⟩:=H4 k1 k2 ka hM;clear hK hF hG r rc rl hH hS hL hC;go_enter func27,ntmps27;go_wp2;go_loopw [8,9] (λv x wr=>∃j:Nat,j<=l.length/\x=.int .i64 j/\Gb S T l w A ca j v wr) (λ_ x _=>l.length- (intOf x).toNat)
 .exact⟨0,zE _,rfl,h0.o⟩
 clear h0;obtain⟨j,hj,rfl,hI⟩:=hrel;have hle:(HG T (l.take j)).length<=1048576:=by have:=Bh T (l.take j);rw[zO]at this;omega
 by_cases hlt:j<l.length
 .obtain⟨x,hx⟩:=av hlt;obtain⟨b,off,eA,Ke,qL,nQ⟩:=ka.o wr hI.hb j x hx;subst eA;have p0:=aH j;have p1:=aV j l.length;obtain⟨cc,hcc⟩:=aB (tj S x)
  have y3:wr.cell? ⟨w.heap.size,0,none⟩=some (.slice A S.length ca):=hI.b4.cell 0;have kS:=λW (hW:Bw wr W)=>xW ((hI.stay hW).b4.cell 0) (λ(k:Nat)(v:Value)(hv:(cS x)[k]? =some v)=>((hW.cell (p:=⟨b,off+j*11+k,none⟩) qL).trans (nQ k v hv)))
  have ak:=xW (kS wr.drew (bR).drew) trivial;have eW:=k1.o wr.drew (hI.hb.drew) x;rw[<-hcc]at eW;replace⟨eW,kS,hI,hx,nQ,hcc,hle⟩:=H7 eW kS hI hx nQ hcc hle;by_cases h0:cc=0
  .subst h0;go_upto_region 5 with fail
   clear y3;refine aC (p:=100) (S0:=λW=>W.cell? ⟨w.heap.size,0,none⟩=some (.slice A S.length ca)/\W.rangeAt b (off+j*11) (cS x)) (S1:=λ_=>True) kQ ?_;refine' aq 0 rfl ak ?_;refine' aq 1 rfl ak ?_;refine' aq 2 rfl ak ?_;refine' aq 3 rfl ak ?_;try simp only[Act.put,aK]
   refine' bm (i:=4) (v:=_) rfl dQ kQ kQ kQ (λ_ _ _ h=>h) ak (yieldsIf_load_mid (by first|(with_reducible rfl)|go_simp) 49 (.tmp 21) rfl b (off+j*11) (by first|rfl |go_simp) (cS x) _ (λW h=>h.2) underlying49 rfl kQ) ?abu;try simp only[Act.put,aK]
   refine Gs 5 rfl λK hK=>?_
   go_simp;go_at_call 49;refine eW.o.mono ?_;rintro e W4 ⟨rfl,fI⟩;have o6:=Hd ((zB wr.heap.size wr).drew.trans fI);refine hK.o _ _ ⟨kS.o W4 o6.o,λ_=>trivial⟩ ?_;have bF:=xW (kS.o W4 o6.o) trivial;clear hK K ak fI;refine' aq 6 rfl bF ?_;try simp only[Act.put,aK]
   clear bF;refine Gd _ ?_;try simp only[Act.put,aK]
   have np:=hI.o.stay o6.o;have y3':W4.cell? ⟨w.heap.size,0,none⟩=some (.slice A S.length ca):=np.b4.cell 0;obtain⟨E,hE⟩:=aB (oZ T x)
   have xg:=λW (hW:Bw W4 W)=>kS.o W (o6.o.trans (hW.mono o6.o.size))
   have ak:=xW (xg W4.drew (bR).drew) trivial;have XV:∀W,Bw w W->Cl 50 #[.agg #[.slice A S.length ca],.slice B L.length cb,.agg ⟨cS x⟩] W (DJ E W):=λW hW=>(k2.o W hW x).mono λe W' ⟨T',c',a',ZA,hX⟩=>by
    obtain⟨e1,_,_⟩:=hM.o.uniq ZA;subst e1;rw[Tv hcc.o.symm,<-hE]at hX;exact hX
   replace hE:=Hd hE;obtain⟨E,eb⟩:=E;have hlw:=np.b4.lt;replace⟨xg,XV,np⟩:=H3 xg XV np;clear kS o6 hI nQ Ke qL eW;go_upto_region 7 with fail
   clear y3';refine aC (p:=100) (S0:=λW=>W.cell? ⟨w.heap.size,0,none⟩=some (.slice A S.length ca)/\W.rangeAt b (off+j*11) (cS x)) (S1:=λ_=>True) kQ ?_;refine' aq 0 rfl ak ?_;refine' aq 1 rfl ak ?_;refine' aq 2 rfl ak ?_;refine' aq 3 rfl ak ?_;refine' aq 4 rfl ak ?_;try simp only[Act.put,aK]
   refine' bm (i:=5) (v:=_) rfl dQ kQ kQ kQ (λ_ _ _ h=>h) ak (yieldsIf_load_mid (by first|(with_reducible rfl)|go_simp) 49 (.tmp 30) rfl b (off+j*11) (by first|rfl |go_simp) (cS x) _ (λW h=>h.2) underlying49 rfl kQ) ?ael;try simp only[Act.put,aK]
   refine sW (k1:=6) (k2:=10) kQ rfl rfl (λK hK=>?_) (λK hK=>?_)
   .go_simp;go_at_call 50;refine(XV.o W4.drew (np.o.hb.drew)).eQ λW5 nN=>?_;have sf:=Hd ((zB W4.heap.size W4).drew.trans nN);refine hK.o _ _ ⟨xg.o _ sf.o,λ_=>trivial⟩ ?_;have bF:=xW (xg.o _ sf.o) trivial;clear hK K ak nN;refine' aq 7 rfl bF ?_;refine' aq 8 rfl bF ?_;refine' aq 9 rfl bF ?_;try simp only[Act.put,aK]
    refine Gs 10 rfl λK hK=>?_
    go_simp;have lO:=Hd (sf.o.alloc sf.o.size (.cells ⟨[.int .i64 0,.int .u64 0,.int .i64 0,.int .i64 0,.int .i64 0,.int .i64 0,.int .i64 0,.int .i64 0,.int .i64 0,.int .i64 0,.int .i64 0]⟩ 49));have hZ:=Hd (ao.new W5 49 [.int .i64 0,.int .u64 0,.int .i64 0,.int .i64 0,.int .i64 0,.int .i64 0,.int .i64 0,.int .i64 0,.int .i64 0,.int .i64 0,.int .i64 0]);refine hK.o _ _ ⟨xg.o _ lO.o,λ_=>trivial⟩ ?_;generalize oL:W5.alloc (.cells ⟨[.int .i64 0,.int .u64 0,.int .i64 0,.int .i64 0,.int .i64 0,.int .i64 0,.int .i64 0,.int .i64 0,.int .i64 0,.int .i64 0,.int .i64 0]⟩ 49)=W6 at*;generalize qQ:W5.heap.size=g5 at*;clear hK K bF oL;try simp only[Act.put,aK]
    have ajt:=sf.o.size;refine Gs 11 rfl λK hK=>?_
    refine bh (by rfl) 49 _ _ (by rfl) (cs':=cS E) hZ.o dU rfl (by rfl) (by rfl) rfl ?_;intro w7 RJ xb;have yl:=Hd (lO.o.grown xb lO.o.size (λq hq=>by injection hq with hq;omega));refine hK.o _ _ ⟨xg.o _ yl.o,λ_=>trivial⟩ ?_;have Dq:=xW (xg.o _ yl.o) trivial;replace RJ:=Hd RJ;clear hK K xb;refine' aq 12 rfl Dq ?_;try simp only[Act.put,aK]
    refine Gd _ ?_;try simp only[Act.put,aK]
    clear Dq hZ lO;have Nq:=np.o.stay yl.o;clear np XV xg;cases eb with
    |false=>
     have bz:=Hd (Nq.skip hx.o hcc.o.symm (by rw[<-hE.o]));clear Nq;go_wp2;go_roundw
     .exact⟨j+1,oQ,gQ,bz.o⟩
     exact mQ
    |true=>
     have Bk:=Nq.stay (bX (.cells ⟨cS E⟩ 49));have hl7:=Nq.b4.lt;have hO:=Hd Bk.ol;replace Bk:=Hd Bk;clear Nq;go_wp2_with (first
      |(refine ay (.load 49 (.tmp 10)) rfl ?_;refine aJ rfl 49 (.tmp 10) rfl RJ.o dU rfl ?_;simp only[cS])
      |(at_builtin;refine ez rfl (.tmp 36) (.tmp 38) _ rfl (m:=1) (news:=oc E) yN hO.o rfl rfl (Src.lit (show fB w7 _ (cS E) (oc E)from⟨.v _ rfl,.v _ rfl,.v _ rfl,.v _ rfl,.v _ rfl,.v _ rfl,.v _ rfl,.v _ rfl,.v _ rfl,.v _ rfl,.v _ rfl,trivial⟩)) rfl (by have:=hle.o;omega) oQ (by simp;omega) ?_;intro v' w5 iM Nr AY;have bz:=Hd (Bk.o.snoc hx.o hcc.o.symm (by rw[<-hE.o]) Nr (by rw[<-hE.o];exact iM));clear iM Nr AY))
     go_roundw
     .exact⟨j+1,oQ,gQ,bz.o⟩
     exact mQ
   .go_simp;have hZ:=Hd ((ao.new W4 49 [.int .i64 0,.int .u64 0,.int .i64 0,.int .i64 0,.int .i64 0,.int .i64 0,.int .i64 0,.int .i64 0,.int .i64 0,.int .i64 0,.int .i64 0]).stay (bR).drew);have sf:=Hd (((zB W4.heap.size W4).alloc nR (.cells ⟨[.int .i64 0,.int .u64 0,.int .i64 0,.int .i64 0,.int .i64 0,.int .i64 0,.int .i64 0,.int .i64 0,.int .i64 0,.int .i64 0,.int .i64 0]⟩ 49)).drew);refine hK.o _ _ ⟨xg.o _ sf.o,λ_=>trivial⟩ ?_;generalize oL:(W4.alloc (.cells ⟨[.int .i64 0,.int .u64 0,.int .i64 0,.int .i64 0,.int .i64 0,.int .i64 0,.int .i64 0,.int .i64 0,.int .i64 0,.int .i64 0,.int .i64 0]⟩ 49)).drew=W5 at*;have MD:=hZ.o.lt;clear hK K ak oL;try simp only[Act.put,aK]
    refine Gs 6 rfl λK hK=>?_
    go_simp;go_at_call 50;refine(XV.o W5 (np.o.stay sf.o).hb).eQ λW6 mE=>?_;have lO:=Hd (sf.o.trans (mE.mono sf.o.size));replace hZ:=Hd (hZ.o.stay mE);refine hK.o _ _ ⟨xg.o _ lO.o,λ_=>trivial⟩ ?_;have bF:=xW (xg.o _ lO.o) trivial;clear hK K mE;refine' aq 7 rfl bF ?_;refine' aq 8 rfl bF ?_;refine' aq 9 rfl bF ?_;try simp only[Act.put,aK]
    clear bF;refine Gs 11 rfl λK hK=>?_
    refine bh (by rfl) 49 _ _ (by rfl) (cs':=cS E) hZ.o dU rfl (by rfl) (by rfl) rfl ?_;intro w7 RJ xb;have yl:=Hd (lO.o.grown xb lO.o.size (λq hq=>by injection hq with hq;omega));refine hK.o _ _ ⟨xg.o _ yl.o,λ_=>trivial⟩ ?_;have Dq:=xW (xg.o _ yl.o) trivial;replace RJ:=Hd RJ;clear hK K xb;refine' aq 12 rfl Dq ?_;try simp only[Act.put,aK]
    refine Gd _ ?_;try simp only[Act.put,aK]
    clear Dq hZ lO;have Nq:=np.o.stay yl.o;clear np XV xg;cases eb with
    |false=>
     have bz:=Hd (Nq.skip hx.o hcc.o.symm (by rw[<-hE.o]));clear Nq;go_wp2;go_roundw
     .exact⟨j+1,oQ,gQ,bz.o⟩
     exact mQ
    |true=>
     have Bk:=Nq.stay (bX (.cells ⟨cS E⟩ 49));have hl7:=Nq.b4.lt;have hO:=Hd Bk.ol;replace Bk:=Hd Bk;clear Nq;go_wp2_with (first
      |(refine ay (.load 49 (.tmp 10)) rfl ?_;refine aJ rfl 49 (.tmp 10) rfl RJ.o dU rfl ?_;simp only[cS])
      |(at_builtin;refine ez rfl (.tmp 36) (.tmp 38) _ rfl (m:=1) (news:=oc E) yN hO.o rfl rfl (Src.lit (show fB w7 _ (cS E) (oc E)from⟨.v _ rfl,.v _ rfl,.v _ rfl,.v _ rfl,.v _ rfl,.v _ rfl,.v _ rfl,.v _ rfl,.v _ rfl,.v _ rfl,.v _ rfl,trivial⟩)) rfl (by have:=hle.o;omega) oQ (by simp;omega) ?_;intro v' w5 iM Nr AY;have bz:=Hd (Bk.o.snoc hx.o hcc.o.symm (by rw[<-hE.o]) Nr (by rw[<-hE.o];exact iM));clear iM Nr AY))
     go_roundw
     .exact⟨j+1,oQ,gQ,bz.o⟩
     exact mQ
  .have f2:=gL h0;have f1:=cM h0;have hno:=Hd (show g8 S T l=none from Nh (zA hx.o) (by rw[<-hcc.o];exact h0));go_upto_region 5 with fail
   clear y3;refine aC (p:=100) (S0:=λW=>W.cell? ⟨w.heap.size,0,none⟩=some (.slice A S.length ca)/\W.rangeAt b (off+j*11) (cS x)) (S1:=λ_=>True) kQ ?_;refine' aq 0 rfl ak ?_;refine' aq 1 rfl ak ?_;refine' aq 2 rfl ak ?_;refine' aq 3 rfl ak ?_;try simp only[Act.put,aK]
   refine' bm (i:=4) (v:=_) rfl dQ kQ kQ kQ (λ_ _ _ h=>h) ak (yieldsIf_load_mid (by first|(with_reducible rfl)|go_simp) 49 (.tmp 21) rfl b (off+j*11) (by first|rfl |go_simp) (cS x) _ (λW h=>h.2) underlying49 rfl kQ) ?abv;try simp only[Act.put,aK]
   refine Gs 5 rfl λK hK=>?_
   go_simp;go_at_call 49;refine eW.o.mono ?_;rintro e W4 ⟨rfl,fI⟩;have o6:=Hd ((zB wr.heap.size wr).drew.trans fI);refine hK.o _ _ ⟨kS.o W4 o6.o,λ_=>trivial⟩ ?_;have bF:=xW (kS.o W4 o6.o) trivial;clear hK K ak fI;refine' aq 6 rfl bF ?_;try simp only[Act.put,aK]
   clear bF;refine Gd _ ?_;try simp only[Act.put,aK]
   go_wp2;go_ret2;exact jq.no hno.o (hI.o.stay o6.o).hb
 .obtain rfl:j=l.length:=oQ;have ho:=hI.ol;have hk:=hI.ok;have hb:=hI.hb;rw[zL]at ho hk;replace⟨ho,hk,hb⟩:=H3 ho hk hb;clear hI hle;go_wp2;go_ret2;exact jq.ok hk.o ho.o hb.o
end di
