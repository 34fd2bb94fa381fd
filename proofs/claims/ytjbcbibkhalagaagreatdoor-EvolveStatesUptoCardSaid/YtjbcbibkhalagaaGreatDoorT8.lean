/- The law EvolveStates. -/
import Derived.Test.YtjbcbibkhalagaaGreatDoorT5
import Derived.Test.YtjbcbibkhalagaaGreatDoorT2
namespace Go.Proofs.YtjbcbibkhalagaaGreatDoor
set_option maxRecDepth 100000
set_option maxHeartbeats 16000000
open Proofs.Tryz Go.RowKit Go.Deep
set_option linter.unusedVariables false
set_option linter.unusedSimpArgs false
theorem lH {P w}{o:Oper}{a K Q}(s x t)(ho:o.op=.call {callee:=.builtin .append,args:=#[s,x],argTypes:=#[t,t]}){B e size bytes n m c v ds}{newsV:List Value}{ad}(T:nW P t e size bytes)(dv:OL w B bE e size v n ds)(hs:a.eval s=v)(hx:a.eval x=.slice (some ad) m c)(hl:newsV.length=m*size)(ja:∀j u,newsV[j]? =some u->w.cell? (ad.add j)=some u)(h1:∀u∈newsV,u.oneCell'=true)(hn:n+m<=4294967296)(hb:bytes<=32768)(hB:B<=w.heap.size)(hm:0<m)(h:∀A' c' w',OL w' B bE e size v n ds->w.grownBy w' v.ownBlock->K (a.put o.dst (.slice A' (n+m) c')) w'):o.wp P a w K Q:=by
 obtain⟨A',c',w',hrun,h2,h3⟩:=Br (P:=P) (ty:=o.type) T dv hl ja h1 hn hb hB hm (c:=c);unfold Oper.wp execOp;simp only[ho,resolve,invoke,builtin,Sem.run_bind,Sem.run_pure,Result.andThen_ok,List.map_toArray,List.map_cons,List.map_nil,hs,hx,hrun];exact h A' c' w' h2 h3
theorem dL {P w ops rest op a Q}(v)(hw:Region.wanted op (yielded ops a.tmps)=true)(hy:(execOp a.eval op).run P w=.ok (.value v) w)(hk:wpList P ops Q rest (a.put op.dst v) w):wpList P ops Q (op::rest) a w:=
 wpList_step λK hK=>by
  rw[if_pos hw];unfold Oper.wp;rw[hy];exact hK _ _ hk
theorem nH {P w ops rest op a Q C}(f args)(hw:Region.wanted op (yielded ops a.tmps)=true)(hy:(execOp a.eval op).run P w=.ok (.enter f args) w)(hc:Calls P f args w C)(hk:∀e w',C e w'->∃v,e=.returned v/\wpList P ops Q rest (a.put op.dst v) w'):wpList P ops Q (op::rest) a w:=
 wpList_step λK hK=>by
  rw[if_pos hw];unfold Oper.wp;rw[hy];refine hc.mono λe w' h=>?_
  obtain⟨v,rfl,h2⟩:=hk e w' h;exact hK _ _ h2
theorem bU {P w g t cs ops rest op a Q}(hw:Region.wanted op (yielded ops a.tmps)=true)(ty x)(ho:op.op=.load ty x)(h:ao w g t cs)(T:jV P ty cs.length)(hx:a.eval x=.pointer (some ⟨g,0,none⟩))(hk:wpList P ops Q rest (a.put op.dst (.agg ⟨cs⟩)) w):wpList P ops Q (op::rest) a w:=
 wpList_step λK hK=>by
  rw[if_pos hw];obtain⟨d,hu,hd,hi⟩:=T;rcases yieldsIf_load_mid (S:=λW=>W=w) hw ty x ho g 0 hx cs d (λW h'=>h'▸h.range) hu hd hi with⟨_,h1⟩|⟨h1,_⟩
  .unfold Oper.wp;rw[h1 w rfl];exact hK _ _ hk
  .rw[hw]at h1;cases h1
def evs (l:List (Nat×Value))(r:Operand->Value):Operand->Value
 | .tmp t=>match l.find? (λp=>p.1==t)with
  |some p=>p.2
  |none=>r (.tmp t)
 |x=>r x
theorem Wm {l r}(h:∀p∈l,r (.tmp p.1)=p.2):evs l r=r:=by
 funext x
 cases x with
 |tmp t=>
  show(match l.find? (λp=>p.1==t)with |some p=>p.2 |none=>r (.tmp t))=r (.tmp t)
  split
  .next p hp=>
   have h1:=List.find?_some hp;rw[<-h p (List.mem_of_find?_eq_some hp),eq_of_beq h1]
  .rfl
 |_=>rfl
theorem ui {P w w' o a K Q}(l v)(hl:∀p∈l,a.eval (.tmp p.1)=p.2)(hy:(execOp (evs l a.eval) o).run P w=.ok (.value v) w')(h:K (a.put o.dst v) w'):o.wp P a w K Q:=by
 rw[Wm hl]at hy;unfold Oper.wp;rw[hy];exact h
def fL:Ev:=⟨778,0,0,0,0,0,0,0,0,0,0⟩
def mz:List Value:=[.int .i64 0,.slice none 0 0,.slice none 0 0,.slice none 0 0]
def TAq (y:tg)(k:Nat)(v:Value):Prop:=match k with
 |5=>∃A c,v=.slice A (y.held.length+2) c
 |12=>∃A c,v=.slice A (y.kept.length+2) c
 |19=>∃A c,v=.slice A (y.used.length+1) c
 |26=>∃A c,v=.slice A (y.wait.length+1) c
 |6=>v=.int .i64 ((y.held.length+2:Nat):Int)
 |13=>v=.int .i64 ((y.kept.length+2:Nat):Int)
 |20=>v=.int .i64 ((y.used.length+1:Nat):Int)
 |27=>v=.int .i64 ((y.wait.length+1:Nat):Int)
 |14=>v=.int .i64 ((y.held.length+2+(y.kept.length+2):Nat):Int)
 |21=>v=.int .i64 ((y.held.length+2+(y.kept.length+2)+(y.used.length+1):Nat):Int)
 |28 |29=>v=.int .i64 ((y.held.length+2+(y.kept.length+2)+(y.used.length+1)+(y.wait.length+1):Nat):Int)
 |_=>True
def X0 (y:tg)(Eg:Nat)(k:Nat)(v:Value)(w:World):Prop:=if k=4\/k=11 then∃g,v=.slice (some ⟨g,0,none⟩) 2 2/\Eg<=g/\ao w g 49 (cS fL++cS fL)else
 if k=18 then∃g,v=.slice (some ⟨g,0,none⟩) 1 1/\Eg<=g/\ao w g 51 [.int .i64 778,.int .u64 0]else if k=25 then∃g,v=.slice (some ⟨g,0,none⟩) 1 1/\Eg<=g/\ao w g 55 mz else TAq y k v
theorem X0.stay {y Bg Eg}(k v w w')(hR:Kp w w' Bg Eg)(h:X0 y Eg k v w):X0 y Eg k v w':=by
 unfold X0 at h |-;by_cases h1:k=4\/k=11
 .rw[if_pos h1]at h |-;obtain⟨g,h1,h2,h3⟩:=h;exact⟨g,h1,h2,hR.vM h3 (.inr h2)⟩
 rw[if_neg h1]at h |-;by_cases h2:k=18
 .rw[if_pos h2]at h |-;obtain⟨g,h1,h2,h3⟩:=h;exact⟨g,h1,h2,hR.vM h3 (.inr h2)⟩
 rw[if_neg h2]at h |-;by_cases h3:k=25
 .rw[if_pos h3]at h |-;obtain⟨g,h1,h2,h3⟩:=h;exact⟨g,h1,h2,hR.vM h3 (.inr h2)⟩
 rw[if_neg h3]at h |-;exact h
namespace rS
open cH dR di
theorem Wn (B cb F G x z)(L:List Cg)(hL:L.length<=1048576)(hC:∀c∈L,ED c)(sz:Gg x)(mF:Cc x.q)(w)(hK:cW w)(hG:∀b,G b->b<w.heap.size)(R:SR w F x z)(rc:Rd w G (.slice B L.length cb) (.sl L.length (L.flatMap pB))):
  Cl 3 #[.agg ⟨jP x z⟩,.slice B L.length cb] w λe w'=>e=.returned (.bool true)/\Bw w w':=by
 obtain⟨W0,cg⟩:=aB (w.alloc (.cells ⟨jP x z⟩ 36))
 have bL:Bw w W0:=by rw[cg];exact bA
 have b2:ao W0 w.heap.size 36 (jP x z):=by rw[cg];exact ao.new _ _ _
 have hF:=R.lt;have k1:=xo F x.q z.s sz.q W0 (R.rq.under bL);have k2:=λW (hW:Bw w W)=>D0 F x z sz W (R.under hW)
 have k3:=λW (hW:Bw w W)=>xp B cb G L hL hC W (λb h=>zF (hG b h) hW.size) (rc.under hW hG)
 have k5:=λW (hW:Bw w W)=>RO B cb F G x z L sz.s hL hC sz.q mF sz.h sz.k sz.u sz.w sz.m W (hK.stay hW) (λb h=>zF (hG b h) hW.size) (R.under hW) (rc.under hW hG)
 have k6:=λ(W:World)(hW:Bw w W)(B':Option Addr)(c':Nat)(F' G':Nat->Prop)(z':JA)(h1:∀b,G' b->b<W.heap.size)(R':SR W F' x z')(r':Rd W G' (.slice B' L.length c') (.sl L.length (L.flatMap pB)))=>(pX.NB B' c' F' G' x z' L sz.s hL hC sz.q mF sz.h sz.k W (hK.stay hW) h1 R' r').mono λe w' h=>h.alt R'.lt
 have hrs:=Hd (show SR w (λb=>b<w.heap.size) x z from R.mono (λb _ h=>h) (λb h=>h));have BQ:=Hd (show Rd w (λb=>b<w.heap.size) (.slice B L.length cb) (.sl L.length (L.flatMap pB))from rc.mono λb _ h=>h);obtain⟨y0,y1,y2,y3,y4,y5,y6,y7,y8,y9,kU,kP,kJ,kK,kL⟩:=bj b2;have qd:=Hd cg;replace⟨bL,b2,k1,k2,k3,k5,k6,sz,hC,hL⟩:=yX bL b2 k1 k2 k3 k5 k6 sz hC hL;clear mF hK hG R rc hF cg;go_enter func3,ntmps3;go_upto_region 1 with fail
 rw[<-qd.o];go_upto_region 3 with(go_at_call 4;refine k1.o.mono ?_;rintro e W1 ⟨b,rfl,az⟩)
 .go_ret;exact⟨rfl,bL.o.trans (az.mono bL.o.size)⟩
 clear y0 y1 y2 y3 y4 y5 y6 y7 y8 y9 kU kP kJ kK kL;have ch:=Hd (bL.o.trans (az.mono bL.o.size));replace b2:=Hd (b2.o.stay az);clear az k1 bL;go_upto_region 4 with(first
  |((first|with_reducible refine jb ?_ |with_reducible refine dK ?_);refine ay (.load 36 (.tmp 2)) rfl ?_;refine aJ rfl 36 (.tmp 2) rfl b2.o bZ rfl ?_;try simp only[Act.put,aK])
  |(go_at_call 5;refine(k2.o W1 ch.o).mono ?_;rintro e W2 ⟨z1,rfl,MJ,cD⟩)
  |((first|with_reducible refine jb ?_ |with_reducible refine dK ?_);refine ay (.store 36 (.tmp 5) (.tmp 34)) rfl ?_;refine eU rfl 36 (.tmp 5) (.tmp 34) rfl (cs':=jP x z1) (ao.new' (cs:=sm) rfl) bZ rfl rfl rfl rfl ?_;intro w2 hz hg))
 have Bu:Bw W2 w2:=by
  have h1:Bw W2 (W2.alloc (.cells ⟨sm⟩ 36)):=bA;exact h1.grown hg h1.size (λq hq=>by injection hq with hq;omega)
 have n2:W2.heap.size<w2.heap.size:=hz.lt;have n1:=cD.size;have df:=Hd (ch.o.trans ((cD.trans (Bu.mono cD.size)).mono ch.o.size));replace b2:=Hd ((b2.o.stay cD).stay Bu);have r1:=Hd (MJ.under Bu);have b5:=Hd hz;clear MJ cD Bu hz hg k2 ch;go_upto_region 5 with(go_at_call 6;refine(k3.o w2 df.o).mono ?_;rintro e W3 ⟨vl,rfl,lp,ig⟩;obtain⟨X2,JD,rfl⟩:=lp.form)
 have n3:=ig.size;have l4:=Hd (df.o.trans (ig.mono df.o.size));replace b2:=Hd (b2.o.stay ig);replace b5:=Hd (b5.o.stay ig);replace r1:=Hd (r1.o.under ig);have Kn:=Hd (lp.rd (G:=λb=>b<W3.heap.size) (λb _ h=>h) (λb _ h=>h));have h3w:=b2.o.lt;clear lp ig df k3;go_upto_region 6 with(first
  |((first|with_reducible refine jb ?_ |with_reducible refine dK ?_);refine ay (.load 36 (.tmp 2)) rfl ?_;refine aJ rfl 36 (.tmp 2) rfl b2.o bZ rfl ?_;try simp only[Act.put,aK])
  |(go_at_call 7;refine(k5.o W3 l4.o).mono ?_;rintro e W4 hP;obtain⟨code,at_,R,zg,so,l,rl,m,rfl,hA,hO,fI⟩:=hP.zg;obtain⟨y,hy⟩:=aB (Option.getD R rV);rw[<-hy]at hO |-;clear hP;replace hy:=Hd hy)
  |((first|with_reducible refine jb ?_ |with_reducible refine dK ?_);refine ay (.store 36 (.tmp 7) (.tmp 41)) rfl ?_;refine eU rfl 36 (.tmp 7) (.tmp 41) rfl (cs':=jP y zg) (ao.new' (cs:=sm) rfl) bZ rfl rfl rfl rfl ?_;intro w4 hz hg))
 have Bu:Bw W4 w4:=by
  have h1:Bw W4 (W4.alloc (.cells ⟨sm⟩ 36)):=bA;exact h1.grown hg h1.size (λq hq=>by injection hq with hq;omega)
 have n4:=fI.size;have m4:W4.heap.size<w4.heap.size:=hz.lt;have h34:=fI.trans (Bu.mono fI.size);have jJ:=Hd (l4.o.trans (h34.mono l4.o.size));replace b2:=Hd (b2.o.stay h34);replace b5:=Hd (b5.o.stay h34);replace r1:=Hd (r1.o.under h34);replace Kn:=Hd (Kn.o.under h34 (λb h=>h));have lR:=Hd hO;replace hO:=Hd (hO.stay Bu);have b7:=Hd hz;have sy:=hA.sz sz.o;rw[<-hy.o]at sy;replace⟨sy,hA⟩:=H2 sy hA;clear fI Bu hz hg h34 l4;go_upto_region 7 with(first
  |((first|with_reducible refine jb ?_ |with_reducible refine dK ?_);refine ay (.load 36 (.tmp 2)) rfl ?_;refine aJ rfl 36 (.tmp 2) rfl b2.o bZ rfl ?_;try simp only[Act.put,aK])
  |(go_at_call 7;refine(k5.o w4 jJ.o).mono ?_;rintro e W5 hP;obtain⟨ZO,at',R',zo,so',l',rl',m',rfl,Ph,ZE,nN⟩:=hP.zg;obtain⟨e1,e2,e3⟩:=hA.o.uniq Ph;subst e1 e2 e3;rw[<-hy.o]at ZE |-;have ro:=ZE.sr (G:=λb=>w4.heap.size<=b/\b<W5.heap.size) (λb h1 h2=>⟨h1,h2⟩) (λb h=>h.2);clear hP ZE Ph)
  |((first|with_reducible refine jb ?_ |with_reducible refine dK ?_);refine ay (.store 36 (.tmp 10) (.tmp 48)) rfl ?_;refine eU rfl 36 (.tmp 10) (.tmp 48) rfl (cs':=jP y zo) (ao.new' (cs:=sm) rfl) bZ rfl rfl rfl rfl ?_;intro w5 hz hg))
 have Bu:Bw W5 w5:=by
  have h1:Bw W5 (W5.alloc (.cells ⟨sm⟩ 36)):=bA;exact h1.grown hg h1.size (λq hq=>by injection hq with hq;omega)
 have n5:=nN.size;have m5:W5.heap.size<w5.heap.size:=hz.lt;have h45:=nN.trans (Bu.mono nN.size);have Ts:=Hd (jJ.o.trans (h45.mono jJ.o.size));replace b2:=Hd (b2.o.stay h45);replace b5:=Hd (b5.o.stay h45);replace b7:=Hd (b7.o.stay h45);replace r1:=r1.o.under h45;replace Kn:=Kn.o.under h45 (λb h=>by omega);replace hO:=Hd (hO.o.stay h45);replace ro:=Hd (ro.under Bu);have ZM:=Hd hz;have k7:=Hd (k6.o w5 Ts.o X2 JD (vP w5 W3.heap.size W4.heap.size) (λb=>b<W3.heap.size) z1 (λb h=>by omega) (r1.mono (λb h h2=>⟨h2,.inl oQ⟩) (λb h=>h.1)) Kn);replace⟨r1,Kn⟩:=H2 r1 Kn;clear nN Bu hz hg h45 jJ k5 k6;go_upto_region 8 with(first
  |((first|with_reducible refine jb ?_ |with_reducible refine dK ?_);refine ay (.load 36 (.tmp 5)) rfl ?_;refine aJ rfl 36 (.tmp 5) rfl b5.o bZ rfl ?_;try simp only[Act.put,aK])
  |(go_at_call 8;refine k7.o.mono ?_;rintro e W6 hP;obtain⟨ZO,at',R',zw,rfl,Ph,DU,mE⟩:=hP;obtain⟨e1,e2,e3⟩:=hA.o.uniq Ph;subst e1 e2 e3;rw[<-hy.o]at DU |-;clear Ph)
  |((first|with_reducible refine jb ?_ |with_reducible refine dK ?_);refine ay (.store 36 (.tmp 13) (.tmp 55)) rfl ?_;refine eU rfl 36 (.tmp 13) (.tmp 55) rfl (cs':=jP y zw) (ao.new' (cs:=sm) rfl) bZ rfl rfl rfl rfl ?_;intro w6 hz hg))
 have Bu:Bw W6 w6:=by
  have h1:Bw W6 (W6.alloc (.cells ⟨sm⟩ 36)):=bA;exact h1.grown hg h1.size (λq hq=>by injection hq with hq;omega)
 have n6:=mE.size;have m6:W6.heap.size<w6.heap.size:=hz.lt;have h56:=mE.trans (Bu.mono mE.size);have sX:=Ts.o.trans (h56.mono Ts.o.size);have tp:LS x y L w W2.heap.size W4.heap.size W5.heap.size W6.heap.size W3.heap.size W4.heap.size z z1 zg zo zw B cb X2 JD w6:=by
  have IZ:=sX.size;refine⟨sX,oQ,b2.o.stay h56,b5.o.stay h56,b7.o.stay h56,ZM.o.stay h56,hz,oQ,nR,oQ,oQ,?_,?_,?_,?_,?_,?_⟩
  .exact(hrs.o.under sX).mono (λb h h2=>⟨h2,.inl oQ⟩) (λb h=>h.1)
  .exact(r1.o.under h56).mono (λb h h2=>⟨h2,.inl oQ⟩) (λb h=>h.1)
  .exact(ro.o.under h56).mono (λb h h2=>⟨h2,.inr oQ⟩) (λb h=>h.1)
  .exact(DU.under Bu).mono (λb h h2=>⟨h2,h.elim (λh=>h.2) (λh=>.inr oQ)⟩) (λb h=>h.1)
  .exact(BQ.o.under sX (λb h=>h)).mono λb h h2=>⟨h2,.inl oQ⟩
  .exact(Kn.o.under h56 (λb h=>by omega)).mono λb h h2=>⟨h2,.inl oQ⟩
 replace hO:=hO.o.stay h56;obtain⟨Bg,sv⟩:=aB W3.heap.size
 obtain⟨Eg,Bv⟩:=aB W4.heap.size
 obtain⟨TD,Wo⟩:=aB W2.heap.size
 obtain⟨D8,NC⟩:=aB W5.heap.size
 obtain⟨D9,ND⟩:=aB W6.heap.size
 have X4:Eg<=w6.heap.size:=oQ;have hBE:Bg<=Eg:=oQ;rw[<-sv,<-Bv,<-Wo,<-NC,<-ND]at tp;rw[<-sv]at lR;replace lR:=Hd lR.o;rw[<-sv]at hO;replace⟨tp,hO⟩:=H2 tp hO;rw[<-Wo,<-NC,<-ND,<-Bv];replace Bv:=Hd Bv;clear sv Wo NC ND n1 n2 n3 n4 n5 n6 m4 m5 m6 h3w h56 sX mE Bu hz hg b2 b5 b7 ZM r1 Kn ro DU hrs BQ Ts k7 hA hy;have kg:=λ(W:World)(h:LS x y L w TD Eg D8 D9 Bg Eg z z1 zg zo zw B cb X2 JD W)(ho:OZ W Bg y zg so l rl m)=>o8 (λb=>b<W.heap.size) _ y zg zw sy.o W (ho.sr (λb _ h=>h) (λb h=>h)) h.DU
 have kst:=λ(W:World)(h:LS x y L w TD Eg D8 D9 Bg Eg z z1 zg zo zw B cb X2 JD W)=>o8 _ _ x z z1 sz.o W h.rs h.r1
 have kow:=λ(W:World)(h:LS x y L w TD Eg D8 D9 Bg Eg z z1 zg zo zw B cb X2 JD W)=>o8 _ _ y zo zw sy.o W h.ro h.DU
 have kch:=λ(W:World)(h:LS x y L w TD Eg D8 D9 Bg Eg z z1 zg zo zw B cb X2 JD W)=>di.xq B X2 cb JD _ _ L hL.o hC.o W (λ_ h=>h.1) (λ_ h=>h.1) h.rl h.Kn
 replace⟨kg,kst,kow,kch⟩:=H4 kg kst kow kch;have tok:True:=trivial;clear sz hC hL;go_upto_region 10 with(first
  |((first|with_reducible refine jb ?_ |with_reducible refine dK ?_);refine ay (.load 36 (.tmp 7)) rfl ?_;refine bU (by first|(with_reducible rfl)|go_simp) 36 (.tmp 7) rfl tp.o.b7 bZ rfl ?_;try simp only[Act.put,aK])
  |((first|with_reducible refine jb ?_ |with_reducible refine dK ?_);refine ay (.load 36 (.tmp 13)) rfl ?_;refine bU (by first|(with_reducible rfl)|go_simp) 36 (.tmp 13) rfl tp.o.Wj bZ rfl ?_;try simp only[Act.put,aK])
  |(go_at_call 9;refine(kg.o w6 tp.o hO.o).eQ λW7 hB=>?_;replace tp:=Hd (tp.o.stay hB);replace hO:=Hd (hO.o.stay hB);have X5:=zU X4 hB.size;clear hB;try simp only[Act.put,aK];rename_i K' hK';refine hK' _ _ ?_;refine dL (.bool false) kQ kQ ?_;try simp only[Act.put,aK];refine dL (.bool false) kQ kQ ?_;try simp only[Act.put,aK];refine dL (.bool false) kQ kQ ?_;try simp only[Act.put,aK];refine bU kQ 36 (.tmp 2) rfl tp.o.b2 bZ kQ ?_;try simp only[Act.put,aK];refine bU kQ 36 (.tmp 5) rfl tp.o.b5 bZ kQ ?_;try simp only[Act.put,aK];refine nH 9 #[.agg ⟨jP x z⟩,.agg ⟨jP x z1⟩] kQ kQ (kst.o W7 tp.o) ?_;rintro e W8 ⟨rfl,hB⟩;refine⟨_,rfl,?_⟩;try simp only[Act.put,aK];replace tp:=Hd (tp.o.stay hB);replace hO:=Hd (hO.o.stay hB);have hE8:=zU X5 hB.size;clear hB;refine dL (.bool false) kQ kQ ?_;try simp only[Act.put,aK];refine dL (.bool false) kQ kQ ?_;try simp only[Act.put,aK];refine dL (.bool false) kQ kQ ?_;try simp only[Act.put,aK];refine dL (.slice B L.length cb) kQ kQ ?_;try simp only[Act.put,aK];refine dL (.slice X2 L.length JD) kQ kQ ?_;try simp only[Act.put,aK];refine nH 10 #[.slice B L.length cb,.slice X2 L.length JD] kQ kQ (kch.o W8 tp.o) ?_;rintro e W9 ⟨rfl,hB⟩;refine⟨_,rfl,?_⟩;try simp only[Act.put,aK];replace tp:=Hd (tp.o.stay hB);replace hO:=Hd (hO.o.stay hB);have hE9:=zU hE8 hB.size;clear hB;refine dL (.bool false) kQ kQ ?_;try simp only[Act.put,aK];refine dL (.bool false) kQ kQ ?_;try simp only[Act.put,aK];try simp only[Act.put,aK]))
 go_upto_region 11 with((first|with_reducible refine jb ?_ |with_reducible refine dK ?_);refine ay (.store 49 (.tmp 16) (.tmp 84)) rfl ?_;refine eU rfl 49 (.tmp 16) (.tmp 84) rfl (cs':=cS fL) (ao.new' (cs:=cS eK) rfl) dU rfl rfl rfl rfl ?_;intro X6 hz hg)
 have Bu:Bw W9 X6:=by
  have h1:Bw W9 (W9.alloc (.cells ⟨cS eK⟩ 49)):=bA;exact h1.grown hg h1.size (λq hq=>by injection hq with hq;omega)
 have vz:Bw W9 X6.drew:=Bu.drew;have hI:LS x y L w TD Eg D8 D9 Bg Eg z z1 zg zo zw B cb X2 JD X6.drew/\OZ X6.drew Bg y zg so l rl m/\ao X6.drew W9.heap.size 49 (cS fL)/\Eg<=W9.heap.size:=⟨tp.o.stay vz,hO.o.stay vz,hz.stay (bR).drew,hE9⟩;obtain⟨NF,ZP⟩:=aB W9.heap.size
 rw[<-ZP]at hI |-;have kI:∀W,LS x y L w TD Eg D8 D9 Bg Eg z z1 zg zo zw B cb X2 JD W/\OZ W Bg y zg so l rl m/\ao W NF 49 (cS fL)/\Eg<=NF->(W.cell? ⟨Eg,11,none⟩=some (.slice zg.a5 y.held.length zg.c5)/\W.cell? ⟨Eg,12,none⟩=some (.slice zg.a6 y.kept.length zg.c6)/\W.cell? ⟨Eg,13,none⟩=some (.slice zg.a7 y.wait.length zg.c7)/\W.cell? ⟨Eg,14,none⟩=some (.slice zg.a8 y.used.length zg.c8)/\W.rangeAt NF 0 (cS fL)):=λW h=>by
  obtain⟨h1,h2,h3,h4⟩:=h;obtain⟨_,_,_,_,_,_,_,_,_,_,_,rC,tP,rW,tQ⟩:=bj h1.b7;exact⟨rC,tP,rW,tQ,h3.range⟩
 have ak:=xW (kI _ hI) trivial;have hlen:=sy.o;replace⟨hI,kI⟩:=H2 hI kI;clear Bu vz hz hg ZP tp hO X5 hE8 hE9 X4 kch;refine aC (p:=100) (S0:=λW=>W.cell? ⟨Eg,11,none⟩=some (.slice zg.a5 y.held.length zg.c5)/\W.cell? ⟨Eg,12,none⟩=some (.slice zg.a6 y.kept.length zg.c6)/\W.cell? ⟨Eg,13,none⟩=some (.slice zg.a7 y.wait.length zg.c7)/\W.cell? ⟨Eg,14,none⟩=some (.slice zg.a8 y.used.length zg.c8)/\W.rangeAt NF 0 (cS fL)) (S1:=λ_=>True) kQ ?_;generalize X6.drew=U at hI ak |-;refine' aq 0 rfl ak ?_;refine' aq 1 rfl ak ?_;try simp only[Act.put,aK]
 go_simp;refine' bm (i:=2) (v:=_) rfl dQ kQ kQ kQ (λ_ _ _ h=>h) ak (yieldsIf_load_mid (by first|(with_reducible rfl)|go_simp) 49 (.tmp 16) rfl (NF) (0) (by first|rfl |go_simp) (cS fL) _ (λW h=>h.2.2.2.2) underlying49 rfl kQ) ?VR;try simp only[Act.put,aK]
 go_simp;refine' bm (i:=3) (v:=_) rfl dQ kQ kQ kQ (λ_ _ _ h=>h) ak (yieldsIf_load_mid (by first|(with_reducible rfl)|go_simp) 49 (.tmp 16) rfl (NF) (0) (by first|rfl |go_simp) (cS fL) _ (λW h=>h.2.2.2.2) underlying49 rfl kQ) ?Ny;refine' aq 7 rfl ak ?_;refine' aq 8 rfl ak ?_;try simp only[Act.put,aK]
 go_simp;refine' bm (i:=9) (v:=_) rfl dQ kQ kQ kQ (λ_ _ _ h=>h) ak (yieldsIf_load_mid (by first|(with_reducible rfl)|go_simp) 49 (.tmp 16) rfl (NF) (0) (by first|rfl |go_simp) (cS fL) _ (λW h=>h.2.2.2.2) underlying49 rfl kQ) ?aeK;try simp only[Act.put,aK]
 go_simp;refine' bm (i:=10) (v:=_) rfl dQ kQ kQ kQ (λ_ _ _ h=>h) ak (yieldsIf_load_mid (by first|(with_reducible rfl)|go_simp) 49 (.tmp 16) rfl (NF) (0) (by first|rfl |go_simp) (cS fL) _ (λW h=>h.2.2.2.2) underlying49 rfl kQ) ?abM;refine' aq 15 rfl ak ?_;refine' aq 16 rfl ak ?_;refine' aq 17 rfl ak ?_;refine' aq 22 rfl ak ?_;refine' aq 23 rfl ak ?_;refine' aq 24 rfl ak ?_;try simp only[Act.put,aK]
 go_simp;have zh:=hlen.h;have zk:=hlen.k;have zu:=hlen.u;have zwt:=hlen.w;obtain⟨I,hI,kI,sI,oI,gI⟩:∃I:World->Prop,I U/\(∀W,I W->(W.cell? ⟨Eg,11,none⟩=some (.slice zg.a5 y.held.length zg.c5)/\W.cell? ⟨Eg,12,none⟩=some (.slice zg.a6 y.kept.length zg.c6)/\W.cell? ⟨Eg,13,none⟩=some (.slice zg.a7 y.wait.length zg.c7)/\W.cell? ⟨Eg,14,none⟩=some (.slice zg.a8 y.used.length zg.c8)/\W.rangeAt NF 0 (cS fL)))/\(∀W W',I W->Bw W W'->I W')/\(∀W,I W->(LS x y L w TD Eg D8 D9 Bg Eg z z1 zg zo zw B cb X2 JD W/\OZ W Bg y zg so l rl m)/\Eg<=W.heap.size)/\(∀W W' (row:Option Nat),I W->W.grownBy W' row->(∀q,row=some q->Bg<=q/\q<Eg)->OZ W' Bg y zg so l rl m->I W'/\Kp W W' Bg Eg):=
  ⟨λW=>LS x y L w TD Eg D8 D9 Bg Eg z z1 zg zo zw B cb X2 JD W/\OZ W Bg y zg so l rl m/\ao W NF 49 (cS fL)/\Eg<=NF,hI.o,kI.o,λW W' h hb=>⟨h.1.stay hb,h.2.1.stay hb,h.2.2.1.stay hb,h.2.2.2⟩,λW h=>⟨⟨h.1,h.2.1⟩,by have:=h.2.2.1.lt;have:=h.2.2.2;omega⟩,λW W' row h hg hr hO=>by
   have k:Kp W W' Bg Eg:=(Kp.refl _ _ _).write hg (λq hq=>.inl (hr q hq));exact⟨⟨h.1.kp k,hO,k.vM h.2.2.1 (.inr h.2.2.2),h.2.2.2⟩,k⟩⟩
 clear ak;refine xn (ks:=[4,5,6,11,12,13,14,18,19,20,21,25,26,27,28,29]) (ds:=[89,90,91,96,97,98,99,103,104,105,106,110,111,112,113,17]) (X0 y Eg) I (λW W'=>Kp W W' Bg Eg) kQ kQ (Nat.le_of_eq kQ) kQ kQ (λW h=>⟨kI W h,trivial⟩) (λk v W W' hR h=>X0.stay k v W W' hR h) hI ?_ ?_;rotate_left
 .intro f W hW hT;obtain⟨N,hN,e17⟩:∃N:Nat,6<=N/\f 17=.int .i64 (N:Int):=⟨y.held.length+2+(y.kept.length+2)+(y.used.length+1)+(y.wait.length+1),oQ,hT 29 17 kQ⟩
  have tp:=Hd (oI W hW).1.1;have hO:=Hd (oI W hW).1.2;have X4:=(oI W hW).2;have h6:decide ((N:Int)<6)=false:=zV oQ;clear hI kI sI oI gI hT hW hN;simp only[List.foldl,e17];go_simp;go_upto_region 14 with(first
   |((first|with_reducible refine jb ?_ |with_reducible refine dK ?_);refine ay (.load 36 (.tmp 7)) rfl ?_;refine bU (by first|(with_reducible rfl)|go_simp) 36 (.tmp 7) rfl tp.o.b7 bZ rfl ?_;try simp only[Act.put,aK])
   |((first|with_reducible refine jb ?_ |with_reducible refine dK ?_);refine ay (.load 36 (.tmp 13)) rfl ?_;refine bU (by first|(with_reducible rfl)|go_simp) 36 (.tmp 13) rfl tp.o.Wj bZ rfl ?_;try simp only[Act.put,aK])
   |(go_at_call 9;refine(kg.o W tp.o hO.o).eQ λwB hB=>?_;replace tp:=Hd (tp.o.stay hB);replace hO:=Hd (hO.o.stay hB);replace X4:=zU X4 hB.size;clear hB kg;try simp only[Act.put,aK];rename_i K' hK';refine hK' _ _ ?_;refine dL (.bool false) kQ kQ ?_;try simp only[Act.put,aK];refine dL (.bool false) kQ kQ ?_;try simp only[Act.put,aK];try simp only[Act.put,aK]))
  have hW:=Hd (qS.refl wB Bg Eg);have kb:=Hd (λwr (h:qS wB wr Bg Eg)=>bj (tp.o.kp h.kp).b7);go_wp2;go_loopw [18] (λi wr=>∃j:Nat,j<=y.wait.length/\i=.int .i64 j/\qS wB wr Bg Eg) (λi _=>y.wait.length- (intOf i).toNat)
  .exact⟨0,zE _,rfl,hW.o⟩
  clear hW;obtain⟨j,hj,rfl,hW⟩:=hrel;obtain⟨q0,q1,q2,q3,q4,q5,q6,q7,q8,q9,vQ,rC,tP,rW,tQ⟩:=kb.o wr hW;by_cases hlt:j<y.wait.length
  .have B0:=hO.o.lens.2.2;obtain⟨p,hp⟩:=av (l:=m) (i:=j) oQ;have fe:=zA hp;obtain⟨g7,LP,ZQ,e,Db,_,_,_⟩:=(hO.o.m.kr).slot hW oQ;have kT:=hO.o.m.kr;rw[e]at kT;injection e with e1 _ _
   have X5:g7<Eg:=by rw[Bv.o];exact((lR.o.m.kr).lt g7 (by rw[e1];rfl)).2
   obtain⟨xm,s1,s2,s3⟩:=p;have r1:OL wB Bg bE 51 2 s1 xm.iE.length (xm.iE.flatMap qi):=hO.o.m.f1 _ fe;have r2:OL wB Bg bE 3 1 s2 xm.lens.length (xm.lens.flatMap (jf .i64)):=hO.o.m.f2 _ fe;have r3:OL wB Bg bE 57 2 s3 xm.vals.length (xm.vals.flatMap uh):=hO.o.m.f3 _ fe;have v1:OL W4 Bg bE 51 2 s1 xm.iE.length (xm.iE.flatMap qi):=lR.o.m.f1 _ fe;have v2:OL W4 Bg bE 3 1 s2 xm.lens.length (xm.lens.flatMap (jf .i64)):=lR.o.m.f2 _ fe;have v3:OL W4 Bg bE 57 2 s3 xm.vals.length (xm.vals.flatMap uh):=lR.o.m.f3 _ fe;obtain⟨zm1,zm2,zm3⟩:=hlen.m xm (by rw[<-hO.o.em];exact xJ (f:=λp:Mt×Value×Value×Value=>p.1) fe);obtain⟨C1,f1,rfl⟩:=r1.form;obtain⟨C2,f2,rfl⟩:=r2.form;obtain⟨C3,f3,rfl⟩:=r3.form;have gE:=Hd (λwx (h:qS wB wx Bg Eg)=>(show wx.cell? ⟨g7,j*4+1,none⟩=some (.slice C1 xm.iE.length f1)/\wx.cell? ⟨g7,j*4+2,none⟩=some (.slice C2 xm.lens.length f2)/\wx.cell? ⟨g7,j*4+3,none⟩=some (.slice C3 xm.vals.length f3)from
    ⟨kT.D6 h (po (j:=1) (f:=λp:Mt×Value×Value×Value=>[D.v (.int .i64 p.1.dec),.v p.2.1,.v p.2.2.1,.v p.2.2.2]) (m:=4) (λ_=>rfl) hp rfl) (.inl ⟨rfl,oQ⟩),kT.D6 h (po (j:=2) (f:=λp:Mt×Value×Value×Value=>[D.v (.int .i64 p.1.dec),.v p.2.1,.v p.2.2.1,.v p.2.2.2]) (m:=4) (λ_=>rfl) hp rfl) (.inl ⟨rfl,oQ⟩),kT.D6 h (po (j:=3) (f:=λp:Mt×Value×Value×Value=>[D.v (.int .i64 p.1.dec),.v p.2.1,.v p.2.2.1,.v p.2.2.2]) (m:=4) (λ_=>rfl) hp rfl) (.inl ⟨rfl,oQ⟩)⟩))
   rw[e1]at rW;have g0:=aH j;have g1:=aV j y.wait.length;replace⟨e1,r1,r2,r3,v1,v2,v3,X5,B0,hW⟩:=yX e1 r1 r2 r3 v1 v2 v3 X5 B0 hW;clear hp fe kT Db;go_wp2;clear q0 q1 q2 q3 q4 q5 q6 q7 q8 q9 vQ rC tP rW tQ;go_loopw [19] (λi' wx=>∃k:Nat,k<=xm.iE.length/\i'=.int .i64 k/\qS wB wx Bg Eg) (λi' _=>xm.iE.length- (intOf i').toNat)
   .exact⟨0,zE _,rfl,hW.o⟩
   clear hW;obtain⟨k,hk,rfl,hW⟩:=hrel;obtain⟨q0,q1,q2,q3,q4,q5,q6,q7,q8,q9,vQ,rC,tP,rW,tQ⟩:=kb.o wr hW;rw[e1.o]at rW;obtain⟨d1,d2,d3⟩:=gE.o wr hW;by_cases kW:k<xm.iE.length
   .obtain⟨g,cap,cur,e,hB,_,ew,hsz⟩:=(r1.o).slot hW oQ;injection e with e2 _ _
    have hE:g<Eg:=(by rw[Bv.o];exact((v1.o).lt g (by rw[e2];rfl)).2);rw[e2]at d1;have hth:=Hd (D7 ew (o:=k*2) (m:=2) oQ);have bz:=Hd (qS.sets hB hE (λk=>Kc.no k) [.int .i64 777,.int .u64 0] wr cur (k*2) hW ew);have p0:=aH k;have p1:=aV k xm.iE.length;replace hE:=Hd hE;clear hW ew hsz hB e2;go_wp2_with ((first|with_reducible refine jb ?_ |with_reducible refine dK ?_);refine ay (.store 51 (.tmp 148) (.tmp 147)) rfl ?_;refine wpList_store_mid rfl 51 (.tmp 148) (.tmp 147) rfl g (k*2) ⟨[.int .i64 777,.int .u64 0]⟩ rfl rfl hth.o rfl (all_oneCell_toArray (λv hv=>xP.1 (show(([.int .i64 777,.int .u64 0]:List Value).all λv=>v.oneCell')=true from rfl) v hv)) ?_);go_roundw
    .exact⟨k+1,oQ,gQ,bz.o⟩
    exact mQ
   obtain rfl:k=xm.iE.length:=oQ;replace hW:=Hd hW;go_wp2;clear d1 d2 d3 q0 q1 q2 q3 q4 q5 q6 q7 q8 q9 vQ rC tP rW tQ;go_loopw [20] (λi' wx=>∃k:Nat,k<=xm.lens.length/\i'=.int .i64 k/\qS wB wx Bg Eg) (λi' _=>xm.lens.length- (intOf i').toNat)
   .exact⟨0,zE _,rfl,hW.o⟩
   clear hW;obtain⟨k,hk,rfl,hW⟩:=hrel;obtain⟨q0,q1,q2,q3,q4,q5,q6,q7,q8,q9,vQ,rC,tP,rW,tQ⟩:=kb.o wr hW;rw[e1.o]at rW;obtain⟨d1,d2,d3⟩:=gE.o wr hW;by_cases kW:k<xm.lens.length
   .obtain⟨g,cap,cur,e,hB,_,ew,hsz⟩:=(r2.o).slot hW oQ;injection e with e2 _ _
    have hE:g<Eg:=(by rw[Bv.o];exact((v2.o).lt g (by rw[e2];rfl)).2);rw[e2]at d2;obtain⟨u,c0,f0⟩:=jQ ew (k:=k) oQ;have bz:=Hd (hW.set ew hB hE k (.int .i64 777) (Kc.no _));have p0:=aH k;have p1:=aV k xm.lens.length;replace hE:=Hd hE;clear hW ew hsz hB e2;go_wp2;go_roundw
    .exact⟨k+1,oQ,gQ,bz.o⟩
    exact mQ
   obtain rfl:k=xm.lens.length:=oQ;replace hW:=Hd hW;go_wp2;clear d1 d2 d3 q0 q1 q2 q3 q4 q5 q6 q7 q8 q9 vQ rC tP rW tQ;go_loopw [21] (λi' wx=>∃k:Nat,k<=xm.vals.length/\i'=.int .i64 k/\qS wB wx Bg Eg) (λi' _=>xm.vals.length- (intOf i').toNat)
   .exact⟨0,zE _,rfl,hW.o⟩
   clear hW;obtain⟨k,hk,rfl,hW⟩:=hrel;obtain⟨q0,q1,q2,q3,q4,q5,q6,q7,q8,q9,vQ,rC,tP,rW,tQ⟩:=kb.o wr hW;rw[e1.o]at rW;obtain⟨d1,d2,d3⟩:=gE.o wr hW;by_cases kW:k<xm.vals.length
   .obtain⟨g,cap,cur,e,hB,_,ew,hsz⟩:=(r3.o).slot hW oQ;injection e with e2 _ _
    have hE:g<Eg:=(by rw[Bv.o];exact((v3.o).lt g (by rw[e2];rfl)).2);rw[e2]at d3;have hth:=Hd (D7 ew (o:=k*2) (m:=2) oQ);have bz:=Hd (qS.sets hB hE (λk=>Kc.no k) [.bool false,.int .i64 777] wr cur (k*2) hW ew);have p0:=aH k;have p1:=aV k xm.vals.length;replace hE:=Hd hE;clear hW ew hsz hB e2;go_wp2_with ((first|with_reducible refine jb ?_ |with_reducible refine dK ?_);refine ay (.store 57 (.tmp 187) (.tmp 186)) rfl ?_;refine wpList_store_mid rfl 57 (.tmp 187) (.tmp 186) rfl g (k*2) ⟨[.bool false,.int .i64 777]⟩ rfl rfl hth.o rfl (all_oneCell_toArray (λv hv=>xP.1 (show(([.bool false,.int .i64 777]:List Value).all λv=>v.oneCell')=true from rfl) v hv)) ?_);go_roundw
    .exact⟨k+1,oQ,gQ,bz.o⟩
    exact mQ
   obtain rfl:k=xm.vals.length:=oQ;replace hW:=Hd hW;obtain⟨g,cap,cur,e,hB,_,ew,hsz⟩:=(hO.o.m.kr).slot hW.o (by have:=B0.o;omega);injection e with e2 _ _
   obtain rfl:g7=g:=by rw[e1.o]at e2;injection e2 with e2;injection e2
   have aeM:=B0.o;obtain⟨u,c0,f0⟩:=jQ ew (k:=j*4) oQ;have bz:=Hd (hW.o.set ew hB X5.o (j*4) (.int .i64 777) (λh=>by rcases h with⟨_,h⟩|h |h<;>first|omega |exact absurd h dQ));clear hW ew hsz hB e2 aeM;go_wp2;go_roundw
   .exact⟨j+1,oQ,gQ,bz.o⟩
   exact mQ
  obtain rfl:j=y.wait.length:=oQ;replace hW:=Hd hW;go_wp2;clear q0 q1 q2 q3 q4 q5 q6 q7 q8 q9 vQ rC tP rW tQ;go_loopw [22] (λi wr=>∃j:Nat,j<=y.used.length/\i=.int .i64 j/\qS wB wr Bg Eg) (λi _=>y.used.length- (intOf i).toNat)
  .exact⟨0,zE _,rfl,hW.o⟩
  clear hW;obtain⟨j,hj,rfl,hW⟩:=hrel;obtain⟨q0,q1,q2,q3,q4,q5,q6,q7,q8,q9,vQ,rC,tP,rW,tQ⟩:=kb.o wr hW;by_cases hlt:j<y.used.length
  .obtain⟨g,cap,cur,e,hB,RT,ew,hsz⟩:=(hO.o.u).slot hW oQ;injection e with e1 _ _
   have hE:g<Eg:=by rw[Bv.o];exact((lR.o.u).lt g (by rw[e1];rfl)).2
   rw[e1]at tQ;obtain⟨u,c0,f0⟩:=jQ ew (k:=j*2) oQ;have bz:=Hd (hW.set ew hB hE (j*2) (.int .i64 777) (Kc.no _));have g0:=aH j;have g1:=aV j y.used.length;replace hE:=Hd hE;clear hW ew hsz hB e1 RT;go_wp2;go_roundw
   .exact⟨j+1,oQ,gQ,bz.o⟩
   exact mQ
  obtain rfl:j=y.used.length:=oQ;replace hW:=Hd hW;go_wp2;clear q0 q1 q2 q3 q4 q5 q6 q7 q8 q9 vQ rC tP rW tQ;go_loopw [23] (λi wr=>∃j:Nat,j<=y.held.length/\i=.int .i64 j/\qS wB wr Bg Eg) (λi _=>y.held.length- (intOf i).toNat)
  .exact⟨0,zE _,rfl,hW.o⟩
  clear hW;obtain⟨j,hj,rfl,hW⟩:=hrel;obtain⟨q0,q1,q2,q3,q4,q5,q6,q7,q8,q9,vQ,rC,tP,rW,tQ⟩:=kb.o wr hW;by_cases hlt:j<y.held.length
  .obtain⟨g,cap,cur,e,hB,RT,ew,hsz⟩:=(hO.o.h).slot hW oQ;injection e with e1 _ _
   have hE:g<Eg:=by rw[Bv.o];exact((lR.o.h).lt g (by rw[e1];rfl)).2
   rw[e1]at rC;obtain⟨u,c0,f0⟩:=jQ ew (k:=j*11) oQ;have bz:=Hd (hW.set ew hB hE (j*11) (.int .i64 777) (Kc.no _));have g0:=aH j;have g1:=aV j y.held.length;replace hE:=Hd hE;clear hW ew hsz hB e1 RT;go_wp2;go_roundw
   .exact⟨j+1,oQ,gQ,bz.o⟩
   exact mQ
  obtain rfl:j=y.held.length:=oQ;replace hW:=Hd hW;go_wp2;clear q0 q1 q2 q3 q4 q5 q6 q7 q8 q9 vQ rC tP rW tQ;go_loopw [24] (λi wr=>∃j:Nat,j<=y.kept.length/\i=.int .i64 j/\qS wB wr Bg Eg) (λi _=>y.kept.length- (intOf i).toNat)
  .exact⟨0,zE _,rfl,hW.o⟩
  clear hW;obtain⟨j,hj,rfl,hW⟩:=hrel;obtain⟨q0,q1,q2,q3,q4,q5,q6,q7,q8,q9,vQ,rC,tP,rW,tQ⟩:=kb.o wr hW;by_cases hlt:j<y.kept.length
  .obtain⟨g,cap,cur,e,hB,RT,ew,hsz⟩:=(hO.o.k).slot hW oQ;injection e with e1 _ _
   have hE:g<Eg:=by rw[Bv.o];exact((lR.o.k).lt g (by rw[e1];rfl)).2
   rw[e1]at tP;obtain⟨u,c0,f0⟩:=jQ ew (k:=j*11) oQ;have bz:=Hd (hW.set ew hB hE (j*11) (.int .i64 777) (Kc.no _));have g0:=aH j;have g1:=aV j y.kept.length;replace hE:=Hd hE;clear hW ew hsz hB e1 RT;go_wp2;go_roundw
   .exact⟨j+1,oQ,gQ,bz.o⟩
   exact mQ
  obtain rfl:j=y.kept.length:=oQ;replace hW:=Hd hW;go_wp2;clear q0 q1 q2 q3 q4 q5 q6 q7 q8 q9 vQ rC tP rW tQ;have zil:=hlen.q.il;have zrl:=hlen.q.rl;have zwh:=hlen.q.wh.1;go_loopw [25] (λi wr=>∃j:Nat,j<=y.q.items.length/\i=.int .i64 j/\qS wB wr Bg Eg) (λi _=>y.q.items.length- (intOf i).toNat)
  .exact⟨0,zE _,rfl,hW.o⟩
  clear hW;obtain⟨j,hj,rfl,hW⟩:=hrel;obtain⟨q0,q1,q2,q3,q4,q5,q6,q7,q8,q9,vQ,rC,tP,rW,tQ⟩:=kb.o wr hW;by_cases hlt:j<y.q.items.length
  .have B0:=hO.o.lens.1;obtain⟨p,hp⟩:=av (l:=l) (i:=j) oQ;have fe:=zA hp;obtain⟨g7,LP,ZQ,e,_,_,_,_⟩:=(hO.o.q.i.kr).slot hW oQ;have kT:=hO.o.q.i.kr;rw[e]at kT;injection e with e1 _ _
   obtain⟨xm,s1⟩:=p;have r1:OL wB Bg bE 9 1 s1 (xm.ah.length) (xm.ah.flatMap aG):=hO.o.q.i.fr _ fe;have v1:OL W4 Bg bE 9 1 s1 (xm.ah.length) (xm.ah.flatMap aG):=lR.o.q.i.fr _ fe;have zm:=(hlen.q.it xm (by rw[<-hO.o.el];exact xJ (f:=λp:It×Value=>p.1) fe)).1.1;obtain⟨C1,f1,rfl⟩:=r1.form;have gE:=Hd (λwx (h:qS wB wx Bg Eg)=>(show wx.cell? ⟨g7,j*5+1,none⟩=some (.slice C1 (xm.ah.length) f1)from kT.D6 h (po (f:=Ci) (m:=5) (j:=1) (λ_=>rfl) hp rfl) (.inr (.inl rfl))));rw[e1]at q1;have g0:=aH j;have g1:=aV j y.q.items.length;replace⟨e1,r1,v1,B0,hW⟩:=H5 e1 r1 v1 B0 hW;clear hp fe kT;go_wp2;clear q0 q1 q2 q3 q4 q5 q6 q7 q8 q9 vQ rC tP rW tQ;go_loopw [26] (λi' wx=>∃k:Nat,k<=xm.ah.length/\i'=.int .i64 k/\qS wB wx Bg Eg) (λi' _=>xm.ah.length- (intOf i').toNat)
   .exact⟨0,zE _,rfl,hW.o⟩
   clear hW;obtain⟨k,hk,rfl,hW⟩:=hrel;obtain⟨q0,q1,q2,q3,q4,q5,q6,q7,q8,q9,vQ,rC,tP,rW,tQ⟩:=kb.o wr hW;rw[e1.o]at q1;have d1:=gE.o wr hW;by_cases kW:k<xm.ah.length
   .obtain⟨g,cap,cur,e,hB,_,ew,hsz⟩:=(r1.o).slot hW oQ;injection e with e2 _ _
    have hE:g<Eg:=(by rw[Bv.o];exact((v1.o).lt g (by rw[e2];rfl)).2);rw[e2]at d1;obtain⟨u,c0,f0⟩:=jQ ew (k:=k) oQ;have bz:=Hd (hW.set ew hB hE (k) (.string ⟨#[83,112,111,105,108,116]⟩) (Kc.no _));have p0:=aH k;have p1:=aV k xm.ah.length;replace hE:=Hd hE;clear hW ew hsz hB e2;go_wp2;go_roundw
    .exact⟨k+1,oQ,gQ,bz.o⟩
    exact mQ
   obtain rfl:k=xm.ah.length:=oQ;replace hW:=Hd hW;go_wp2;go_roundw
   .exact⟨j+1,oQ,gQ,hW.o⟩
   exact mQ
  obtain rfl:j=y.q.items.length:=oQ;replace hW:=Hd hW;go_wp2;clear q0 q1 q2 q3 q4 q5 q6 q7 q8 q9 vQ rC tP rW tQ;go_loopw [27] (λi wr=>∃j:Nat,j<=y.q.wh.length/\i=.int .i64 j/\qS wB wr Bg Eg) (λi _=>y.q.wh.length- (intOf i).toNat)
  .exact⟨0,zE _,rfl,hW.o⟩
  clear hW;obtain⟨j,hj,rfl,hW⟩:=hrel;obtain⟨q0,q1,q2,q3,q4,q5,q6,q7,q8,q9,vQ,rC,tP,rW,tQ⟩:=kb.o wr hW;by_cases hlt:j<y.q.wh.length
  .obtain⟨g,cap,cur,e,hB,RT,ew,hsz⟩:=(hO.o.q.wr).slot hW oQ;injection e with e1 _ _
   have hE:g<Eg:=by rw[Bv.o];exact((lR.o.q.wr).lt g (by rw[e1];rfl)).2
   rw[e1]at q4;obtain⟨u,c0,f0⟩:=jQ ew (k:=j*6+1) oQ;have bz:=Hd (hW.set ew hB hE (j*6+1) (.int .i64 777) (Kc.no _));have g0:=aH j;have g1:=aV j y.q.wh.length;replace hE:=Hd hE;clear hW ew hsz hB e1 RT;go_wp2;go_roundw
   .exact⟨j+1,oQ,gQ,bz.o⟩
   exact mQ
  obtain rfl:j=y.q.wh.length:=oQ;replace hW:=Hd hW;go_wp2;clear q0 q1 q2 q3 q4 q5 q6 q7 q8 q9 vQ rC tP rW tQ;go_loopw [28] (λi wr=>∃j:Nat,j<=y.q.ret.length/\i=.int .i64 j/\qS wB wr Bg Eg) (λi _=>y.q.ret.length- (intOf i).toNat)
  .exact⟨0,zE _,rfl,hW.o⟩
  clear hW;obtain⟨j,hj,rfl,hW⟩:=hrel;obtain⟨q0,q1,q2,q3,q4,q5,q6,q7,q8,q9,vQ,rC,tP,rW,tQ⟩:=kb.o wr hW;by_cases hlt:j<y.q.ret.length
  .have B0:=hO.o.lens.2.1;obtain⟨p,hp⟩:=av (l:=rl) (i:=j) oQ;have fe:=zA hp;obtain⟨g7,LP,ZQ,e,_,_,_,_⟩:=(hO.o.q.r.kr).slot hW oQ;have kT:=hO.o.q.r.kr;rw[e]at kT;injection e with e1 _ _
   obtain⟨xm,s1⟩:=p;have r1:OL wB Bg bE 63 6 s1 (List.length xm) (xm.flatMap b9):=hO.o.q.r.fr _ fe;have v1:OL W4 Bg bE 63 6 s1 (List.length xm) (xm.flatMap b9):=lR.o.q.r.fr _ fe;have zm:=(hlen.q.re xm (by rw[<-hO.o.er];exact xJ (f:=λp:List Nd×Value=>p.1) fe)).1;obtain⟨C1,f1,rfl⟩:=r1.form;have gE:=Hd (λwx (h:qS wB wx Bg Eg)=>(show wx.cell? ⟨g7,j,none⟩=some (.slice C1 (List.length xm) f1)from(by have h1:=kT.D6 h (po (f:=J8) (m:=1) (j:=0) (λ_=>rfl) hp rfl) (.inr (.inr rfl));simpa using h1)));rw[e1]at q7;have g0:=aH j;have g1:=aV j y.q.ret.length;replace⟨e1,r1,v1,B0,hW⟩:=H5 e1 r1 v1 B0 hW;clear hp fe kT;go_wp2;clear q0 q1 q2 q3 q4 q5 q6 q7 q8 q9 vQ rC tP rW tQ;go_loopw [29] (λi' wx=>∃k:Nat,k<=List.length xm/\i'=.int .i64 k/\qS wB wx Bg Eg) (λi' _=>List.length xm- (intOf i').toNat)
   .exact⟨0,zE _,rfl,hW.o⟩
   clear hW;obtain⟨k,hk,rfl,hW⟩:=hrel;obtain⟨q0,q1,q2,q3,q4,q5,q6,q7,q8,q9,vQ,rC,tP,rW,tQ⟩:=kb.o wr hW;rw[e1.o]at q7;have d1:=gE.o wr hW;by_cases kW:k<List.length xm
   .obtain⟨g,cap,cur,e,hB,_,ew,hsz⟩:=(r1.o).slot hW oQ;injection e with e2 _ _
    have hE:g<Eg:=(by rw[Bv.o];exact((v1.o).lt g (by rw[e2];rfl)).2);rw[e2]at d1;obtain⟨u,c0,f0⟩:=jQ ew (k:=k*6+1) oQ;have bz:=Hd (hW.set ew hB hE (k*6+1) (.int .i64 777) (Kc.no _));have p0:=aH k;have p1:(k:Int)<List.length xm:=oQ;replace hE:=Hd hE;clear hW ew hsz hB e2;go_wp2;go_roundw
    .exact⟨k+1,oQ,gQ,bz.o⟩
    exact mQ
   obtain rfl:k=List.length xm:=oQ;replace hW:=Hd hW;go_wp2;go_roundw
   .exact⟨j+1,oQ,gQ,hW.o⟩
   exact mQ
  obtain rfl:j=y.q.ret.length:=oQ;replace hW:=Hd hW;go_upto_region 60 with fail
  clear q0 q1 q2 q3 q4 q5 q6 q7 q8 q9 vQ rC tP rW tQ;obtain⟨wz,hwz⟩:=aB wr
  subst hwz;have NG:=Hd (tp.o.kp hW.o.kp);clear tp hO lR hW kb hlen X4 Bv;go_wp2_with (first
   |((first|with_reducible refine jb ?_ |with_reducible refine dK ?_);refine ay (.load 36 (.tmp 2)) rfl ?_;refine aJ rfl 36 (.tmp 2) rfl NG.o.b2 bZ rfl ?_;try simp only[Act.put,aK])
   |((first|with_reducible refine jb ?_ |with_reducible refine dK ?_);refine ay (.load 36 (.tmp 5)) rfl ?_;refine aJ rfl 36 (.tmp 5) rfl NG.o.b5 bZ rfl ?_;try simp only[Act.put,aK])
   |(go_at_call 9;refine(kst.o wz NG.o).eQ λW13 hB=>?_;replace NG:=Hd (NG.o.stay hB);clear hB;try simp only[Act.put,aK];(first|(rename_i K' hK';refine hK' _ _ ?_)|skip);refine dL (.bool true) kQ kQ ?_;try simp only[Act.put,aK];refine bU kQ 36 (.tmp 10) rfl NG.o.ZM bZ kQ ?_;try simp only[Act.put,aK];refine bU kQ 36 (.tmp 13) rfl NG.o.Wj bZ kQ ?_;try simp only[Act.put,aK];refine nH 9 #[.agg ⟨jP y zo⟩,.agg ⟨jP y zw⟩] kQ kQ (kow.o W13 NG.o) ?_;rintro e W14 ⟨rfl,hB⟩;refine⟨_,rfl,?_⟩;try simp only[Act.put,aK];replace NG:=Hd (NG.o.stay hB);clear hB;refine dL (.bool true) kQ kQ ?_;try simp only[Act.put,aK];try simp only[Act.put,aK]))
  go_ret;exact⟨rfl,NG.o.hb⟩
 repeat' (first|(refine List.forall_mem_cons.2 ⟨?_,?_⟩))
 all_goals(try(intro _ h;cases h;done))
 .intro o ho b W hW et hT K hK;obtain rfl:_=o:=eO ho;have hB:Bw W (W.alloc (.cells ⟨cS fL++cS fL⟩ 49)):=bA;exact⟨by rfl,ui (w':=W.alloc (.cells ⟨cS fL++cS fL⟩ 49)) [(87,.agg ⟨cS fL⟩),(88,.agg ⟨cS fL⟩)] (.slice (some ⟨W.heap.size,0,none⟩) 2 2) (λp hp=>by simp only[List.mem_cons,List.not_mem_nil,or_false]at hp;rcases hp with rfl |rfl<;>exact et _ dQ) kQ (hK.o _ _ (sI _ _ hW hB) ((Kp.refl _ _ _).below hB) ⟨_,rfl,(oI _ hW).2,ao.new _ _ _⟩)⟩
 .intro o ho b W hW et hT K hK;obtain rfl:_=o:=eO ho;obtain⟨g,e1,_,hb⟩:=hT 4 89 kQ;have e0:b.tmps.getD 86 undef=.slice zg.a5 y.held.length zg.c5:=et 86 dQ;exact⟨by rfl,lH (.tmp 86) (.tmp 89) _ rfl (newsV:=cS fL++cS fL) (m:=2) yN ((oI _ hW).1.2.h) e0 e1 (by rfl) (λj u hu=>by rw[l9,hb.cell j];exact hu) (λu hu=>xP.1 (show((cS fL++cS fL:List Value).all λv=>v.oneCell')=true from rfl) u hu) oQ oQ (zU hBE (oI _ hW).2) oQ λA c W' hO hg=>by
   obtain⟨i1,i2⟩:=gI _ _ _ hW hg (λq hq=>by rw[Bv.o];exact(lR.o.h).lt q hq) ((oI _ hW).1.2.aeE hg hO);exact hK.o _ _ i1 i2 ⟨A,c,rfl⟩⟩
 .intro o ho b W hW et hT K hK;obtain rfl:_=o:=eO ho;obtain⟨A,c,e1⟩:=hT 5 90 kQ;exact⟨by rfl,ui (w':=W) [(90,.slice A (y.held.length+2) c)] (.int .i64 ((y.held.length+2:Nat):Int)) (λp hp=>by rw[xB]at hp;subst hp;exact e1) kQ (hK.o _ _ hW (Kp.refl _ _ _) rfl)⟩
 .intro o ho b W hW et hT K hK;obtain rfl:_=o:=eO ho;have hB:Bw W (W.alloc (.cells ⟨cS fL++cS fL⟩ 49)):=bA;exact⟨by rfl,ui (w':=W.alloc (.cells ⟨cS fL++cS fL⟩ 49)) [(94,.agg ⟨cS fL⟩),(95,.agg ⟨cS fL⟩)] (.slice (some ⟨W.heap.size,0,none⟩) 2 2) (λp hp=>by simp only[List.mem_cons,List.not_mem_nil,or_false]at hp;rcases hp with rfl |rfl<;>exact et _ dQ) kQ (hK.o _ _ (sI _ _ hW hB) ((Kp.refl _ _ _).below hB) ⟨_,rfl,(oI _ hW).2,ao.new _ _ _⟩)⟩
 .intro o ho b W hW et hT K hK;obtain rfl:_=o:=eO ho;obtain⟨g,e1,_,hb⟩:=hT 11 96 kQ;have e0:b.tmps.getD 93 undef=.slice zg.a6 y.kept.length zg.c6:=et 93 dQ;exact⟨by rfl,lH (.tmp 93) (.tmp 96) _ rfl (newsV:=cS fL++cS fL) (m:=2) yN ((oI _ hW).1.2.k) e0 e1 (by rfl) (λj u hu=>by rw[l9,hb.cell j];exact hu) (λu hu=>xP.1 (show((cS fL++cS fL:List Value).all λv=>v.oneCell')=true from rfl) u hu) oQ oQ (zU hBE (oI _ hW).2) oQ λA c W' hO hg=>by
   obtain⟨i1,i2⟩:=gI _ _ _ hW hg (λq hq=>by rw[Bv.o];exact(lR.o.k).lt q hq) ((oI _ hW).1.2.aeF hg hO);exact hK.o _ _ i1 i2 ⟨A,c,rfl⟩⟩
 .intro o ho b W hW et hT K hK;obtain rfl:_=o:=eO ho;obtain⟨A,c,e1⟩:=hT 12 97 kQ;exact⟨by rfl,ui (w':=W) [(97,.slice A (y.kept.length+2) c)] (.int .i64 ((y.kept.length+2:Nat):Int)) (λp hp=>by rw[xB]at hp;subst hp;exact e1) kQ (hK.o _ _ hW (Kp.refl _ _ _) rfl)⟩
 .intro o ho b W hW et hT K hK;obtain rfl:_=o:=eO ho;have e1:b.tmps.getD 91 undef=.int .i64 ((y.held.length+2:Nat):Int):=hT 6 91 kQ;have e2:b.tmps.getD 98 undef=.int .i64 ((y.kept.length+2:Nat):Int):=hT 13 98 kQ;have e3:IntKind.i64.wrap (((y.held.length+2:Nat):Int)+((y.kept.length+2:Nat):Int))=((y.held.length+2+(y.kept.length+2):Nat):Int):=by
   rw[xI];omega
  refine⟨by rfl,ui (w':=W) [(91,.int .i64 ((y.held.length+2:Nat):Int)),(98,.int .i64 ((y.kept.length+2:Nat):Int))] (.int .i64 (IntKind.i64.wrap (((y.held.length+2:Nat):Int)+((y.kept.length+2:Nat):Int)))) (λp hp=>by simp only[List.mem_cons,List.not_mem_nil,or_false]at hp;rcases hp with rfl |rfl<;>first|exact e1 |exact e2) kQ (hK.o _ _ hW (Kp.refl _ _ _) ?_)⟩;rw[e3];rfl
 .intro o ho b W hW et hT K hK;obtain rfl:_=o:=eO ho;have hB:Bw W (W.alloc (.cells ⟨[.int .i64 778,.int .u64 0]⟩ 51)):=bA;exact⟨by rfl,ui (w':=W.alloc (.cells ⟨[.int .i64 778,.int .u64 0]⟩ 51)) [(102,.agg ⟨[.int .i64 778,.int .u64 0]⟩)] (.slice (some ⟨W.heap.size,0,none⟩) 1 1) (λp hp=>by simp only[List.mem_cons,List.not_mem_nil,or_false]at hp;subst hp;exact et _ dQ) kQ (hK.o _ _ (sI _ _ hW hB) ((Kp.refl _ _ _).below hB) ⟨_,rfl,(oI _ hW).2,ao.new _ _ _⟩)⟩
 .intro o ho b W hW et hT K hK;obtain rfl:_=o:=eO ho;obtain⟨g,e1,_,hb⟩:=hT 18 103 kQ;have e0:b.tmps.getD 101 undef=.slice zg.a8 y.used.length zg.c8:=et 101 dQ;exact⟨by rfl,lH (.tmp 101) (.tmp 103) _ rfl (newsV:=[.int .i64 778,.int .u64 0]) (m:=1) VL ((oI _ hW).1.2.u) e0 e1 (by rfl) (λj u hu=>by rw[l9,hb.cell j];exact hu) (λu hu=>xP.1 (show(([.int .i64 778,.int .u64 0]:List Value).all λv=>v.oneCell')=true from rfl) u hu) oQ oQ (zU hBE (oI _ hW).2) oQ λA c W' hO hg=>by
   obtain⟨i1,i2⟩:=gI _ _ _ hW hg (λq hq=>by rw[Bv.o];exact(lR.o.u).lt q hq) ((oI _ hW).1.2.aeH hg hO);exact hK.o _ _ i1 i2 ⟨A,c,rfl⟩⟩
 .intro o ho b W hW et hT K hK;obtain rfl:_=o:=eO ho;obtain⟨A,c,e1⟩:=hT 19 104 kQ;exact⟨by rfl,ui (w':=W) [(104,.slice A (y.used.length+1) c)] (.int .i64 ((y.used.length+1:Nat):Int)) (λp hp=>by rw[xB]at hp;subst hp;exact e1) kQ (hK.o _ _ hW (Kp.refl _ _ _) rfl)⟩
 .intro o ho b W hW et hT K hK;obtain rfl:_=o:=eO ho;have e1:b.tmps.getD 99 undef=.int .i64 ((y.held.length+2+(y.kept.length+2):Nat):Int):=hT 14 99 kQ;have e2:b.tmps.getD 105 undef=.int .i64 ((y.used.length+1:Nat):Int):=hT 20 105 kQ;have e3:IntKind.i64.wrap (((y.held.length+2+(y.kept.length+2):Nat):Int)+((y.used.length+1:Nat):Int))=((y.held.length+2+(y.kept.length+2)+(y.used.length+1):Nat):Int):=by
   rw[xI];omega
  refine⟨by rfl,ui (w':=W) [(99,.int .i64 ((y.held.length+2+(y.kept.length+2):Nat):Int)),(105,.int .i64 ((y.used.length+1:Nat):Int))] (.int .i64 (IntKind.i64.wrap (((y.held.length+2+(y.kept.length+2):Nat):Int)+((y.used.length+1:Nat):Int)))) (λp hp=>by simp only[List.mem_cons,List.not_mem_nil,or_false]at hp;rcases hp with rfl |rfl<;>first|exact e1 |exact e2) kQ (hK.o _ _ hW (Kp.refl _ _ _) ?_)⟩;rw[e3];rfl
 .intro o ho b W hW et hT K hK;obtain rfl:_=o:=eO ho;have hB:Bw W (W.alloc (.cells ⟨mz⟩ 55)):=bA;exact⟨by rfl,ui (w':=W.alloc (.cells ⟨mz⟩ 55)) [(109,.agg ⟨mz⟩)] (.slice (some ⟨W.heap.size,0,none⟩) 1 1) (λp hp=>by simp only[List.mem_cons,List.not_mem_nil,or_false]at hp;subst hp;exact et _ dQ) kQ (hK.o _ _ (sI _ _ hW hB) ((Kp.refl _ _ _).below hB) ⟨_,rfl,(oI _ hW).2,ao.new _ _ _⟩)⟩
 .intro o ho b W hW et hT K hK;obtain rfl:_=o:=eO ho;obtain⟨g,e1,_,hb⟩:=hT 25 110 kQ;have e0:b.tmps.getD 108 undef=.slice zg.a7 y.wait.length zg.c7:=et 108 dQ;exact⟨by rfl,lH (.tmp 108) (.tmp 110) _ rfl (newsV:=mz) (m:=1) VM ((oI _ hW).1.2.m.kr) e0 e1 (by rfl) (λj u hu=>by rw[l9,hb.cell j];exact hu) (λu hu=>xP.1 (show((mz:List Value).all λv=>v.oneCell')=true from rfl) u hu) (by have:=(oI _ hW).1.2.lens.2.2;omega) oQ (zU hBE (oI _ hW).2) oQ λA c W' hO hg=>by
   obtain⟨i1,i2⟩:=gI _ _ _ hW hg (λq hq=>by rw[Bv.o];exact(lR.o.m.kr).lt q hq) ((oI _ hW).1.2.aeG hg hO);exact hK.o _ _ i1 i2 ⟨A,c,by rw[(oI _ hW).1.2.lens.2.2]⟩⟩
 .intro o ho b W hW et hT K hK;obtain rfl:_=o:=eO ho;obtain⟨A,c,e1⟩:=hT 26 111 kQ;exact⟨by rfl,ui (w':=W) [(111,.slice A (y.wait.length+1) c)] (.int .i64 ((y.wait.length+1:Nat):Int)) (λp hp=>by rw[xB]at hp;subst hp;exact e1) kQ (hK.o _ _ hW (Kp.refl _ _ _) rfl)⟩
 .intro o ho b W hW et hT K hK;obtain rfl:_=o:=eO ho;have e1:b.tmps.getD 106 undef=.int .i64 ((y.held.length+2+(y.kept.length+2)+(y.used.length+1):Nat):Int):=hT 21 106 kQ;have e2:b.tmps.getD 112 undef=.int .i64 ((y.wait.length+1:Nat):Int):=hT 27 112 kQ;have e3:IntKind.i64.wrap (((y.held.length+2+(y.kept.length+2)+(y.used.length+1):Nat):Int)+((y.wait.length+1:Nat):Int))=((y.held.length+2+(y.kept.length+2)+(y.used.length+1)+(y.wait.length+1):Nat):Int):=by
   rw[xI];omega
  refine⟨by rfl,ui (w':=W) [(106,.int .i64 ((y.held.length+2+(y.kept.length+2)+(y.used.length+1):Nat):Int)),(112,.int .i64 ((y.wait.length+1:Nat):Int))] (.int .i64 (IntKind.i64.wrap (((y.held.length+2+(y.kept.length+2)+(y.used.length+1):Nat):Int)+((y.wait.length+1:Nat):Int)))) (λp hp=>by simp only[List.mem_cons,List.not_mem_nil,or_false]at hp;rcases hp with rfl |rfl<;>first|exact e1 |exact e2) kQ (hK.o _ _ hW (Kp.refl _ _ _) ?_)⟩;rw[e3];rfl
 .intro o ho b W hW et hT K hK;obtain rfl:_=o:=eO ho;have e1:b.tmps.getD 113 undef=.int .i64 ((y.held.length+2+(y.kept.length+2)+(y.used.length+1)+(y.wait.length+1):Nat):Int):=hT 28 113 kQ;exact⟨by rfl,ui (w':=W) [(113,.int .i64 ((y.held.length+2+(y.kept.length+2)+(y.used.length+1)+(y.wait.length+1):Nat):Int))] (.int .i64 ((y.held.length+2+(y.kept.length+2)+(y.used.length+1)+(y.wait.length+1):Nat):Int)) (λp hp=>by rw[xB]at hp;subst hp;exact e1) kQ (hK.o _ _ hW (Kp.refl _ _ _) rfl)⟩
end rS
