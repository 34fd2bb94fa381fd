/- The program's Query. -/
import Derived.Test.YtjbcbibkhalagaaGreatDoorP9
import Derived.Test.YtjbcbibkhalagaaGreatDoorX4
import Derived.Laws.StructEq
namespace Go.Proofs.YtjbcbibkhalagaaGreatDoor
set_option maxRecDepth 100000
set_option maxHeartbeats 16000000
open Proofs.Tryz Go.RowKit Go.Deep
set_option linter.unusedVariables false
set_option linter.unusedSimpArgs false
section
variable {P:Program}(w:World)
theorem cC {d xs ys f r u v c b}(hn:f.name≠ "_")(h1:(part f.type xs f.offset).run P w=.ok u w)(h2:(part f.type ys f.offset).run P w=.ok v w)(h3:(Op.equalIn d f.type u v).run P w=.ok b w)(hr:(Op.eqFields d xs ys r).run P w=.ok c w):(Op.eqFields d xs ys (f::r)).run P w=.ok (b&&c) w:=by
 simp only[Op.eqFields,if_pos hn,Sem.run_bind,h1,h2,h3,Result.andThen_ok,Sem.run_ite,hr];cases b<;>simp
end
theorem adL (w x0 x1 x2 x3 y0 y1 y2 y3):
  (Op.equalIn 10000 99 (.agg #[.int .i64 x0,.int .i64 x1,.int .i64 x2,.int .i64 x3]) (.agg #[.int .i64 y0,.int .i64 y1,.int .i64 y2,.int .i64 y3])).run prog w=.ok (x0==y0&&(x1==y1&&(x2==y2&&(x3==y3&&true)))) w:=by
 rw[run_equalIn_struct w 9999 99 _ _ kQ kQ];rw[show(prog.fieldsOf 99).toList=[{name:= "Code",type:=41,offset:=0,embedded:=false,tag:= "",pkgPath:= "",byteOffset:=0},{name:= "Part",type:=97,offset:=1,embedded:=false,tag:= "",pkgPath:= "",byteOffset:=8},
  {name:= "Index",type:=3,offset:=2,embedded:=false,tag:= "",pkgPath:= "",byteOffset:=16},{name:= "Sub",type:=3,offset:=3,embedded:=false,tag:= "",pkgPath:= "",byteOffset:=24}] by kernel_rfl]
 exact cC w dQ kQ kQ (run_equalIn_int w _ 41 .i64 .i64 _ _ underlying41)
  (cC w dQ kQ kQ (run_equalIn_int w _ 97 .i64 .i64 _ _ underlying97)
   (cC w dQ kQ kQ (run_equalIn_int w _ 3 .i64 .i64 _ _ underlying3)
    (cC w dQ kQ kQ (run_equalIn_int w _ 3 .i64 .i64 _ _ underlying3) rfl)))
theorem Dz (w x0 x1 x2 x3):(binOp .neq 99 (.agg #[.int .i64 x0,.int .i64 x1,.int .i64 x2,.int .i64 x3]) (.agg #[.int .i64 0,.int .i64 0,.int .i64 0,.int .i64 0])).run prog w=.ok (.bool (!(x0==0&&(x1==0&&(x2==0&&(x3==0&&true)))))) w:=by
 simp only[binOp];simp[Op.equal,Op.maxDepth,adL w x0 x1 x2 x3 0 0 0 0]
def lF (S:List Td)(L:List Cg)(q:Qy)(w:World)(e:Ending)(w':World):Prop:=∃vs code at_ R,e=.returned (.tuple #[.agg ⟨vs⟩,.int .i64 code,.int .i64 at_])/\iY S L q R code at_/\(R=none->vs=lT)/\
 (∀q',R=some q'->∃v1 v2 v3 l rl,vs=l8 q' v1 v2 v3 q'.au/\OQ w' w.heap.size v1 v2 v3 l q'.wh rl/\l.map (·.1)=q'.items/\rl.map (·.1)=q'.ret)/\Bw w w'
theorem lF.no {S L q w w' code at_}(h:iY S L q none code at_)(hb:Bw w w'):lF S L q w (.returned (.tuple #[.agg ⟨lT⟩,.int .i64 code,.int .i64 at_])) w':=⟨_,_,_,_,rfl,h,λ_=>rfl,λq h=>(by cases h),hb⟩
structure Q3 (l:List Td)(A:Option Addr)(c:Nat)(q:Qy)(s:fV)(w wr:World):Prop where
 sq:SQ l A c q s w wr
 b2:ao wr (w.heap.size+1+1) 31 lT
section
variable {l:List Td}{A:Option Addr}{c:Nat}{q:Qy}{s:fV}{w wr W w1:World}
theorem Q3.stay (h:Q3 l A c q s w wr)(hb:Bw wr W):Q3 l A c q s w W:=⟨h.sq.stay hb,h.b2.stay hb⟩
theorem Q3.fin (h:Q3 l A c q s w wr)(hg:wr.grownBy w1 (some (w.heap.size+1+1))):Bw w w1:=h.sq.hb.grown hg h.sq.hb.size (λq hq=>by injection hq with hq;omega)
end
namespace di
open cH dR
theorem Rp (A B ca cb F G S L q s)(hS:iI S)(hL:L.length<=1048576)(hC:∀c∈L,ED c)(hs:jE q)(mF:Cc q)(w)(hK:cW w)(hG:∀b,G b->b<w.heap.size)(r:Rd w F (.slice A S.length ca) (.sl S.length (S.flatMap fj)))(rc:Rd w G (.slice B L.length cb) (.sl L.length (L.flatMap pB)))(R:QR w F q s):
  Cl 18 #[.agg ⟨[.slice A S.length ca]⟩,.slice B L.length cb,.agg ⟨qV q s⟩] w (lF S L q w):=by
 obtain⟨W0,cg⟩:=aB (((w.alloc (.cells ⟨[.slice A S.length ca]⟩ 24)).alloc (.cells ⟨qV q s⟩ 31)).alloc (.cells ⟨lT⟩ 31))
 have h0:Q3 S A ca q s w W0:=by
  rw[cg];exact⟨(SQ.new S A ca q s w).stay bA,ao.new' sJ⟩
 obtain⟨y0,y1,y2,y3,y4,y5,y6⟩:=nU h0.sq.b1;have x0:=h0.sq.b0.cell 0;have bL:=h0.sq.hb;have k1:=MR A B ca cb F G S L hS hL hC W0 (hK.stay bL) (λb h=>zF (R.lt b h) bL.size) (λb h=>zF (hG b h) bL.size) (r.under bL R.lt) (rc.under bL hG);have k2:=λW (hW:Bw w W)=>Qj A ca F S q s hS hs W (hK.stay hW) (R.under hW) (r.under hW R.lt)
 have kR:=λW (hW:Bw w W)=>R.under hW
 have kr:=λW (hW:Bw w W)=>r.under hW R.lt
 obtain⟨A1,c1,A2,c2,A3,c3⟩:=s;simp only[qV,lT,zY]at cg y0 y1 y2 y3 y4 y5 y6 x0 k2 |-;have qd:=Hd cg;replace⟨h0,k1,k2,kR,kr,mF,hs,hS⟩:=H8 h0 k1 k2 kR kr mF hs hS;clear hC hK hG r rc R bL cg hL;go_enter func18,ntmps18;go_upto_region 1 with fail
 rw[<-qd.o];go_upto_region 2 with(go_at_call 19;refine k1.o.mono ?_;rintro e W1 ⟨v,code,at_,T,rfl,hM,hT,a9⟩;simp only)
 clear x0 y0 y1 y2 y3 y4 y5 y6;have qm:=Hd (h0.o.stay a9);cases T with
 |none=>
  have fH:=FQ hM;have f1:=cM fH;have f2:=gL fH;have ae:Hid (iY S L q none code at_):=.inl ⟨hM,rfl⟩;replace⟨fH,hM,a9⟩:=H3 fH hM a9;clear hT;go_wp2_with (refine ay (.store 31 (.tmp 6) (.tmp 27)) rfl ?_;refine eU rfl 31 (.tmp 6) (.tmp 27) rfl (cs':=lT) qm.o.b2 cB rfl rfl rfl rfl ?_;intro w8 eX eY);exact yF rfl eX cB rfl rfl rfl rfl (lF.no ae.o (qm.o.fin eY))
 |some t=>
  obtain⟨Tp,g,rfl,XQ⟩:=hT t rfl;obtain⟨PF,Vs,cK,Ck,rfl,rfl⟩:=Ml hM;clear hT;have ch:=qm.o.sq.hb;obtain⟨y0,y1,y2,y3,y4,y5,y6⟩:=nU qm.o.sq.b1;have x0:=qm.o.sq.b0.cell 0;simp only[zY]at x0 y0 y3 y6;have fS:=k2.o W1 ch;obtain⟨cc,hcc⟩:=aB (bf (dy S) S q)
  rw[<-hcc]at fS;have q1:cc≠0->iY S L q none cc 0:=λh=>.inr ⟨Ck▸hM,by rw[mK (by rw[<-hcc];exact h),<-hcc]⟩
  have q2:∀y,cc=0->ei S q (dr S L L.length)=some y->iY S L q none 291 y:=λy h h2=>.inr ⟨Ck▸hM,by rw[mL (by rw[<-hcc];exact h) h2]⟩
  have q3:cc=0->ei S q (dr S L L.length)=none->bK S t q=none->iY S L q none 291 L.length:=λh h2 h3=>.inr ⟨Ck▸hM,by rw[mM (by rw[<-hcc];exact h) h2 (by rw[<-Ck];exact h3)]⟩
  have q4:∀q',cc=0->ei S q (dr S L L.length)=none->bK S t q=some q'->iY S L q (some q') 0 0:=λq' h h2 h3=>.inr ⟨Ck▸hM,by rw[mN (by rw[<-hcc];exact h) h2 (by rw[<-Ck];exact h3)]⟩
  have AZ:cc=0->O' S q:=λh=>(qC (by rw[<-hcc];exact h)).2.2.2.2
  have Zi:=behind nR cK;have ud:=Zi.ls;have oL:=Mk (S:=S) (L:=L) nR cK;have tK:=vF S L L.length;have adM:=ch.size;have adN:=qm.o.b2.lt;have tC:g<W1.heap.size:=by obtain⟨_,_,_,_,hD,_⟩:=XQ;exact hD.bx.lt
  replace⟨fS,q1,q2,q3,q4,AZ,ud,oL,XQ,Ck,hM,hcc⟩:=uM fS q1 q2 q3 q4 AZ ud oL XQ Ck hM hcc;replace⟨PF,cK,a9⟩:=H3 PF cK a9;clear Zi;go_upto_region 5 with(go_at_call 35;refine fS.o.mono ?_;rintro e W2 ⟨fp,fi,fs,rfl,hz,aX⟩)
  clear x0 y0 y1 y2 y3 y4 y5 y6;have ig:Bw W1 (W2.alloc (.cells ⟨[.int .i64 cc,.int .i64 fp,.int .i64 fi,.int .i64 fs]⟩ 99)):=aX.alloc aX.size _;have xd:=ao.new W2 99 [.int .i64 cc,.int .i64 fp,.int .i64 fi,.int .i64 fs];have Vt:W2.heap.size<(W2.alloc (.cells ⟨[.int .i64 cc,.int .i64 fp,.int .i64 fi,.int .i64 fs]⟩ 99)).heap.size:=xd.lt;have adO:=aX.size;obtain⟨W3,jv⟩:=aB (W2.alloc (.cells ⟨[.int .i64 cc,.int .i64 fp,.int .i64 fi,.int .i64 fs]⟩ 99))
  rw[<-jv]at ig xd Vt |-;have Hy:=Hd (qm.o.stay ig);have z0:W3.cell? ⟨W2.heap.size,0,none⟩=some (.int .i64 cc):=xd.cell 0;have z1:W3.cell? ⟨W2.heap.size,1,none⟩=some (.int .i64 fp):=xd.cell 1;have z2:W3.cell? ⟨W2.heap.size,2,none⟩=some (.int .i64 fi):=xd.cell 2;have z3:W3.cell? ⟨W2.heap.size,3,none⟩=some (.int .i64 fs):=xd.cell 3;have EP:=ig.size;replace⟨jv,ig,xd⟩:=H3 jv ig xd;clear aX fS qm;by_cases fH:cc=0
  case neg=>
   have bz:∀W,(binOp .neq 99 (.agg #[.int .i64 cc,.int .i64 fp,.int .i64 fi,.int .i64 fs]) (.agg #[.int .i64 0,.int .i64 0,.int .i64 0,.int .i64 0])).run prog W=.ok (.bool true) W:=λW=>by
    rw[Dz,cM fH];rfl
   have ae:=Hd (q1.o fH);replace⟨fH,hz⟩:=H2 fH hz;go_upto_region 6 with(refine ay (.binOp .neq 99 (.tmp 33) (.tmp 34) 99) rfl ?_;refine Go.MT.lV rfl _ rfl (.bool true) (bz _) ?_)
   have ak:W3.drew.cell? ⟨W2.heap.size,0,none⟩=some (.int .i64 cc)/\True:=⟨z0,trivial⟩;refine aC (p:=100) (S0:=λW=>W.cell? ⟨W2.heap.size,0,none⟩=some (.int .i64 cc)) (S1:=λ_=>True) kQ ?_;refine' aq 0 rfl ak ?_;refine' aq 1 rfl ak ?_;refine' aq 2 rfl ak ?_;try simp only[Act.put,aK]
   refine Gs 3 rfl λK hK=>?_
   refine bh (by rfl) 31 (.tmp 6) (.tmp 36) (by rfl) (cs':=lT) (Hy.o.b2.stay (bR).drew) cB rfl (by rfl) (by rfl) rfl ?_;intro w8 eX eY;have Zj:w8.cell? ⟨W2.heap.size,0,none⟩=some (.int .i64 cc):=((xd.o.stay (bR).drew).grown eY (λe=>by injection e with e;omega)).cell 0;refine hK.o _ _ ⟨Zj,λ_=>trivial⟩ ?_;have tD:=Hd ((Hy.o.stay (bR).drew).fin eY);have bF:w8.cell? ⟨W2.heap.size,0,none⟩=some (.int .i64 cc)/\True:=⟨Zj,trivial⟩;replace eX:=Hd eX;clear hK K ak eY;try simp only[Act.put,aK]
   refine Gs 4 rfl λK hK=>?_
   go_simp;refine hK.o _ _ ⟨bF.1,λ_=>trivial⟩ ?_;clear hK K;refine Gs 5 rfl λK hK=>?_
   go_simp;refine hK.o _ _ ⟨bF.1,λ_=>trivial⟩ ?_;clear hK K bF;refine Gd _ ?_;go_wp2;exact yF rfl eX.o cB rfl rfl rfl rfl (lF.no ae.o tD.o)
  obtain⟨e1,e2,e3⟩:=hz fH;subst e1 e2 e3;have bz:∀W,(binOp .neq 99 (.agg #[.int .i64 cc,.int .i64 0,.int .i64 0,.int .i64 0]) (.agg #[.int .i64 0,.int .i64 0,.int .i64 0,.int .i64 0])).run prog W=.ok (.bool false) W:=λW=>by
   rw[Dz,mf fH];rfl
  have Ka:=AZ.o fH;obtain⟨y0,y1,y2,y3,y4,y5,y6⟩:=nU Hy.o.sq.b1;have x0:=Hy.o.sq.b0.cell 0;simp only[zY]at x0 y0 y3 y6;have Hs:TX (W3.alloc (.cells ⟨U9 A S.length ca g q ⟨A1,c1,A2,c2,A3,c3⟩⟩ 103)) W0.heap.size W3.heap.size g F A ca S t (dr S L L.length) q ⟨A1,c1,A2,c2,A3,c3⟩:=by
   have h1:Bw W3 (W3.alloc (.cells ⟨U9 A S.length ca g q ⟨A1,c1,A2,c2,A3,c3⟩⟩ 103)):=bA;have h2:=Hy.o.sq.hb.trans (h1.mono Hy.o.sq.hb.size);exact⟨ao.new _ _ _,(XQ.o.stay ig.o).stay h1,kr.o _ h2,kR.o _ h2⟩
  have XR:=Hy.o.stay (bX (.cells ⟨U9 A S.length ca g q ⟨A1,c1,A2,c2,A3,c3⟩⟩ 103));have kW:=Vb Hs hs.o hS.o oQ ud.o oL.o;have jR:=λW (hW:Below (W3.alloc (.cells ⟨U9 A S.length ca g q ⟨A1,c1,A2,c2,A3,c3⟩⟩ 103)).heap.size (W3.alloc (.cells ⟨U9 A S.length ca g q ⟨A1,c1,A2,c2,A3,c3⟩⟩ 103)) W)=>MN (Hs.stay hW) hs.o mF.o hS.o (by have:=Tp.len;omega) (λk hk=>by have:=Tp.fl k hk;omega) (λt ht x hx=>(Ka.nd t ht x hx).imp id λ⟨it,h1,h2,_⟩=>⟨it,h1,h2⟩)
  simp only[U9]at kW jR XR;replace⟨kW,jR,XR,Ka⟩:=H4 kW jR XR Ka;have sa:=Hd fH;clear Hs hz Tp AZ fH;cases zf:ei S q (dr S L L.length)with
  |some y=>
   rw[zf]at kW;have ae:=Hd (q2.o y sa.o zf);replace zf:=Hd zf;go_wp2_with (first
    |(refine ay (.binOp .neq 99 (.tmp 33) (.tmp 34) 99) rfl ?_;refine Go.MT.lV rfl _ rfl (.bool false) (bz _) ?_)
    |(go_at_call 36;refine kW.o.mono ?_;rintro e W5 ⟨rfl,nN⟩;simp only[Option.getD_some,Option.isSome_some];have Rr:=Hd (XR.o.stay nN);clear nN)
    |(refine ay (.store 31 (.tmp 6) (.tmp 50)) rfl ?_;refine eU rfl 31 (.tmp 6) (.tmp 50) rfl (cs':=lT) Rr.o.b2 cB rfl rfl rfl rfl ?_;intro w8 eX eY))
   exact yF rfl eX cB rfl rfl rfl rfl (lF.no ae.o (Rr.o.fin eY))
  |none=>
   rw[zf]at kW;cases Ez:bK S t q with
   |none=>
    rw[Ez]at jR;have ae:=Hd (q3.o sa.o zf Ez);replace⟨zf,Ez⟩:=H2 zf Ez;go_wp2_with (first
     |(refine ay (.binOp .neq 99 (.tmp 33) (.tmp 34) 99) rfl ?_;refine Go.MT.lV rfl _ rfl (.bool false) (bz _) ?_)
     |(go_at_call 36;refine kW.o.mono ?_;rintro e W5 ⟨rfl,nN⟩;simp only[Option.getD_none,Option.isSome_none];have Rr:=Hd (XR.o.stay nN);have Vu:=Hd (jR.o W5 nN);clear nN)
     |(go_at_call 37;refine Vu.o.mono ?_;rintro e W6 ⟨vs,rfl,hv,_,mE⟩;obtain rfl:=hv rfl;simp only[Option.isSome_none,lT];have Jo:=Hd ((Rr.o.stay mE).stay (bX (.cells ⟨lT⟩ 31)));clear mE hv;simp only[lT]at Jo)
     |(refine ay (.store 31 (.tmp 6) (.tmp 59)) rfl ?_;refine eU rfl 31 (.tmp 6) (.tmp 59) rfl (cs':=lT) Jo.o.b2 cB rfl rfl rfl rfl ?_;intro w8 eX eY))
    exact yF rfl eX cB rfl rfl rfl rfl (lF.no ae.o (Jo.o.fin eY))
   |some q'=>
    rw[Ez]at jR;have ae:=Hd (q4.o q' sa.o zf Ez);replace⟨zf,Ez⟩:=H2 zf Ez;go_upto_region 11 with(first
     |(refine ay (.binOp .neq 99 (.tmp 33) (.tmp 34) 99) rfl ?_;refine Go.MT.lV rfl _ rfl (.bool false) (bz _) ?_)
     |(go_at_call 36;refine kW.o.mono ?_;rintro e W5 ⟨rfl,nN⟩;simp only[Option.getD_none,Option.isSome_none];have Rr:=Hd (XR.o.stay nN);have Vu:=Hd (jR.o W5 nN);clear nN))
    go_upto_region 12 with(go_at_call 37;refine Vu.o.mono ?_;rintro e W6 ⟨vs,rfl,_,hv,mE⟩;obtain⟨v1,v2,v3,l,rl,rfl,sP,Rs,Cf⟩:=hv q' rfl;obtain⟨Ai,ci,rfl⟩:=sP.i.kr.form;obtain⟨Aw,cw,rfl⟩:=sP.wr.form;obtain⟨Ar,cr,rfl⟩:=sP.r.kr.form;simp only[Option.isSome_some,l8];have Jo:=Hd ((Rr.o.stay mE).stay (bX (.cells ⟨l8 q' (.slice Ai l.length ci) (.slice Aw q'.wh.length cw) (.slice Ar rl.length cr) q'.au⟩ 31)));have vD:=Hd (sP.stay (bX (.cells ⟨l8 q' (.slice Ai l.length ci) (.slice Aw q'.wh.length cw) (.slice Ar rl.length cr) q'.au⟩ 31)));clear mE hv sP;simp only[l8]at Jo vD;replace⟨Rs,Cf⟩:=H2 Rs Cf)
    have hq5:=Rr.o.b2.lt;go_wp2_with (refine ay (.store 31 (.tmp 6) (.tmp 62)) rfl ?_;refine eU rfl 31 (.tmp 6) (.tmp 62) rfl (cs':=l8 q' (.slice Ai l.length ci) (.slice Aw q'.wh.length cw) (.slice Ar rl.length cr) q'.au) Jo.o.b2 cB rfl rfl rfl rfl ?_;intro w8 eX eY);exact yF rfl eX cB rfl rfl rfl rfl ⟨_,_,_,some q',rfl,ae.o,λh=>(by cases h),λq2 h=>(by injection h with h;subst h;exact⟨_,_,_,l,rl,rfl,(vD.o.under eY (show w.heap.size+1+1<W5.heap.size from hq5)).base oQ,Rs.o,Cf.o⟩),Jo.o.fin eY⟩
end di
theorem MU {S n a k r}(h:k.fr≠aj (aY S) n):aF S n a (k::r)=aF S n a r:=by rw[aF,if_pos h]
theorem MV {S n a k r}(h:k.fr=aj (aY S) n)(ha:a=emp):aF S n a (k::r)=some k.nm:=by rw[aF,if_neg (λh2=>h2 h),if_pos ha]
theorem MW {S n a k r f}(h:k.fr=aj (aY S) n)(ha:a≠emp)(hf:k.fs.find? (λf=>decide (f.fr=bG S (aj (aY S) n) a))=some f):aF S n a (k::r)=some f.nm:=by rw[aF,if_neg (λh2=>h2 h),if_neg ha,hf]
theorem MX {S n a k r}(h:k.fr=aj (aY S) n)(ha:a≠emp)(hf:k.fs.find? (λf=>decide (f.fr=bG S (aj (aY S) n) a))=none):aF S n a (k::r)=aF S n a r:=by rw[aF,if_neg (λh2=>h2 h),if_neg ha,hf]
theorem Hz {α:Type}{l:List α}{p j x}(h:l[j]? =some x)(hp:p x=true)(ha:∀(i:Nat) a,l[i]? =some a->i<j->p a=false):l.find? p=some x:=by
 obtain⟨y,hy,_,hf⟩:=qF (tJ h hp ha);rw[h]at hy;injection hy with hy;rw[hf,hy]
namespace pX
open cH dR
theorem rP (A A2 c c2 F G S T n a)(hS:iI S)(hT:T.length<=1048576)(sj:∀k∈T,k.fs.length<=1048576)(w)(hF:∀b,F b->b<w.heap.size)(hG:∀b,G b->b<w.heap.size)(r:Rd w F (.slice A S.length c) (.sl S.length (S.flatMap fj)))(rt:Rd w G (.slice A2 T.length c2) (.sl T.length (T.flatMap lW))):
  Cl 86 #[.agg ⟨[.slice A S.length c]⟩,.slice A2 T.length c2,.string n,.string a] w (lD (aF S n a T) w):=by
 have bL:=ao.new w 24 [.slice A S.length c];have cN:Bw w (w.alloc (.cells ⟨[.slice A S.length c]⟩ 24)):=bA;have k1:=λW (hW:Bw w W)=>sE A c F S n hS.1 W (λb h=>zF (hF b h) hW.size) (r.under hW hF)
 have k2:=λt W (hW:Bw w W)=>ya A c F S t a hS W (λb h=>zF (hF b h) hW.size) (r.under hW hF)
 have kt:=λ(i:Nat) k (hk:T[i]? =some k)=>rt.cP (f:=lW) (m:=3) (λ_=>rfl) hk oQ
 have hG2:=Hd hG;obtain⟨ty,hty⟩:=aB (aj (aY S) n)
 obtain⟨R0,ek⟩:=aB (aF S n a T)
 rw[<-ek];replace⟨bL,cN,k1,k2,kt,hty,ek,sj⟩:=H8 bL cN k1 k2 kt hty ek sj;clear r rt hS hF hG;have ex0:(w.alloc (.cells ⟨[.slice A S.length c]⟩ 24)).cell? ⟨w.heap.size,0,none⟩=some (.slice A S.length c):=bL.o.cell 0;go_enter func86,ntmps86;go_wp2_with (go_at_call 128;refine(k1.o _ cN.o).mono ?_;rw[<-hty.o];rintro e W1 ⟨rfl,a9⟩;have az:=Hd (cN.o.trans (a9.mono cN.o.size));have ch:=Hd (bL.o.stay a9);clear a9);clear ex0;go_loopw [11] (λi wr=>∃j:Nat,j<=T.length/\i=.int .i64 j/\Bw w wr/\ao wr w.heap.size 24 [.slice A S.length c]/\Hid (aF S n a T=aF S n a (T.drop j))) (λi _=>T.length- (intOf i).toNat)
 .exact⟨0,zE _,rfl,az.o,ch.o,rfl⟩
 clear az ch;obtain⟨j,hj,rfl,hB,hb,hp⟩:=hrel;have ex0:wr.cell? ⟨w.heap.size,0,none⟩=some (.slice A S.length c):=hb.cell 0;by_cases hlt:j<T.length
 .obtain⟨k,hk⟩:=av hlt;obtain⟨gT,oT,rfl,Ke,hv,hsl⟩:=kt.o j k hk;obtain⟨A3,c3,v2,r3⟩:=hsl 2 _ _ rfl;have HA:=hG2.o gT Ke;have Ba:=λW (hW:Bw w W)=>xW ((hW.cell (p:=⟨gT,oT+j*3,none⟩) HA).trans (hv 0 _ rfl)) (xW ((hW.cell (p:=⟨gT,oT+j*3+1,none⟩) HA).trans (hv 1 _ rfl)) (xW ((hW.cell (p:=⟨gT,oT+j*3+2,none⟩) HA).trans v2) (r3.under hW hG2.o)))
  obtain⟨a0,a1,a2,_⟩:=Ba wr hB;replace Ba:=Hd Ba;clear v2;have g0:=aH j;have g1:=aV j T.length;have vz:=lE hk;rw[vz]at hp;have yB:=sj.o k (zA hk);by_cases hne:k.fr=ty
  .have f1:(k.fr != ty)=false:=(by rw[bne_eq_false_iff_eq];exact hne);by_cases ha:a=emp
   .have f2:(a.toList==([]:List UInt8))=true:=(by rw[aN];exact zW ha);have f3:a.toList.isEmpty=true:=by rw[ha,show emp.toList=[] by rw[ByteArray.toList_eq];rfl];rfl
    have ae:=Hd (show R0=some k.nm by rw[ek.o,hp.o,MV (by rw[hne,hty.o]) ha]);replace⟨hne,ha,hk,vz,r3⟩:=H5 hne ha hk vz r3;clear hv hsl;go_wp2;go_ret2;exact lD.yes ae.o hB
   .have f2:(a.toList==([]:List UInt8))=false:=(by rw[aN];exact zV ha);have f3:a.toList.isEmpty=false:=by
     cases ho:a.toList with
     |nil=>rw[ho]at f2;simp at f2
     |cons=>rfl
    have kE:∀(m:Nat) f,k.fs[m]? =some f->f.fr=bG S ty a->(∀(i:Nat) y,k.fs[i]? =some y->i<m->y.fr≠bG S ty a)->R0=some f.nm:=λm f h1 h2 h3=>by
     rw[ek.o,hp.o];refine MW (by rw[hne,hty.o]) ha (Hz h1 ?_ λi y hy hi=>?_)
     .rw[<-hty.o];exact zW h2
     .rw[<-hty.o];exact zV (h3 i y hy hi)
    have hno:(∀(i:Nat) y,k.fs[i]? =some y->i<k.fs.length->y.fr≠bG S ty a)->Hid (aF S n a T=aF S n a (T.drop (j+1))):=λh=>by
     show _=_
     rw[hp.o];refine MX (by rw[hne,hty.o]) ha (Dp (jK λi y hy hi=>?_));rw[<-hty.o];exact zV (h i y hy hi)
    have fS:=k2.o ty wr hB;obtain⟨fr,sV⟩:=aB (bG S ty a)
    rw[<-sV]at fS kE hno;replace⟨fS,kE,hno,hne,ha,hk,vz,r3,sV,hb⟩:=yX fS kE hno hne ha hk vz r3 sV hb;clear hv hsl;obtain⟨wo,gU⟩:=aB wr
    subst gU;go_wp2_with (go_at_call 136;refine fS.o.mono ?_;rintro e W2 ⟨rfl,aX⟩;have cD:=Hd (hB.trans (aX.mono hB.size));have df:=Hd (hb.o.stay aX);clear a0 a1 a2 ex0 aX);go_loopw [13] (λi wr=>∃m:Nat,m<=k.fs.length/\i=.int .i64 m/\wr=W2/\Hid (∀(i:Nat) y,k.fs[i]? =some y->i<m->y.fr≠fr)) (λi _=>k.fs.length- (intOf i).toNat)
    .exact⟨0,zE _,rfl,rfl,λi y hy hi=>by omega⟩
    obtain⟨m,hm,rfl,rfl,ej⟩:=hrel;obtain⟨a0,a1,a2,r4⟩:=Ba.o wr cD.o;by_cases Vv:m<k.fs.length
    .obtain⟨f,hf⟩:=av Vv;obtain⟨gF,oF,rfl,_,hvf,_⟩:=r4.cP (f:=dt) (m:=3) (λ_=>rfl) hf oQ;have b0:wr.cell? ⟨gF,oF+m*3,none⟩=some (.string f.nm):=hvf 0 _ rfl;have b1:wr.cell? ⟨gF,oF+m*3+1,none⟩=some (.int .i64 f.fr):=hvf 1 _ rfl;have p0:=aH m;have p1:=aV m k.fs.length;by_cases Tq:f.fr=fr
     .have f5:(f.fr==fr)=true:=mf Tq;have ae:=Hd (kE.o m f hf Tq ej.o);replace⟨Tq,hf,r4⟩:=H3 Tq hf r4;clear hvf;go_wp2;go_ret2;exact lD.yes ae.o cD.o
     .have f5:(f.fr==fr)=false:=cM Tq;have MQ:Hid (∀(i:Nat) y,k.fs[i]? =some y->i<m+1->y.fr≠fr):=λi y hy hi=>by
       by_cases e:i=m
       .subst e;rw[hf]at hy;injection hy with hy;subst hy;exact Tq
       .exact ej.o i y hy oQ
      replace⟨Tq,hf,r4⟩:=H3 Tq hf r4;clear hvf;go_wp2;go_roundw
      .exact⟨m+1,oQ,gQ,by first|exact rfl |exact trivial,MQ⟩
      exact mQ
    .obtain rfl:m=k.fs.length:=oQ;have hgo:=hno.o ej.o;replace r4:=Hd r4;go_wp2;go_roundw
     .exact⟨j+1,oQ,gQ,cD.o,df.o,hgo⟩
     exact mQ
  .have f1:(k.fr != ty)=true:=gL hne;have hgo:Hid (aF S n a T=aF S n a (T.drop (j+1))):=by show _=_;rw[hp.o,MU (by rw[<-hty.o];exact hne)]
   replace⟨hne,hk,vz,r3⟩:=H4 hne hk vz r3;clear hv hsl;go_wp2;go_roundw
   .exact⟨j+1,oQ,gQ,hB,hb,hgo⟩
   exact mQ
 .obtain rfl:j=T.length:=oQ;have ae:=Hd (show R0=none by rw[ek.o,hp.o,List.drop_length];rfl);go_wp2;go_ret2;exact lD.no ae.o hB
end pX
def jO (d:py):List D:=[.sl d.ah.length (d.ah.flatMap aG),.v (.string d.at_)]
theorem MY:nW prog 127 165 2 40:=.of underlying127 kQ oQ
theorem vG {w G d A c}(h:Rd w G (.slice A d.ah.length c) (.sl d.ah.length (d.ah.flatMap aG))):fB w G [.slice A d.ah.length c,.string d.at_] (jO d):=⟨h,.v _ rfl,trivial⟩
def td (N:List py)(F:Nat->Prop)(w:World)(e:Ending)(w':World):Prop:=∃v,e=.returned v/\OL w' w.heap.size F 165 2 v N.length (N.flatMap jO)/\Bw w w'
theorem td.mk {N N' F w w' v}(hN:N'=N)(h:OL w' w.heap.size F 165 2 v N'.length (N'.flatMap jO))(hb:Bw w w'):td N F w (.returned v) w':=hN▸⟨v,rfl,h,hb⟩
structure NO (q:Qy)(s:fV)(F:Nat->Prop)(w wr:World)(v:Value)(N:List py):Prop where
 hb:Bw w wr
 b0:ao wr w.heap.size 31 (qV q s)
 ol:OL wr w.heap.size F 165 2 v N.length (N.flatMap jO)
section
variable {q:Qy}{s:fV}{F:Nat->Prop}{w wr W w1:World}{v v':Value}{N:List py}
theorem NO.stay (h:NO q s F w wr v N)(hb:Bw wr W):NO q s F w W v N:=⟨h.hb.trans (hb.mono h.hb.size),h.b0.stay hb,h.ol.stay hb⟩
theorem NO.app {o d}(h:NO q s F w wr v N)(hg:(wr.alloc o).grownBy w1 v.ownBlock)(hO:OL w1 w.heap.size F 165 2 v' (N.length+1) (N.flatMap jO++jO d)):NO q s F w w1 v' (N++[d]):=by
 have hs:=h.hb.size;refine⟨(h.hb.alloc hs o).grown hg (by simp;omega) (λq hq=>(h.ol.lt q hq).1),(h.b0.alloc o).grown hg (λe=>h.ol.aU h.b0 dQ e.symm),?_⟩;rw[zH,xD];simpa using hO
end
theorem MZ (q x):(kD q x).length<=q.items.length:=by
 unfold kD;split
 .simp
 .rw[xC];exact List.length_filter_le _ _
theorem Bb {q}{t:List Nd}{j x}(h:t[j]? =some x):aA q (t.take (j+1))=aA q (t.take j)++kD q x:=by
 unfold aA;rw[zJ,h,xD];simp
theorem lG (q t)(h:q.items.length<=10):(aA q t).length<=t.length*10:=by
 induction t with
 |nil=>simp[aA]
 |cons x r ih=>
  show(kD q x++aA q r).length<=_
  rw[zH,List.length_cons];have:=MZ q x;omega
def Jp (x:Nd)(it:It):List py:=if it.v=x.v then [⟨it.ah,x.at_⟩]else []
theorem F3 {q x}(h:¬(x.at_=emp\/x.at_=jk)):kD q x=q.items.flatMap (Jp x):=by
 unfold kD;rw[if_neg h];generalize q.items=l;induction l with
 |nil=>rfl
 |cons a l ih=>
  rw[zK];unfold Jp at ih |-;by_cases hv:a.v=x.v
  .rw[List.filter_cons_of_pos (by simpa using hv),List.map_cons,ih,if_pos hv];rfl
  .rw[List.filter_cons_of_neg (by simpa using hv),ih,if_neg hv];rfl
theorem M4 {q:Qy}{x k it}(h:q.items[k]? =some it):(q.items.take (k+1)).flatMap (Jp x)=(q.items.take k).flatMap (Jp x)++Jp x it:=by
 rw[zJ,h,xD];simp
theorem Rt (x)(l:List It):(l.flatMap (Jp x)).length<=l.length:=by
 induction l with
 |nil=>simp
 |cons a l ih=>
  rw[zK,zH,List.length_cons];have:(Jp x a).length<=1:=by unfold Jp;split<;>simp
  omega
namespace pX
open cH dR
theorem DA (q s At ct F t)(iT:q.items.length<=10)(hl:t.length<=1048576)(w)(R:QR w F q s)(rt:Rd w F (.slice At t.length ct) (.sl t.length (t.flatMap b9))):
  Cl 85 #[.agg ⟨qV q s⟩,.slice At t.length ct] w (td (aA q t) F w):=by
 have h0:NO q s F w (w.alloc (.cells ⟨qV q s⟩ 31)) (.slice none 0 0) []:=⟨bA,ao.new _ _ _,.nil _ _ _ _ _⟩;have hF:=R.lt;have mP:=λ(i:Nat) it (hi:q.items[i]? =some it)=>eV R.r1 hi
 have Vw:=λ(i:Nat) x (hi:t[i]? =some x)=>dk rt hi
 obtain⟨R0,ek⟩:=aB (aA q t)
 rw[<-ek];obtain⟨A1,c1,A2,c2,A3,c3⟩:=s;simp only[qV]at h0 |-;try simp only at mP
 replace⟨h0,hF,mP,Vw,ek⟩:=H5 h0 hF mP Vw ek;clear R rt;go_enter func85,ntmps85;go_wp2;go_loopw [5,6] (λv i wr=>∃(j:Nat)(N:List py),j<=t.length/\i=.int .i64 j/\Hid (N=aA q (t.take j))/\NO q ⟨A1,c1,A2,c2,A3,c3⟩ F w wr v N) (λ_ i _=>t.length- (intOf i).toNat)
 .exact⟨0,[],zE _,rfl,rfl,h0.o⟩
 clear h0;obtain⟨j,N,hj,rfl,hN,hI⟩:=hrel;obtain⟨Ao,co,rfl⟩:=hI.ol.form;have Lt:=hI.hb.size;by_cases hlt:j<t.length
 .obtain⟨x,hx⟩:=av hlt;obtain⟨gN,oN,rfl,Zk,n0,n1,n2,n3,n4,n5⟩:=Vw.o j x hx;have pC:=hF.o gN Zk;have kc:=λW (hW:Bw w W)=>xW ((hW.cell (p:=⟨gN,oN+j*6+2,none⟩) pC).trans n2) ((hW.cell (p:=⟨gN,oN+j*6+3,none⟩) pC).trans n3)
  obtain⟨a2,a3⟩:=kc wr hI.hb;have g0:=aH j;have g1:=aV j t.length;have hNl:N.length<=10485760:=by
   rw[hN.o];have:=lG q (t.take j) iT;rw[zO]at this;omega
  have bz:=Bb (q:=q) hx;have DB:(x.at_=emp\/x.at_=jk)->Hid (N=aA q (t.take (j+1))):=λh=>by
   show _=_
   rw[bz,<-hN.o];unfold kD;rw[if_pos h,zT]
  replace kc:=Hd kc;clear n0 n1 n2 n3 n4 n5;by_cases he:x.at_=emp
  .have f1:(x.at_.toList==([]:List UInt8))=true:=(by rw[aN];exact zW he);have f3:x.at_.toList.isEmpty=true:=by rw[he,show emp.toList=[] by rw[ByteArray.toList_eq];rfl];rfl
   have p9:=DB (.inl he);replace⟨he,hx,bz,hI⟩:=H4 he hx bz hI;clear DB;go_wp2;go_roundw
   .exact⟨j+1,N,oQ,gQ,p9,hI.o⟩
   exact mQ
  have f1:(x.at_.toList==([]:List UInt8))=false:=by rw[aN];exact zV he
  have f3:x.at_.toList.isEmpty=false:=by
   cases ho:x.at_.toList with
   |nil=>rw[ho]at f1;simp at f1
   |cons=>rfl
  by_cases gw:x.at_=jk
  .have f4:=jF gw;have p9:=DB (.inr gw);replace⟨he,gw,hx,bz,hI⟩:=H5 he gw hx bz hI;clear DB;go_wp2;go_roundw
   .exact⟨j+1,N,oQ,gQ,p9,hI.o⟩
   exact mQ
  have f4:=gK gw;rw[F3 (λh=>h.elim he gw)]at bz;replace⟨he,gw,hx,bz⟩:=H4 he gw hx bz;have IX:=Hd hI;clear DB hI;obtain⟨wo,gU⟩:=aB wr
  subst gU;go_wp2;clear a2 a3;go_loopw [5,7] (λv i wr=>∃(k:Nat)(N2:List py),k<=q.items.length/\i=.int .i64 k/\Hid (N2=N++(q.items.take k).flatMap (Jp x))/\NO q ⟨A1,c1,A2,c2,A3,c3⟩ F w wr v N2) (λ_ i _=>q.items.length- (intOf i).toNat)
  .exact⟨0,N,zE _,rfl,(by show N=_;simp),IX.o⟩
  clear IX;obtain⟨k,N2,hk,rfl,p9,hI⟩:=hrel;obtain⟨Ap,cp,rfl⟩:=hI.ol.form;have I7:=hI.hb.size;have Zl:N2.length<=10485770:=by
   rw[p9.o,zH];have:=Rt x (q.items.take k);rw[zO]at this;omega
  obtain⟨a2,a3⟩:=kc.o wr hI.hb;have y0:wr.cell? ⟨w.heap.size,0,none⟩=some (.slice A1 q.items.length c1):=hI.b0.cell 0;by_cases s9:k<q.items.length
  .obtain⟨it,hi⟩:=av s9;obtain⟨gI,oI,A5,c5,eI,sg,rx,i0,i1,i2,i3,i4⟩:=mP.o k it hi;try simp only at eI
   subst eI;have pA:=hF.o gI sg;have ki:=λW (hW:Bw w W)=>xW ((hW.cell (p:=⟨gI,oI+k*5+1,none⟩) pA).trans i1) (xW ((hW.cell (p:=⟨gI,oI+k*5+2,none⟩) pA).trans i2) (rx.under hW hF.o))
   obtain⟨b1,b2,_⟩:=ki wr hI.hb;have p0:=aH k;have p1:=aV k q.items.length;have XS:=M4 (x:=x) hi;replace⟨ki,hi,rx⟩:=H3 ki hi rx;clear i0 i1 i2 i3 i4;obtain⟨vb,PK⟩:=aB (it.v.toList==x.v.toList)
   have Zm:=Hd (show vb=decide (it.v=x.v) by rw[PK,ji]);have adQ:=PK.symm;have BT:=Hd hI;clear hI PK;go_upto_region 9 with fail
   go_cut [46] (λv wx=>v=.bool vb/\NO q ⟨some ⟨gI,oI,none⟩,c1,A2,c2,A3,c3⟩ F w wx (.slice Ap N2.length cp) N2)
   .go_quiet (fail);go_wp2
    all_goals(go_meet;exact⟨rfl,BT.o.stay (below_drewN bR _)⟩)
   obtain⟨rfl,hI⟩:=hcut;clear BT a2 a3 b1 b2 y0 adQ;generalize hww:wc=Vx at*;clear hww;have I7:=hI.hb.size;obtain⟨a2,a3⟩:=kc.o Vx hI.hb;have y0:Vx.cell? ⟨w.heap.size,0,none⟩=some (.slice (some ⟨gI,oI,none⟩) q.items.length c1):=hI.b0.cell 0;obtain⟨b1,b2,_⟩:=ki.o Vx hI.hb;by_cases hv:it.v=x.v
   .have hvt:vb=true:=(by rw[Zm.o];exact zW hv);subst hvt;have Ru:Hid (N2++[⟨it.ah,x.at_⟩]=N++(q.items.take (k+1)).flatMap (Jp x)):=by
     show _=_
     rw[XS,p9.o];unfold Jp;rw[if_pos hv,zR]
    replace⟨hv,XS⟩:=H2 hv XS;have kS:=λW (hW:Bw Vx W)=>xW (show W.cell? ⟨w.heap.size,0,none⟩=some (.slice (some ⟨gI,oI,none⟩) q.items.length c1)from(hI.b0.stay hW).cell 0) (xW ((ki.o W (hI.hb.trans (hW.mono hI.hb.size))).1) ((kc.o W (hI.hb.trans (hW.mono hI.hb.size))).2))
    have ak:=xW (kS Vx.drew (bR).drew) trivial;have Vp:=(ki.o Vx hI.hb).2.2;have hGr:∀b,F b->b<Vx.heap.size->F b/\some b≠(Value.slice Ap N2.length cp).ownBlock:=λb hb _=>⟨hb,λe=>by have h1:=(hI.ol.lt b e.symm).1;have h2:=hF.o b hb;omega⟩
    have rxb:=Hd (Vp.mono hGr);replace⟨hI,kS⟩:=H2 hI kS;go_upto_region 10 with fail
    clear a2 a3 b1 b2 y0 Vp hGr;refine aC (p:=100) (S0:=λW=>W.cell? ⟨w.heap.size,0,none⟩=some (.slice (some ⟨gI,oI,none⟩) q.items.length c1)/\W.cell? ⟨gI,oI+k*5+1,none⟩=some (.slice A5 it.ah.length c5)/\W.cell? ⟨gN,oN+j*6+3,none⟩=some (.string x.at_)) (S1:=λ_=>True) kQ ?_;refine' aq 0 rfl ak ?_;refine' aq 1 rfl ak ?_;refine' aq 2 rfl ak ?_;refine' aq 3 rfl ak ?_;refine' aq 4 rfl ak ?_;refine' aq 5 rfl ak ?_;refine' aq 6 rfl ak ?_;refine' aq 7 rfl ak ?_;refine' aq 8 rfl ak ?_;refine' aq 9 rfl ak ?_;refine' aq 10 rfl ak ?_;refine' aq 11 rfl ak ?_;refine' aq 12 rfl ak ?_;try simp only[Act.put,aK]
    refine Gs 13 rfl λK hK=>?_
    go_simp;refine hK.o _ _ ⟨kS.o _ (by first|exact(bR).drew.alloc sJ _ |exact(bA).drew),λ_=>trivial⟩ ?_;clear hK K ak;try simp only[Act.put,aK]
    refine Gs 14 rfl λK hK=>?_
    refine dj (by rfl) (.tmp 47) (.tmp 60) _ (by rfl) (m:=1) (news:=jO ⟨it.ah,x.at_⟩) MY (by exact(hI.o.ol.alloc _).drew) (by rfl) (by rfl) (by exact(Src.lit (vG (d:=⟨it.ah,x.at_⟩) rxb.o)).drew) rfl oQ oQ (by have:=hI.o.hb.size;simp;omega) ?_;intro v5 w5 iM qQ AY;obtain⟨B5,d5,rfl⟩:=iM.form;have QF:=Hd (hI.o.app (d:=⟨it.ah,x.at_⟩) (iD qQ) iM);have F4:=xW (xW (show w5.cell? ⟨w.heap.size,0,none⟩=some (.slice (some ⟨gI,oI,none⟩) q.items.length c1)from QF.o.b0.cell 0) (xW (ki.o w5 QF.o.hb).1 (kc.o w5 QF.o.hb).2)) trivial;refine hK.o _ _ ⟨F4.1,λ_=>trivial⟩ ?_;clear hK K iM qQ AY;try simp only[Act.put,aK]
    refine Gs 15 rfl λK hK=>?_
    go_simp;refine hK.o _ _ ⟨F4.1,λ_=>trivial⟩ ?_;clear hK K F4;refine Gd _ ?_;go_wp2;go_roundw
    .exact⟨k+1,_,oQ,gQ,Ru,QF.o⟩
    exact mQ
   .have hvt:vb=false:=(by rw[Zm.o];exact zV hv);subst hvt;have Ru:Hid (N2=N++(q.items.take (k+1)).flatMap (Jp x)):=by
     show _=_
     rw[XS,<-zR,<-p9.o];unfold Jp;rw[if_neg hv,zT]
    replace⟨hv,XS,hI⟩:=H3 hv XS hI;go_wp2;go_roundw
    .exact⟨k+1,N2,oQ,gQ,Ru,hI.o⟩
    exact mQ
  .obtain rfl:k=q.items.length:=oQ;have Ru:Hid (N2=aA q (t.take (j+1))):=by show _=_;rw[bz.o,p9.o,zL,hN.o]
   replace hI:=Hd hI;go_wp2;go_roundw
   .exact⟨j+1,N2,oQ,gQ,Ru,hI.o⟩
   exact mQ
 .obtain rfl:j=t.length:=oQ;have ae:Hid (N=R0):=by show _=_;rw[ek.o,hN.o,zL]
  replace hI:=Hd hI;go_wp2;go_ret;exact td.mk ae.o hI.o.ol hI.o.hb
end pX
