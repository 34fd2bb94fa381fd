/- A state of the call's own reads as a state; the. -/
import Derived.Test.YtjbcbibkhalagaaGreatDoorT3
namespace Go.Proofs.YtjbcbibkhalagaaGreatDoor
set_option maxRecDepth 100000
set_option maxHeartbeats 16000000
open Proofs.Tryz Go.RowKit Go.Deep
set_option linter.unusedVariables false
set_option linter.unusedSimpArgs false
theorem nF {P ops S op a o t t' xs ys r}(hw:Region.wanted op (yielded ops a.tmps)=true)(x y)(ho:op.op=.binOp o t x y t')(hx:a.eval x=.agg xs)(hy:a.eval y=.agg ys)(hm:P.eqGuardType P.depth t=false)(h:∀W,(binOp o t (.agg xs) (.agg ys)).run P W=.ok r W):YieldsIf P ops S op r a:=
 .inl ⟨hw,λw _=>by
  unfold execOp;simp only[ho,hx,hy,Sem.run_bind,run_eqGuard_agg w o t x y xs ys hm,h w,Result.andThen_ok,Sem.run_pure]⟩
theorem V' (w E):(binOp .neq 49 (.agg ⟨cS E⟩) (.agg ⟨cS E⟩)).run prog w=.ok (.bool false) w:=by
 obtain⟨_,_,_,_,_,_,_,_,_,_,_⟩:=E;simp only[binOp];have h:=aex w;simp only[cS];simp[Op.equal,Op.maxDepth,h,ZI]
theorem Wa (w x):(binOp .neq 51 (.agg ⟨EF x⟩) (.agg ⟨EF x⟩)).run prog w=.ok (.bool false) w:=by
 have h:(Op.equalIn 10000 51 (.agg ⟨EF x⟩) (.agg ⟨EF x⟩)).run prog w=.ok (x.ts==x.ts&&(x.id==x.id&&true)) w:=by
  rw[run_equalIn_struct w 9999 51 _ _ kQ kQ];rw[show(prog.fieldsOf 51).toList=[{name:= "Ts",type:=2,offset:=0,embedded:=false,tag:= "",pkgPath:= "",byteOffset:=0},{name:= "Id",type:=46,offset:=1,embedded:=false,tag:= "",pkgPath:= "",byteOffset:=8}] by kernel_rfl];exact cC w dQ kQ kQ (run_equalIn_int w _ 2 .i64 .i64 _ _ underlying2) (cC w dQ kQ kQ (run_equalIn_int w _ 46 .u64 .u64 _ _ underlying46) rfl)
 simp only[binOp];simp[Op.equal,Op.maxDepth,h]
theorem Wb (w x):(binOp .neq 57 (.agg ⟨Jx x⟩) (.agg ⟨Jx x⟩)).run prog w=.ok (.bool false) w:=by
 have h:(Op.equalIn 10000 57 (.agg ⟨Jx x⟩) (.agg ⟨Jx x⟩)).run prog w=.ok (x.kn==x.kn&&(x.n==x.n&&true)) w:=by
  rw[run_equalIn_struct w 9999 57 _ _ kQ kQ];rw[show(prog.fieldsOf 57).toList=[{name:= "Known",type:=4,offset:=0,embedded:=false,tag:= "",pkgPath:= "",byteOffset:=0},{name:= "N",type:=2,offset:=1,embedded:=false,tag:= "",pkgPath:= "",byteOffset:=8}] by kernel_rfl];exact cC w dQ kQ kQ (run_equalIn_bool w _ 4 _ _ underlying4) (cC w dQ kQ kQ (run_equalIn_int w _ 2 .i64 .i64 _ _ underlying2) rfl)
 simp only[binOp];simp[Op.equal,Op.maxDepth,h]
section
variable {w W:World}{B e size n:Nat}{v v0 v1 v2 v3 v5 v6 v7 v8:Value}{G:Nat->Prop}{y:tg}{so:List (Td×Value)}{l:List (It×Value)}{rl:List (List Nd×Value)}{m:List (Mt×Value×Value×Value)}
theorem flc {β:Type}{f g k}{P Q:Value->D->Prop}(hf:∀p,(f p).length=k)(hg:∀p,(g p).length=k):∀{l:List β},(∀p∈l,∀(j:Nat)(d:D),(g p)[j]? =some d->∃d',(f p)[j]? =some d'/\∀u,P u d'->Q u d)->∀{i:Nat}{d:D},(l.flatMap g)[i]? =some d->∃d',(l.flatMap f)[i]? =some d'/\∀u,P u d'->Q u d:=by
 intro l;induction l with
 |nil=>intro _ i d h;simp at h
 |cons a l ih=>
  intro H i d h;rw[zK]at h |-;by_cases hk:i<k
  .rw[zS (by rw[hg];omega)]at h;rw[zS (by rw[hf];omega)];exact H a xS i d h
  .rw[zP (by rw[hg];omega),hg]at h;rw[zP (by rw[hf];omega),hf];exact ih (λp hp=>H p (xU _ hp)) h
theorem RM.rd (h:RM w B v m)(hG:∀b,B<=b->b<w.heap.size->G b):Rd w G v (.sl m.length ((m.map (·.1)).flatMap Pk)):=by
 have hO:OL w B G 55 4 v m.length ((m.map (·.1)).flatMap Pk):=by
  obtain⟨cells,h1,h2,h3⟩:=h.kr;have lift:∀{e size n:Nat}{u:Value}{ds:List D},OL w B bE e size u n ds->e≠55->Rd w (λb=>G b/\some b≠v.ownBlock) u (.sl n ds):=λ {_ _ _ u _} ho he=>ho.Kr (λb hb _=>hb.elim) (λb hb h1 h2=>⟨hG b h1 h2,λe=>by
   rcases ho.ne h.kr he with e2 |e2
   .rw[hb]at e2;cases e2
   .exact e2 (by rw[hb,e])⟩)
  refine⟨cells,h1,by rw[BO (f:=Pk) (m:=4) (λ_=>rfl),xC,h1.1],λk d hd=>?_⟩;rw[List.flatMap_map]at hd;obtain⟨d',GK,wO⟩:=flc (P:=λu d=>Rd w (λb=>bE b/\some b≠v.ownBlock) u d) (Q:=λu d=>Rd w (λb=>G b/\some b≠v.ownBlock) u d) (f:=λp:Mt×Value×Value×Value=>[D.v (.int .i64 p.1.dec),.v p.2.1,.v p.2.2.1,.v p.2.2.2]) (k:=4) (λ_=>rfl) (λ_=>rfl) (λp hp j d hd=>by
   match j,hd with
   |0,hd=>exact⟨_,rfl,λu hu=>by rw[<-eO hd];exact hu.mono λb hb _=>hb.1.elim⟩
   |1,hd=>exact⟨_,rfl,λu hu=>by rw[<-eO hd,hu.bH];exact lift (h.f1 p hp) dQ⟩
   |2,hd=>exact⟨_,rfl,λu hu=>by rw[<-eO hd,hu.bH];exact lift (h.f2 p hp) dQ⟩
   |3,hd=>exact⟨_,rfl,λu hu=>by rw[<-eO hd,hu.bH];exact lift (h.f3 p hp) dQ⟩
   |j+4,hd=>simp[Pk]at hd) hd
  obtain⟨u,hu,hr⟩:=h3 k d' GK;exact⟨u,hu,wO u hr⟩
 exact hO.rd (λb hb _=>hb) hG
theorem pE.sr (h:pE w B y v0 v1 v2 v3 v5 v6 v7 v8 so l rl m)(hG:∀b,B<=b->b<w.heap.size->G b)(hlt:∀b,G b->b<w.heap.size):∃z,bV y v0 v1 v2 v3 v5 v6 v7 v8=jP y z/\SR w G y z:=by
 have r0:=h.s.rd hG;obtain⟨s,es,Rq⟩:=h.q.qr h.el h.er hG hlt;have r5:=h.h.rd (G:=G) (λb hb _=>hb.elim) hG;have r6:=h.k.rd (G:=G) (λb hb _=>hb.elim) hG;have r7:=h.m.rd hG;have r8:=h.u.rd (G:=G) (λb hb _=>hb.elim) hG;obtain⟨A0,c0,rfl⟩:=h.s.kr.form;obtain⟨A5,c5,rfl⟩:=h.h.form;obtain⟨A6,c6,rfl⟩:=h.k.form;obtain⟨A7,c7,rfl⟩:=h.m.kr.form;obtain⟨A8,c8,rfl⟩:=h.u.form;have e0:so.length=y.S.length:=by rw[<-h.es,xC]
 have e7:m.length=y.wait.length:=by rw[<-h.em,xC]
 rw[h.es,e0]at r0;rw[h.em,e7]at r7;exact⟨⟨A0,c0,s,A5,c5,A6,c6,A7,c7,A8,c8⟩,by unfold bV jP;rw[es,e0,e7],⟨r0,Rq,r5,r6,r7,r8⟩⟩
end
namespace rS
open cH dR di
theorem rU (A B c d F G)(t:List Ev)(hl:t.length<=1048576)(w)(r:Rd w F (.slice A t.length c) (.sl t.length (t.flatMap oc)))(s:Rd w G (.slice B t.length d) (.sl t.length (t.flatMap oc))):
  Cl 30 #[.slice A t.length c,.slice B t.length d] w λe w'=>e=.returned (.bool true)/\Bw w w':=by
 replace⟨r,s⟩:=H2 r s;go_enter func30,ntmps30;go_wp2;go_loopw [5] (λx wr=>∃k:Nat,k<=t.length/\x=.int .i64 k/\Bw w wr) (λx _=>t.length- (intOf x).toNat)
 .exact⟨0,zE _,rfl,bR⟩
 obtain⟨k,hk,rfl,hB⟩:=hrel;by_cases hlt:k<t.length
 .obtain⟨x,hx⟩:=av hlt;obtain⟨gN,oN,rfl,_,pC,n0⟩:=DL r.o hx;obtain⟨gM,oM,rfl,_,Gf,m0⟩:=DL s.o hx;have g0:=aH k;have g1:=aV k t.length;have kS:∀W,Bw w W->W.rangeAt gN (oN+k*11) (cS x)/\W.rangeAt gM (oM+k*11) (cS x):=λW hW=>⟨λq z hz=>(hW.cell (p:=⟨gN,oN+k*11+q,none⟩) pC).trans (n0 q z hz),λq z hz=>(hW.cell (p:=⟨gM,oM+k*11+q,none⟩) Gf).trans (m0 q z hz)⟩
  have ak:=xW (kS _ (hB.drew)) trivial;have DZ:=Hd hB.drew;clear hx n0 m0 kS hB;go_upto_region 6 with fail
  refine aC (p:=100) (S0:=λW=>W.rangeAt gN (oN+k*11) (cS x)/\W.rangeAt gM (oM+k*11) (cS x)) (S1:=λ_=>True) kQ ?_;generalize wr.drew=U at ak DZ |-;refine' aq 0 rfl ak ?_;refine' aq 1 rfl ak ?_;refine' aq 2 rfl ak ?_;try simp only[Act.put,aK]
  go_simp;refine' bm (i:=3) (v:=_) rfl dQ kQ kQ kQ (λ_ _ _ h=>h) ak (yieldsIf_load_mid (by first|(with_reducible rfl)|go_simp) 49 (.tmp 19) rfl gN (oN+k*11) (by first|rfl |go_simp) (cS x) _ (λW h=>h.1) underlying49 rfl kQ) ?Ny;refine' aq 4 rfl ak ?_;refine' aq 5 rfl ak ?_;refine' aq 6 rfl ak ?_;try simp only[Act.put,aK]
  go_simp;refine' bm (i:=7) (v:=_) rfl dQ kQ kQ kQ (λ_ _ _ h=>h) ak (yieldsIf_load_mid (by first|(with_reducible rfl)|go_simp) 49 (.tmp 23) rfl gM (oM+k*11) (by first|rfl |go_simp) (cS x) _ (λW h=>h.2) underlying49 rfl kQ) ?Wc;try simp only[Act.put,aK]
  go_simp;refine' bm (i:=8) (v:=_) rfl dQ kQ kQ kQ (λ_ _ _ h=>h) ak (nF (by first|(with_reducible rfl)|go_simp) (.tmp 20) (.tmp 24) rfl rfl rfl kQ (λW=>V' W x)) ?Wd;try simp only[Act.put,aK]
  refine Gd _ ?_;go_simp;go_wp2;go_roundw
  .exact⟨k+1,oQ,gQ,DZ.o⟩
  exact mQ
 .obtain rfl:k=t.length:=oQ;replace hB:=Hd hB;go_wp2;go_ret;exact⟨rfl,hB.o⟩
theorem tO (A B c d F G)(t:List RG)(hl:t.length<=1048576)(w)(r:Rd w F (.slice A t.length c) (.sl t.length (t.flatMap qi)))(s:Rd w G (.slice B t.length d) (.sl t.length (t.flatMap qi))):
  Cl 32 #[.slice A t.length c,.slice B t.length d] w λe w'=>e=.returned (.bool true)/\Bw w w':=by
 replace⟨r,s⟩:=H2 r s;go_enter func32,ntmps32;go_wp2;go_loopw [5] (λx wr=>∃k:Nat,k<=t.length/\x=.int .i64 k/\Bw w wr) (λx _=>t.length- (intOf x).toNat)
 .exact⟨0,zE _,rfl,bR⟩
 obtain⟨k,hk,rfl,hB⟩:=hrel;by_cases hlt:k<t.length
 .obtain⟨x,hx⟩:=av hlt;obtain⟨gN,oN,rfl,_,pC,n0⟩:=Gc r.o hx;obtain⟨gM,oM,rfl,_,Gf,m0⟩:=Gc s.o hx;have g0:=aH k;have g1:=aV k t.length;have kS:∀W,Bw w W->W.rangeAt gN (oN+k*2) (EF x)/\W.rangeAt gM (oM+k*2) (EF x):=λW hW=>⟨λq z hz=>(hW.cell (p:=⟨gN,oN+k*2+q,none⟩) pC).trans (n0 q z hz),λq z hz=>(hW.cell (p:=⟨gM,oM+k*2+q,none⟩) Gf).trans (m0 q z hz)⟩
  have ak:=xW (kS _ (hB.drew)) trivial;have DZ:=Hd hB.drew;clear hx n0 m0 kS hB;go_upto_region 6 with fail
  refine aC (p:=100) (S0:=λW=>W.rangeAt gN (oN+k*2) (EF x)/\W.rangeAt gM (oM+k*2) (EF x)) (S1:=λ_=>True) kQ ?_;generalize wr.drew=U at ak DZ |-;refine' aq 0 rfl ak ?_;refine' aq 1 rfl ak ?_;refine' aq 2 rfl ak ?_;try simp only[Act.put,aK]
  go_simp;refine' bm (i:=3) (v:=_) rfl dQ kQ kQ kQ (λ_ _ _ h=>h) ak (yieldsIf_load_mid (by first|(with_reducible rfl)|go_simp) 51 (.tmp 19) rfl gN (oN+k*2) (by first|rfl |go_simp) (EF x) _ (λW h=>h.1) underlying51 rfl kQ) ?Ny;refine' aq 4 rfl ak ?_;refine' aq 5 rfl ak ?_;refine' aq 6 rfl ak ?_;try simp only[Act.put,aK]
  go_simp;refine' bm (i:=7) (v:=_) rfl dQ kQ kQ kQ (λ_ _ _ h=>h) ak (yieldsIf_load_mid (by first|(with_reducible rfl)|go_simp) 51 (.tmp 23) rfl gM (oM+k*2) (by first|rfl |go_simp) (EF x) _ (λW h=>h.2) underlying51 rfl kQ) ?Wc;try simp only[Act.put,aK]
  go_simp;refine' bm (i:=8) (v:=_) rfl dQ kQ kQ kQ (λ_ _ _ h=>h) ak (nF (by first|(with_reducible rfl)|go_simp) (.tmp 20) (.tmp 24) rfl rfl rfl kQ (λW=>Wa W x)) ?Wd;try simp only[Act.put,aK]
  refine Gd _ ?_;go_simp;go_wp2;go_roundw
  .exact⟨k+1,oQ,gQ,DZ.o⟩
  exact mQ
 .obtain rfl:k=t.length:=oQ;replace hB:=Hd hB;go_wp2;go_ret;exact⟨rfl,hB.o⟩
theorem xk (A B c d F G)(t:List Mt)(hl:t.length<=1048576)(ud:∀x∈t,x.iE.length<=1048576/\x.lens.length<=1048576/\x.vals.length<=1048576)(w)(hF:∀b,F b->b<w.heap.size)(hG:∀b,G b->b<w.heap.size)(r:Rd w F (.slice A t.length c) (.sl t.length (t.flatMap Pk)))(s:Rd w G (.slice B t.length d) (.sl t.length (t.flatMap Pk))):
  Cl 31 #[.slice A t.length c,.slice B t.length d] w λe w'=>e=.returned (.bool true)/\Bw w w':=by
 replace⟨r,s,ud,hF,hG⟩:=H5 r s ud hF hG;go_enter func31,ntmps31;go_wp2;go_loopw [5] (λx wr=>∃k:Nat,k<=t.length/\x=.int .i64 k/\Bw w wr) (λx _=>t.length- (intOf x).toNat)
 .exact⟨0,zE _,rfl,bR⟩
 obtain⟨j,hj,rfl,hB⟩:=hrel;by_cases hlt:j<t.length
 .obtain⟨x,hx⟩:=av hlt;obtain⟨cL,Rf,hz3⟩:=ud.o x (zA hx);obtain⟨gN,oN,C1,c1,C2,c2,C3,c3,rfl,_,pC,n0,r1,r2,r3⟩:=HJ r.o hx;obtain⟨gM,oM,E1,e1,E2,e2,E3,e3,rfl,_,Gf,m0,s1,s2,s3⟩:=HJ s.o hx;have g0:=aH j;have g1:=aV j t.length;have kn:=Hd (λW (hW:Bw w W)=>tO C1 E1 c1 e1 F G x.iE cL W (r1.under hW hF.o) (s1.under hW hG.o));have kS:∀W,Bw w W->(W.cell? ⟨gN,oN+j*4,none⟩=some (.int .i64 x.dec)/\W.cell? ⟨gN,oN+j*4+1,none⟩=some (.slice C1 x.iE.length c1)/\W.cell? ⟨gN,oN+j*4+2,none⟩=some (.slice C2 x.lens.length c2)/\W.cell? ⟨gN,oN+j*4+3,none⟩=some (.slice C3 x.vals.length c3))/\(W.cell? ⟨gM,oM+j*4,none⟩=some (.int .i64 x.dec)/\W.cell? ⟨gM,oM+j*4+1,none⟩=some (.slice E1 x.iE.length e1)/\W.cell? ⟨gM,oM+j*4+2,none⟩=some (.slice E2 x.lens.length e2)/\W.cell? ⟨gM,oM+j*4+3,none⟩=some (.slice E3 x.vals.length e3)):=λW hW=>⟨⟨(hW.cell (p:=⟨gN,oN+j*4,none⟩) pC).trans (n0 0 _ rfl),(hW.cell (p:=⟨gN,oN+j*4+1,none⟩) pC).trans (n0 1 _ rfl),(hW.cell (p:=⟨gN,oN+j*4+2,none⟩) pC).trans (n0 2 _ rfl),(hW.cell (p:=⟨gN,oN+j*4+3,none⟩) pC).trans (n0 3 _ rfl)⟩,(hW.cell (p:=⟨gM,oM+j*4,none⟩) Gf).trans (m0 0 _ rfl),(hW.cell (p:=⟨gM,oM+j*4+1,none⟩) Gf).trans (m0 1 _ rfl),(hW.cell (p:=⟨gM,oM+j*4+2,none⟩) Gf).trans (m0 2 _ rfl),(hW.cell (p:=⟨gM,oM+j*4+3,none⟩) Gf).trans (m0 3 _ rfl)⟩
  have ak:=xW (kS _ (hB.drew)) trivial;have DZ:=Hd hB.drew;replace⟨r2,r3,s2,s3,kS⟩:=H5 r2 r3 s2 s3 kS;clear hx n0 m0 hB r1 s1;go_upto_region 6 with fail
  refine aC (p:=100) (S0:=λW=>(W.cell? ⟨gN,oN+j*4,none⟩=some (.int .i64 x.dec)/\W.cell? ⟨gN,oN+j*4+1,none⟩=some (.slice C1 x.iE.length c1)/\W.cell? ⟨gN,oN+j*4+2,none⟩=some (.slice C2 x.lens.length c2)/\W.cell? ⟨gN,oN+j*4+3,none⟩=some (.slice C3 x.vals.length c3))/\(W.cell? ⟨gM,oM+j*4,none⟩=some (.int .i64 x.dec)/\W.cell? ⟨gM,oM+j*4+1,none⟩=some (.slice E1 x.iE.length e1)/\W.cell? ⟨gM,oM+j*4+2,none⟩=some (.slice E2 x.lens.length e2)/\W.cell? ⟨gM,oM+j*4+3,none⟩=some (.slice E3 x.vals.length e3))) (S1:=λ_=>True) kQ ?_;generalize wr.drew=U at ak DZ |-;refine' aq 0 rfl ak ?_;refine' aq 1 rfl ak ?_;refine' aq 2 rfl ak ?_;refine' aq 3 rfl ak ?_;refine' aq 4 rfl ak ?_;refine' aq 5 rfl ak ?_;refine' aq 6 rfl ak ?_;refine' aq 7 rfl ak ?_;refine' aq 8 rfl ak ?_;refine' aq 9 rfl ak ?_;refine' aq 10 rfl ak ?_;refine' aq 11 rfl ak ?_;refine' aq 12 rfl ak ?_;refine' aq 13 rfl ak ?_;refine' aq 14 rfl ak ?_;refine' aq 15 rfl ak ?_;refine' aq 16 rfl ak ?_;refine' aq 17 rfl ak ?_;refine' aq 18 rfl ak ?_;refine' aq 19 rfl ak ?_;refine' aq 20 rfl ak ?_;refine' aq 21 rfl ak ?_;try simp only[Act.put,aK]
  refine Gs 22 rfl λK hK=>?_
  go_simp;go_at_call 32;refine(kn.o U DZ.o).eQ λV hBv=>?_;have yP:=Hd (DZ.o.trans (hBv.mono DZ.o.size));refine hK.o _ _ ⟨kS.o V yP.o,λ_=>trivial⟩ ?_;replace ak:=xW (kS.o V yP.o) trivial;clear hK K hBv DZ kn;refine' aq 23 rfl ak ?_;refine' aq 24 rfl ak ?_;refine' aq 25 rfl ak ?_;refine' aq 26 rfl ak ?_;refine' aq 27 rfl ak ?_;refine' aq 28 rfl ak ?_;refine' aq 29 rfl ak ?_;refine' aq 30 rfl ak ?_;refine' aq 31 rfl ak ?_;refine' aq 32 rfl ak ?_;refine' aq 33 rfl ak ?_;refine' aq 34 rfl ak ?_;refine' aq 35 rfl ak ?_;refine' aq 36 rfl ak ?_;refine' aq 37 rfl ak ?_;refine' aq 38 rfl ak ?_;refine' aq 39 rfl ak ?_;refine' aq 40 rfl ak ?_;refine' aq 41 rfl ak ?_;refine' aq 42 rfl ak ?_;refine' aq 43 rfl ak ?_;refine' aq 44 rfl ak ?_;refine' aq 45 rfl ak ?_;refine' aq 46 rfl ak ?_;refine' aq 47 rfl ak ?_;refine' aq 48 rfl ak ?_;refine' aq 49 rfl ak ?_;refine' aq 50 rfl ak ?_;refine' aq 51 rfl ak ?_;refine' aq 52 rfl ak ?_;refine' aq 53 rfl ak ?_;refine' aq 54 rfl ak ?_;try simp only[Act.put,aK]
  refine Gd _ ?_;go_simp;have hq:=ak.1.1.2.2.1;clear ak;go_wp2;clear hq;go_loopw [6] (λi' wx=>∃k:Nat,k<=x.lens.length/\i'=.int .i64 k/\Bw w wx) (λi' _=>x.lens.length- (intOf i').toNat)
  .exact⟨0,zE _,rfl,yP.o⟩
  clear yP;obtain⟨k,hk,rfl,hB⟩:=hrel;have u0:=(kS.o wr hB).1.2.2.1;by_cases kW:k<x.lens.length
  .obtain⟨y,hy⟩:=av kW;obtain⟨hN,pN,e,_,hhN,n0⟩:=Nw r2.o hy;obtain⟨hM,pM,e',_,hhM,m0⟩:=Nw s2.o hy;have xg:∀W,Bw w W->W.cell? ⟨gN,oN+j*4+2,none⟩=some (.slice (some ⟨hN,pN,none⟩) x.lens.length c2)/\W.cell? ⟨gM,oM+j*4+2,none⟩=some (.slice (some ⟨hM,pM,none⟩) x.lens.length e2)/\W.cell? ⟨hN,pN+k,none⟩=some (.int .i64 y)/\W.cell? ⟨hM,pM+k,none⟩=some (.int .i64 y):=λW hW=>by
    obtain⟨k1,k2⟩:=kS.o W hW;rw[e]at k1;rw[e']at k2;exact⟨k1.2.2.1,k2.2.2.1,(hW.cell (p:=⟨hN,pN+k,none⟩) hhN).trans n0,(hW.cell (p:=⟨hM,pM+k,none⟩) hhM).trans m0⟩
   have g0:=aH j;have g1:=aV j t.length;have g2:=aH k;have g3:=aV k x.lens.length;have ak:=xW (xg _ (hB.drew)) trivial;have DZ:=Hd hB.drew;clear hy n0 m0 xg hB e e';go_upto_region 11 with fail
   clear u0;refine aC (p:=100) (S0:=λW=>W.cell? ⟨gN,oN+j*4+2,none⟩=some (.slice (some ⟨hN,pN,none⟩) x.lens.length c2)/\W.cell? ⟨gM,oM+j*4+2,none⟩=some (.slice (some ⟨hM,pM,none⟩) x.lens.length e2)/\W.cell? ⟨hN,pN+k,none⟩=some (.int .i64 y)/\W.cell? ⟨hM,pM+k,none⟩=some (.int .i64 y)) (S1:=λ_=>True) kQ ?_;generalize wr.drew=U at ak DZ |-;refine' aq 0 rfl ak ?_;refine' aq 1 rfl ak ?_;refine' aq 2 rfl ak ?_;refine' aq 3 rfl ak ?_;refine' aq 4 rfl ak ?_;refine' aq 5 rfl ak ?_;refine' aq 6 rfl ak ?_;refine' aq 7 rfl ak ?_;refine' aq 8 rfl ak ?_;refine' aq 9 rfl ak ?_;refine' aq 10 rfl ak ?_;refine' aq 11 rfl ak ?_;refine' aq 12 rfl ak ?_;refine' aq 13 rfl ak ?_;refine' aq 14 rfl ak ?_;refine' aq 15 rfl ak ?_;refine' aq 16 rfl ak ?_;try simp only[Act.put,aK]
   refine Gd _ ?_;go_simp;go_wp2;go_roundw
   .exact⟨k+1,oQ,gQ,DZ.o⟩
   exact mQ
  .obtain rfl:k=x.lens.length:=oQ;have yP:=Hd hB;clear hB;have hq:=(kS.o wr yP.o).1.2.2.2;go_wp2;clear u0 hq;go_loopw [7] (λi' wx=>∃k:Nat,k<=x.vals.length/\i'=.int .i64 k/\Bw w wx) (λi' _=>x.vals.length- (intOf i').toNat)
   .exact⟨0,zE _,rfl,yP.o⟩
   clear yP;obtain⟨k,hk,rfl,hB⟩:=hrel;have u0:=(kS.o wr hB).1.2.2.2;by_cases kW:k<x.vals.length
   .obtain⟨y,hy⟩:=av kW;obtain⟨hN,pN,e,_,hhN,n0⟩:=Nv r3.o hy;obtain⟨hM,pM,e',_,hhM,m0⟩:=Nv s3.o hy;have xg:∀W,Bw w W->W.cell? ⟨gN,oN+j*4+3,none⟩=some (.slice (some ⟨hN,pN,none⟩) x.vals.length c3)/\W.cell? ⟨gM,oM+j*4+3,none⟩=some (.slice (some ⟨hM,pM,none⟩) x.vals.length e3)/\W.rangeAt hN (pN+k*2) (Jx y)/\W.rangeAt hM (pM+k*2) (Jx y):=λW hW=>by
     obtain⟨k1,k2⟩:=kS.o W hW;rw[e]at k1;rw[e']at k2;exact⟨k1.2.2.2,k2.2.2.2,λq z hz=>(hW.cell (p:=⟨hN,pN+k*2+q,none⟩) hhN).trans (n0 q z hz),λq z hz=>(hW.cell (p:=⟨hM,pM+k*2+q,none⟩) hhM).trans (m0 q z hz)⟩
    have g0:=aH j;have g1:=aV j t.length;have g2:=aH k;have g3:=aV k x.vals.length;have ak:=xW (xg _ (hB.drew)) trivial;have DZ:=Hd hB.drew;clear hy n0 m0 xg hB e e';go_upto_region 16 with fail
    clear u0;refine aC (p:=100) (S0:=λW=>W.cell? ⟨gN,oN+j*4+3,none⟩=some (.slice (some ⟨hN,pN,none⟩) x.vals.length c3)/\W.cell? ⟨gM,oM+j*4+3,none⟩=some (.slice (some ⟨hM,pM,none⟩) x.vals.length e3)/\W.rangeAt hN (pN+k*2) (Jx y)/\W.rangeAt hM (pM+k*2) (Jx y)) (S1:=λ_=>True) kQ ?_;generalize wr.drew=U at ak DZ |-;refine' aq 0 rfl ak ?_;refine' aq 1 rfl ak ?_;refine' aq 2 rfl ak ?_;refine' aq 3 rfl ak ?_;refine' aq 4 rfl ak ?_;refine' aq 5 rfl ak ?_;refine' aq 6 rfl ak ?_;try simp only[Act.put,aK]
    go_simp;refine' bm (i:=7) (v:=_) rfl dQ kQ kQ kQ (λ_ _ _ h=>h) ak (yieldsIf_load_mid (by first|(with_reducible rfl)|go_simp) 57 (.tmp 117) rfl hN (pN+k*2) (by first|rfl |go_simp) (Jx y) _ (λW h=>h.2.2.1) underlying57 rfl kQ) ?aeA;refine' aq 8 rfl ak ?_;refine' aq 9 rfl ak ?_;refine' aq 10 rfl ak ?_;refine' aq 11 rfl ak ?_;refine' aq 12 rfl ak ?_;refine' aq 13 rfl ak ?_;refine' aq 14 rfl ak ?_;try simp only[Act.put,aK]
    go_simp;refine' bm (i:=15) (v:=_) rfl dQ kQ kQ kQ (λ_ _ _ h=>h) ak (yieldsIf_load_mid (by first|(with_reducible rfl)|go_simp) 57 (.tmp 125) rfl hM (pM+k*2) (by first|rfl |go_simp) (Jx y) _ (λW h=>h.2.2.2) underlying57 rfl kQ) ?abG;try simp only[Act.put,aK]
    go_simp;refine' bm (i:=16) (v:=_) rfl dQ kQ kQ kQ (λ_ _ _ h=>h) ak (nF (by first|(with_reducible rfl)|go_simp) (.tmp 118) (.tmp 126) rfl rfl rfl kQ (λW=>Wb W y)) ?abH;try simp only[Act.put,aK]
    refine Gd _ ?_;go_simp;go_wp2;go_roundw
    .exact⟨k+1,oQ,gQ,DZ.o⟩
    exact mQ
   .obtain rfl:k=x.vals.length:=oQ;replace hB:=Hd hB;go_wp2;go_roundw
    .exact⟨j+1,oQ,gQ,hB.o⟩
    exact mQ
 .obtain rfl:j=t.length:=oQ;replace hB:=Hd hB;go_wp2;go_ret;exact⟨rfl,hB.o⟩
end rS
