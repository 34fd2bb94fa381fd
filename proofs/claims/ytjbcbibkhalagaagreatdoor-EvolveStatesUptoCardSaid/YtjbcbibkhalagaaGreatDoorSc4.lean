/- The document's CheckSchema answers the plain code. -/
import Derived.Test.YtjbcbibkhalagaaGreatDoorNm4
import Derived.Deep.RegionLaw
namespace Go.Proofs.YtjbcbibkhalagaaGreatDoor
set_option maxRecDepth 100000
set_option maxHeartbeats 16000000
open Proofs.Tryz Go.RowKit Go.Deep
set_option linter.unusedVariables false
theorem rm:nW prog 58 9 1 16:=.of underlying58 kQ oQ
theorem VO:nW prog 22 95 2 40:=.of underlying22 kQ oQ
def TB (w wr:World)(v:Value)(n:ByteArray)(u:Value):Prop:=
 Bw w wr/\ao wr w.heap.size 24 [v]/\ao wr (w.heap.size+1) 95 [.string n,u]
theorem TB.stay {w wr w2 v u n}(h:TB w wr v n u)(hb:Bw wr w2):TB w w2 v n u:=
 ⟨h.1.trans (hb.mono h.1.size),h.2.1.stay hb,h.2.2.stay hb⟩
theorem TB.drewN {w wr v u n}(h:TB w wr v n u)(k):TB w (wr.drewN k) v n u:=h.stay (below_drewN bR k)
namespace cH
theorem DR (A c F l)(i:Nat)(hi:i<l.length)(hl:iI l)(w)(hK:cW w)(hF:∀b,F b->b<w.heap.size)(r:Rd w F (.slice A l.length c) (.sl l.length (l.flatMap fj))):
  Cl 121 #[.agg #[.slice A l.length c],.int .i64 i] w λe w'=>e=.returned (.int .i64 (qO l i))/\Bw w w':=by
 obtain⟨t,ht⟩:=av hi;obtain⟨qK,lp⟩:=hl;obtain⟨eC,ia,EP⟩:=lp t (zA ht);obtain⟨b,off,rfl,pZ,hv,hsl⟩:=r.cP (m:=2) (λ_=>rfl) ht oQ;have a0:w.cell? ⟨b,off+i*2,none⟩=some (.string t.name):=hv 0 _ rfl;obtain⟨A2,c2,a1,r2⟩:=hsl 1 _ _ rfl;have g0:=aH i;have g1:=aV i l.length;have k1:=Hd k9;have si:(l.map (·.name))[i]? =some t.name:=by rw[zG,ht];rfl
 replace⟨si,lp,ht,hF,hK,r,r2,EP⟩:=H8 si lp ht hF hK r r2 EP;clear hv hsl;have hbB:b<w.heap.size:=hF.o b pZ;have hbN:¬b=w.heap.size:=oQ;obtain⟨nm,nE⟩:=aB (br t.name)
 replace nE:=Hd nE;go_enter func121,ntmps121;cases nm
 .go_wp2_with (go_at_call 125;refine(k1.o _ _ (hK.o.stay ((bA).alloc sJ _))).aR ?_;rw[<-nE.o]);go_ret;exact⟨hY (AK ht.o nE.o.symm).symm,(bA).alloc sJ _⟩
 .go_wp2_with (go_at_call 125;refine(k1.o _ _ (hK.o.stay ((bA).alloc sJ _))).aR ?_;rw[<-nE.o]);have h0:TB w ((w.alloc (.cells #[.slice (some ⟨b,off,none⟩) l.length c] 24)).alloc (.cells #[.string t.name,.slice A2 t.attrs.length c2] 95)) (.slice (some ⟨b,off,none⟩) l.length c) t.name (.slice A2 t.attrs.length c2):=
   ⟨(bA).alloc sJ _,(ao.new _ _ _).alloc _,ao.new' sJ⟩
  clear a0 a1;go_loopw [6] (λx wr=>∃j:Nat,j<=i/\x=.int .i64 j/\TB w wr (.slice (some ⟨b,off,none⟩) l.length c) t.name (.slice A2 t.attrs.length c2)/\Hid (∀(p:Nat) a,(l.map (·.name))[p]? =some a->p<j->a≠t.name)) (λx _=>i- (intOf x).toNat)
  .exact⟨0,zE _,rfl,h0,λp a _ h=>by omega⟩
  clear h0;obtain⟨j,hj,rfl,h0,hp⟩:=hrel;by_cases hlt:j<i
  .obtain⟨x,hx⟩:=av (l:=l) (i:=j) oQ;obtain⟨b',tX,e,_,ha,_⟩:=(r.o.under h0.1 hF.o).cP (m:=2) (λ_=>rfl) hx oQ;injection e with e
   injection e with e1 e2
   subst e1 e2;have a0:wr.cell? ⟨b,off+j*2,none⟩=some (.string x.name):=ha 0 _ rfl;have z0:wr.cell? ⟨w.heap.size,0,none⟩=some (.slice (some ⟨b,off,none⟩) l.length c):=h0.2.1.cell 0;have y0:wr.cell? ⟨w.heap.size+1,0,none⟩=some (.string t.name):=h0.2.2.cell 0;have g2:=aH j;have g3:=aV j l.length;have g4:(j:Int)<i:=oQ;have hxn:(l.map (·.name))[j]? =some x.name:=by rw[zG,hx];rfl
   replace⟨hxn,h0⟩:=H2 hxn h0;clear ha hx;by_cases hu:x.name=t.name
   .have la:(x.name.toList==t.name.toList)=true:=(by rw[ji];exact zW hu);have ae:=Hd (show qO l i=25 from AL ht.o nE.o.symm (yz (by rw[hxn.o,hu]) hlt));clear hu;go_wp2;go_quiet (fail);go_wp2;go_ret;exact⟨hY ae.o.symm,(h0.o.drewN _).1⟩
   .have la:(x.name.toList==t.name.toList)=false:=(by rw[ji];exact zV hu);replace hu:=Hd hu;go_wp2;go_quiet (fail);go_wp2;go_roundw
    .refine⟨j+1,oQ,gQ,h0.o.drewN _,λp a h h3=>?_⟩;by_cases dE:p=j
     .subst dE;obtain rfl:x.name=a:=by have:=hxn.o;rw[h]at this;exact(eO this).symm
      exact hu.o
     .exact hp.o p a h oQ
    exact mQ
  .obtain rfl:j=i:=oQ;have Es:=Hd (show aj (l.map (·.name)) t.name=j from dC si.o hp.o);have y1:wr.cell? ⟨w.heap.size+1,1,none⟩=some (.slice A2 t.attrs.length c2):=h0.2.2.cell 1;have Pn:=Hd h0;clear h0;by_cases h8:(8:Int)<t.attrs.length
   .have ae:=Hd (show qO l j=24 from FU ht.o nE.o.symm Es.o oQ);go_wp2;go_ret;exact⟨hY ae.o.symm,Pn.o.1⟩
   .have ae:=Hd (show qO l j=rN (wW t.attrs) t.attrs.length from AO ht.o nE.o.symm Es.o oQ);obtain⟨w3,Xy⟩:=aB wr
    subst Xy;have k2:=Hd ads;go_wp2;clear y1;go_loopw [7,8] (λv x wr=>∃k:Nat,k<=t.attrs.length/\x=.int .i64 k/\TB w wr (.slice (some ⟨b,off,none⟩) l.length c) t.name (.slice A2 t.attrs.length c2)/\OL wr (w.heap.size+1+1) (λ_=>False) 9 1 v k ((t.attrs.take k).flatMap aG)/\Hid (∀p,p<k->wW t.attrs p=0)) (λ_ x _=>t.attrs.length- (intOf x).toNat)
    .exact⟨0,zE _,rfl,Pn.o,.nil _ _ _ _ _,λp h=>by omega⟩
    clear Pn;obtain⟨k,hk,rfl,h0,hO,hz⟩:=hrel;have y1:wr.cell? ⟨w.heap.size+1,1,none⟩=some (.slice A2 t.attrs.length c2):=h0.2.2.cell 1;by_cases hlt:k<t.attrs.length
    .obtain⟨x,hx⟩:=av hlt;obtain⟨b2,jG,rfl,_,ha,_⟩:=(r2.o.under h0.1 hF.o).cP (m:=1) (λ_=>rfl) hx oQ;have a0:wr.cell? ⟨b2,jG+k,none⟩=some (.string x):=by have:=ha 0 _ rfl;rwa [Nat.mul_one,Nat.add_zero]at this
     have g2:=aH k;have g3:=aV k t.attrs.length;replace hx:=Hd hx;clear ha;obtain⟨nx,bz⟩:=aB (br x)
     replace bz:=Hd bz;have RL:=Hd (hK.o.stay h0.1);cases nx
     .have hc:wW t.attrs k=22:=sU hx.o (.inl bz.o.symm);have aP:qO l j=22:=by rw[ae.o,fw hlt (by rw[hc];omega) hz.o,hc]
      replace⟨aP,h0⟩:=H2 aP h0;clear hc hO;go_wp2_with (go_at_call 125;refine(k1.o _ _ RL.o).aR ?_;rw[<-bz.o]);go_ret;exact⟨hY aP.o.symm,h0.o.1⟩
     .by_cases gw:x=jk
      .have hc:wW t.attrs k=22:=sU hx.o (.inr gw);have aP:qO l j=22:=by rw[ae.o,fw hlt (by rw[hc];omega) hz.o,hc]
       have VP:=jF gw;replace⟨aP,h0⟩:=H2 aP h0;clear hc hO;replace gw:=Hd gw;go_wp2_with (go_at_call 125;refine(k1.o _ _ RL.o).aR ?_;rw[<-bz.o]);go_ret;exact⟨hY aP.o.symm,h0.o.1⟩
      .have VP:=gK gw;have rH:=hO.rd (G:=λ_=>True) (λ_ _ _=>trivial) (λ_ _ _=>trivial);obtain⟨A3,c3,rfl⟩:=hO.form;have hlen:(t.attrs.take k).length=k:=by rw[zO];omega
       have fS:Cl 150 #[.slice A3 k c3,.string x] wr λe w'=>e=.returned (.bool (decide (aj t.attrs x≠k)))/\w'=wr:=by
        rw[<-Mp hx.o];have:=k2.o A3 c3 (λ_=>True) (t.attrs.take k) x oQ wr (by rw[hlen];exact rH);rwa [hlen]at this
       replace fS:=Hd fS;by_cases mB:aj t.attrs x=k
       .have hd:decide (aj t.attrs x≠(k:Int))=false:=zV (λh=>h mB);have hc:wW t.attrs k=0:=Ti hx.o bz.o.symm gw mB;have vL:(t.attrs.take (k+1)).flatMap aG=(t.attrs.take k).flatMap aG++aG x:=by rw[zJ,hx.o];simp
        have hsz:=h0.2.2.lt;have jD:∀q,some q=(Value.slice A3 k c3).ownBlock->w.heap.size+1+1<=q:=λq hq=>(hO.lt q hq.symm).1
        replace⟨jD,hd,hc,vL,gw,mB,rH⟩:=H7 jD hd hc vL gw mB rH;have Pn:=Hd h0;clear h0;go_wp2_with (first
         |(go_at_call 125;refine(k1.o _ _ RL.o).aR ?_;rw[<-bz.o])
         |(go_at_call 150;refine fS.o.mono ?_;rw[hd.o];rintro e W ⟨rfl,hW⟩;obtain rfl:=hW.symm)
         |(at_builtin;refine ez rfl (.tmp 65) (.tmp 71) _ rfl (m:=1) (news:=aG x) rm (hO.alloc _) rfl rfl (Src.lit ⟨.v _ rfl,trivial⟩) rfl oQ oQ (by simp;omega) ?_;intro v' w' ZE hg ha))
        go_roundw
        .refine⟨k+1,oQ,gQ,?_,by rw[vL.o];exact ZE,λp ej=>?_⟩
         .refine⟨(Pn.o.1.alloc Pn.o.1.size _).grown hg (by simp;omega) (λq hq=>by have:=jD.o q hq.symm;omega),(Pn.o.2.1.alloc _).grown hg (λhq=>?_),(Pn.o.2.2.alloc _).grown hg (λhq=>?_)⟩
          .have:=jD.o _ hq;omega
          .have:=jD.o _ hq;omega
         .by_cases e:p=k
          .subst e;exact hc.o
          .exact hz.o p oQ
        exact mQ
       .have hd:decide (aj t.attrs x≠(k:Int))=true:=zW mB;have hc:wW t.attrs k=25:=FN hx.o bz.o.symm gw mB;have aP:qO l j=25:=by rw[ae.o,fw hlt (by rw[hc];omega) hz.o,hc]
        replace⟨hd,aP,gw,mB,h0⟩:=H5 hd aP gw mB h0;clear hc hO rH;go_wp2_with (first
         |(go_at_call 125;refine(k1.o _ _ RL.o).aR ?_;rw[<-bz.o])
         |(go_at_call 150;refine fS.o.mono ?_;rw[hd.o];rintro e W ⟨rfl,hW⟩;obtain rfl:=hW.symm))
        go_ret;exact⟨hY aP.o.symm,h0.o.1⟩
    .obtain rfl:k=t.attrs.length:=oQ;have aP:qO l j=0:=by rw[ae.o];exact mO hz.o
     replace⟨aP,h0⟩:=H2 aP h0;clear hO;go_wp2;go_ret;exact⟨hY aP.o.symm,h0.o.1⟩
theorem gW (A c F l)(hl:iI l)(w)(hK:cW w)(hF:∀b,F b->b<w.heap.size)(r:Rd w F (.slice A l.length c) (.sl l.length (l.flatMap fj))):
  Cl 77 #[.agg #[.slice A l.length c]] w λe w'=>e=.returned (.int .i64 (dy l))/\Bw w w':=by
 have k1:=Hd DR;have qK:=hl.1;replace⟨hl,hF,hK,r⟩:=H4 hl hF hK r;by_cases g1:(l.length:Int)<1
 .have ae:=Hd (qE (l:=l) (.inl oQ));go_enter func77,ntmps77;go_wp2;go_ret;exact⟨hY ae.o.symm,bA⟩
 .by_cases g2:(16:Int)<l.length
  .have ae:=Hd (qE (l:=l) (.inr oQ));go_enter func77,ntmps77;go_wp2;go_ret;exact⟨hY ae.o.symm,bA⟩
  .have ae:=Hd (vw (l:=l) oQ oQ);go_enter func77,ntmps77;go_wp2;go_loopw [3,4] (λx _ wr=>∃j:Nat,j<=l.length/\x=.int .i64 j/\Bw w wr/\ao wr w.heap.size 24 [.slice A l.length c]/\Hid (∀p,p<j->qO l p=0)) (λx _ _=>l.length- (intOf x).toNat)
   .exact⟨0,zE _,rfl,bA,ao.new _ _ _,λp h=>by omega⟩
   obtain⟨j,hj,rfl,hb,hB,hz⟩:=hrel;have z0:wr.cell? ⟨w.heap.size,0,none⟩=some (.slice A l.length c):=hB.cell 0;replace hB:=Hd hB;by_cases hlt:j<l.length
   .have k2:=k1.o A c F l j hlt hl.o wr (hK.o.stay hb) (λb h=>zF (hF.o b h) hb.size) (r.o.under hb hF.o);obtain⟨q,hq⟩:=aB (qO l j)
    rw[<-hq]at k2;replace⟨k2,hb⟩:=H2 k2 hb;by_cases Ah:q=0
    .subst Ah;replace hq:=Hd hq;go_wp2_with (go_at_call 121;refine k2.o.mono ?_;rintro e w2 ⟨rfl,df⟩);go_roundw
     .refine⟨j+1,oQ,gQ,hb.o.trans (df.mono hb.o.size),hB.o.stay df,λp hp=>?_⟩;by_cases e:p=j
      .subst e;exact hq.o.symm
      .exact hz.o p oQ
     exact mQ
    .have aP:dy l=q:=(by rw[ae.o,fw hlt (by rw[<-hq];exact Ah) hz.o,hq]);have ajw:(q==0)=false:=by simpa using Ah
     replace⟨hq,aP⟩:=H2 hq aP;go_wp2_with (go_at_call 121;refine k2.o.mono ?_;rintro e w2 ⟨rfl,df⟩);go_ret;exact⟨hY aP.o.symm,hb.o.trans (df.mono hb.o.size)⟩
   .obtain rfl:j=l.length:=oQ;have aP:dy l=0:=by rw[ae.o];exact mO hz.o
    replace aP:=Hd aP;go_wp2;go_ret;exact⟨hY aP.o.symm,hb⟩
end cH
def TG (w wr:World)(g:Nat)(v:Value)(n:ByteArray)(u:Value):Prop:=
 Bw w wr/\ao wr w.heap.size 24 [v]/\ao wr g 95 [.string n,u]
theorem TG.stay {w wr w2 g v u n}(h:TG w wr g v n u)(hb:Bw wr w2):TG w w2 g v n u:=
 ⟨h.1.trans (hb.mono h.1.size),h.2.1.stay hb,h.2.2.stay hb⟩
namespace cH
theorem iL (A c F l)(hl:iI l)(w)(hK:cW w)(hF:∀b,F b->b<w.heap.size)(r:Rd w F (.slice A l.length c) (.sl l.length (l.flatMap fj))):
  Cl 38 #[.agg #[.slice A l.length c]] w λe w'=>e=.returned (.int .i64 (dy l))/\Bw w w':=by
 have k1:=Hd qX;have k2:=Hd ot;have k3:=Hd xZ;obtain⟨qK,lp⟩:=hl;replace⟨lp,hF,hK,r⟩:=H4 lp hF hK r;by_cases g1:(l.length:Int)=0
 .have ae:=Hd (qE (l:=l) (.inl oQ));have g1':((l.length:Int)==0)=true:=by simpa using g1
  clear g1;go_enter func38,ntmps38;go_wp2;go_ret;exact⟨hY ae.o.symm,bA⟩
 .have g1':((l.length:Int)==0)=false:=by simpa using g1
  by_cases g2:(16:Int)<l.length
  .have ae:=Hd (qE (l:=l) (.inr oQ));clear g1;go_enter func38,ntmps38;go_wp2;go_ret;exact⟨hY ae.o.symm,bA⟩
  .have ae:=Hd (vw (l:=l) oQ oQ);clear g1;go_enter func38,ntmps38;go_wp2;go_loopw [20] (λx wr=>∃j:Nat,j<=l.length/\x=.int .i64 j/\Bw w wr/\ao wr w.heap.size 24 [.slice A l.length c]/\Hid (∀p,p<j->qO l p=0)) (λx _=>l.length- (intOf x).toNat)
   .exact⟨0,zE _,rfl,bA,ao.new _ _ _,λp h=>by omega⟩
   obtain⟨j,hj,rfl,hb,hB,hz⟩:=hrel;by_cases hlt:j<l.length
   .obtain⟨wo,gU⟩:=aB wr
    subst gU;obtain⟨t,ht⟩:=av hlt;obtain⟨eC,ia,EP⟩:=lp.o t (zA ht);obtain⟨b,off,rfl,pZ,hv,hsl⟩:=r.o.cP (m:=2) (λ_=>rfl) ht oQ;have kO:=hF.o b pZ;have a0:wo.cell? ⟨b,off+j*2,none⟩=some (.string t.name):=(hb.cell (p:=⟨b,off+j*2,none⟩) kO).trans (hv 0 _ rfl);obtain⟨A2,c2,a1,rw0⟩:=hsl 1 _ _ rfl;replace a1:wo.cell? ⟨b,off+j*2+1,none⟩=some (.slice A2 t.attrs.length c2):=(hb.cell (p:=⟨b,off+j*2+1,none⟩) kO).trans a1;have g0:=aH j;have g1:=aV j l.length;have hbB:b<wo.heap.size:=zF (hF.o b pZ) hb.size;have hbN:¬b=wo.heap.size:=oQ;have ajy:=hb.size;have si:(l.map (·.name))[j]? =some t.name:=by rw[zG,ht];rfl
    have hT:TG w (wo.alloc (.cells #[.string t.name,.slice A2 t.attrs.length c2] 95)) wo.heap.size (.slice (some ⟨b,off,none⟩) l.length c) t.name (.slice A2 t.attrs.length c2):=⟨hb.alloc hb.size _,hB.alloc _,ao.new' rfl⟩;have rr:=(r.o.under hb hF.o);have hFr:∀b,F b->b<wo.heap.size:=λb h=>zF (hF.o b h) hb.size
    have hRx:∀W,TG w W wo.heap.size (.slice (some ⟨b,off,none⟩) l.length c) t.name (.slice A2 t.attrs.length c2)->Rd W F (.slice A2 t.attrs.length c2) (.sl t.attrs.length (t.attrs.flatMap aG)):=by
     exact λW hW=>rw0.under hW.1 hF.o
    replace⟨hRx,EP,si,ht,hT,rr⟩:=H6 hRx EP si ht hT rr;clear rw0;replace hFr:=Hd hFr;have RL:=Hd ((hK.o.stay hb).stay (bX (.cells #[.string t.name,.slice A2 t.attrs.length c2] 95)));clear hv hsl hb hB;obtain⟨nm,nE⟩:=aB (br t.name)
    replace nE:=Hd nE;cases nm
    .have hc:qO l j=22:=AK ht.o nE.o.symm;have aP:dy l=22:=by rw[ae.o,fw hlt (by rw[hc];omega) hz.o,hc]
     replace aP:=Hd aP;clear hc;go_wp2_with (go_at_call 65;refine(k1.o _ _ RL.o eC).mono ?_;rw[<-nE.o];rintro e W ⟨rfl,hW⟩;have jz:=hT.o.stay hW);go_ret;exact⟨hY aP.o.symm,jz.1⟩
    .obtain⟨q,hq⟩:=aB (aj (l.map (·.name)) t.name)
     have Jk:∀W,TG w W wo.heap.size (.slice (some ⟨b,off,none⟩) l.length c) t.name (.slice A2 t.attrs.length c2)->Cl 66 #[.agg #[.slice (some ⟨b,off,none⟩) l.length c],.string t.name] W λe w'=>e=.returned (.int .i64 q)/\Bw W w':=λW hW=>by
      rw[hq];exact k2.o _ c F l t.name qK W (λb h=>zF (hF.o b h) hW.1.size) (r.o.under hW.1 hF.o)
     replace Jk:=Hd Jk;by_cases hqj:q=(j:Int)
     .subst hqj;by_cases h8:(8:Int)<t.attrs.length
      .have hc:qO l j=24:=FU ht.o nE.o.symm hq.symm oQ;have aP:dy l=24:=by rw[ae.o,fw hlt (by rw[hc];omega) hz.o,hc]
       replace⟨aP,hq⟩:=H2 aP hq;clear hc;go_wp2_with (first
        |(go_at_call 65;refine(k1.o _ _ RL.o eC).mono ?_;rw[<-nE.o];rintro e W ⟨rfl,hW⟩;have jz:=hT.o.stay hW;have z0:W.cell? ⟨w.heap.size,0,none⟩=some (.slice (some ⟨b,off,none⟩) l.length c):=jz.2.1.cell 0;have y0:W.cell? ⟨wo.heap.size,0,none⟩=some (.string t.name):=jz.2.2.cell 0;replace jz:=Hd jz)
        |(go_at_call 66;refine(Jk.o _ jz.o).eQ λW2 aX=>?_;have rR:=jz.o.stay aX;have y1:W2.cell? ⟨wo.heap.size,1,none⟩=some (.slice A2 t.attrs.length c2):=rR.2.2.cell 1;replace rR:=Hd rR))
       go_ret;exact⟨hY aP.o.symm,rR.o.1⟩
      .have hc:qO l j=rN (wW t.attrs) t.attrs.length:=AO ht.o nE.o.symm hq.symm oQ;replace⟨hc,hq⟩:=H2 hc hq;go_wp2_with (first
        |(go_at_call 65;refine(k1.o _ _ RL.o eC).mono ?_;rw[<-nE.o];rintro e W ⟨rfl,hW⟩;have jz:=hT.o.stay hW;have z0:W.cell? ⟨w.heap.size,0,none⟩=some (.slice (some ⟨b,off,none⟩) l.length c):=jz.2.1.cell 0;have y0:W.cell? ⟨wo.heap.size,0,none⟩=some (.string t.name):=jz.2.2.cell 0;replace jz:=Hd jz)
        |(go_at_call 66;refine(Jk.o _ jz.o).eQ λW2 aX=>?_;have rR:=jz.o.stay aX;have y1:W2.cell? ⟨wo.heap.size,1,none⟩=some (.slice A2 t.attrs.length c2):=rR.2.2.cell 1;replace rR:=Hd rR))
       clear y1;go_loopw [45] (λx wr=>∃k:Nat,k<=t.attrs.length/\x=.int .i64 k/\TG w wr wo.heap.size (.slice (some ⟨b,off,none⟩) l.length c) t.name (.slice A2 t.attrs.length c2)/\Hid (∀p,p<k->wW t.attrs p=0)) (λx _=>t.attrs.length- (intOf x).toNat)
       .exact⟨0,zE _,rfl,rR.o,λp h=>by omega⟩
       clear rR;obtain⟨k,hk,rfl,Kj,O9⟩:=hrel;by_cases oK:k<t.attrs.length
       .obtain⟨x,hx⟩:=av oK;have wK:=EP.o x (zA hx);have Tr:Rd wr F (.slice A2 t.attrs.length c2) (.sl t.attrs.length (t.attrs.flatMap aG)):=(hRx.o _ Kj);obtain⟨b2,jG,rfl,_,ha,_⟩:=Tr.cP (m:=1) (λ_=>rfl) hx oQ;have a0:wr.cell? ⟨b2,jG+k,none⟩=some (.string x):=by have:=ha 0 _ rfl;rwa [Nat.mul_one,Nat.add_zero]at this
        have g2:=aH k;have g3:=aV k t.attrs.length;replace hx:=Hd hx;obtain⟨nx,bz⟩:=aB (br x)
        replace bz:=Hd bz;have hKx:=Hd (hK.o.stay Kj.1);replace Kj:=Hd Kj;clear ha Tr;cases nx
        .have jj:wW t.attrs k=22:=sU hx.o (.inl bz.o.symm);have hty:qO l j=22:=by rw[hc.o,fw oK (by rw[jj];omega) O9.o,jj]
         have aP:=Hd (show dy l=22 by rw[ae.o,fw hlt (by rw[hty];omega) hz.o,hty]);clear jj hty;go_wp2_with (go_at_call 65;refine(k1.o _ _ hKx.o wK).mono ?_;rw[<-bz.o];rintro e W ⟨rfl,hW⟩;have jz:=Kj.o.stay hW;replace jz:=Hd jz);go_ret;exact⟨hY aP.o.symm,jz.o.1⟩
        .by_cases gw:x=jk
         .have jj:wW t.attrs k=22:=sU hx.o (.inr gw);have hty:qO l j=22:=by rw[hc.o,fw oK (by rw[jj];omega) O9.o,jj]
          have aP:=Hd (show dy l=22 by rw[ae.o,fw hlt (by rw[hty];omega) hz.o,hty]);have VP:=jF gw;replace gw:=Hd gw;clear jj hty;go_wp2_with (go_at_call 65;refine(k1.o _ _ hKx.o wK).mono ?_;rw[<-bz.o];rintro e W ⟨rfl,hW⟩;have jz:=Kj.o.stay hW;replace jz:=Hd jz);go_ret;exact⟨hY aP.o.symm,jz.o.1⟩
         .have VP:=gK gw;obtain⟨q2,mV⟩:=aB (aj t.attrs x)
          have hPo:∀W,TG w W wo.heap.size (.slice (some ⟨b,off,none⟩) l.length c) t.name (.slice (some ⟨b2,jG,none⟩) t.attrs.length c2)->Cl 67 #[.slice (some ⟨b2,jG,none⟩) t.attrs.length c2,.string x] W λe w'=>e=.returned (.int .i64 q2)/\w'=W:=λW hW=>by
           rw[mV];exact k3.o _ c2 F t.attrs x ia W (hRx.o _ hW)
          replace hPo:=Hd hPo;by_cases Ka:q2=(k:Int)
          .subst Ka;have jj:wW t.attrs k=0:=Ti hx.o bz.o.symm gw mV.symm;replace⟨jj,mV,gw⟩:=H3 jj mV gw;go_wp2_with (first
            |(go_at_call 65;refine(k1.o _ _ hKx.o wK).mono ?_;rw[<-bz.o];rintro e W ⟨rfl,hW⟩;have jz:=Kj.o.stay hW;have y1:W.cell? ⟨wo.heap.size,1,none⟩=some (.slice (some ⟨b2,jG,none⟩) t.attrs.length c2):=jz.2.2.cell 1;replace jz:=Hd jz)
            |(go_at_call 67;refine(hPo.o _ jz.o).aR ?_))
           go_roundw
           .refine⟨k+1,oQ,gQ,jz.o,λp hp=>?_⟩;by_cases e:p=k
            .subst e;exact jj.o
            .exact O9.o p oQ
           exact mQ
          .have jj:wW t.attrs k=25:=FN hx.o bz.o.symm gw (by rw[<-mV];exact Ka);have hty:qO l j=25:=by rw[hc.o,fw oK (by rw[jj];omega) O9.o,jj]
           have aP:dy l=25:=(by rw[ae.o,fw hlt (by rw[hty];omega) hz.o,hty]);have ajz:(q2==(k:Int))=false:=by simpa using Ka
           replace⟨aP,mV,gw⟩:=H3 aP mV gw;clear jj hty;go_wp2_with (first
            |(go_at_call 65;refine(k1.o _ _ hKx.o wK).mono ?_;rw[<-bz.o];rintro e W ⟨rfl,hW⟩;have jz:=Kj.o.stay hW;have y1:W.cell? ⟨wo.heap.size,1,none⟩=some (.slice (some ⟨b2,jG,none⟩) t.attrs.length c2):=jz.2.2.cell 1;replace jz:=Hd jz)
            |(go_at_call 67;refine(hPo.o _ jz.o).aR ?_))
           go_ret;exact⟨hY aP.o.symm,jz.o.1⟩
       .obtain rfl:k=t.attrs.length:=oQ;have jj:qO l j=0:=by rw[hc.o];exact mO O9.o
        replace⟨jj,Kj⟩:=H2 jj Kj;go_wp2;go_roundw
        .refine⟨j+1,oQ,gQ,Kj.o.1,Kj.o.2.1,λp hp=>?_⟩;by_cases e:p=j
         .subst e;exact jj.o
         .exact hz.o p oQ
        exact mQ
     .have hc:qO l j=25:=AL ht.o nE.o.symm (by rw[<-hq];exact hqj);have aP:dy l=25:=by rw[ae.o,fw hlt (by rw[hc];omega) hz.o,hc]
      have ajA:(q==(j:Int))=false:=(by simpa using hqj);replace⟨aP,hq⟩:=H2 aP hq;clear hc;go_wp2_with (first
       |(go_at_call 65;refine(k1.o _ _ RL.o eC).mono ?_;rw[<-nE.o];rintro e W ⟨rfl,hW⟩;have jz:=hT.o.stay hW;have z0:W.cell? ⟨w.heap.size,0,none⟩=some (.slice (some ⟨b,off,none⟩) l.length c):=jz.2.1.cell 0;have y0:W.cell? ⟨wo.heap.size,0,none⟩=some (.string t.name):=jz.2.2.cell 0;replace jz:=Hd jz)
       |(go_at_call 66;refine(Jk.o _ jz.o).eQ λW2 aX=>?_;have rR:=jz.o.stay aX;replace rR:=Hd rR))
      go_ret;exact⟨hY aP.o.symm,rR.o.1⟩
   .obtain rfl:j=l.length:=oQ;have aP:dy l=0:=by rw[ae.o];exact mO hz.o
    replace aP:=Hd aP;clear hB;go_wp2;go_ret;exact⟨hY aP.o.symm,hb⟩
end cH
theorem Rl (x):fD (aG x):=by intro d h;simp[aG]at h;exact⟨_,h⟩
theorem MO (l:List ByteArray):(l.flatMap aG).length=l.length*1:=BO (f:=aG) (m:=1) (λ_=>rfl) _
theorem Src.drew {w A news G}(h:Src w A news G):Src w.drew A news G:=λhne=>
 let ⟨b,off,e,hc⟩:=h hne
 ⟨b,off,e,λk d hd=>let ⟨u,h1,h2⟩:=hc k d hd;⟨u,h1,h2.drew⟩⟩
theorem OL.base {w B B' F e size n v ds}(h:OL w B F e size v n ds)(hB:B'<=B):OL w B' F e size v n ds:=by
 obtain⟨cells,⟨h1,h2⟩,h3⟩:=h;exact⟨cells,⟨h1,h2.imp id (λ⟨g,cap,cur,e,hb,r⟩=>⟨g,cap,cur,e,zU hB hb,r⟩)⟩,h3⟩
theorem iD {w w':World}{row}(h:w.drew.grownBy w' row):w.grownBy w' row:=⟨h.os,h.tape,h.output,h.size,h.block⟩
theorem DT:jV prog 24 1:=⟨_,underlying24,rfl,kQ⟩
section
variable {P:Program}{w:World}{g t:Nat}{cs:List Value}
theorem l5 {fn R a}{p ty:Nat}(hr:fn.results=#[.cell p ty])(h:ao w g t cs)(T:jV P ty cs.length)(hp:a.tmps.getD p undef=.pointer (some ⟨g,0,none⟩))(hd:a.defers=[])(hR:R (.returned (.agg ⟨cs⟩)) w):bodyPost P fn R .ret a w:=by
 refine bodyPost_ret (v:=.agg ⟨cs⟩) ?_ hd hR;simp only[Array.getD_eq_getD_getElem?]at hp;simp[results,hr,hp,asAddr,jh h T]
theorem yF {fn R a}{p q r ty:Nat}{v v2}(hr:fn.results=#[.cell p ty,.tmp q,.tmp r])(h:ao w g t cs)(T:jV P ty cs.length)(hp:a.tmps.getD p undef=.pointer (some ⟨g,0,none⟩))(hq:a.tmps.getD q undef=v)(mV:a.tmps.getD r undef=v2)(hd:a.defers=[])(hR:R (.returned (.tuple #[.agg ⟨cs⟩,v,v2])) w):bodyPost P fn R .ret a w:=by
 refine bodyPost_ret (v:=.tuple #[.agg ⟨cs⟩,v,v2]) ?_ hd hR;simp only[Array.getD_eq_getD_getElem?]at hp hq mV;simp[results,hr,hp,hq,mV,asAddr,jh h T]
end
set_option linter.unusedSimpArgs false
structure Nd where
 op:Int
 n:Int
 v:ByteArray
 at_:ByteArray
 a:Int
 b:Int
def cJ (x:Nd):List Value:=[.int .i64 x.op,.int .i64 x.n,.string x.v,.string x.at_,.int .i64 x.a,.int .i64 x.b]
def b9 (x:Nd):List D:=[.v (.int .i64 x.op),.v (.int .i64 x.n),.v (.string x.v),.v (.string x.at_),.v (.int .i64 x.a),.v (.int .i64 x.b)]
structure It where
 neg:Bool
 ah:List ByteArray
 v:ByteArray
 lo:Int
 hi:Int
def SV (x:It):List D:=[.v (.bool x.neg),.sl x.ah.length (x.ah.flatMap aG),.v (.string x.v),.v (.int .i64 x.lo),.v (.int .i64 x.hi)]
structure Qy where
 items:List It
 mode:Int
 after:Int
 wh:List Nd
 within:Int
 au:ByteArray
 ret:List (List Nd)
def Xv (l:List Nd):List D:=[.sl l.length (l.flatMap b9)]
def emp:ByteArray:=⟨#[]⟩
def dg (o:Int):Bool:=decide (1<=o)&&decide (o<=11)
def fm (o:Int):Bool:=decide (o=12)||decide (o=13)
def gD (o:Int):Bool:=decide (14<=o)&&decide (o<=26)
def isVar (o:Int):Bool:=decide (4<=o)&&decide (o<=11)
def qW (o:Int):Bool:=isVar o&& !decide (o=5)
noncomputable def bI (x:Nd):Bool:=
 (if x.op=1 then decide (0<=x.n)else decide (x.n=0))&&(if isVar x.op=true then br x.v else decide (x.v=emp))&&(if qW x.op=true then br x.at_ else decide (x.at_=emp))
noncomputable def stepT (i:Nat)(stk:List (Nat×Nat))(x:Nd):Option (List (Nat×Nat)):=
 if bI x=false then none
 else if dg x.op=true then(if x.a= -1/\x.b= -1 then some ((i,i)::stk)else none)
 else if fm x.op=true then(match stk with |(b,r)::s=>if x.a=(r:Int)/\x.b= -1 then some ((b,i)::s)else none | []=>none)
 else if gD x.op=true then(match stk with |(_,r)::(b2,r2)::s=>if x.a=(r2:Int)/\x.b=(r:Int)then some ((b2,i)::s)else none |_=>none)
 else none
noncomputable def runT:Nat->List (Nat×Nat)->List Nd->Option (List (Nat×Nat))
 |_,s,[]=>some s
 |i,s,x::r=>match stepT i s x with |none=>none |some s'=>runT (i+1) s' r
noncomputable def aW (t:List Nd):Bool:=match runT 0 [] t with |some [_]=>true |_=>false
inductive Sp (t:List Nd):Nat->Nat->Prop
 |lf {i:Nat}{x:Nd}:t[i]? =some x->dg x.op=true->x.a= -1->x.b= -1->Sp t i i
 |un {b j:Nat}{x:Nd}:t[j+1]? =some x->fm x.op=true->x.a=(j:Int)->x.b= -1->Sp t b j->Sp t b (j+1)
 |bi {b m j:Nat}{x:Nd}:t[j+1]? =some x->gD x.op=true->x.a=(m:Int)->x.b=(j:Int)->Sp t b m->Sp t (m+1) j->Sp t b (j+1)
theorem Sp.le {t b r}(h:Sp t b r):b<=r:=by
 induction h with
 |lf=>omega
 |un=>omega
 |bi=>omega
theorem Sp.lt {t b r}(h:Sp t b r):r<t.length:=by
 cases h with
 |lf h=>exact(zC.1 h).1
 |un h=>exact(zC.1 h).1
 |bi h=>exact(zC.1 h).1
inductive gG (t:List Nd):Nat->List (Nat×Nat)->Prop
 |nil:gG t 0 []
 |cons {b r:Nat}{s:List (Nat×Nat)}:Sp t b r->gG t b s->gG t (r+1) ((b,r)::s)
def iR (t:List Nd)(i:Nat):Prop:=∀r,r<i->∃b,Sp t b r
theorem Cz {t i stk stk' x}(hx:t[i]? =some x)(hs:gG t i stk)(ha:iR t i)(h:stepT i stk x=some stk'):gG t (i+1) stk'/\iR t (i+1)/\bI x=true:=by
 have lK:∀b,Sp t b i->iR t (i+1):=λb hb r hr=>by
  by_cases e:r=i
  .subst e;exact⟨b,hb⟩
  .exact ha r oQ
 unfold stepT at h;split at h
 .cases h
 .rename_i hf;have EN:bI x=true:=by simpa using hf
  split at h
  .rename_i h1;split at h
   .rename_i h2;injection h with h
    subst h;have hsp:Sp t i i:=.lf hx h1 h2.1 h2.2;exact⟨.cons hsp hs,lK _ hsp,EN⟩
   .cases h
  .split at h
   .rename_i h1;cases hs with
    |nil=>cases h
    |cons hsp hs'=>
     simp only at h;split at h
     .rename_i h2;injection h with h
      subst h;have Ns:=Sp.un hx h1 h2.1 h2.2 hsp;exact⟨.cons Ns hs',lK _ Ns,EN⟩
     .cases h
   .split at h
    .rename_i h1;cases hs with
     |nil=>cases h
     |cons hsp hs'=>
      cases hs' with
      |nil=>cases h
      |cons aeo ia=>
       simp only at h;split at h
       .rename_i h2;injection h with h
        subst h;have Ns:=Sp.bi hx h1 h2.1 h2.2 aeo hsp;exact⟨.cons Ns ia,lK _ Ns,EN⟩
       .cases h
    .cases h
theorem RN {t}:∀(l:List Nd)(i:Nat)(stk stk':List (Nat×Nat)),(∀j,l[j]? =t[i+j]?)->gG t i stk->iR t i->runT i stk l=some stk'->gG t (i+l.length) stk'/\iR t (i+l.length)/\∀x∈l,bI x=true:=by
 intro l;induction l with
 |nil=>
  intro i stk stk' hl hs ha h;injection h with h
  subst h;exact⟨hs,ha,λx hx=>by cases hx⟩
 |cons x l ih=>
  intro i stk stk' hl hs ha h;have hx:t[i]? =some x:=by have:=hl 0;simpa using this.symm
  unfold runT at h;cases hst:stepT i stk x with
  |none=>rw[hst]at h;cases h
  |some s'=>
   rw[hst]at h;obtain⟨h1,h2,h3⟩:=Cz hx hs ha hst;obtain⟨h4,h5,h6⟩:=ih (i+1) s' stk' (λj=>by have:=hl (j+1);simp at this;rw[this];congr 1;omega) h1 h2 h;have e:i+(x::l).length=i+1+l.length:=by simp;omega
   rw[e];refine⟨h4,h5,λy hy=>?_⟩;rcases List.mem_cons.1 hy with rfl |hy
   .exact h3
   .exact h6 y hy
theorem dF {t}(h:aW t=true):(∃n,t.length=n+1/\Sp t 0 n)/\iR t t.length/\∀x∈t,bI x=true:=by
 unfold aW at h;cases hr:runT 0 [] t with
 |none=>rw[hr]at h;cases h
 |some s=>
  rw[hr]at h;match s,h with
  | [(b,r)],_=>
   obtain⟨h1,h2,h3⟩:=RN (t:=t) t 0 [] _ (λj=>by simp) .nil (λr hr=>by omega) hr;rw[Nat.zero_add]at h1 h2;generalize hn:t.length=n at h1 h2;cases h1 with
   |cons hsp hs=>
    cases hs with
    |nil=>exact⟨⟨_,rfl,hsp⟩,h2,h3⟩
