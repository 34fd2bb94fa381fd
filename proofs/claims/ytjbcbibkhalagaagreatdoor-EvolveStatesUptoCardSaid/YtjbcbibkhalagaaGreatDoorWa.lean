/- What each kind of change does to the design. -/
import Derived.Test.YtjbcbibkhalagaaGreatDoorW7
import Derived.Laws.Externs
namespace Go.Proofs.YtjbcbibkhalagaaGreatDoor
set_option maxRecDepth 100000
set_option maxHeartbeats 16000000
open Proofs.Tryz Go.RowKit Go.Deep
set_option linter.unusedVariables false
theorem TM (w G nm fr fs A n c):fB w G [.string nm,.int .i64 fr,.slice A n c] (ug (⟨nm,fr,fs⟩,.slice A n c)):=⟨.v _ rfl,.v _ rfl,.v _ rfl,trivial⟩
theorem DX.TN {w W1 B g nl vk vl vk' u au l k}(h:DX w B g vk vl au nl l)(hg:w.grownBy W1 vk.ownBlock)(hv:OL W1 B bE 115 3 vk' (l.length+1) (l.flatMap ug++ug (k,u)))(hu:OL w B bE 117 3 u k.fs.length (k.fs.flatMap dt))(hne:∀p∈l,u.ownBlock=none\/u.ownBlock≠p.2.ownBlock):DX (W1.setCell ⟨g,0,none⟩ vk') B g vk' vl au nl (l++[(k,u)]):=by
 refine h.Z6 hg (by simpa using hv) (λp hp=>?_) ?_
 .rcases zM.1 hp with hp |hp
  .exact .inl hp
  .simp at hp;subst hp;exact .inr (hu.kept hg (hu.ne h.kr dQ) (λ_ hb=>hb.elim))
 .intro a b x y hx hy jX;have get:∀{a:Nat} {x},(l++[(k,u)])[a]? =some x->(a<l.length/\l[a]? =some x)\/(a=l.length/\x=(k,u)):=λ {a x} hx=>by
   by_cases ha:a<l.length
   .rw[zS ha]at hx;exact .inl ⟨ha,hx⟩
   .rw[zP oQ]at hx;have:=(zC.1 hx).1;simp at this;have e:a-l.length=0:=oQ;rw[e]at hx;exact .inr ⟨oQ,by simpa using hx.symm⟩
  rcases get hx with⟨h1,h2⟩|⟨h1,rfl⟩
  .rcases get hy with⟨h3,h4⟩|⟨h3,rfl⟩
   .exact h.ne a b x y h2 h4 jX
   .exact kF (hne x (zA h2))
  .rcases get hy with⟨h3,h4⟩|⟨h3,rfl⟩
   .exact hne y (zA h4)
   .omega
namespace di
open cH
theorem JN {w B g nl vk vl au l}(h:DX w B g vk vl au nl l)(hm:nO (l.map (·.1)))(c)(hc:c.kd=1)(jj:c.ats.length<=1048576)(A d G)(hG:∀b,G b->b<w.heap.size)(rc:Rd w G (.slice A c.ats.length d) (.sl c.ats.length (c.ats.flatMap aG))):
  Cl 68 #[.pointer (some ⟨g,0,none⟩),.agg #[.int .i64 c.kd,.string c.ty,.string c.at_,.string c.nm,.slice A c.ats.length d,.int .i64 c.n]] w (dV (l.map (·.1)) c B g nl w):=by
 have yA:l.length<=16:=by have:=hm.len;simpa using this
 have hg:=h.bx.lt;have sv:B<=w.heap.size:=zU h.gB (Nat.le_of_lt hg);have hch:=TH (l:=l.map (·.1)) hc;have uj:∀u:Value,(l++[(lS c,u)]).map (·.1)=l.map (·.1)++[lS c]:=λu=>by simp
 obtain⟨W0,cg⟩:=aB (w.alloc (.cells ⟨je c A d⟩ 73))
 have gp:W0.heap.size=w.heap.size+1:=by rw[cg];simp
 have h0:Bw w W0:=by rw[cg];exact bA
 have hst:IB W0 ((w.alloc (.cells ⟨je c A d⟩ 73)).alloc (.cells ⟨[.string c.ty,.int .i64 (-1),.slice none 0 0]⟩ 115)) 115 c.ty (-1) (.slice none 0 0) 117 0 []:=by
  rw[<-cg];exact⟨bA,ao.new _ _ _,.nil _ _ _ _ _⟩
 have kd:=λW (hW:Bw w W)=>h.stay hW
 replace⟨gp,h0,hst,hch,uj,kd,rc,hG⟩:=H8 gp h0 hst hch uj kd rc hG;clear h hm hc cg;go_enter func68,ntmps68;go_wp2;go_loopw [7,14] (λ_ y wr=>∃(k:Nat)(u:Value),k<=c.ats.length/\y=.int .i64 k/\IB W0 wr 115 c.ty (-1) u 117 k (((c.ats.map λa=>(⟨a,-1,0⟩:Fd)).take k).flatMap dt)) (λ_ y _=>c.ats.length- (intOf y).toNat)
 .exact⟨0,.slice none 0 0,zE _,rfl,hst.o⟩
 obtain⟨k,u,hk,rfl,hI⟩:=hrel;have uL:Bw w wr:=h0.o.trans (hI.hb.mono h0.o.size);have i2:wr.cell? ⟨w.heap.size+1,2,none⟩=some u:=by rw[<-gp.o];exact hI.bx.cell 2
 have hz:w.heap.size+1<wr.heap.size:=by rw[<-gp.o];exact hI.bx.lt
 by_cases kW:k<c.ats.length
 .obtain⟨a,ha⟩:=av kW;obtain⟨b2,jG,rfl,Sg,n7⟩:=(rc.o.under uL hG.o).at_ ha;have q0:wr.cell? ⟨b2,jG+k,none⟩=some (.string a):=n7;have g2:=aH k;have g3:=aV k c.ats.length;have tM:=H0 ha;have f2:wr.frozen? ⟨w.heap.size+1,2,none⟩=false:=by rw[<-gp.o];exact hI.bx.frozen 2
  have cY:∀(w1:World)(v':Value),(wr.alloc (.cells ⟨jA ⟨a,-1,0⟩⟩ 117)).grownBy w1 u.ownBlock->OL w1 (W0.heap.size+1) bE 117 3 v' (k+1) (((c.ats.map λa=>(⟨a,-1,0⟩:Fd)).take k).flatMap dt++dt ⟨a,-1,0⟩)->w1.cell? ⟨w.heap.size+1,2,none⟩=some u/\w1.frozen? ⟨w.heap.size+1,2,none⟩=false/\
    IB W0 (w1.setCell ⟨w.heap.size+1,2,none⟩ v') 115 c.ty (-1) v' 117 (k+1) (((c.ats.map λa=>(⟨a,-1,0⟩:Fd)).take (k+1)).flatMap dt):=λw1 v' hg hO=>by
   have hB:=hI.stay (bX (.cells ⟨jA ⟨a,-1,0⟩⟩ 117));have t0:=hB.bx.grown hg (λe=>by have:=(hI.ol.lt _ e.symm).1;omega);have:=hB.put hg (λq hq=>(hI.ol.lt q hq).1) hO;rw[<-gp.o,tM];exact⟨t0.cell 2,t0.frozen 2,this⟩
  have sB:=Hd hI.ol;replace cY:=Hd cY;have eC:W0.heap.size+1<=wr.heap.size:=hI.bx.lt;clear n7 ha hI tM uL;go_wp2_with (at_builtin;refine ez rfl (.tmp 19) (.tmp 22) _ rfl (m:=1) (news:=dt ⟨a,-1,0⟩) gZ (sB.o.alloc (.cells ⟨jA ⟨a,-1,0⟩⟩ 117)) rfl rfl (Src.lit (gY wr _ ⟨a,-1,0⟩)) rfl oQ oQ (by simp;omega) ?_;intro v' w1 ax aw bu;obtain⟨B3,d3,rfl⟩:=ax.form;obtain⟨t1,t2,t3⟩:=cY.o _ _ aw ax;replace t3:=Hd t3);go_roundw
  .exact⟨k+1,_,oQ,gQ,t3.o⟩
  exact mQ
 .have qy:k=c.ats.length:=oQ;subst qy;have jR:(c.ats.map λa=>(⟨a,-1,0⟩:Fd)).take c.ats.length=c.ats.map λa=>(⟨a,-1,0⟩:Fd):=xH sJ
  rw[jR]at hI;obtain⟨U,cu,rfl⟩:=hI.ol.form;have i0:wr.cell? ⟨w.heap.size+1,0,none⟩=some (.string c.ty):=by rw[<-gp.o];exact hI.bx.cell 0
  have i1:wr.cell? ⟨w.heap.size+1,1,none⟩=some (.int .i64 (-1)):=by rw[<-gp.o];exact hI.bx.cell 1
  have hD:=kd.o wr uL;have q0:=hD.c0;have wH:g<wr.heap.size:=hD.bx.lt;obtain⟨A4,c4,rfl⟩:=hD.kr.form;have aX:Bw w (wr.alloc (.cells ⟨[.string c.ty,.int .i64 (-1),.slice U c.ats.length cu]⟩ 115)):=uL.alloc uL.size _;have EG:=kd.o _ aX;have TP:OL (wr.alloc (.cells ⟨[.string c.ty,.int .i64 (-1),.slice U c.ats.length cu]⟩ 115)) B bE 117 3 (.slice U c.ats.length cu) (lS c).fs.length ((lS c).fs.flatMap dt):=by
   have:=(hI.ol.base (B':=B) (by have:=gp.o;omega)).alloc (.cells ⟨[.string c.ty,.int .i64 (-1),.slice U c.ats.length cu]⟩ 115);simpa[lS] using this
  have J7:∀p∈l,(Value.slice U c.ats.length cu).ownBlock=none\/(Value.slice U c.ats.length cu).ownBlock≠p.2.ownBlock:=λp hp=>by
   cases hq:(Value.slice U c.ats.length cu).ownBlock with
   |none=>exact .inl rfl
   |some q=>
    refine .inr λhe=>?_
    have h1:=(hI.ol.lt q hq).1;have h2:=(((kd.o w bR).fr p hp).lt q he.symm).2;have:=gp.o;omega
  have kT:=Hd EG.kr;have Om:=λ(w1:World)(hg:(wr.alloc (.cells ⟨[.string c.ty,.int .i64 (-1),.slice U c.ats.length cu]⟩ 115)).grownBy w1 (Value.slice A4 l.length c4).ownBlock)=>EG.Ok hg
  have yC:=λ(w1:World)(v':Value)(hg:(wr.alloc (.cells ⟨[.string c.ty,.int .i64 (-1),.slice U c.ats.length cu]⟩ 115)).grownBy w1 (Value.slice A4 l.length c4).ownBlock) hv=>xW (EG.TN (vk':=v') hg hv TP J7) (EG.Gy (x:=v') (aX.mono sv) hg)
  have eC:B<=wr.heap.size:=zU sv uL.size;replace⟨Om,yC⟩:=H2 Om yC;clear hI jR hD EG TP J7 aX uL;go_upto_region 7 with fail
  go_region_law ((refine dj (by rfl) (.tmp 30) (.tmp 32) _ (by rfl) (m:=1) (news:=ug (lS c,.slice U c.ats.length cu)) vX (by exact kT.o.drew) (by rfl) (by rfl) (by exact(Src.lit (TM wr _ c.ty (-1) _ U c.ats.length cu)).drew) rfl oQ oQ (by simp;omega) ?_;intro v' w1 ax aw bu;obtain⟨B3,d3,rfl⟩:=ax.form;have mc:=iD aw;obtain⟨t0,t1⟩:=Om.o _ mc))
  all_goals
   obtain⟨f1,f2⟩:=yC.o _ _ mc ax;replace⟨f1,f2⟩:=H2 f1 f2;go_wp2;go_ret;exact dV.ey hch.o f1.o (uj.o _) rfl f2.o
end di
set_option linter.unusedSimpArgs false
theorem aad {l c k}(h:c.kd=5)(hf:iB l c.at_=some k):jx l c=some (l.eraseIdx k):=by
 unfold jx;rw[if_neg oQ,hf];exact if_pos h
section
variable {w:World}{B g:Nat}{nl:List Ls}{vk vl:Value}{au:Int}{l:List (Kd×Value)}
theorem DX.On {gk cap i p W1}(h:DX w B g (.slice (some ⟨gk,0,none⟩) l.length cap) vl au nl l)(hp:l[i]? =some p)(hg:w.grownBy W1 p.2.ownBlock):
  W1.cell? ⟨g,0,none⟩=some (.slice (some ⟨gk,0,none⟩) l.length cap)/\W1.cell? ⟨gk,i*3+2,none⟩=some p.2/\W1.frozen? ⟨gk,i*3+2,none⟩=false:=by
 obtain⟨a1,_,_,a2,a3⟩:=h.at' hp;have hf:=h.fr p (zA hp);have n1:p.2.ownBlock≠some g:=hf.aU h.bx dQ;have n2:p.2.ownBlock≠some gk:=hf.jt h.kr dQ;have Vi:=(h.kr.lt gk rfl).2;have ch:W1.heap[gk]? =w.heap[gk]? :=hg.block gk Vi (λe=>n2 e.symm);exact⟨hg.cell a1 (λe=>n1 e.symm),(World.cell?_of_block (a:=⟨gk,i*3+2,none⟩) ch).trans a2,(World.frozen?_of_block (a:=⟨gk,i*3+2,none⟩) ch).trans (a3 _)⟩
theorem DX.Oo {gk cap i p w0 W1 x}(h:DX w B g (.slice (some ⟨gk,0,none⟩) l.length cap) vl au nl l)(hp:l[i]? =some p)(hb:Below B w0 w)(hg:w.grownBy W1 p.2.ownBlock):Below B w0 (W1.setCell ⟨gk,i*3+2,none⟩ x):=
 (hb.grown hg (zU h.gB (Nat.le_of_lt h.bx.lt)) (λq hq=>((h.fr p (zA hp)).lt q hq).1)).setCell (h.kr.lt gk rfl).1 _
end
namespace di
open cH
theorem GA {w B g nl vk vl au l}(h:DX w B g vk vl au nl l)(hm:nO (l.map (·.1)))(tK:nl.length<=1048576)(c)(hc:c.kd=5)(A d):
  Cl 72 #[.pointer (some ⟨g,0,none⟩),.agg #[.int .i64 c.kd,.string c.ty,.string c.at_,.string c.nm,.slice A c.ats.length d,.int .i64 c.n]] w (dV (l.map (·.1)) c B g (nl++iX (l.map (·.1)) c au) w):=by
 have h0:Bw w (w.alloc (.cells ⟨je c A d⟩ 73)):=bA;have fM:=WO (h.stay h0) hm c A d;have hg:=h.bx.lt;have sv:B<=w.heap.size:=zU h.gB (Nat.le_of_lt hg);by_cases cK:Gx (l.map (·.1)) c
 .obtain⟨i,p,k,x,ht,hp,fR,hf,hx⟩:=cK.pair;have hch:=H' oQ oQ ht fR (aad hc hf);have ud:=Hd (show nl++[⟨p.1.fr,x.fr,au⟩]=nl++iX (l.map (·.1)) c au by rw[Mg hc ht fR hf hx]);have fe:=zA hp;have BG:i<l.length:=(zC.1 hp).1;have JI:k<p.1.fs.length:=(zC.1 hx).1;have g0:=aH i;have g1:=aV i l.length;have g2:=aH k;have g3:(k:Int)<p.1.fs.length:=oQ;have yB:p.1.fs.length<=8:=hm.fl p.1 (xJ fe);have hwk:IntKind.i64.wrap ((k:Int)+1)=(k:Int)+1:=by rw[xI];omega
  obtain⟨gk,cap,rfl,h1,h2,_⟩:=h.at_ hp;obtain⟨gf,gX,hv,h3,h4,h5,h6⟩:=(h.fr p fe).row oQ;have qP:=h.lr;obtain⟨A3,c3,rfl⟩:=qP.form;have oY:=λ(i2 k2:Int)(b:Bool)(hI:rX (l.map (·.1)) c i2 k2 b)=>hI.good ht fR hf
  obtain⟨u,hu,Tk⟩:=h6 (k*3+1) _ (po (f:=dt) (m:=3) (λ_=>rfl) hx rfl);rw[Tk.bH]at hu;have kc:∀W,Bw w W->W.cell? ⟨g,0,none⟩=some (.slice (some ⟨gk,0,none⟩) l.length cap)/\W.cell? ⟨g,1,none⟩=some (.slice A3 nl.length c3)/\W.cell? ⟨g,2,none⟩=some (.int .i64 au)/\W.cell? ⟨gk,i*3+1,none⟩=some (.int .i64 p.1.fr)/\W.cell? ⟨gk,i*3+2,none⟩=some (.slice (some ⟨gf,0,none⟩) p.1.fs.length gX)/\W.cell? ⟨gf,k*3+1,none⟩=some (.int .i64 x.fr):=λW hW=>by
   have hx:=h.stay hW;obtain⟨a1,_,a2,a3,_⟩:=hx.at' hp;rw[hv]at a3;exact⟨a1,hx.c1,hx.c2,a2,a3,(hW.cell (p:=⟨gf,k*3+1,none⟩) h4).trans hu⟩
  have ko:∀W,Bw w W->OL W B bE 141 3 (.slice A3 nl.length c3) nl.length (nl.flatMap Jj):=λW hW=>qP.stay hW
  have kd:=λW (hW:Bw w W)=>h.stay hW
  have JL:g≠gk:=λe=>h.kr.aU h.bx dQ (by rw[e];rfl)
  have Q0:g≠gf:=λe=>(h.fr p fe).aU h.bx dQ (by rw[hv,e];rfl)
  have kn:∀W W1,Bw w W->W.grownBy W1 (Value.slice A3 nl.length c3).ownBlock->((W1.cell? ⟨g,0,none⟩=some (.slice (some ⟨gk,0,none⟩) l.length cap)/\W1.cell? ⟨g,2,none⟩=some (.int .i64 au)/\W1.cell? ⟨gk,i*3+1,none⟩=some (.int .i64 p.1.fr)/\W1.cell? ⟨gk,i*3+2,none⟩=some (.slice (some ⟨gf,0,none⟩) p.1.fs.length gX)/\W1.cell? ⟨gf,k*3+1,none⟩=some (.int .i64 x.fr))/\W1.cell? ⟨g,1,none⟩=some (.slice A3 nl.length c3))/\W1.frozen? ⟨g,1,none⟩=false:=λW W1 hW Oj=>by
   have hx:=h.stay hW;obtain⟨a0,a1,a2,a3,a4,a5⟩:=kc W hW;obtain⟨b0,b1,b2⟩:=hx.TL Oj;have hl:=ko W hW;have n1:(Value.slice A3 nl.length c3).ownBlock≠some g:=hl.aU hx.bx dQ;have n2:(Value.slice A3 nl.length c3).ownBlock≠some gk:=hl.jt hx.kr dQ;have F0:=hx.fr p fe;rw[hv]at F0;have n3:(Value.slice A3 nl.length c3).ownBlock≠some gf:=hl.jt F0 dQ;exact⟨⟨⟨b0,Oj.cell a2 (λe=>n1 e.symm),Oj.cell a3 (λe=>n2 e.symm),Oj.cell a4 (λe=>n2 e.symm),Oj.cell a5 (λe=>n3 e.symm)⟩,b1⟩,b2⟩
  have uj:∀v:Value,(l.set i ({p.1 with fs:=p.1.fs.eraseIdx k},v)).map (·.1)=(l.map (·.1)).set i {p.1 with fs:=p.1.fs.eraseIdx k}:=λv=>jc
  have hel:(p.1.fs.eraseIdx k).length=p.1.fs.length-1:=List.length_eraseIdx_of_lt JI;have GD:∀(W:World)(v:Value)(n:List Ls),DX W B g (.slice (some ⟨gk,0,none⟩) l.length cap) v au n l->Below B w W->
    W.cell? ⟨g,0,none⟩=some (.slice (some ⟨gk,0,none⟩) l.length cap)/\W.cell? ⟨gk,i*3+2,none⟩=some (.slice (some ⟨gf,0,none⟩) p.1.fs.length gX)/\
    Cl 119 #[.slice (some ⟨gf,0,none⟩) p.1.fs.length gX,.int .i64 (k:Int),.int .i64 ((k:Int)+1)] W.drew λe w'=>e=.returned (.slice (some ⟨gf,0,none⟩) (p.1.fs.length-1) gX)/\
     w'.cell? ⟨g,0,none⟩=some (.slice (some ⟨gk,0,none⟩) l.length cap)/\w'.cell? ⟨gk,i*3+2,none⟩=some (.slice (some ⟨gf,0,none⟩) p.1.fs.length gX)/\w'.frozen? ⟨gk,i*3+2,none⟩=false/\
     DX (w'.setCell ⟨gk,i*3+2,none⟩ (.slice (some ⟨gf,0,none⟩) (p.1.fs.length-1) gX)) B g (.slice (some ⟨gk,0,none⟩) l.length cap) v au n (l.set i ({p.1 with fs:=p.1.fs.eraseIdx k},.slice (some ⟨gf,0,none⟩) (p.1.fs.length-1) gX))/\
     Below B w (w'.setCell ⟨gk,i*3+2,none⟩ (.slice (some ⟨gf,0,none⟩) (p.1.fs.length-1) gX)):=λW v n hD X'=>by
   obtain⟨a1,_,_,a2,_⟩:=hD.at' hp;rw[hv]at a2;have EG:=hD.stay (bR).drew;have ho:=EG.fr p fe;rw[hv]at ho;refine⟨a1,a2,(vY B gf gX p.1.fs.length k bE _ _ ho JI).mono ?_⟩;rintro e w' ⟨rfl,hO,Fy⟩;rw[qJ (f:=dt) (m:=3) (λ_=>rfl)]at hO;have Oq:W.drew.grownBy w' p.2.ownBlock:=by rw[hv];exact Fy
   obtain⟨b1,b2,b3⟩:=EG.On hp Oq;rw[hv]at b2;refine⟨rfl,b1,b2,b3,EG.WN hp Oq (.inr rfl) (by rw[hel];exact hO) (.inl (by rw[hv];rfl)),EG.Oo hp X'.drew Oq⟩
  replace⟨GD,hch,fM,oY,h0,kc,ko,kd,kn,uj⟩:=yX GD hch fM oY h0 kc ko kd kn uj;clear h hm cK hp fR fe hx hf ht hc h6 hu Tk hv qP hel h5 h3;go_enter func72,ntmps72;go_upto_region 4 with(go_at_call 118;refine fM.o.mono ?_;rintro e w' ⟨i2,k2,b2,rfl,hI,az⟩;obtain⟨rfl,rfl,rfl⟩:=oY.o i2 k2 b2 hI;clear hI)
  have a9:=Hd (h0.o.trans (az.mono h0.o.size));obtain⟨q0,q1,q2,q3,q4,q5⟩:=kc.o w' a9.o;have aX:=Hd (show Bw w (w'.alloc (.cells ⟨Tj p.1.fr x.fr au⟩ 141))from a9.o.alloc a9.o.size _);have hsz:w.heap.size<=w'.heap.size:=a9.o.size;have Io:gk<w'.heap.size:=oQ;have wH:g<w'.heap.size:=oQ;have afj:gf<w'.heap.size:=oQ;clear az;have ak:(w'.drew.cell? ⟨g,0,none⟩=some (.slice (some ⟨gk,0,none⟩) l.length cap)/\w'.drew.cell? ⟨g,2,none⟩=some (.int .i64 au)/\w'.drew.cell? ⟨gk,i*3+1,none⟩=some (.int .i64 p.1.fr)/\w'.drew.cell? ⟨gk,i*3+2,none⟩=some (.slice (some ⟨gf,0,none⟩) p.1.fs.length gX)/\w'.drew.cell? ⟨gf,k*3+1,none⟩=some (.int .i64 x.fr))/\w'.drew.cell? ⟨g,1,none⟩=some (.slice A3 nl.length c3):=⟨⟨q0,q2,q3,q4,q5⟩,q1⟩;refine aC (p:=31) (S0:=λW=>W.cell? ⟨g,0,none⟩=some (.slice (some ⟨gk,0,none⟩) l.length cap)/\W.cell? ⟨g,2,none⟩=some (.int .i64 au)/\W.cell? ⟨gk,i*3+1,none⟩=some (.int .i64 p.1.fr)/\W.cell? ⟨gk,i*3+2,none⟩=some (.slice (some ⟨gf,0,none⟩) p.1.fs.length gX)/\W.cell? ⟨gf,k*3+1,none⟩=some (.int .i64 x.fr)) (S1:=λW=>W.cell? ⟨g,1,none⟩=some (.slice A3 nl.length c3)) kQ ?_;refine' dw 0 rfl ak ?_;refine' dw 1 rfl ak ?_;refine' dw 2 rfl ak ?_;refine' dw 3 rfl ak ?_;try simp only[Act.put,aK]
  refine' jM (i:=4) (v:=_) rfl dQ kQ kQ kQ rfl kQ kQ (λ_ _ _ h=>h) ak (.inl ⟨by rfl,?hy4⟩) ?ahh
  case hy4=>(intro W hW;(try dsimp only at hW);go_simp<;>with_reducible rfl)
  refine' dw 5 rfl ak ?_;refine' dw 6 rfl ak ?_;refine' dw 7 rfl ak ?_;refine' dw 8 rfl ak ?_;refine' dw 9 rfl ak ?_;refine' dw 10 rfl ak ?_;refine' dw 11 rfl ak ?_;refine' dw 12 rfl ak ?_;refine' dw 13 rfl ak ?_;refine' dw 14 rfl ak ?_;refine' dw 15 rfl ak ?_;refine' dw 16 rfl ak ?_;refine' dw 17 rfl ak ?_;refine' dw 18 rfl ak ?_;refine' dw 19 rfl ak ?_;refine' dw 20 rfl ak ?_;refine' dw 21 rfl ak ?_;refine' dw 22 rfl ak ?_;refine' dw 23 rfl ak ?_;refine' dw 24 rfl ak ?_;refine' dw 25 rfl ak ?_;refine' dw 26 rfl ak ?_;refine' dw 27 rfl ak ?_;refine' dw 28 rfl ak ?_;refine' dw 29 rfl ak ?_;try simp only[Act.put,aK]
  refine Gs 30 rfl λK hK=>?_
  go_simp;have WT:=kc.o _ aX.o;refine hK.o _ _ ⟨⟨WT.1,WT.2.2.1,WT.2.2.2.1,WT.2.2.2.2.1,WT.2.2.2.2.2⟩,λ_=>WT.2.1⟩ ?_;refine Gs 31 rfl λK hK=>?_
  refine dj (by rfl) (.tmp 21) (.tmp 47) _ (by rfl) (m:=1) (news:=lsD p.1.fr x.fr au) Oc (by exact(ko.o _ aX.o).drew) (by rfl) (by rfl) (by exact(Src.lit (TK w' _ p.1.fr x.fr au)).drew) rfl oQ oQ (by simp;omega) ?_;intro v' w1 ax aw bu;obtain⟨B3,d3,rfl⟩:=ax.form;have mc:=iD aw;obtain⟨wb,t2⟩:=kn.o _ _ aX.o mc;refine hK.o _ _ ⟨wb.1,λ_=>wb.2⟩ ?_;have hD:=(kd.o _ aX.o).Z5 (nl':=nl++[⟨p.1.fr,x.fr,au⟩]) mc (by rw[zH,xD];exact ax);have Rg:=(kd.o _ aX.o).Ol (x:=.slice B3 (nl.length+1) d3) (aX.o.mono sv) mc;obtain⟨s0,s1,JM⟩:=GD.o _ _ _ hD Rg;replace JM:=Hd JM;clear aw mc ax bu hD Rg hK K WT;refine' dw 32 rfl wb ?_;refine' dw 33 rfl wb ?_;try simp only[Act.put,aK]
  refine Gs 34 rfl λK hK=>?_
  go_simp;refine hK.o _ _ ⟨?_,λh=>absurd (h.symm.trans (by kernel_rfl:_=true)) sJ⟩ ?_
  .obtain⟨⟨a0,a1,a2,a3,a4⟩,_⟩:=wb;refine⟨s0,?_,?_,s1,?_⟩
   .rw[World.cell?_setCell_other _ _ _ _ sJ];exact a1
   .rw[World.cell?_setCell_far _ _ _ _ (by show g≠gk;exact JL)];exact a2
   .rw[World.cell?_setCell_far _ _ _ _ (by show g≠gf;exact Q0)];exact a4
  refine Gd _ ?_;try simp only[Act.put,aK]
  clear hK K wb ak t2 q0 q1 q2 q3 q4 q5;generalize w1.setCell ⟨g,1,none⟩ (.slice B3 (nl.length+1) d3)=W3 at*;go_upto_region 5 with fail
  have bF:(W3.drew.cell? ⟨g,0,none⟩=some (.slice (some ⟨gk,0,none⟩) l.length cap))/\W3.drew.cell? ⟨gk,i*3+2,none⟩=some (.slice (some ⟨gf,0,none⟩) p.1.fs.length gX):=⟨s0,s1⟩;refine aC (p:=16) (S0:=λW=>W.cell? ⟨g,0,none⟩=some (.slice (some ⟨gk,0,none⟩) l.length cap)) (S1:=λW=>W.cell? ⟨gk,i*3+2,none⟩=some (.slice (some ⟨gf,0,none⟩) p.1.fs.length gX)) kQ ?_;refine' dw 0 rfl bF ?_;refine' dw 1 rfl bF ?_;refine' dw 2 rfl bF ?_;refine' dw 3 rfl bF ?_;refine' dw 4 rfl bF ?_;refine' dw 5 rfl bF ?_;refine' dw 6 rfl bF ?_;refine' dw 7 rfl bF ?_;refine' dw 8 rfl bF ?_;refine' dw 9 rfl bF ?_;refine' dw 10 rfl bF ?_;refine' dw 11 rfl bF ?_;try simp only[Act.put,aK]
  refine' jM (i:=12) (v:=_) rfl dQ kQ kQ kQ rfl kQ kQ (λ_ _ _ h=>h) bF (.inl ⟨by rfl,?aae⟩) ?abV
  case aae=>(intro W hW;(try dsimp only at hW);go_simp<;>with_reducible rfl)
  refine' dw 13 rfl bF ?_;refine' dw 14 rfl bF ?_;refine' dw 15 rfl bF ?_;try simp only[Act.put,aK]
  refine Gs 16 rfl λK hK=>?_
  go_simp;go_at_call 119;refine JM.o.mono ?_;rintro e w3 ⟨rfl,u0,u1,u2,f1,f2⟩;replace⟨f1,f2⟩:=H2 f1 f2;refine hK.o _ _ ⟨u0,λ_=>u1⟩ ?_;have Dq:w3.cell? ⟨g,0,none⟩=some (.slice (some ⟨gk,0,none⟩) l.length cap)/\w3.cell? ⟨gk,i*3+2,none⟩=some (.slice (some ⟨gf,0,none⟩) p.1.fs.length gX):=⟨u0,u1⟩;clear hK K bF JM s0 s1;refine' dw 17 rfl Dq ?_;refine' dw 18 rfl Dq ?_;try simp only[Act.put,aK]
  refine Gs 19 rfl λK hK=>?_
  go_simp;refine hK.o _ _ ⟨?_,λh=>absurd (h.symm.trans (by kernel_rfl:_=true)) sJ⟩ ?_
  .dsimp only;rw[World.cell?_setCell_far _ _ _ _ (by show gk≠g;exact λe=>JL e.symm)];exact u0
  refine Gd _ ?_;try simp only[Act.put,aK]
  clear hK K Dq u0 u1 u2;go_wp2;go_ret;exact dV.ey hch.o f1.o (uj.o _) ud.o f2.o
 .have hch:=wa oQ oQ cK;have oY:=λ(i2 k2:Int)(b:Bool)(hI:rX (l.map (·.1)) c i2 k2 b)=>hI.bad cK
  replace⟨hch,fM,oY,h0⟩:=H4 hch fM oY h0;clear h hm cK hc;go_enter func72,ntmps72;go_wp2_with (go_at_call 118;refine fM.o.mono ?_;rintro e w' ⟨i2,k2,b2,rfl,hI,az⟩;obtain rfl:=oY.o i2 k2 b2 hI;clear hI);go_ret;exact dV.du hch.o ((h0.o.trans (az.mono h0.o.size)).mono sv)
end di
theorem Ek {P ops o a w K Q E}(hg:o.guard=none)(d x dT sT)(hop:o.op=Op.call {callee:=Callee.builtin Builtin.copy,args:=#[d,x],argTypes:=#[dT,sT]})(v u)(hd:a.eval d=v)(hx:a.eval x=u){v' w'}(hr:(Builtin.copy_ #[dT,sT] o.type #[v,u]).run P w=.ok v' w')(hK:K (a.put o.dst v') w'):
  if Region.wanted o (yielded ops a.tmps)=true then Oper.wp P o a w K Q else E:=by
 have hw:Region.wanted o (yielded ops a.tmps)=true:=by simp[Region.wanted,hg]
 rw[if_pos hw];unfold Oper.wp;simp[execOp,hop,resolve,invoke,builtin,hd,hx,hr,Result.andThen];exact hK
theorem wP {P}(w){ops rest o a Q}(EI:o.guard=none)(d s t t')(ho:o.op=.call {callee:=.builtin .copy,args:=#[d,s],argTypes:=#[t,t']})(v u)(hd:a.eval d=v)(hs:a.eval s=u){v' w'}(hr:(Builtin.copy_ #[t,t'] o.type #[v,u]).run P w=.ok v' w')(h:wpList P ops Q rest (a.put o.dst v') w'):wpList P ops Q (o::rest) a w:=
 wpList_plain EI λ_ hK=>by
  unfold Oper.wp execOp;simp only[ho,resolve,invoke,builtin,Sem.run_bind,Sem.run_pure,Result.andThen_ok,List.map_toArray,List.map_cons,List.map_nil,hd,hs,hr];exact hK _ _ h
theorem ao.shape {w g t cs}(h:ao w g t cs):w.shape? g=some (t,cs.length):=by
 unfold ao at h;simp[World.shape?,h]
theorem ao.one {w n F}{cs:List Value}{ds:List D}(hd:ds.length=n)(hr:∀(k:Nat)(d:D),ds[k]? =some d->∃u,cs[k]? =some u/\Rd w F u d):∀u∈cs.take n,u.oneCell'=true:=by
 intro u hu;obtain⟨j,hj⟩:=zN hu;rw[zZ]at hj;split at hj
 .obtain⟨u',la,hx⟩:=hr j _ (zI oQ);rw[hj]at la;injection la with e;subst e
  exact hx.one
 .cases hj
theorem JO {cs vs A:List Value}{a n}(ha:a<=n)(hn:n+vs.length<=cs.length)(hA:A=(cs.take n).drop a):
  let c1:=cs.take (a+vs.length)++A++cs.drop (a+vs.length+A.length)
  (c1.take a++vs++c1.drop (a+vs.length)).take (n+vs.length)=cs.take a++vs++(cs.take n).drop a:=by
 intro c1;have XP:A.length=n-a:=by rw[hA];simp;omega
 have e1:(cs.take (a+vs.length)).length=a+vs.length:=by simp;omega
 have e2:c1.take a=cs.take a:=by
  show(cs.take (a+vs.length)++A++cs.drop (a+vs.length+A.length)).take a=_
  rw[zR,List.take_append_of_le_length oQ,List.take_take,Nat.min_eq_left oQ]
 have e3:c1.drop (a+vs.length)=A++cs.drop (a+vs.length+A.length):=by
  show(cs.take (a+vs.length)++A++cs.drop (a+vs.length+A.length)).drop (a+vs.length)=_
  rw[zR];have:=List.drop_left (l₁:=cs.take (a+vs.length)) (l₂:=A++cs.drop (a+vs.length+A.length));rw[e1]at this;exact this
 rw[e2,e3,<-hA];have e4:(cs.take a++vs++A).length=n+vs.length:=by simp;omega
 rw[<-zR (cs.take a++vs),<-e4,List.take_left]
def Ib (w:World)(B g n k:Nat)(F:Nat->Prop)(ds vd:List D)(e:Ending)(w':World):Prop:=
 ∃v',e=.returned v'/\OL w' B F 117 3 v' (n+1) (ds.take (k*3)++vd++ds.drop (k*3))/\w.grownBy w' (some g)/\(v'.ownBlock=some g\/v'.ownBlock=some w.heap.size)
namespace di
open cH
theorem GF (B g cap n k vb F ds x w)(h:OL w B F 117 3 (.slice (some ⟨g,0,none⟩) n cap) n ds)(hk:k<=n)(hroom:n+1<=cap)(hn:n<=1048576)(PK:vb≠g)(hv:ao w vb 117 (jA x)):
  Cl 120 #[.slice (some ⟨g,0,none⟩) n cap,.int .i64 (k:Int),.slice (some ⟨vb,0,none⟩) 1 1] w (Ib w B g n k F ds (dt x)):=by
 have hlt:=h.lt g rfl;have hdl:=h.len;by_cases qy:k=n
 .subst qy;have e1:ds.take (k*3)++dt x++ds.drop (k*3)=ds++dt x:=by rw[xH oQ,List.drop_of_length_le oQ,zT]
  have ik:Src w (some ⟨vb,0,none⟩) (dt x) (λb=>F b/\some b≠(Value.slice (some ⟨g,0,none⟩) k cap).ownBlock):=λ_=>⟨vb,0,rfl,λj d hd=>by
   obtain⟨u,hu,hr⟩:=(gY w (λb=>F b/\some b≠(Value.slice (some ⟨g,0,none⟩) k cap).ownBlock) x).get hd;exact⟨u,by rw[Nat.zero_add,hv.cell];exact hu,hr⟩⟩
  have sB:=Hd h;replace⟨ik,e1⟩:=H2 ik e1;have hB:=hlt.1;have cD:=hlt.2;clear h hv hlt;go_enter func120,ntmps120;go_wp2_with (at_builtin;refine ez rfl (.tmp 23) (.tmp 24) _ rfl (m:=1) (news:=dt x) gZ sB.o rfl rfl ik.o rfl oQ oQ oQ ?_;intro v' w1 ax aw bu);go_ret;exact⟨_,rfl,by rw[e1.o];exact ax,aw,bu⟩
 .obtain⟨cs,hB,hb,Ct,hm,hlen,hd,hr⟩:=h.vM;obtain⟨A,hA⟩:=aB ((cs.take (n*3)).drop (k*3))
  have XP:A.length=(n-k)*3:=by rw[hA];simp;omega
  have xu:∀u∈A,u.oneCell'=true:=λu hu=>ao.one hd hr u (by rw[hA]at hu;exact List.mem_of_mem_drop hu)
  have TQ:∀u∈jA x,u.oneCell'=true:=by intro u hu;simp[jA]at hu;rcases hu with rfl |rfl |rfl<;>rfl
  have ch:=ao.setCells A (k*3+3) w.drew cs hb (by rw[XP,hlen];omega);obtain⟨W1,a9⟩:=aB (w.drew.setCells g (k*3+3) A)
  rw[<-a9]at ch;obtain⟨ch,aw⟩:=ch;have qK:(cs.take (k*3+3)++A++cs.drop (k*3+3+A.length)).length=cs.length:=by simp;omega
  have df:=ao.setCells (jA x) (k*3) W1 _ ch (by rw[qK,hlen];show k*3+3<=_;omega);have UM:ao W1 vb 117 (jA x):=(show ao w.drew _ _ _ from hv).grown aw (by simpa using PK);have Om:∀lb cb,(callFunc 148 #[.slice (some ⟨vb,0,none⟩) 1 1,.slice (some ⟨g,k*3+3,none⟩) lb cb]).run prog w=.ok (.value (.bool false)) w:=λlb cb=>by
   rw[run_callFunc_extern func148 kQ kQ kQ (e:=Extern.SlicesOverlaps.overlaps #[113,113] #[4]) kQ,
    Lib.run_overlaps_apart w 113 4 117 gZ.sl 3 (λW=>by obtain⟨i,z,hi,_,hs,_⟩:=gZ.info;simp[sizeOf,typeInfo,hi,hs]) ⟨vb,0,none⟩ ⟨g,k*3+3,none⟩ 1 1 lb cb PK _ _ _ _ hv.shape hb.shape oQ (hv.frozen _) (hv.frozen _)]
   rfl
  have WU:∀ty dc sc,(Builtin.copy_ #[113,113] ty #[.slice (some ⟨g,k*3+3,none⟩) (n-k) dc,.slice (some ⟨g,k*3,none⟩) (n+1-k) sc]).run prog w.drew=.ok (goInt ((n-k:Nat):Int)) W1:=λty dc sc=>by
   rw[a9];refine run_copy_row ty gZ w.drew g (k*3+3) (n-k) dc ⟨g,k*3,none⟩ (n+1-k) sc (n-k) A ?_ XP ?_ ?_ ?_ xu
   .show n-k=min (n+1-k) (n-k);omega
   .intro j v hj;rw[jT];show w.cell? _=_
    rw[hb.cell];rw[hA,xT,zZ]at hj;split at hj
    .exact hj
    .cases hj
   .intro j hj;show(w.cell? _).isSome=true;rw[hb.cell];simp;omega
   .intro j hj;exact hb.frozen _
  have WV:∀ty dc,(Builtin.copy_ #[113,113] ty #[.slice (some ⟨g,k*3,none⟩) (n+1-k) dc,.slice (some ⟨vb,0,none⟩) 1 1]).run prog W1=.ok (goInt 1) (W1.setCells g (k*3) (jA x)):=λty dc=>by
   refine run_copy_row ty gZ W1 g (k*3) (n+1-k) dc ⟨vb,0,none⟩ 1 1 1 (jA x) ?_ rfl ?_ ?_ ?_ TQ
   .show 1=min 1 (n+1-k);omega
   .intro j v hj;rw[jT,UM.cell,Nat.zero_add];exact hj
   .intro j hj;rw[ch.cell];have:j<3:=hj;simp;omega
   .intro j hj;exact ch.frozen _
  have mc:w.grownBy (W1.setCells g (k*3) (jA x)) (some g):=by
   have mS:w.grownBy W1 (some g):=iD aw;have h2:=df.2;exact⟨h2.os.trans mS.os,h2.tape.trans mS.tape,h2.output.trans mS.output,zU mS.size h2.size,λj hj hne=>(h2.block j (zF hj mS.size) hne).trans (mS.block j hj hne)⟩
  have ae:Ib w B g n k F ds (dt x) (.returned (.slice (some ⟨g,0,none⟩) (n+1) cap)) (W1.setCells g (k*3) (jA x)):=by
   refine⟨_,rfl,h.WJ mc hk hroom hb df.1 ?_ rfl rfl (λj d hd=>(gY w _ x).get hd) ?_,mc,.inl rfl⟩
   .have:(jA x).length=3:=rfl;simp[this];omega
   .have:=JO (cs:=cs) (vs:=jA x) (A:=A) (a:=k*3) (n:=n*3) oQ (by show n*3+3<=_;omega) hA;rw[show(n+1)*3=n*3+3 by omega];exact this
  have hwk:IntKind.i64.wrap ((k:Int)+1)=(k:Int)+1:=by rw[xI];omega
  have Da:((k:Int)+1).toNat=k+1:=oQ;have z1:¬(k:Int)=(n:Int):=oQ;have z2:((k:Int)==(n:Int))=false:=by simp;omega
  have z3:=aH k;have z4:(k:Int)<=(n:Int):=oQ;have z5:(k:Int)+1<=(n:Int)+1:=oQ;have z6:(0:Int)<=(k:Int)+1:=oQ;have z7:¬cap=k:=oQ;have z8:¬cap=k+1:=oQ;have z9:(n:Int)+1<=(cap:Int):=oQ;have JB:¬(n:Int)+1>(cap:Int):=oQ;have HN:(k:Int)<=(n:Int)+1:=oQ;have Gh:(0:Int)<=(n:Int)+1:=oQ;have Gi:n+1- (k+1)=n-k:=oQ;have Gj:(k+1)*3=k*3+3:=oQ;replace⟨Om,WU,WV,ae,hlen⟩:=H5 Om WU WV ae hlen;clear h hr hb ch df aw mc hv UM a9 xu TQ hA XP qK hdl hlt hd;go_enter func120,ntmps120;go_upto_region 15 with(simp only[Om.o])
  go_region_law ((refine Ek (by rfl) (.tmp 73) (.tmp 76) 113 113 (by rfl) _ _ (by simp[Act.eval,Act.put]) (by simp[Act.eval,Act.put]) (WU.o _ (cap- (k+1)) (cap-k)) ?_))
  all_goals
   go_wp2_with (simp only[WV.o]);go_ret;exact ae.o
end di
