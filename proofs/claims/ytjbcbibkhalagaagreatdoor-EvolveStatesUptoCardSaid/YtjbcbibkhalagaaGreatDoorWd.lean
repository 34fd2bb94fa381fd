/- What each kind of change does to the design. -/
import Derived.Test.YtjbcbibkhalagaaGreatDoorWa
import Derived.Laws.EntriesVeiled
import Derived.Shelf.Abstract
namespace Go.Proofs.YtjbcbibkhalagaaGreatDoor
set_option maxRecDepth 100000
set_option maxHeartbeats 16000000
open Proofs.Tryz Go.RowKit Go.Deep
set_option linter.unusedVariables false
set_option linter.unusedSimpArgs false
theorem JQ {α β:Type}{f:α->List β}{m}(hf:∀x,(f x).length=m):∀(l:List α)(i:Nat),(l.flatMap f).take (i*m)=(l.take i).flatMap f:=by
 intro l;induction l with
 |nil=>intro i;simp
 |cons a l ih=>
  intro i;cases i with
  |zero=>simp
  |succ i=>
   have e1:(i+1)*m=m+i*m:=by rw[Nat.succ_mul];omega
   rw[List.take_succ_cons,zK,zK,<-ih i,e1,List.take_append,hf a,xH (by rw[hf a];omega),show m+i*m-m=i*m by omega]
theorem JR {α β:Type}{f:α->List β}{m}(hf:∀x,(f x).length=m):∀(l:List α)(i:Nat),(l.flatMap f).drop (i*m)=(l.drop i).flatMap f:=by
 intro l;induction l with
 |nil=>intro i;simp
 |cons a l ih=>
  intro i;cases i with
  |zero=>simp
  |succ i=>
   have e1:(i+1)*m=m+i*m:=by rw[Nat.succ_mul];omega
   rw[List.drop_succ_cons,zK,<-ih i,e1,List.drop_append,hf a,List.drop_of_length_le (by rw[hf a];omega),List.nil_append,show m+i*m-m=i*m by omega]
theorem Sj {l k n x}(hx:l[k]? =some x):((l.eraseIdx k).flatMap dt).take (n*3)++dt x++((l.eraseIdx k).flatMap dt).drop (n*3)=(yu l k n).flatMap dt:=by
 rw[JQ (m:=3) (λ_=>rfl),JR (m:=3) (λ_=>rfl),yu,hx];simp
theorem WW {l k n}(hk:k<l.length):(yu l k n).length=l.length:=by
 obtain⟨x,hx⟩:=av hk;rw[yu,hx];simp[List.length_eraseIdx_of_lt hk];omega
theorem aaf {l}{c:Cg}{k N:Nat}(h:c.kd=7)(hf:iB l c.at_=some k)(hN:c.n=N)(hl:N<l.length):jx l c=some (yu l k N):=by
 unfold jx;rw[if_neg oQ,hf];show(if _ then _ else if _ then _ else if _ then _ else _)=_
 rw[if_neg oQ,if_neg oQ,if_pos oQ,show c.n.toNat=N by omega]
theorem Sk {l}{c:Cg}{k}(h:c.kd=7)(hf:iB l c.at_=some k)(hN:¬(0<=c.n/\c.n<l.length)):jx l c=none:=by
 unfold jx;rw[if_neg oQ,hf];show(if _ then _ else if _ then _ else if _ then _ else _)=_
 rw[if_neg oQ,if_neg oQ,if_neg hN]
namespace di
open cH
theorem GG {w B g nl vk vl au l}(h:DX w B g vk vl au nl l)(hm:nO (l.map (·.1)))(c)(hc:c.kd=7)(A d):
  Cl 74 #[.pointer (some ⟨g,0,none⟩),.agg #[.int .i64 c.kd,.string c.ty,.string c.at_,.string c.nm,.slice A c.ats.length d,.int .i64 c.n]] w (dV (l.map (·.1)) c B g nl w):=by
 have h0:Bw w (w.alloc (.cells ⟨je c A d⟩ 73)):=bA;have iz:ao (w.alloc (.cells ⟨je c A d⟩ 73)) w.heap.size 73 (je c A d):=ao.new _ _ _;have fM:=WO (h.stay h0) hm c A d;have hg:=h.bx.lt;have sv:B<=w.heap.size:=zU h.gB (Nat.le_of_lt hg);by_cases cK:Gx (l.map (·.1)) c
 .obtain⟨i,p,k,x,ht,hp,fR,hf,hx⟩:=cK.pair;have fe:=zA hp;have BG:i<l.length:=(zC.1 hp).1;have JI:k<p.1.fs.length:=(zC.1 hx).1;have yB:p.1.fs.length<=8:=hm.fl p.1 (xJ fe);have g0:=aH i;have g1:=aV i l.length;have g2:=aH k;have g3:(k:Int)<p.1.fs.length:=oQ;have hwk:IntKind.i64.wrap ((k:Int)+1)=(k:Int)+1:=by rw[xI];omega
  have Pb:IntKind.i64.wrap ((p.1.fs.length:Int) -1)=(p.1.fs.length:Int) -1:=by rw[xI];omega
  obtain⟨gk,cap,rfl,h1,h2,_⟩:=h.at_ hp;obtain⟨gf,gX,hv,h3,h4,h5,h6⟩:=(h.fr p fe).row oQ;have oY:=λ(i2 k2:Int)(b:Bool)(hI:rX (l.map (·.1)) c i2 k2 b)=>hI.good ht fR hf
  have kc:∀W,Bw w W->W.cell? ⟨g,0,none⟩=some (.slice (some ⟨gk,0,none⟩) l.length cap)/\W.cell? ⟨gk,i*3+2,none⟩=some (.slice (some ⟨gf,0,none⟩) p.1.fs.length gX)/\
    W.cell? ⟨gf,k*3,none⟩=some (.string x.nm)/\W.cell? ⟨gf,k*3+1,none⟩=some (.int .i64 x.fr)/\W.cell? ⟨gf,k*3+2,none⟩=some (.int .i64 x.fl):=λW hW=>by
   obtain⟨a1,_,_,a2,_⟩:=(h.stay hW).at' hp;rw[hv]at a2;obtain⟨u0,b0,r0⟩:=h6 (k*3+0) _ (po (f:=dt) (m:=3) (λ_=>rfl) hx rfl);obtain⟨u1,b1,r1⟩:=h6 (k*3+1) _ (po (f:=dt) (m:=3) (λ_=>rfl) hx rfl);obtain⟨u2,b2,r2⟩:=h6 (k*3+2) _ (po (f:=dt) (m:=3) (λ_=>rfl) hx rfl);rw[r0.bH]at b0;rw[r1.bH]at b1;rw[r2.bH]at b2;exact⟨a1,a2,(hW.cell (p:=⟨gf,k*3,none⟩) h4).trans b0,(hW.cell (p:=⟨gf,k*3+1,none⟩) h4).trans b1,(hW.cell (p:=⟨gf,k*3+2,none⟩) h4).trans b2⟩
  by_cases hN:0<=c.n/\c.n<p.1.fs.length
  .obtain⟨N,hNn⟩:∃N:Nat,c.n=N:=⟨c.n.toNat,oQ⟩
   have hNl:N<p.1.fs.length:=oQ;have hch:=H' oQ oQ ht fR (aaf hc hf hNn hNl);have n0:decide ((N:Int)<0)=false:=zV oQ;have n0':¬(N:Int)<0:=oQ;have n1:decide ((N:Int)>(p.1.fs.length:Int) -1)=false:=zV oQ;have n1':¬(p.1.fs.length:Int) -1<(N:Int):=oQ;have uj:∀v:Value,(l.set i ({p.1 with fs:=yu p.1.fs k N},v)).map (·.1)=(l.map (·.1)).set i {p.1 with fs:=yu p.1.fs k N}:=λv=>jc
   have JL:gk≠g:=λe=>h.kr.aU h.bx dQ (by rw[<-e];rfl)
   have GD:∀W,Bw w W->w.heap.size<W.heap.size->W.cell? ⟨w.heap.size,5,none⟩=some (.int .i64 (N:Int))->
     Cl 119 #[.slice (some ⟨gf,0,none⟩) p.1.fs.length gX,.int .i64 (k:Int),.int .i64 ((k:Int)+1)] (W.alloc (.cells ⟨jA x⟩ 117)) λe w2=>e=.returned (.slice (some ⟨gf,0,none⟩) (p.1.fs.length-1) gX)/\
      (w2.cell? ⟨g,0,none⟩=some (.slice (some ⟨gk,0,none⟩) l.length cap)/\w2.cell? ⟨w.heap.size,5,none⟩=some (.int .i64 (N:Int))/\w2.cell? ⟨W.heap.size,0,none⟩=some (.string x.nm)/\w2.cell? ⟨W.heap.size,1,none⟩=some (.int .i64 x.fr)/\w2.cell? ⟨W.heap.size,2,none⟩=some (.int .i64 x.fl))/\w.heap.size<w2.heap.size/\
      Cl 120 #[.slice (some ⟨gf,0,none⟩) (p.1.fs.length-1) gX,.int .i64 (N:Int),.slice (some ⟨w2.heap.size,0,none⟩) 1 1] (w2.drew.alloc (.cells ⟨jA x⟩ 117)) λe w4=>∃A4 n4 c4,e=.returned (.slice A4 n4 c4)/\
       (w4.cell? ⟨g,0,none⟩=some (.slice (some ⟨gk,0,none⟩) l.length cap)/\w4.cell? ⟨w.heap.size,5,none⟩=some (.int .i64 (N:Int))/\w4.cell? ⟨W.heap.size,0,none⟩=some (.string x.nm)/\w4.cell? ⟨W.heap.size,1,none⟩=some (.int .i64 x.fr)/\w4.cell? ⟨W.heap.size,2,none⟩=some (.int .i64 x.fl))/\w4.cell? ⟨gk,i*3+2,none⟩=some (.slice (some ⟨gf,0,none⟩) p.1.fs.length gX)/\w4.frozen? ⟨gk,i*3+2,none⟩=false/\
       DX (w4.setCell ⟨gk,i*3+2,none⟩ (.slice A4 n4 c4)) B g (.slice (some ⟨gk,0,none⟩) l.length cap) vl au nl (l.set i ({p.1 with fs:=yu p.1.fs k N},.slice A4 n4 c4))/\Below B w (w4.setCell ⟨gk,i*3+2,none⟩ (.slice A4 n4 c4)):=λW hW Uo J2=>by
    have hWa:Bw w (W.alloc (.cells ⟨jA x⟩ 117)):=hW.alloc hW.size _;have hD1:=h.stay hWa;have ho:=hD1.fr p fe;rw[hv]at ho;have ahj:p.1.fs.length<=gX:=by obtain⟨cs,_,_,a,_⟩:=ho.vM;exact a
    have key:∀w2,(W.alloc (.cells ⟨jA x⟩ 117)).grownBy w2 (some gf)->(w2.cell? ⟨g,0,none⟩=some (.slice (some ⟨gk,0,none⟩) l.length cap)/\w2.cell? ⟨w.heap.size,5,none⟩=some (.int .i64 (N:Int))/\w2.cell? ⟨W.heap.size,0,none⟩=some (.string x.nm)/\w2.cell? ⟨W.heap.size,1,none⟩=some (.int .i64 x.fr)/\w2.cell? ⟨W.heap.size,2,none⟩=some (.int .i64 x.fl)):=λw2 Fy=>by
     have xd:=(ao.new W 117 (jA x)).grown Fy (by simp;omega);have Oq:(W.alloc (.cells ⟨jA x⟩ 117)).grownBy w2 p.2.ownBlock:=by rw[hv];exact Fy
     refine⟨(hD1.On hp Oq).1,?_,xd.cell 0,xd.cell 1,xd.cell 2⟩;exact Fy.cell (World.cell?_alloc_lt _ _ _ Uo |>.trans J2) (by simp;omega)
    refine(vY B gf gX p.1.fs.length k bE _ _ ho JI).mono ?_;rintro e w2 ⟨rfl,hO,Fy⟩;rw[qJ (f:=dt) (m:=3) (λ_=>rfl)]at hO;have ia:W.heap.size<w2.heap.size:=by have:=Fy.size;simp at this;omega
    refine⟨rfl,key w2 Fy,oQ,?_⟩;have iK:=(hO.drew).alloc (.cells ⟨jA x⟩ 117);refine(GF B gf gX (p.1.fs.length-1) N w2.heap.size bE _ x _ iK oQ oQ oQ oQ (ao.new w2.drew _ _)).mono ?_;rintro e w4 ⟨v',rfl,lR,hg4,hv4⟩;obtain⟨A4,c4,rfl⟩:=lR.form;have aah:(W.alloc (.cells ⟨jA x⟩ 117)).grownBy w4 (some gf):=tR Fy (iD (tR (World.grownBy_alloc w2.drew _ _) hg4));have Ot:(W.alloc (.cells ⟨jA x⟩ 117)).grownBy w4 p.2.ownBlock:=by rw[hv];exact aah
    rw[Sj hx]at lR;have O2:p.1.fs.length-1+1=(yu p.1.fs k N).length:=by rw[WW JI];omega
    obtain⟨_,b2,b3⟩:=hD1.On hp Ot;rw[hv]at b2;refine⟨_,_,_,rfl,key w4 aah,b2,b3,hD1.WN hp Ot (.inr rfl) (by rw[<-O2];exact lR) ?_,hD1.Oo hp (hWa.mono sv) Ot⟩;rcases hv4 with e |e
    .rw[hv];exact .inl e
    .refine .inr λq hq=>?_
     rw[e]at hq;injection hq with hq
     simp at hq |-;omega
   have kX:∀w',Below (w.alloc (.cells ⟨je c A d⟩ 73)).heap.size (w.alloc (.cells ⟨je c A d⟩ 73)) w'->w.heap.size<w'.heap.size/\w'.cell? ⟨w.heap.size,5,none⟩=some (.int .i64 (N:Int)):=λw' hB=>by
    refine⟨(iz.stay hB).lt,?_⟩;rw[<-hNn];exact(iz.stay hB).cell 5
   replace⟨GD,hch,fM,oY,h0,kc,kX,uj⟩:=H8 GD hch fM oY h0 kc kX uj;clear h hm cK hp fR fe hx hf ht hc h6 hv h5 h3 hN iz hNn;go_enter func74,ntmps74;go_upto_region 2 with(go_at_call 118;refine fM.o.mono ?_;rintro e w' ⟨i2,k2,b2,rfl,hI,az⟩;obtain⟨rfl,rfl,rfl⟩:=oY.o i2 k2 b2 hI;clear hI)
   have a9:=Hd (h0.o.trans (az.mono h0.o.size));obtain⟨q0,q1,_,_,_⟩:=kc.o w' a9.o;obtain⟨hsz,q5⟩:=kX.o w' az;clear az;go_quiet (fail);have hWq:=Hd (below_drewN a9.o nq);have q5':(w'.drewN nq).cell? ⟨w.heap.size,5,none⟩=some (.int .i64 (N:Int)):=by simpa using q5
   have afl:w.heap.size<(w'.drewN nq).heap.size:=by simpa using hsz
   clear q0 q1 q5 hsz a9;generalize w'.drewN nq=wq at*;obtain⟨q0,q1,q2,q3,q4⟩:=kc.o wq hWq.o;have hs:=Hd (GD.o wq hWq.o afl q5');have Io:gk<wq.heap.size:=oQ;have wH:g<wq.heap.size:=oQ;have afj:gf<wq.heap.size:=oQ;go_wp2_with (go_at_call 119;refine hs.o.mono ?_;rintro e w2 ⟨rfl,Cn,ia,Sl⟩;replace Sl:=Hd Sl;clear q0 q1 q2 q3 q4 q5');have ak:(w2.drew.cell? ⟨g,0,none⟩=some (.slice (some ⟨gk,0,none⟩) l.length cap)/\w2.drew.cell? ⟨w.heap.size,5,none⟩=some (.int .i64 (N:Int))/\w2.drew.cell? ⟨wq.heap.size,0,none⟩=some (.string x.nm)/\w2.drew.cell? ⟨wq.heap.size,1,none⟩=some (.int .i64 x.fr)/\w2.drew.cell? ⟨wq.heap.size,2,none⟩=some (.int .i64 x.fl))/\True:=⟨Cn,trivial⟩;refine aC (p:=10) (S0:=λW=>W.cell? ⟨g,0,none⟩=some (.slice (some ⟨gk,0,none⟩) l.length cap)/\W.cell? ⟨w.heap.size,5,none⟩=some (.int .i64 (N:Int))/\W.cell? ⟨wq.heap.size,0,none⟩=some (.string x.nm)/\W.cell? ⟨wq.heap.size,1,none⟩=some (.int .i64 x.fr)/\W.cell? ⟨wq.heap.size,2,none⟩=some (.int .i64 x.fl)) (S1:=λ_=>True) kQ ?_;refine' dw 0 rfl ak ?_;refine' dw 1 rfl ak ?_;refine' dw 2 rfl ak ?_;refine' dw 3 rfl ak ?_;refine' dw 4 rfl ak ?_;refine' dw 5 rfl ak ?_;refine' dw 6 rfl ak ?_;refine' dw 7 rfl ak ?_;refine' dw 8 rfl ak ?_;try simp only[Act.put,aK]
   refine Gs 9 rfl λK hK=>?_
   go_simp;refine hK.o _ _ ⟨?_,λ_=>trivial⟩ ?_
   .obtain⟨a0,a1,a2,a3,a4⟩:=Cn;exact⟨(World.cell?_alloc_some w2.drew ⟨g,0,none⟩ _ (by show(w2.cell? _).isSome=true;rw[a0];rfl)).trans a0,(World.cell?_alloc_some w2.drew ⟨w.heap.size,5,none⟩ _ (by show(w2.cell? _).isSome=true;rw[a1];rfl)).trans a1,
     (World.cell?_alloc_some w2.drew ⟨wq.heap.size,0,none⟩ _ (by show(w2.cell? _).isSome=true;rw[a2];rfl)).trans a2,(World.cell?_alloc_some w2.drew ⟨wq.heap.size,1,none⟩ _ (by show(w2.cell? _).isSome=true;rw[a3];rfl)).trans a3,
     (World.cell?_alloc_some w2.drew ⟨wq.heap.size,2,none⟩ _ (by show(w2.cell? _).isSome=true;rw[a4];rfl)).trans a4⟩
   refine Gs 10 rfl λK hK=>?_
   go_simp;go_at_call 120;refine Sl.o.mono ?_;rintro e w4 ⟨A4,n4,c4,rfl,hS4,u1,u2,f1,f2⟩;replace⟨f1,f2⟩:=H2 f1 f2;refine hK.o _ _ ⟨hS4,λ_=>trivial⟩ ?_;have bF:(w4.cell? ⟨g,0,none⟩=some (.slice (some ⟨gk,0,none⟩) l.length cap)/\w4.cell? ⟨w.heap.size,5,none⟩=some (.int .i64 (N:Int))/\w4.cell? ⟨wq.heap.size,0,none⟩=some (.string x.nm)/\w4.cell? ⟨wq.heap.size,1,none⟩=some (.int .i64 x.fr)/\w4.cell? ⟨wq.heap.size,2,none⟩=some (.int .i64 x.fl))/\True:=⟨hS4,trivial⟩;clear hK K ak Cn Sl;refine' dw 11 rfl bF ?_;refine' dw 12 rfl bF ?_;try simp only[Act.put,aK]
   refine Gs 13 rfl λK hK=>?_
   go_simp;refine hK.o _ _ ⟨?_,λ_=>trivial⟩ ?_
   .obtain⟨a0,a1,a2,a3,a4⟩:=hS4;refine⟨?_,?_,?_,?_,?_⟩
    .rw[World.cell?_setCell_far _ _ _ _ (by show gk≠g;exact JL)];exact a0
    .rw[World.cell?_setCell_far _ _ _ _ (by show gk≠w.heap.size;omega)];exact a1
    .rw[World.cell?_setCell_far _ _ _ _ (by show gk≠wq.heap.size;omega)];exact a2
    .rw[World.cell?_setCell_far _ _ _ _ (by show gk≠wq.heap.size;omega)];exact a3
    .rw[World.cell?_setCell_far _ _ _ _ (by show gk≠wq.heap.size;omega)];exact a4
   refine Gd _ ?_;try simp only[Act.put,aK]
   clear hK K bF hS4 u1 u2;go_wp2;go_ret;exact dV.ey hch.o f1.o (uj.o _) rfl f2.o
  .have hch:=vV oQ ht fR (Sk hc hf hN);have kX:∀w',Below (w.alloc (.cells ⟨je c A d⟩ 73)).heap.size (w.alloc (.cells ⟨je c A d⟩ 73)) w'->w'.cell? ⟨w.heap.size,5,none⟩=some (.int .i64 c.n):=λw' hB=>(iz.stay hB).cell 5
   replace⟨hch,fM,oY,h0,kc,kX⟩:=H6 hch fM oY h0 kc kX;clear h hm cK hp fR fe hx hf ht hc h6 hv h5 h3 iz;have hNN:c.n<0\/(0<=c.n/\(p.1.fs.length:Int)<=c.n):=oQ;clear hN;rcases hNN with zf |⟨akf,akg⟩
   .have n0:decide (c.n<0)=true:=zW zf;go_enter func74,ntmps74;go_upto_region 2 with(go_at_call 118;refine fM.o.mono ?_;rintro e w' ⟨i2,k2,b2,rfl,hI,az⟩;obtain⟨rfl,rfl,rfl⟩:=oY.o i2 k2 b2 hI;clear hI)
    have a9:=Hd (h0.o.trans (az.mono h0.o.size));have q5:=kX.o w' az;clear az;go_quiet (fail);go_wp2;go_ret;exact dV.du hch.o ((below_drewN a9.o _).mono sv)
   .have n0:decide (c.n<0)=false:=zV oQ;have n0':¬c.n<0:=oQ;have n1:decide (c.n>(p.1.fs.length:Int) -1)=true:=zW oQ;have n1':(p.1.fs.length:Int) -1<c.n:=oQ;go_enter func74,ntmps74;go_upto_region 2 with(go_at_call 118;refine fM.o.mono ?_;rintro e w' ⟨i2,k2,b2,rfl,hI,az⟩;obtain⟨rfl,rfl,rfl⟩:=oY.o i2 k2 b2 hI;clear hI)
    have a9:=Hd (h0.o.trans (az.mono h0.o.size));have q5:=kX.o w' az;obtain⟨q0,q1,_,_,_⟩:=kc.o w' a9.o;clear az;go_quiet (fail);go_wp2;go_ret;exact dV.du hch.o ((below_drewN a9.o _).mono sv)
 .have hch:=wa oQ oQ cK;have oY:=λ(i2 k2:Int)(b:Bool)(hI:rX (l.map (·.1)) c i2 k2 b)=>hI.bad cK
  replace⟨hch,fM,oY,h0⟩:=H4 hch fM oY h0;clear h hm cK hc iz;go_enter func74,ntmps74;go_upto_region 2 with(go_at_call 118;refine fM.o.mono ?_;rintro e w' ⟨i2,k2,b2,rfl,hI,az⟩;obtain rfl:=oY.o i2 k2 b2 hI;clear hI)
  go_quiet (fail);go_wp2;go_ret;exact dV.du hch.o ((below_drewN (h0.o.trans (az.mono h0.o.size)) _).mono sv)
end di
def TR (p:Td×Value):List D:=[.v (.string p.1.name),.v p.2]
structure sn (w:World)(B:Nat)(v:Value)(l:List (Td×Value)):Prop where
 kr:OL w B bE 95 2 v l.length (l.flatMap TR)
 fr:∀p∈l,OL w B bE 9 1 p.2 p.1.attrs.length (p.1.attrs.flatMap aG)
 ne:∀(i j:Nat)(p q:Td×Value),l[i]? =some p->l[j]? =some q->i≠j->p.2.ownBlock=none\/p.2.ownBlock≠q.2.ownBlock
section
variable {w:World}{B:Nat}{v:Value}{l:List (Td×Value)}
theorem sn.nil (w B):sn w B (.slice none 0 0) []:=⟨.nil _ _ _ _ _,λp hp=>by simp at hp,λi j p q hp=>by simp at hp⟩
theorem sn.stay {w2}(h:sn w B v l)(hb:Bw w w2):sn w2 B v l:=⟨h.kr.stay hb,λp hp=>(h.fr p hp).stay hb,h.ne⟩
theorem sn.far {p x}(h:sn w B v l)(hp:p.block<B):sn (w.setCell p x) B v l:=
 ⟨h.kr.setCell (λe=>by have:=(h.kr.lt _ e).1;omega) (λh=>h) _,λq hq=>(h.fr q hq).setCell (λe=>by have:=((h.fr q hq).lt _ e).1;omega) (λh=>h) _,h.ne⟩
theorem sn.base {B'}(h:sn w B v l)(hB:B'<=B):sn w B' v l:=⟨h.kr.base hB,λp hp=>(h.fr p hp).base hB,h.ne⟩
theorem sn.snoc {w1 v' u t}(h:sn w B v l)(hg:w.grownBy w1 v.ownBlock)(hv:OL w1 B bE 95 2 v' (l.length+1) (l.flatMap TR++TR (t,u)))(hu:OL w B bE 9 1 u t.attrs.length (t.attrs.flatMap aG))(hne:∀p∈l,u.ownBlock=none\/u.ownBlock≠p.2.ownBlock):sn w1 B v' (l++[(t,u)]):=by
 refine⟨by simpa using hv,λp hp=>?_,?_⟩
 .rcases zM.1 hp with hp |hp
  .exact(h.fr p hp).kept hg ((h.fr p hp).ne h.kr dQ) (λ_ hb=>hb.elim)
  .simp at hp;subst hp;exact hu.kept hg (hu.ne h.kr dQ) (λ_ hb=>hb.elim)
 .intro a b x y hx hy jX;have get:∀{a:Nat} {x},(l++[(t,u)])[a]? =some x->(a<l.length/\l[a]? =some x)\/(a=l.length/\x=(t,u)):=λ {a x} hx=>by
   by_cases ha:a<l.length
   .rw[zS ha]at hx;exact .inl ⟨ha,hx⟩
   .rw[zP oQ]at hx;have:=(zC.1 hx).1;simp at this;have e:a-l.length=0:=oQ;rw[e]at hx;exact .inr ⟨oQ,by simpa using hx.symm⟩
  rcases get hx with⟨h1,h2⟩|⟨h1,rfl⟩
  .rcases get hy with⟨h3,h4⟩|⟨h3,rfl⟩
   .exact h.ne a b x y h2 h4 jX
   .exact kF (hne x (zA h2))
  .rcases get hy with⟨h3,h4⟩|⟨h3,rfl⟩
   .exact hne y (zA h4)
   .omega
theorem WX {l:List (Td×Value)}{k:Nat}{d}(h:((l.map (·.1)).flatMap fj)[k]? =some d):∃d',(l.flatMap TR)[k]? =some d'/\(d'=d\/∃p∈l,d'=.v p.2/\d=.sl p.1.attrs.length (p.1.attrs.flatMap aG)):=by
 induction l generalizing k with
 |nil=>simp at h
 |cons a l ih=>
  rw[List.map_cons,zK]at h;rw[zK];by_cases hk:k<2
  .rw[zS (by show k<2;omega)]at h;rw[zS (by show k<2;omega)];match k,hk with
   |0,_=>exact⟨_,rfl,.inl (eO h)⟩
   |1,_=>exact⟨_,rfl,.inr ⟨a,xS,rfl,(eO h).symm⟩⟩
  .rw[zP (by show 2<=k;omega)]at h;rw[zP (by show 2<=k;omega)];obtain⟨d',h1,h2⟩:=ih h;refine⟨d',h1,?_⟩;rcases h2 with h2 |⟨p,hp,h3⟩
   .exact .inl h2
   .exact .inr ⟨p,xU _ hp,h3⟩
theorem WY (l:List Td):(l.flatMap fj).length=l.length*2:=BO (f:=fj) (m:=2) (λ_=>rfl) l
theorem sn.ol {G}(h:sn w B v l)(hG:∀b,B<=b->b<w.heap.size->G b):OL w B G 95 2 v l.length ((l.map (·.1)).flatMap fj):=by
 obtain⟨cells,h1,h2,h3⟩:=h.kr;refine⟨cells,h1,by rw[WY,xC,h1.1],λk d hd=>?_⟩;obtain⟨d',GK,wO⟩:=WX hd;obtain⟨u,hu,hr⟩:=h3 k d' GK;refine⟨u,hu,?_⟩;rcases wO with rfl |⟨p,hp,rfl,rfl⟩
 .exact hr.mono λb hb _=>hb.1.elim
 .have hv:=hr.bH;subst hv;refine(h.fr p hp).Kr (λb hb _=>hb.elim) (λb hb h1 h2=>⟨hG b h1 h2,λe=>?_⟩);rcases(h.fr p hp).ne h.kr dQ with e2 |e2
  .rw[hb]at e2;cases e2
  .exact e2 (by rw[hb,e])
theorem sn.rd {G}(h:sn w B v l)(hG:∀b,B<=b->b<w.heap.size->G b):Rd w G v (.sl l.length ((l.map (·.1)).flatMap fj)):=
 (h.ol (G:=G) hG).rd (λb hb _=>hb) hG
end
structure PS (w wr:World)(u:Value)(l:List (Td×Value)):Prop where
 hb:Bw w wr
 b0:ao wr w.heap.size 24 [.slice none 0 0]
 b1:ao wr (w.heap.size+1) 24 [u]
 os:sn wr (w.heap.size+1+1) u l
theorem PS.stay {w wr w2 u l}(h:PS w wr u l)(hb:Bw wr w2):PS w w2 u l:=
 ⟨h.hb.trans (hb.mono h.hb.size),h.b0.stay hb,h.b1.stay hb,h.os.stay hb⟩
theorem PS.put {w wr w1 u v l l'}(h:PS w wr u l)(hg:wr.grownBy w1 u.ownBlock)(hO:sn w1 (w.heap.size+1+1) v l'):PS w (w1.setCell ⟨w.heap.size+1,0,none⟩ v) v l':=by
 have hr:∀q,u.ownBlock=some q->w.heap.size+1<q:=λq hq=>(h.os.kr.lt q hq).1
 exact⟨(h.hb.grown hg h.hb.size (λq hq=>by have:=hr q hq;omega)).setCell (by show _<=w.heap.size+1;omega) _,(h.b0.grown hg (λe=>by have:=hr _ e.symm;omega)).far (by show w.heap.size≠w.heap.size+1;omega) _,(h.b1.grown hg (λe=>by have:=hr _ e.symm;omega)).dz 0 v,hO.far (by show w.heap.size+1<_;omega)⟩
def Ou (T:List Td)(w:World)(e:Ending)(w':World):Prop:=∃v l,e=.returned (.agg #[v])/\sn w' w.heap.size v l/\l.map (·.1)=T/\Bw w w'
def Ov (w:World)(T:List Td)(x:Value)(wr:World):Prop:=∃(j:Nat)(u:Value)(lj:List (Td×Value)),j<=T.length/\x=.int .i64 j/\PS w wr u lj/\lj.map (·.1)=T.take j
theorem Ov.mk {w T x wr}(j u lj)(h1:j<=T.length)(h2:x=.int .i64 j)(h3:PS w wr u lj)(h4:lj.map (·.1)=T.take j):Ov w T x wr:=⟨j,u,lj,h1,h2,h3,h4⟩
set_option linter.unusedVariables false
theorem Sm {l:List (Kd×Value)}{j p}(h:l[j]? =some p):((l.map (·.1)).map cR).take (j+1)=((l.map (·.1)).map cR).take j++[cR p.1]:=by
 rw[zJ,zG,zG,h];rfl
namespace di
open cH
theorem DV {w B g nl vk vl au l}(h:DX w B g vk vl au nl l)(hl:l.length<=1048576)(lp:∀p∈l,p.1.fs.length<=1048576):
  Cl 20 #[.pointer (some ⟨g,0,none⟩)] w (Ou ((l.map (·.1)).map cR) w):=by
 obtain⟨A,ca,rfl⟩:=h.kr.form;have hg:=h.bx.lt;have hT:((l.map (·.1)).map cR).length=l.length:=sJ;have g0:∀W,Bw w W->W.cell? ⟨g,0,none⟩=some (.slice A l.length ca):=λW hW=>(h.stay hW).c0
 have kd:=λW (hW:Bw w W)=>h.stay hW
 have c0:=h.c0;have hst:PS w ((w.alloc (.cells ⟨[.slice none 0 0]⟩ 24)).alloc (.cells ⟨[.slice none 0 0]⟩ 24)) (.slice none 0 0) []:=
  ⟨(bA).alloc sJ _,(ao.new _ _ _).alloc _,ao.new' sJ,.nil _ _⟩
 replace⟨hst,kd,lp,hT⟩:=H4 hst kd lp hT;clear h g0;go_enter func20,ntmps20;go_wp2;go_loopw [14] (λx wr=>Ov w ((l.map (·.1)).map cR) x wr) (λx _=>l.length- (intOf x).toNat)
 .exact Ov.mk 0 _ [] (zE _) rfl hst.o rfl
 obtain⟨j,s3,lj,hj,rfl,hP,tE⟩:=hrel;rw[hT.o]at hj;have Ow:lj.length=j:=by
  have:=congrArg List.length tE;rw[xC,zO,hT.o]at this;omega
 have afm:lj.length<=1048576:=oQ;replace Ow:=Hd Ow;have Dv:=kd.o wr hP.hb;by_cases hlt:j<l.length
 .obtain⟨p,hp⟩:=av hlt;have fe:=zA hp;have ia:=lp.o p fe;obtain⟨gk,cap,hA,h1,h2,_,v0,v1,v2⟩:=Dv.at_ hp;injection hA with hA1 hA2 hA3
  subst hA1 hA3;obtain⟨A2,c2,pT⟩:=(Dv.fr p fe).form;rw[pT]at v2;have g0:=aH j;have g1:=aV j l.length;have yp:=Sm hp;obtain⟨wo,gU⟩:=aB wr
  subst gU;obtain⟨W1,a9⟩:=aB (wo.alloc (.cells ⟨[.string p.1.nm,.int .i64 p.1.fr,.slice A2 p.1.fs.length c2]⟩ 115))
  have eC:W1.heap.size=wo.heap.size+1:=by rw[a9];simp
  have az:Bw wo W1:=by rw[a9];exact bA
  have WZ:IC W1 ((wo.alloc (.cells ⟨[.string p.1.nm,.int .i64 p.1.fr,.slice A2 p.1.fs.length c2]⟩ 115)).alloc (.cells ⟨[.string p.1.nm,.slice none 0 0]⟩ 95)) 95 p.1.nm (.slice none 0 0) 9 0 []:=by
   rw[<-a9];exact⟨bA,ao.new _ _ _,.nil _ _ _ _ _⟩
  have Xa:∀W (k:Nat)(x:Fd),Bw wo W->p.1.fs[k]? =some x->∃gf,A2=some ⟨gf,0,none⟩/\W.cell? ⟨gf,k*3,none⟩=some (.string x.nm)/\W.cell? ⟨gf,k*3+1,none⟩=some (.int .i64 x.fr)/\W.cell? ⟨gf,k*3+2,none⟩=some (.int .i64 x.fl):=λW k x hW hx=>by
   have hk:=(zC.1 hx).1;have F0:=(Dv.stay hW).fr p fe;rw[pT]at F0;obtain⟨gf,gX,e,_,_,_,h6⟩:=F0.row oQ;injection e with e1 e2 e3
   obtain⟨u0,b0,r0⟩:=h6 (k*3+0) _ (po (f:=dt) (m:=3) (λ_=>rfl) hx rfl);obtain⟨u1,b1,r1⟩:=h6 (k*3+1) _ (po (f:=dt) (m:=3) (λ_=>rfl) hx rfl);obtain⟨u2,b2,r2⟩:=h6 (k*3+2) _ (po (f:=dt) (m:=3) (λ_=>rfl) hx rfl);rw[r0.bH]at b0;rw[r1.bH]at b1;rw[r2.bH]at b2;exact⟨gf,e1,b0,b1,b2⟩
  have Tw:=hP.b1.lt;have hP':=Hd hP;replace⟨WZ,Xa,eC,az,yp,tE⟩:=H6 WZ Xa eC az yp tE;clear hp fe Dv a9 pT hP;go_wp2;go_loopw [24] (λy wr=>∃(k:Nat)(u:Value),k<=p.1.fs.length/\y=.int .i64 k/\IC W1 wr 95 p.1.nm u 9 k (((p.1.fs.map (·.nm)).take k).flatMap aG)) (λy _=>p.1.fs.length- (intOf y).toNat)
  .exact⟨0,.slice none 0 0,zE _,rfl,WZ.o⟩
  obtain⟨k,u,hk,rfl,hI⟩:=hrel;have yP:Bw wo wr:=az.o.trans (hI.hb.mono az.o.size);have i2:wr.cell? ⟨wo.heap.size+1,1,none⟩=some u:=by rw[<-eC.o];exact hI.bx.cell 1
  have i3:wr.frozen? ⟨wo.heap.size+1,1,none⟩=false:=(by rw[<-eC.o];exact hI.bx.frozen 1);have hz:wo.heap.size+1<wr.heap.size:=by rw[<-eC.o];exact hI.bx.lt
  clear v0 v1 v2;by_cases kW:k<p.1.fs.length
  .obtain⟨x,hx⟩:=av kW;obtain⟨gf,rfl,q0,q1,q2⟩:=Xa.o wr k x yP hx;have g2:=aH k;have g3:(k:Int)<p.1.fs.length:=oQ;have tM:=Ed hx;have cY:∀(w1:World)(v':Value),((wr.alloc (.cells ⟨jA x⟩ 117)).alloc (.cells ⟨[.string x.nm]⟩ 9)).grownBy w1 u.ownBlock->OL w1 (W1.heap.size+1) bE 9 1 v' (k+1) (((p.1.fs.map (·.nm)).take k).flatMap aG++aG x.nm)->w1.cell? ⟨wo.heap.size+1,1,none⟩=some u/\w1.frozen? ⟨wo.heap.size+1,1,none⟩=false/\
     IC W1 (w1.setCell ⟨wo.heap.size+1,1,none⟩ v') 95 p.1.nm v' 9 (k+1) (((p.1.fs.map (·.nm)).take (k+1)).flatMap aG):=λw1 v' hg hO=>by
    have hB:=hI.stay ((bX (.cells ⟨jA x⟩ 117)).alloc sJ (.cells ⟨[.string x.nm]⟩ 9));have t0:=hB.bx.grown hg (λe=>by have:=(hI.ol.lt _ e.symm).1;omega);have:=hB.put hg (λq hq=>(hI.ol.lt q hq).1) hO;rw[<-eC.o,tM];exact⟨t0.cell 1,t0.frozen 1,this⟩
   have sB:=Hd hI.ol;replace cY:=Hd cY;have hs9:W1.heap.size+1<=wr.heap.size:=hI.bx.lt;clear hx hI tM yP;go_wp2_with (at_builtin;refine ez rfl (.tmp 29) (.tmp 32) _ rfl (m:=1) (news:=aG x.nm) rm ((sB.o.alloc (.cells ⟨jA x⟩ 117)).alloc (.cells ⟨[.string x.nm]⟩ 9)) rfl rfl (Src.F6 sJ (show fB (wr.alloc (.cells ⟨jA x⟩ 117)) _ [.string x.nm] (aG x.nm)from⟨.v _ rfl,trivial⟩)) rfl oQ oQ (by simp;omega) ?_;intro v' w1 ax aw bu;obtain⟨B3,d3,rfl⟩:=ax.form;obtain⟨t1,t2,t3⟩:=cY.o _ _ aw ax;replace t3:=Hd t3);go_roundw
   .exact⟨k+1,_,oQ,gQ,t3.o⟩
   exact mQ
  .have qy:k=p.1.fs.length:=oQ;subst qy;have jR:(p.1.fs.map (·.nm)).take p.1.fs.length=p.1.fs.map (·.nm):=xH sJ;rw[jR]at hI;obtain⟨U,cu,rfl⟩:=hI.ol.form;have i0:wr.cell? ⟨wo.heap.size+1,0,none⟩=some (.string p.1.nm):=by rw[<-eC.o];exact hI.bx.cell 0
   have JG:=hP'.o.stay yP;have z1:wr.cell? ⟨w.heap.size+1,0,none⟩=some s3:=JG.b1.cell 0;have hPa:=JG.stay (bX (.cells ⟨[.string p.1.nm,.slice U p.1.fs.length cu]⟩ 95));have TP:OL (wr.alloc (.cells ⟨[.string p.1.nm,.slice U p.1.fs.length cu]⟩ 95)) (w.heap.size+1+1) bE 9 1 (.slice U p.1.fs.length cu) (cR p.1).attrs.length ((cR p.1).attrs.flatMap aG):=by
    have:=(hI.ol.base (B':=w.heap.size+1+1) (by have:=eC.o;omega)).alloc (.cells ⟨[.string p.1.nm,.slice U p.1.fs.length cu]⟩ 95);simpa[cR] using this
   have J7:∀q∈lj,(Value.slice U p.1.fs.length cu).ownBlock=none\/(Value.slice U p.1.fs.length cu).ownBlock≠q.2.ownBlock:=λq hq=>by
    cases hb:(Value.slice U p.1.fs.length cu).ownBlock with
    |none=>exact .inl rfl
    |some b=>
     refine .inr λhe=>?_
     have h1:=(hI.ol.lt b hb).1;have h2:=((hP'.o.os.fr q hq).lt b he.symm).2;have:=eC.o;omega
   obtain⟨A3,c3,rfl⟩:=JG.os.kr.form;have kT:=Hd hPa.os.kr;have cY:∀(w1:World)(v':Value),(wr.alloc (.cells ⟨[.string p.1.nm,.slice U p.1.fs.length cu]⟩ 95)).grownBy w1 (Value.slice A3 lj.length c3).ownBlock->OL w1 (w.heap.size+1+1) bE 95 2 v' (lj.length+1) (lj.flatMap TR++TR (cR p.1,.slice U p.1.fs.length cu))->
     w1.cell? ⟨w.heap.size+1,0,none⟩=some (.slice A3 lj.length c3)/\w1.frozen? ⟨w.heap.size+1,0,none⟩=false/\PS w (w1.setCell ⟨w.heap.size+1,0,none⟩ v') v' (lj++[(cR p.1,.slice U p.1.fs.length cu)]):=λw1 v' hg hO=>by
    have qI:∀q,(Value.slice A3 lj.length c3).ownBlock=some q->w.heap.size+1<q:=λq hq=>(JG.os.kr.lt q hq).1
    have t0:=hPa.b1.grown hg (λe=>by have:=qI _ e.symm;omega);exact⟨t0.cell 0,t0.frozen 0,hPa.put hg (hPa.os.snoc hg hO TP J7)⟩
   have aki:w.heap.size+1+1<=wr.heap.size:=oQ;replace cY:=Hd cY;clear hI jR JG hPa TP J7 yP;go_wp2_with (at_builtin;refine ez rfl (.tmp 37) (.tmp 39) _ rfl (m:=1) (news:=TR (cR p.1,.slice U p.1.fs.length cu)) VO kT.o rfl rfl (Src.lit (show fB wr _ [.string p.1.nm,.slice U p.1.fs.length cu] (TR (cR p.1,.slice U p.1.fs.length cu))from⟨.v _ rfl,.v _ rfl,trivial⟩)) rfl oQ oQ (by simp;omega) ?_;intro v' w1 ax aw bu;obtain⟨B3,d3,rfl⟩:=ax.form;obtain⟨t0,t1,t2⟩:=cY.o _ _ aw ax;replace t2:=Hd t2);go_roundw
   .exact Ov.mk (j+1) _ _ (by have:=hT.o;omega) gQ t2.o (by rw[yp.o,xR,tE.o];rfl)
   exact mQ
 .have Ki:j=l.length:=oQ;have K8:lj.map (·.1)=(l.map (·.1)).map cR:=by rw[tE,xH (by rw[hT.o];omega)]
  obtain⟨U,cu,rfl⟩:=hP.os.kr.form;have z1:wr.cell? ⟨w.heap.size+1,0,none⟩=some (.slice U lj.length cu):=hP.b1.cell 0;have p0:wr.cell? ⟨w.heap.size,0,none⟩=some (.slice none 0 0):=hP.b0.cell 0;have f0:wr.frozen? ⟨w.heap.size,0,none⟩=false:=hP.b0.frozen 0;have e1:ao (wr.setCell ⟨w.heap.size,0,none⟩ (.slice U lj.length cu)) w.heap.size 24 [.slice U lj.length cu]:=hP.b0.dz 0 _;have e2:=Hd (show sn (wr.setCell ⟨w.heap.size,0,none⟩ (.slice U lj.length cu)) w.heap.size (.slice U lj.length cu) lj from (hP.os.far (by show w.heap.size<_;omega)).base oQ);have e3:=Hd (hP.hb.setCell (p:=⟨w.heap.size,0,none⟩) sJ (.slice U lj.length cu));replace⟨e1,K8⟩:=H2 e1 K8;clear hP Dv tE;go_wp2;exact l5 rfl e1.o DT rfl rfl ⟨_,_,rfl,e2.o,K8.o,e3.o⟩
end di
def kM:List Value:=[.nilFunc,.func (.func 68) #[] #[],.func (.func 69) #[] #[],.func (.func 70) #[] #[],.func (.func 71) #[] #[],
 .func (.func 72) #[] #[],.func (.func 73) #[] #[],.func (.func 74) #[] #[]]
theorem Sn:jV prog 119 8:=⟨_,underlying119,rfl,kQ⟩
namespace di
open cH
theorem rZ (w):Cl 39 #[] w λe w'=>e=.returned (.agg ⟨kM⟩)/\Bw w w':=by
 have Pn:=Hd ((zB w.heap.size w).alloc nR (.cells ⟨kM⟩ 119));go_enter func39,ntmps39;go_wp2;exact l5 rfl (ao.new w _ kM) Sn rfl rfl ⟨rfl,Pn.o⟩
end di
def El (q:Nat)(c:Cg)(A:Option Addr)(d g:Nat)(W:World)(R:Ending->World->Prop):Prop:=∃f,kM[q]? =some (.func (.func f) #[] #[])/\(∀args w,(callFunc f args).run prog w=.ok (.enter f args) w)/\
 Cl f #[.pointer (some ⟨g,0,none⟩),.agg #[.int .i64 (q:Int),.string c.ty,.string c.at_,.string c.nm,.slice A c.ats.length d,.int .i64 c.n]] W R
theorem Ox (w d):(Op.equalIn (d+1) 118 .nilFunc .nilFunc).run prog w=.ok true w:=by
 simp[Op.equalIn,run_underlying underlying118]
theorem Sq (w)(d f:Nat):(Op.equalIn (d+1) 118 (.func (.func f) #[] #[]) .nilFunc).run prog w=.ok false w:=by
 simp[Op.equalIn,run_underlying underlying118]
theorem Sr (w):(binOp .eql 118 .nilFunc .nilFunc).run prog w=.ok (.bool true) w:=by
 simp only[binOp];simp[Op.equal,Op.maxDepth,Ox w 9999]
theorem Xb (w)(f:Nat):(binOp .eql 118 (.func (.func f) #[] #[]) .nilFunc).run prog w=.ok (.bool false) w:=by
 simp only[binOp];simp[Op.equal,Op.maxDepth,Sq w 9999]
namespace di
open cH
theorem Xc {w B g nl vk vl au l}(h:DX w B g vk vl au nl l)(hm:nO (l.map (·.1)))(tK:nl.length<=1048576)(c:Cg)(q:Nat)(hq:c.kd=q)(h1:1<=q)(h7:q<=7)(jj:c.ats.length<=1048576)(A d G)(hG:∀b,G b->b<w.heap.size)(rc:Rd w G (.slice A c.ats.length d) (.sl c.ats.length (c.ats.flatMap aG))):El q c A d g w (dV (l.map (·.1)) c B g (nl++iX (l.map (·.1)) c au) w):=by
 have e:q=1\/q=2\/q=3\/q=4\/q=5\/q=6\/q=7:=oQ;rcases e with rfl |rfl |rfl |rfl |rfl |rfl |rfl
 .rw[iO oQ oQ,zT];exact⟨_,rfl,enters_of func68 kQ rfl,hq▸JN h hm c hq jj A d G hG rc⟩
 .exact⟨_,rfl,enters_of func69 kQ rfl,hq▸Gz h hm tK c hq A d⟩
 .rw[iO oQ oQ,zT];exact⟨_,rfl,enters_of func70 kQ rfl,hq▸BH h hm c hq A d⟩
 .rw[iO oQ oQ,zT];exact⟨_,rfl,enters_of func71 kQ rfl,hq▸JK h hm c hq A d⟩
 .exact⟨_,rfl,enters_of func72 kQ rfl,hq▸GA h hm tK c hq A d⟩
 .rw[iO oQ oQ,zT];exact⟨_,rfl,enters_of func73 kQ rfl,hq▸BJ h hm c hq A d⟩
 .rw[iO oQ oQ,zT];exact⟨_,rfl,enters_of func74 kQ rfl,hq▸GG h hm c hq A d⟩
end di
