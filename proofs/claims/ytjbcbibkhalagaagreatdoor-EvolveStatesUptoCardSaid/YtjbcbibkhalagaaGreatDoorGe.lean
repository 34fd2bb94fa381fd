/- The document's findings on a pattern. -/
import Derived.Test.YtjbcbibkhalagaaGreatDoorGc
namespace Go.Proofs.YtjbcbibkhalagaaGreatDoor
set_option maxRecDepth 100000
set_option maxHeartbeats 16000000
open Proofs.Tryz Go.RowKit Go.Deep Go.Maps
set_option linter.unusedVariables false
set_option linter.unusedSimpArgs false
structure Cc (q:Qy):Prop where
 ty:(q.items.map λx=>x.ah.length).sum<=1048576
 rt:(q.ret.map λt=>t.length).sum<=1048576
theorem oH {α β}{f:Nat->α->List β}{g}(l)(hf:∀i,∀x∈l,(f i x).length<=g x):∀n,(aO f n l).length<=(l.map g).sum:=by
 induction l with
 |nil=>intro n;simp[aO]
 |cons x r ih=>
  intro n;have h1:=hf n x sJ;have h2:=ih (λi y hy=>hf i y (by simp[hy])) (n+1);simp only[aO,zH,List.map_cons,List.sum_cons];omega
theorem mD {α β:Type}{f:α->List β}(l:List α)(hf:∀x,(f x).length<=1):(l.flatMap f).length<=l.length:=by
 induction l with
 |nil=>simp
 |cons x r ih=>have:=hf x;simp only[zK,zH,List.length_cons];omega
theorem rG {α:Type}(T c d)(l:List α):(l.map λx=>T x*c+d).sum=(l.map T).sum*c+l.length*d:=by
 induction l with
 |nil=>simp
 |cons x r ih=>simp only[List.map_cons,List.sum_cons,List.length_cons,ih,Nat.add_mul];omega
theorem uZ {α:Type}(T:α->Nat)(l:List α)(j):((l.take j).map T).sum<=(l.map T).sum:=by
 have:(l.map T).sum=((l.take j).map T).sum+((l.drop j).map T).sum:=by rw[<-List.sum_append,<-xR,List.take_append_drop]
 omega
theorem eh {α:Type}{p}[Decidable p](x:α):(if p then [x]else []).length<=1:=by split<;>simp
theorem Qn (l ah i j n):(yd l ah i j n).length<=1+ah.length:=by
 unfold yd;have h1:=mD (f:=Iu i n) (ah.take j) (λx=>eh _);have h2:(ah.take j).length<=ah.length:=by rw[zO];omega
 have h3:(if lJ l n then [(⟨4,1,61,1,i,0⟩:Fg)]else []).length<=1:=eh _;rw[zH];omega
theorem G6 (l ah i k)(h:ah.length<=1048576)(hk:k<=ah.length):(aO (yd l ah i) 0 (ah.take k)).length<=k*1048577:=by
 have:=oH (f:=yd l ah i) (g:=λ_=>0*0+1048577) (ah.take k) (λj x _=>zU (Qn l ah i j x) oQ) 0;rw[rG]at this;have h2:(ah.take k).length=k:=by rw[zO];omega
 rw[h2]at this;omega
theorem Qo (l q i x)(h:x.ah.length<=1048576):(BU l q i x).length<=x.ah.length*1048577+2:=by
 have h1:=G6 l x.ah i x.ah.length h nR;rw[zL]at h1;have h2:(if jl x then [(⟨4,3,63,1,i,0⟩:Fg)]else []).length<=1:=eh _;have h3:(if aM q x.v<(i:Int)then [(⟨4,4,64,1,i,0⟩:Fg)]else []).length<=1:=eh _;unfold BU;rw[zH,zH];omega
theorem Qp (l q)(hs:jE q)(hB:Cc q)(j):(aO (BU l q) 0 (q.items.take j)).length<=1099512677376+2097152:=by
 have h1:=oH (f:=BU l q) (g:=λx=>x.ah.length*1048577+2) (q.items.take j) (λi x hx=>Qo l q i x (hs.it x (List.mem_of_mem_take hx)).1.1) 0;rw[rG]at h1;have h2:=uZ (λx:It=>x.ah.length) q.items j;have h3:=hB.ty;have h4:(q.items.take j).length<=1048576:=by rw[zO];have:=hs.il;omega
 have h5:((q.items.take j).map λx=>x.ah.length).sum*1048577<=1048576*1048577:=Nat.mul_le_mul oQ nR;omega
def ve (q:Qy):List Fg:=if 10<q.items.length then [⟨3,0,60,1,10,0⟩]else []
def C5 (q:Qy)(j:Nat):Bool:=(q.items.take j).any λx=> !x.neg
theorem IV {q j x}(h:q.items[j]? =some x):C5 q (j+1)=(C5 q j|| !x.neg):=by
 unfold C5;rw[zJ,h,List.any_append];simp
theorem Lp (q):C5 q q.items.length= !(q.items.all (·.neg)):=by
 unfold C5;rw[zL];induction q.items with
 |nil=>rfl
 |cons x r ih=>simp only[List.any_cons,List.all_cons,ih,Bool.not_and]
structure FI (l:List Td)(A:Option Addr)(c:Nat)(q:Qy)(s:fV)(x:It)(u:Value)(gi:Nat)(w wr:World)(v:Value)(L:List Fg):Prop where
 fo:FO l A c q s w wr v L
 bi:ao wr gi 60 (dX x u)
 lo:w.heap.size+1<gi
section
variable {l:List Td}{A:Option Addr}{c:Nat}{q:Qy}{s:fV}{x:It}{u:Value}{gi:Nat}{w wr W w1:World}{v v':Value}{L:List Fg}
theorem FI.stay (h:FI l A c q s x u gi w wr v L)(hb:Bw wr W):FI l A c q s x u gi w W v L:=⟨h.fo.stay hb,h.bi.stay hb,h.lo⟩
theorem FI.app {o f}(h:FI l A c q s x u gi w wr v L)(hg:(wr.alloc o).grownBy w1 v.ownBlock)(hO:OL w1 w.heap.size eL 162 6 v' (L.length+1) (L.flatMap nZ++nZ f)):FI l A c q s x u gi w w1 v' (L++[f]):=⟨h.fo.app hg hO,h.fo.keep h.bi dQ hg,h.lo⟩
theorem FI.cells (h:FI l A c q s x u gi w wr v L):wr.cell? ⟨gi,0,none⟩=some (.bool x.neg)/\wr.cell? ⟨gi,1,none⟩=some u/\wr.cell? ⟨gi,2,none⟩=some (.string x.v)/\wr.cell? ⟨gi,3,none⟩=some (.int .i64 x.lo)/\wr.cell? ⟨gi,4,none⟩=some (.int .i64 x.hi):=⟨h.bi.cell 0,h.bi.cell 1,h.bi.cell 2,h.bi.cell 3,h.bi.cell 4⟩
theorem FI.sch (h:FI l A c q s x u gi w wr v L):wr.cell? ⟨w.heap.size,0,none⟩=some (.slice A l.length c):=h.fo.sq.b0.cell 0
theorem FI.S' {L'}(h:FI l A c q s x u gi w wr v L)(e:L=L'):FI l A c q s x u gi w wr v L':=e▸h
end
theorem Lq {i y z}{ah:List ByteArray}{m}(h:ah[m]? =some z):(ah.take (m+1)).flatMap (Iu i y)=(ah.take m).flatMap (Iu i y)++if y=z then [⟨4,2,62,1,i,0⟩]else []:=by
 rw[zJ,h,xD];simp[Iu]
def ym (l:List Td)(A:Option Addr)(c:Nat)(q:Qy)(s:fV)(w:World)(v p i:Value)(wr:World):Prop:=∃j:Nat,j<=q.items.length/\i=.int .i64 j/\p=.bool (C5 q j)/\FO l A c q s w wr v (ve q++aO (BU l q) 0 (q.items.take j))
theorem ym.mk {l A c q s w wr v p i}(j)(h1:j<=q.items.length)(h2:i=.int .i64 j)(h3:p=.bool (C5 q j))(h4:FO l A c q s w wr v (ve q++aO (BU l q) 0 (q.items.take j))):ym l A c q s w v p i wr:=⟨j,h1,h2,h3,h4⟩
def af0 (l:List Td)(A:Option Addr)(c:Nat)(q:Qy)(s:fV)(x:It)(u:Value)(gi:Nat)(w:World)(L:List Fg)(v:Value)(wr:World):Prop:=FI l A c q s x u gi w wr v L
namespace dR
open cH
theorem IW (A c F l q s)(hl:iI l)(hs:jE q)(hB:Cc q)(w)(hF:∀b,F b->b<w.heap.size)(r:Rd w F (.slice A l.length c) (.sl l.length (l.flatMap fj)))(R:QR w F q s):
  Cl 81 #[.agg ⟨[.slice A l.length c]⟩,.agg ⟨qV q s⟩] w (iy (gO l q) w):=by
 have h0:=FO.new l A c q s w;have k1:∀(n:ByteArray) W,Bw w W->Cl 128 #[.agg ⟨[.slice A l.length c]⟩,.string n] W λe w'=>e=.returned (.int .i64 (aj (aY l) n))/\Bw W w':=λn W hW=>sE A c F l n hl.1 W (λb h=>zF (hF b h) hW.size) (r.under hW hF)
 have k2:∀(v:ByteArray) W,Bw w W->Cl 129 #[.agg ⟨qV q s⟩,.string v] W λe w'=>e=.returned (.int .i64 (aM q v))/\Bw W w':=λv W hW=>ox q s F v hs.il W (R.under hW).lt (R.under hW).r1
 have iT:=hs.il;have hit:=hs.it;have j7:=R.r1;have Es:=λj=>Qp l q hs hB j
 obtain⟨R0,ek⟩:=aB (gO l q)
 rw[<-ek];have Fv:R0=ve q++(aO (BU l q) 0 q.items++(if q.items.all (·.neg)=true then [⟨5,0,65,1,0,0⟩]else [])):=ek;clear ek;have k60:∀W,Cl 127 #[.int .i64 3,.int .i64 0,.int .i64 60,.int .i64 1,.int .i64 10,.int .i64 0] W λe w'=>e=.returned (.agg ⟨[.int .i64 3,.int .i64 0,.int .i64 60,.int .i64 1,.int .i64 10,.int .i64 0]⟩)/\Bw W w':=λW=>rF ⟨3,0,60,1,10,0⟩ W
 have k65:∀W,Cl 127 #[.int .i64 5,.int .i64 0,.int .i64 65,.int .i64 1,.int .i64 0,.int .i64 0] W λe w'=>e=.returned (.agg ⟨[.int .i64 5,.int .i64 0,.int .i64 65,.int .i64 1,.int .i64 0,.int .i64 0]⟩)/\Bw W w':=λW=>rF ⟨5,0,65,1,0,0⟩ W
 have kf:∀(rk cd:Int)(j:Nat) W,Cl 127 #[.int .i64 4,.int .i64 rk,.int .i64 cd,.int .i64 1,.int .i64 j,.int .i64 0] W λe w'=>e=.returned (.agg ⟨[.int .i64 4,.int .i64 rk,.int .i64 cd,.int .i64 1,.int .i64 j,.int .i64 0]⟩)/\Bw W w':=λrk cd j W=>rF ⟨4,rk,cd,1,j,0⟩ W
 have yy:=h0.sq.cells;obtain⟨A1,c1,A2,c2,A3,c3⟩:=s;simp only[qV]at h0 k2 j7 yy |-;obtain⟨x0,x1,_⟩:=yy;replace⟨j7,hF,k1,k2,kf,hit,Es,h0,Fv,k60,k65⟩:=SI j7 hF k1 k2 kf hit Es h0 Fv k60 k65;clear hs R r hl hB;go_enter func81,ntmps81;go_upto_region 2 with fail
 go_cut [16] (λs wx=>s=.bool (decide (10<q.items.length))/\FO l A c q ⟨A1,c1,A2,c2,A3,c3⟩ w wx (.slice none 0 0) [])
 .by_cases h10:10<q.items.length
  .have g0:(10:Int)<q.items.length:=oQ;have hd:decide (10<q.items.length)=true:=zW h10;replace h10:=Hd h10;go_wp2
   all_goals(go_meet;exact⟨by rw[hd],h0.o⟩)
  .have g0:¬(10:Int)<q.items.length:=oQ;have hd:decide (10<q.items.length)=false:=zV h10;replace h10:=Hd h10;go_wp2
   all_goals(go_meet;exact⟨by rw[hd],h0.o⟩)
 obtain⟨Lr,hI⟩:=hcut;clear x0 x1 h0;have Lt:=hI.hb.size;replace hI:=Hd hI;go_upto_if 16 with fail
 go_cut [5] (λv wx=>FO l A c q ⟨A1,c1,A2,c2,A3,c3⟩ w wx v (ve q))
 .by_cases h10:10<q.items.length
  .have pR:ve q=[⟨3,0,60,1,10,0⟩]:=if_pos h10;rw[zW h10]at Lr;subst Lr;replace⟨h10,pR⟩:=H2 h10 pR;go_wp2_with (first
    |(go_at_call 127;refine(k60.o _).eQ λW hW=>?_;have bn:=Hd (hI.o.stay hW);clear hW)
    |(at_builtin;refine Fu rfl (.tmp 17) (.tmp 19) _ rfl (m:=1) (news:=nZ ⟨3,0,60,1,10,0⟩) qx (bn.o.ol.alloc _) rfl rfl (Src.lit (lu ⟨3,0,60,1,10,0⟩)) rfl (lz dQ) (lA dQ) (by have:=bn.o.hb.size;simp;omega) ?_;intro v' w1 ax aw bu;obtain⟨B3,d3,rfl⟩:=ax.form;have dB:=Hd (bn.o.app (f:=⟨3,0,60,1,10,0⟩) aw ax);clear ax aw bu))
   all_goals(go_meet;(rw[pR.o];exact dB.o))
  .have pR:ve q=[]:=if_neg h10;rw[zV h10]at Lr;subst Lr;replace⟨h10,pR⟩:=H2 h10 pR;go_wp2
   all_goals(go_meet;(rw[pR.o];exact hI.o))
 have hI:=hcut;clear Lr Lt;have pR:(ve q).length<=1:=eh _;obtain⟨A9,c9,rfl⟩:=hI.ol.form;have h0:=Hd hI;clear hI hcut;go_wp2;go_loopw [5,6,7] (λv p i wr=>ym l A c q ⟨A1,c1,A2,c2,A3,c3⟩ w v p i wr) (λ_ _ i _=>q.items.length- (intOf i).toNat)
 .exact ym.mk 0 (zE _) rfl rfl (by simpa[aO] using h0.o)
 clear h0;obtain⟨j,hj,rfl,rfl,hI⟩:=hrel;have hpj:=Es.o j;obtain⟨L,hL⟩:=aB (ve q++aO (BU l q) 0 (q.items.take j))
 have P9:L.length<=1099514774529:=by rw[hL,zH];omega
 rw[<-hL]at hI;obtain⟨A5,c5,rfl⟩:=hI.ol.form;obtain⟨x0,x1,_⟩:=hI.sq.cells;simp only at x1;by_cases hlt:j<q.items.length
 .obtain⟨x,hx⟩:=av hlt;obtain⟨g,off,B2,d2,rfl,PW,rx,a0,a1,a2,a3,a4⟩:=eV j7.o hx;have tC:=hF.o g PW;have qL:=λ(i:Nat)=>hI.hb.cell (p:=⟨g,i,none⟩) tC
  rw[<-qL]at a0 a1 a2 a3 a4;clear qL PW tC;have bz:=IV hx;have BZ:=(hit.o x (zA hx)).1.1;have Fw:ve q++aO (BU l q) 0 (q.items.take (j+1))=L++BU l q j x:=by rw[iu _ hx,hL,zR]
  have Qq:BU l q j x=aO (yd l x.ah j) 0 x.ah++((if jl x then [⟨4,3,63,1,j,0⟩]else [])++(if aM q x.v<(j:Int)then [⟨4,4,64,1,j,0⟩]else [])):=rfl;have g1:=aH j;have g2:=aV j q.items.length;have kN:=hI.hb.size;have sg:FI l A c q ⟨some ⟨g,off,none⟩,c1,A2,c2,A3,c3⟩ x (.slice B2 x.ah.length d2) wr.heap.size w (wr.alloc (.cells ⟨dX x (.slice B2 x.ah.length d2)⟩ 60)) (.slice A5 L.length c5) L:=⟨hI.stay bA,ao.new _ _ _,hI.sq.b1.lt⟩;generalize Eo:wr.heap.size=gi at sg;obtain⟨pb,pS⟩:=aB (C5 q j)
  rw[<-pS]at bz |-;have uA:=Hd rx;clear rx;have hxI:=Hd hx;clear hx;obtain⟨neg,ah,iv,lo,hi⟩:=x;simp only[dX]at sg a0 a1 a2 a3 a4 uA bz Qq BZ;replace⟨bz,pS,Fw,Qq⟩:=H4 bz pS Fw Qq;have IX:=Hd hI;clear hI;replace hL:=Hd hL;have hFH:=Hd sg;obtain⟨y0,_⟩:=sg.cells;simp only at y0;clear sg;go_upto_region 9 with fail
  go_cut [6] (λs wx=>s=.bool (pb|| !neg)/\FI l A c q ⟨some ⟨g,off,none⟩,c1,A2,c2,A3,c3⟩ ⟨neg,ah,iv,lo,hi⟩ (.slice B2 ah.length d2) gi w wx (.slice A5 L.length c5) L)
  .cases pb with
   |true=>
    go_wp2
    all_goals(go_meet;exact⟨rfl,hFH.o⟩)
   |false=>
    go_wp2
    all_goals(go_meet;exact⟨rfl,hFH.o⟩)
  obtain⟨rfl,sg⟩:=hcut;clear y0 hFH a0 a1 a2 a3 a4;replace⟨sg,Eo⟩:=H2 sg Eo;obtain⟨wo,gU⟩:=aB wr
  subst gU;go_wp2;go_loopw [5,9] (λv i wr=>∃(k:Nat)(Lk:List Fg),k<=ah.length/\i=.int .i64 k/\Hid (Lk=L++aO (yd l ah j) 0 (ah.take k))/\FI l A c q ⟨some ⟨g,off,none⟩,c1,A2,c2,A3,c3⟩ ⟨neg,ah,iv,lo,hi⟩ (.slice B2 ah.length d2) gi w wr v Lk) (λ_ i _=>ah.length- (intOf i).toNat)
  .exact⟨0,L,zE _,rfl,by show L=_;simp[aO],sg.o⟩
  clear sg;obtain⟨k,Lk,hk,rfl,IY,hI⟩:=hrel;have Qa:=G6 l ah j k BZ hk;have YK:Lk.length<=2199027450881:=by rw[IY.o,zH];omega
  obtain⟨A6,c6,rfl⟩:=hI.fo.ol.form;have hsk:=hI.fo.hb.size;obtain⟨y0,y1,y2,y3,y4⟩:=hI.cells;have y5:=hI.sch;have zf:=hI.lo;simp only at y0 y1 y2 y3 y4;by_cases oK:k<ah.length
  .obtain⟨y,hy⟩:=av oK;obtain⟨g3,wS,rfl,acN,q0⟩:=dN uA.o hy;have YL:=hF.o g3 acN;have Ah:∀W,Bw w W->W.cell? ⟨g3,wS+k,none⟩=some (.string y):=λW hW=>(hW.cell (p:=⟨g3,wS+k,none⟩) YL).trans q0
   have q1:=Ah wr hI.fo.hb;have g3':=aH k;have g4':=aV k ah.length;have eW:=k1.o y;obtain⟨ti,wM⟩:=aB (aj (aY l) y)
   rw[<-wM]at eW;have J4:lJ l y<->ti<0:=by unfold lJ;rw[wM]
   have Lu:L++aO (yd l ah j) 0 (ah.take (k+1))=Lk++((if ti<0 then [⟨4,1,61,1,j,0⟩]else [])++(ah.take k).flatMap (Iu j y)):=by
    have e:(if lJ l y then [(⟨4,1,61,1,j,0⟩:Fg)]else [])=if ti<0 then [⟨4,1,61,1,j,0⟩]else []:=by
     by_cases h:ti<0
     .rw[if_pos h,if_pos (J4.2 h)]
     .rw[if_neg h,if_neg (λh2=>h (J4.1 h2))]
    rw[iu _ hy,IY.o,zR];unfold yd;rw[e]
   replace⟨Lu,eW,wM,J4,Ah⟩:=H5 Lu eW wM J4 Ah;have hyH:=Hd hy;clear hy q0 Qa;replace hI:=Hd hI;go_upto_region 13 with fail
   go_cut [10] (λs wx=>s=.int .i64 ti/\FI l A c q ⟨some ⟨g,off,none⟩,c1,A2,c2,A3,c3⟩ ⟨neg,ah,iv,lo,hi⟩ (.slice (some ⟨g3,wS,none⟩) ah.length d2) gi w wx (.slice A6 Lk.length c6) Lk)
   .go_region_law ((go_simp;(go_at_call 128;refine(eW.o _ (by first|exact hI.o.fo.hb |exact hI.o.fo.hb.drew |exact(hI.o.stay (below_drewN bR _)).fo.hb)).eQ λW hW=>?_;have bn:=Hd (hI.o.stay (by first|exact hW |exact(bR).drew.trans hW |exact(below_drewN bR _).trans hW));have q1:=Ah.o _ bn.o.fo.hb;have y1:W.cell? ⟨gi,1,none⟩=some (.slice (some ⟨g3,wS,none⟩) ah.length d2):=bn.o.cells.2.1;clear hW)))
    all_goals(go_wp2;all_goals(go_meet;exact⟨rfl,bn.o⟩))
   obtain⟨rfl,bn⟩:=hcut;clear y0 y1 y2 y3 y4 y5 q1 hI;have hI:=Hd bn;clear bn;obtain⟨nb,wu⟩:=aB (decide (ti<0))
   go_upto_region 14 with fail
   go_cut [54] (λs wx=>s=.bool nb/\FI l A c q ⟨some ⟨g,off,none⟩,c1,A2,c2,A3,c3⟩ ⟨neg,ah,iv,lo,hi⟩ (.slice (some ⟨g3,wS,none⟩) ah.length d2) gi w wx (.slice A6 Lk.length c6) Lk)
   .by_cases hn:ti<0
    .have e:nb=true:=(by rw[wu];exact zW hn);subst e;replace wu:=Hd wu;go_wp2
     all_goals(go_meet;exact⟨rfl,hI.o⟩)
    .have e:nb=false:=(by rw[wu];exact zV hn);subst e;replace wu:=Hd wu;go_wp2
     all_goals(go_meet;exact⟨rfl,hI.o⟩)
   obtain⟨rfl,bn⟩:=hcut;clear hI;have hI:=Hd bn;clear bn;have YM:(if ti<0 then [(⟨4,1,61,1,j,0⟩:Fg)]else [])=if nb=true then [⟨4,1,61,1,j,0⟩]else []:=by rw[wu];simp
   rw[YM]at Lu;clear YM;replace wu:=Hd wu;go_upto_if 54 with fail
   go_cut [5] (λv wx=>∃L2,Hid (L2=Lk++if nb=true then [⟨4,1,61,1,j,0⟩]else [])/\FI l A c q ⟨some ⟨g,off,none⟩,c1,A2,c2,A3,c3⟩ ⟨neg,ah,iv,lo,hi⟩ (.slice (some ⟨g3,wS,none⟩) ah.length d2) gi w wx v L2)
   .cases nb with
    |true=>
     have fX:Lk.length+1<=gg:=(by unfold gg;omega);replace fX:=Hd fX;go_wp2_with (first
      |(go_at_call 127;refine(kf.o 1 61 j _).eQ λW hW=>?_;have bn:=Hd (hI.o.stay hW);clear hW)
      |(at_builtin;refine Fu rfl (.tmp 55) (.tmp 58) _ rfl (m:=1) (news:=nZ ⟨4,1,61,1,j,0⟩) qx (bn.o.fo.ol.alloc _) rfl rfl (Src.lit (lu ⟨4,1,61,1,j,0⟩)) rfl (lz fX.o) (lA fX.o) (by have:=bn.o.fo.hb.size;simp;omega) ?_;intro v' w1 ax aw bu;obtain⟨B3,d3,rfl⟩:=ax.form;have dB:=Hd (bn.o.app (f:=⟨4,1,61,1,j,0⟩) aw ax);clear ax aw bu))
     all_goals(go_meet;exact⟨_,rfl,dB.o⟩)
    |false=>
     go_wp2
     all_goals(go_meet;exact⟨_,(zT Lk).symm,hI.o⟩)
   obtain⟨L2,jn,bn⟩:=hcut;have UB:L2.length<=2199027450882:=by
    rw[jn.o,zH];have:(if nb=true then [(⟨4,1,61,1,j,0⟩:Fg)]else []).length<=1:=eh _;omega
   have acO:=Hd (show L++aO (yd l ah j) 0 (ah.take (k+1))=L2++(ah.take k).flatMap (Iu j y) by rw[Lu.o,jn.o,zR]);clear Lu hI;replace bn:=Hd bn;obtain⟨wo2,gU⟩:=aB wr
   subst gU;go_wp2;go_loopw [5,11] (λv i wr=>∃(m:Nat)(Lm:List Fg),m<=k/\i=.int .i64 m/\Hid (Lm=L2++(ah.take m).flatMap (Iu j y))/\FI l A c q ⟨some ⟨g,off,none⟩,c1,A2,c2,A3,c3⟩ ⟨neg,ah,iv,lo,hi⟩ (.slice (some ⟨g3,wS,none⟩) ah.length d2) gi w wr v Lm) (λ_ i _=>k- (intOf i).toNat)
   .exact⟨0,L2,zE _,rfl,by show L2=_;simp,bn.o⟩
   clear bn;obtain⟨m,Lm,hm,rfl,hLm,hI⟩:=hrel;have SL:((ah.take m).flatMap (Iu j y)).length<=1048576:=by
    have h1:=mD (f:=Iu j y) (ah.take m) (λx=>eh _);rw[zO]at h1;omega
   have ahV:Lm.length<=2199028499458:=(by rw[hLm.o,zH];omega);clear SL;obtain⟨A7,c7,rfl⟩:=hI.fo.ol.form;have ahW:=hI.fo.hb.size;by_cases tY:m<k
   .obtain⟨z,hz⟩:=av (l:=ah) (i:=m) oQ;obtain⟨_,_,e,_,q2⟩:=dN uA.o hz;injection e with e
    injection e with e1 e2
    subst e1 e2;have mV:∀W,Bw w W->W.cell? ⟨g3,wS+m,none⟩=some (.string z):=λW hW=>(hW.cell (p:=⟨g3,wS+m,none⟩) YL).trans q2
    have q3:=mV wr hI.fo.hb;have q1:=Ah.o wr hI.fo.hb;have htw:=Lq (i:=j) (y:=y) hz;have f0:=aH m;have f1:(m:Int)<(k:Int):=oQ;have f2:=aV m ah.length;have f3:m<ah.length:=oQ;have fX:Lm.length+1<=gg:=by unfold gg;omega
    obtain⟨y0,y1,y2,y3,y4⟩:=hI.cells;replace y1:wr.cell? ⟨gi,1,none⟩=some (.slice (some ⟨g3,wS,none⟩) ah.length d2):=y1;clear q2 y0 y2 y3 y4;replace⟨mV,fX,htw,hI,hz⟩:=H5 mV fX htw hI hz;by_cases Ta:y=z
    .have wE:(y.toList==z.toList)=true:=(by rw[ji];exact zW Ta);have Aj:Hid (Lm++[⟨4,2,62,1,j,0⟩]=L2++(ah.take (m+1)).flatMap (Iu j y)):=by
      show _=_
      rw[htw.o,if_pos Ta,hLm.o,zR]
     replace Ta:=Hd Ta;go_upto_region 19 with fail
     go_quiet (fail);have eE:=Hd (hI.o.stay (below_drewN bR nq));have ahX:=eE.o.fo.hb.size;go_wp2_with (first
      |(go_at_call 127;refine(kf.o 2 62 j _).eQ λW hW=>?_;have bn:=Hd (eE.o.stay hW);clear hW)
      |(at_builtin;refine Fu rfl (.tmp 76) (.tmp 79) _ rfl (m:=1) (news:=nZ ⟨4,2,62,1,j,0⟩) qx (bn.o.fo.ol.alloc _) rfl rfl (Src.lit (lu ⟨4,2,62,1,j,0⟩)) rfl (lz fX.o) (lA fX.o) (by have:=bn.o.fo.hb.size;simp;omega) ?_;intro v' w1 ax aw bu;obtain⟨B3,d3,rfl⟩:=ax.form;have dB:=Hd (bn.o.app (f:=⟨4,2,62,1,j,0⟩) aw ax);clear ax aw bu))
     go_roundw
     .exact⟨m+1,_,oQ,gQ,Aj,dB.o⟩
     exact mQ
    .have wE:(y.toList==z.toList)=false:=(by rw[ji];exact zV Ta);have Aj:Hid (Lm=L2++(ah.take (m+1)).flatMap (Iu j y)):=by
      show _=_
      rw[htw.o,if_neg Ta,zT,hLm.o]
     replace Ta:=Hd Ta;go_upto_region 19 with fail
     go_quiet (fail);have eE:=Hd (hI.o.stay (below_drewN bR nq));go_wp2;go_roundw
     .exact⟨m+1,Lm,oQ,gQ,Aj,eE.o⟩
     exact mQ
   .have f1:¬(m:Int)<(k:Int):=oQ;obtain rfl:m=k:=oQ;have hfn:Hid (Lm=L++aO (yd l ah j) 0 (ah.take (m+1))):=by show _=_;rw[acO.o,hLm.o]
    replace hI:=Hd hI;go_wp2;go_roundw
    .exact⟨m+1,Lm,oQ,gQ,hfn,hI.o⟩
    exact mQ
  .have g4':=jS k ah.length;obtain rfl:k=ah.length:=oQ;have UC:Lk=L++aO (yd l ah j) 0 ah:=by have:=IY.o;rwa [zL]at this
   have nk:ve q++aO (BU l q) 0 (q.items.take (j+1))=Lk++((if jl ⟨neg,ah,iv,lo,hi⟩then [⟨4,3,63,1,j,0⟩]else [])++(if aM q iv<(j:Int)then [⟨4,4,64,1,j,0⟩]else [])):=(by rw[Fw.o,Qq.o,UC,zR]);clear UC;obtain⟨rb,hrb⟩:=aB (decide (jl ⟨neg,ah,iv,lo,hi⟩))
   have YM:(if jl ⟨neg,ah,iv,lo,hi⟩then [(⟨4,3,63,1,j,0⟩:Fg)]else [])=if rb=true then [⟨4,3,63,1,j,0⟩]else []:=by rw[hrb];simp
   rw[YM]at nk;clear YM;have rI:rb=decide (lo<1\/hi<lo\/4<hi):=by rw[hrb];unfold jl;rfl
   clear hrb;have fS:=λW hW=>k2.o iv W hW
   obtain⟨ii,Qr⟩:=aB (aM q iv)
   rw[<-Qr]at fS nk;replace⟨nk,fS,Qr,hI⟩:=H4 nk fS Qr hI;go_upto_region 21 with fail
   go_cut [95] (λs wx=>s=.bool rb/\FI l A c q ⟨some ⟨g,off,none⟩,c1,A2,c2,A3,c3⟩ ⟨neg,ah,iv,lo,hi⟩ (.slice B2 ah.length d2) gi w wx (.slice A6 Lk.length c6) Lk)
   .by_cases p1:lo<1
    .have e:rb=true:=(by rw[rI];exact zW (.inl p1));subst e;replace rI:=Hd rI;go_wp2
     all_goals(go_meet;exact⟨rfl,hI.o⟩)
    by_cases p2:hi<lo
    .have e:rb=true:=(by rw[rI];exact zW (.inr (.inl p2)));subst e;replace rI:=Hd rI;go_wp2
     all_goals(go_meet;exact⟨rfl,hI.o⟩)
    by_cases p3:4<hi
    .have e:rb=true:=(by rw[rI];exact zW (.inr (.inr p3)));subst e;replace rI:=Hd rI;go_wp2
     all_goals(go_meet;exact⟨rfl,hI.o⟩)
    .have e:rb=false:=(by rw[rI];exact zV oQ);subst e;replace rI:=Hd rI;go_wp2
     all_goals(go_meet;exact⟨rfl,hI.o⟩)
   obtain⟨rfl,bn⟩:=hcut;clear y0 y1 y2 y3 y4 y5 hI;have hI:=Hd bn;clear bn;replace rI:=Hd rI;go_upto_if 95 with fail
   go_cut [5] (λv wx=>∃L2,Hid (L2=Lk++if rb=true then [⟨4,3,63,1,j,0⟩]else [])/\FI l A c q ⟨some ⟨g,off,none⟩,c1,A2,c2,A3,c3⟩ ⟨neg,ah,iv,lo,hi⟩ (.slice B2 ah.length d2) gi w wx v L2)
   .cases rb with
    |true=>
     have fX:Lk.length+1<=gg:=(by unfold gg;omega);replace fX:=Hd fX;go_wp2_with (first
      |(go_at_call 127;refine(kf.o 3 63 j _).eQ λW hW=>?_;have bn:=Hd (hI.o.stay hW);clear hW)
      |(at_builtin;refine Fu rfl (.tmp 96) (.tmp 99) _ rfl (m:=1) (news:=nZ ⟨4,3,63,1,j,0⟩) qx (bn.o.fo.ol.alloc _) rfl rfl (Src.lit (lu ⟨4,3,63,1,j,0⟩)) rfl (lz fX.o) (lA fX.o) (by have:=bn.o.fo.hb.size;simp;omega) ?_;intro v' w1 ax aw bu;obtain⟨B3,d3,rfl⟩:=ax.form;have dB:=Hd (bn.o.app (f:=⟨4,3,63,1,j,0⟩) aw ax);clear ax aw bu))
     all_goals(go_meet;exact⟨_,rfl,dB.o⟩)
    |false=>
     go_wp2
     all_goals(go_meet;exact⟨_,(zT Lk).symm,hI.o⟩)
   obtain⟨L2,jn,bn⟩:=hcut;have UB:L2.length<=2199027450882:=by
    rw[jn.o,zH];have:(if rb=true then [(⟨4,3,63,1,j,0⟩:Fg)]else []).length<=1:=eh _;omega
   have tH:ve q++aO (BU l q) 0 (q.items.take (j+1))=L2++(if ii<(j:Int)then [⟨4,4,64,1,j,0⟩]else []):=(by rw[nk.o,jn.o,zR]);clear nk hI;have fX:L2.length+1<=gg:=by unfold gg;omega
   obtain⟨A8,c8,rfl⟩:=bn.fo.ol.form;obtain⟨x0,x1,x2,x3,x4,x5,x6⟩:=nU bn.fo.sq.b1;obtain⟨_,_,y2,_,_⟩:=bn.cells;simp only at x0 x3 x6 y2;have k3:=Hd (fS.o _ bn.fo.hb);have ahY:=bn.fo.hb.size;have hI:=Hd bn;clear bn;replace fX:=Hd fX;by_cases tE:ii<(j:Int)
   .rw[if_pos tE]at tH;replace tH:=Hd tH;go_wp2_with (first
     |(go_at_call 129;refine k3.o.mono ?_;rintro e W ⟨rfl,hW⟩;have bn:=Hd (hI.o.stay hW);clear hW)
     |(go_at_call 127;refine(kf.o 4 64 j _).eQ λW hW=>?_;have dB:=Hd (bn.o.stay hW);clear hW)
     |(at_builtin;refine Fu rfl (.tmp 108) (.tmp 111) _ rfl (m:=1) (news:=nZ ⟨4,4,64,1,j,0⟩) qx (dB.o.fo.ol.alloc _) rfl rfl (Src.lit (lu ⟨4,4,64,1,j,0⟩)) rfl (lz fX.o) (lA fX.o) (by have:=dB.o.fo.hb.size;simp;omega) ?_;intro v' w1 ax aw bu;obtain⟨B3,d3,rfl⟩:=ax.form;have np:=Hd (dB.o.app (f:=⟨4,4,64,1,j,0⟩) aw ax);clear ax aw bu))
    go_roundw
    .exact ym.mk (j+1) oQ gQ (by rw[bz.o]) (by rw[tH.o];exact np.o.fo)
    exact mQ
   .rw[if_neg tE,zT]at tH;replace tH:=Hd tH;go_wp2_with (go_at_call 129;refine k3.o.mono ?_;rintro e W ⟨rfl,hW⟩;have bn:=Hd (hI.o.stay hW);clear hW);go_roundw
    .exact ym.mk (j+1) oQ gQ (by rw[bz.o]) (by rw[tH.o];exact bn.o.fo)
    exact mQ
 .have g1:=jS j q.items.length;obtain rfl:j=q.items.length:=oQ;have uw:=Lp q;rw[uw];have UC:R0=L++if q.items.all (·.neg)=true then [⟨5,0,65,1,0,0⟩]else []:=by rw[Fv.o,hL,zL,zR]
  generalize (q.items.all (·.neg))=an at*;have hsk:=hI.hb.size;have fX:L.length+1<=gg:=by unfold gg;omega
  replace⟨fX,hI,hL⟩:=H3 fX hI hL;clear uw;cases an with
  |true=>
   have ae:Hid (L++[⟨5,0,65,1,0,0⟩]=R0):=UC.symm;clear UC;go_wp2_with (first
    |(go_at_call 127;refine(k65.o _).eQ λW hW=>?_;have bn:=Hd (hI.o.stay hW);clear hW)
    |(at_builtin;refine Fu rfl (.tmp 115) (.tmp 117) _ rfl (m:=1) (news:=nZ ⟨5,0,65,1,0,0⟩) qx (bn.o.ol.alloc _) rfl rfl (Src.lit (lu ⟨5,0,65,1,0,0⟩)) rfl (lz fX.o) (lA fX.o) (by have:=bn.o.hb.size;simp;omega) ?_;intro v' w1 ax aw bu;obtain⟨B3,d3,rfl⟩:=ax.form;have dB:=Hd (bn.o.app (f:=⟨5,0,65,1,0,0⟩) aw ax);clear ax aw bu))
   go_ret;exact iy.mk ae.o dB.o.ol dB.o.hb
  |false=>
   have ae:Hid (L=R0):=by show _=_;rw[UC];simp
   clear UC;go_wp2;go_ret;exact iy.mk ae.o hI.o.ol hI.o.hb
end dR
