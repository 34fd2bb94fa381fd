/- The program's Uses and mixed. -/
import Derived.Test.YtjbcbibkhalagaaGreatDoorG7
namespace Go.Proofs.YtjbcbibkhalagaaGreatDoor
set_option maxRecDepth 100000
set_option maxHeartbeats 16000000
open Proofs.Tryz Go.RowKit Go.Deep Go.Maps
set_option linter.unusedVariables false
set_option linter.unusedSimpArgs false
def CN (q:Qy)(t:List Nd)(P:Nd->Bool)(j:Nat)(f:Lit->Option Int):Prop:=∀k:Nat,0<=(f (ki k)).getD 0/\(f (ki k)).getD 0<=(j:Int)/\(0<(f (ki k)).getD 0<->(t.take j).any (λx=>decide (aM q x.v=(k:Int))&&P x)=true)
theorem CN.zero (q t P):CN q t P 0 (λ_=>none):=λk=>by simp
theorem qv {t:List Nd}{j x}(p)(h:t[j]? =some x):(t.take (j+1)).any p=((t.take j).any p||p x):=by
 rw[zJ,h,List.any_append];simp
theorem CN.skip {q t P j f x}(h:CN q t P j f)(hx:t[j]? =some x)(hn:P x=false\/aM q x.v<0):CN q t P (j+1) f:=λk=>by
 obtain⟨h1,h2,h3⟩:=h k;refine⟨h1,oQ,?_⟩;rw[qv _ hx,h3];have:(decide (aM q x.v=(k:Int))&&P x)=false:=by
  rcases hn with hn |hn
  .rw[hn,Bool.and_false]
  .rw[zV oQ,Bool.false_and]
 rw[this,Bool.or_false]
theorem CN.put {q t P}{j i:Nat}{f x}(h:CN q t P j f)(hx:t[j]? =some x)(hi:aM q x.v=(i:Int))(hp:P x=true):CN q t P (j+1) (E4 f (ki i) ((f (ki i)).getD 0+1)):=λk=>by
 rw[qv _ hx];by_cases e:k=i
 .subst e;obtain⟨h1,h2,h3⟩:=h k;rw[px];refine⟨by show 0<=(f (ki k)).getD 0+1;omega,by show(f (ki k)).getD 0+1<=_;omega,?_⟩;constructor
  .intro _;rw[zW hi,hp];simp
  .intro _;show 0<(f (ki k)).getD 0+1;omega
 .obtain⟨h1,h2,h3⟩:=h k;rw[nh (YA e)];refine⟨h1,oQ,?_⟩;rw[h3,zV (by omega:¬aM q x.v=(k:Int)),Bool.false_and,Bool.or_false]
def lM (x:Nd):Bool:=decide (x.op=11)
structure US (q:Qy)(s:fV)(w wr:World)(m0 m1 m2 m3:Nat)(f1 f2 f3:Lit->Option Int)(n1 n2 n3:Nat):Prop where
 hb:Bw w wr
 b0:ao wr w.heap.size 31 (qV q s)
 b1:ao wr (w.heap.size+1) 184 [.slice none 0 0,.slice none 0 0,.slice none 0 0]
 nm:∃f,cV 9 wr m0 q.items.length f/\ni (lZ q) f
 p1:cV 3 wr m1 n1 f1
 p2:cV 3 wr m2 n2 f2
 p3:cV 3 wr m3 n3 f3
 lo:w.heap.size+1<m0/\m0<m1/\m1<m2/\m2<m3
section
variable {q:Qy}{s:fV}{w wr W w1:World}{m0 m1 m2 m3 n1 n2 n3:Nat}{f1 f2 f3 g:Lit->Option Int}
theorem US.stay (h:US q s w wr m0 m1 m2 m3 f1 f2 f3 n1 n2 n3)(hb:Bw wr W):US q s w W m0 m1 m2 m3 f1 f2 f3 n1 n2 n3:=
 ⟨h.hb.trans (hb.mono h.hb.size),h.b0.stay hb,h.b1.stay hb,let ⟨f,a,b⟩:=h.nm;⟨f,a.stay hb,b⟩,h.p1.stay hb,h.p2.stay hb,h.p3.stay hb,h.lo⟩
theorem US.mono {a b c}(h:US q s w wr m0 m1 m2 m3 f1 f2 f3 n1 n2 n3)(h1:n1<=a)(h2:n2<=b)(h3:n3<=c):US q s w wr m0 m1 m2 m3 f1 f2 f3 a b c:=⟨h.hb,h.b0,h.b1,h.nm,h.p1.mono h1,h.p2.mono h2,h.p3.mono h3,h.lo⟩
theorem US.YC (h:US q s w wr m0 m1 m2 m3 f1 f2 f3 n1 n2 n3)(hm:cV 3 w1 m1 (n1+1) g)(hg:wr.grownBy w1 (some m1)):US q s w w1 m0 m1 m2 m3 g f2 f3 (n1+1) n2 n3:=by
 obtain⟨l0,l1,l2,l3⟩:=h.lo;exact⟨h.hb.grown hg h.hb.size (λq hq=>by injection hq with hq;omega),h.b0.grown hg (λe=>by injection e with e;omega),h.b1.grown hg (λe=>by injection e with e;omega),let ⟨f,a,b⟩:=h.nm;⟨f,a.kept hg (λe=>by injection e with e;omega),b⟩,hm,h.p2.kept hg (λe=>by injection e with e;omega),h.p3.kept hg (λe=>by injection e with e;omega),h.lo⟩
theorem US.acy (h:US q s w wr m0 m1 m2 m3 f1 f2 f3 n1 n2 n3)(hm:cV 3 w1 m2 (n2+1) g)(hg:wr.grownBy w1 (some m2)):US q s w w1 m0 m1 m2 m3 f1 g f3 n1 (n2+1) n3:=by
 obtain⟨l0,l1,l2,l3⟩:=h.lo;exact⟨h.hb.grown hg h.hb.size (λq hq=>by injection hq with hq;omega),h.b0.grown hg (λe=>by injection e with e;omega),h.b1.grown hg (λe=>by injection e with e;omega),let ⟨f,a,b⟩:=h.nm;⟨f,a.kept hg (λe=>by injection e with e;omega),b⟩,h.p1.kept hg (λe=>by injection e with e;omega),hm,h.p3.kept hg (λe=>by injection e with e;omega),h.lo⟩
theorem US.acz (h:US q s w wr m0 m1 m2 m3 f1 f2 f3 n1 n2 n3)(hm:cV 3 w1 m3 (n3+1) g)(hg:wr.grownBy w1 (some m3)):US q s w w1 m0 m1 m2 m3 f1 f2 g n1 n2 (n3+1):=by
 obtain⟨l0,l1,l2,l3⟩:=h.lo;exact⟨h.hb.grown hg h.hb.size (λq hq=>by injection hq with hq;omega),h.b0.grown hg (λe=>by injection e with e;omega),h.b1.grown hg (λe=>by injection e with e;omega),let ⟨f,a,b⟩:=h.nm;⟨f,a.kept hg (λe=>by injection e with e;omega),b⟩,h.p1.kept hg (λe=>by injection e with e;omega),h.p2.kept hg (λe=>by injection e with e;omega),hm,h.lo⟩
theorem US.new (h:Bw w wr)(b0:ao wr w.heap.size 31 (qV q s))(b1:ao wr (w.heap.size+1) 184 [.slice none 0 0,.slice none 0 0,.slice none 0 0])(nm:∃f,cV 9 wr m0 q.items.length f/\ni (lZ q) f)(l0:w.heap.size+1<m0):
  US q s w (((wr.alloc (.map #[] 0)).alloc (.map #[] 0)).alloc (.map #[] 0)) m0 wr.heap.size (wr.heap.size+1) (wr.heap.size+1+1) (λ_=>none) (λ_=>none) (λ_=>none) 0 0 0:=by
 have hb:=h.size;obtain⟨f,hm,hn⟩:=nm;have B0:=hm.lt;have h3:Bw wr (((wr.alloc (.map #[] 0)).alloc (.map #[] 0)).alloc (.map #[] 0)):=((bA).alloc sJ _).alloc (by simp;omega) _;refine⟨h.trans (h3.mono hb),b0.stay h3,b1.stay h3,⟨f,hm.stay h3,hn⟩,?_,?_,cV.GX sJ,l0,B0,oQ,oQ⟩
 .exact(cV.made _ wr).stay ((bA).alloc sJ _)
 .exact(cV.GX sJ).stay bA
end
structure UI (q:Qy)(s:fV)(t:List Nd)(w wr:World)(m0 m1 m2 m3:Nat)(j:Nat)(f1 f2 f3:Lit->Option Int):Prop where
 us:US q s w wr m0 m1 m2 m3 f1 f2 f3 j j j
 c1:CN q t (λx=>bC x.op) j f1
 c2:CN q t lM j f2
 c3:CN q t (λx=>dm x.op) j f3
def acA (q:Qy)(s:fV)(t:List Nd)(w wr:World)(m0 m1 m2 m3:Nat)(i:Value):Prop:=∃(j:Nat)(f1 f2 f3:Lit->Option Int),j<=t.length/\i=.int .i64 j/\UI q s t w wr m0 m1 m2 m3 j f1 f2 f3
theorem CN.list {q t P f}(h:CN q t P t.length f)(n):(List.range n).filter (oE f)=(List.range n).filter λ(i:Nat)=>t.any λx=>decide (aM q x.v=(i:Int))&&P x:=by
 apply List.filter_congr;intro i _;have:=(h i).2.2;rw[zL]at this;unfold oE;rw[Bool.eq_iff_iff,decide_eq_true_iff];exact this
def oG (q:Qy)(t:List Nd)(w:World)(e:Ending)(w':World):Prop:=∃(v1 v2 v3:Value)(L2 L3:List Nat),e=.returned (.agg #[v1,v2,v3])/\OL w' w.heap.size eL 3 1 v1 (dn q t).length ((dn q t).map iJ)/\OL w' w.heap.size eL 3 1 v2 L2.length (L2.map iJ)/\OL w' w.heap.size eL 3 1 v3 L3.length (L3.map iJ)/\Bw w w'
theorem zx:jV prog 184 3:=⟨_,underlying184,rfl,kQ⟩
theorem oG.mk {q t w w' v1 v2 v3}{L1 L2 L3:List Nat}(h0:L1=dn q t)(h1:OL w' w.heap.size eL 3 1 v1 L1.length (L1.map iJ))(h2:OL w' w.heap.size eL 3 1 v2 L2.length (L2.map iJ))(h3:OL w' w.heap.size eL 3 1 v3 L3.length (L3.map iJ))(hb:Bw w w'):oG q t w (.returned (.agg ⟨[v1,v2,v3]⟩)) w':=
 ⟨v1,v2,v3,L2,L3,rfl,h0▸h1,h2,h3,hb⟩
namespace dR
open cH
theorem Ur (q s A c F G t)(hs:jE q)(ht:tT t)(w)(R:QR w G q s)(hF:∀b,F b->b<w.heap.size)(r:Rd w F (.slice A t.length c) (.sl t.length (t.flatMap b9))):
  Cl 99 #[.agg ⟨qV q s⟩,.slice A t.length c] w (oG q t w):=by
 have h0:Bw w ((w.alloc (.cells ⟨qV q s⟩ 31)).alloc (.cells ⟨[.slice none 0 0,.slice none 0 0,.slice none 0 0]⟩ 184)):=(bA).alloc sJ _;have b0:ao ((w.alloc (.cells ⟨qV q s⟩ 31)).alloc (.cells ⟨[.slice none 0 0,.slice none 0 0,.slice none 0 0]⟩ 184)) w.heap.size 31 (qV q s):=(ao.new w _ _).alloc _;have b1:ao ((w.alloc (.cells ⟨qV q s⟩ 31)).alloc (.cells ⟨[.slice none 0 0,.slice none 0 0,.slice none 0 0]⟩ 184)) (w.heap.size+1) 184 [.slice none 0 0,.slice none 0 0,.slice none 0 0]:=ao.new' sJ;have kn:=CS q s G hs.il (λx hx=>(hs.it x hx).2) _ (R.under h0).lt (R.under h0).r1;have hsz:((w.alloc (.cells ⟨qV q s⟩ 31)).alloc (.cells ⟨[.slice none 0 0,.slice none 0 0,.slice none 0 0]⟩ 184)).heap.size=w.heap.size+1+1:=sJ;unfold Bw at kn;rw[hsz]at kn;have hUN:∀W,Below (w.heap.size+1+1) ((w.alloc (.cells ⟨qV q s⟩ 31)).alloc (.cells ⟨[.slice none 0 0,.slice none 0 0,.slice none 0 0]⟩ 184)) W->(∃f,cV 9 W (w.heap.size+1+1+1) q.items.length f/\ni (lZ q) f)->
   US q s w (((W.alloc (.map #[] 0)).alloc (.map #[] 0)).alloc (.map #[] 0)) (w.heap.size+1+1+1) W.heap.size (W.heap.size+1) (W.heap.size+1+1) (λ_=>none) (λ_=>none) (λ_=>none) 0 0 0:=λW hW nm=>
  US.new (h0.trans (hW.mono oQ)) (b0.under hW oQ) (b1.under hW oQ) nm oQ
 have SL:∀w:World,(Instr.makeMap 214 none).run prog w=.ok (.map (some w.heap.size)) (w.alloc (.map #[] 0)):=λw=>by simp[Instr.makeMap,run_underlying underlying214,asInt,asIntOf,Result.andThen]
 have CV:=tS
 have kr:∀(m n:Nat) f W,ao W w.heap.size 31 (qV q s)->cV 3 W m n f->Cl 142 #[.map (some m),.pointer (some ⟨w.heap.size,0,none⟩)] W (j9 ((List.range q.items.length).filter (oE f)) W):=λm n f W hq hM=>La q s w.heap.size m n f hs.il W hq hM
 have cc:∀W,ao W w.heap.size 31 (qV q s)->W.cell? ⟨w.heap.size,0,none⟩=some (.slice s.a1 q.items.length s.c1):=λW h=>h.cell 0
 have y0:=b0.cell 0;have y1:=b0.cell 1;have y2:=b0.cell 2;have y3:=b0.cell 3;have y4:=b0.cell 4;have y5:=b0.cell 5;have y6:=b0.cell 6;have hl:=ht.1;have wN:∀x∈t,x.v.size<=1048576:=λx hx=>(ht.2 x hx).1
 have iT:=hs.il;obtain⟨A1,c1,A2,c2,A3,c3⟩:=s;simp only[qV,zY,xA]at kn y0 y1 y2 y3 y4 y5 y6 |-;replace⟨r,hF,kn,hUN,kr,wN,cc⟩:=H7 r hF kn hUN kr wN cc;clear hs ht R h0 b0 b1 hsz;go_enter func99,ntmps99;go_wp2_with (go_at_call 54;refine kn.o.mono ?_;rintro e W ⟨rfl,hm,hW⟩;have Qd:=hUN.o W hW hm;have hWm:w.heap.size+1+1+1<W.heap.size:=let ⟨_,hm,_⟩:=hm;hm.lt;replace Qd:=Hd Qd;clear hW hm);clear y0 y1 y2 y3 y4 y5 y6;go_loopw [21] (λi wr=>acA q ⟨A1,c1,A2,c2,A3,c3⟩ t w wr (w.heap.size+1+1+1) W.heap.size (W.heap.size+1) (W.heap.size+1+1) i) (λi _=>t.length- (intOf i).toNat)
 .exact⟨0,_,_,_,zE _,rfl,Qd.o,CN.zero _ _ _,CN.zero _ _ _,CN.zero _ _ _⟩
 clear Qd;obtain⟨j,f1,f2,f3,hj,rfl,hI⟩:=hrel;have rA:=hI.us.hb.size;by_cases hlt:j<t.length
 .obtain⟨x,hx⟩:=av hlt;obtain⟨g,off,rfl,_,a0,a1,a2,a3,a4,a5⟩:=dk (r.o.under hI.us.hb hF.o) hx;have g1:=aH j;have g2:=aV j t.length;have wK:=wN.o x (zA hx);have pw:ao (wr.alloc (.cells ⟨cJ x⟩ 63)) wr.heap.size 63 (cJ x):=ao.new _ _ _;have tF:=hI.us.stay (bX (.cells ⟨cJ x⟩ 63));obtain⟨f,hM,hN⟩:=tF.nm;have lk:=hM.look wK;rw[hN x.v,fW]at lk;have zy:=hI.us.p3.lt;obtain⟨ba,fk⟩:=aB (bC x.op)
  obtain⟨ag,et⟩:=aB (dm x.op)
  have kb:∀W,Cl 91 #[.int .i64 x.op] W λe w'=>e=.returned (.bool ba)/\w'=W:=λW=>by rw[fk];exact CM x.op W
  have ka:∀W,Cl 92 #[.int .i64 x.op] W λe w'=>e=.returned (.bool ag)/\w'=W:=λW=>by rw[et];exact GN x.op W
  have S6:j<=1048576:=oQ;by_cases hu:aM q x.v<0
  .rw[show decide (0<=aj (lZ q) x.v)=false from zV (by unfold aM at hu;omega)]at lk;have bn:UI q ⟨A1,c1,A2,c2,A3,c3⟩ t w (wr.alloc (.cells ⟨cJ x⟩ 63)) (w.heap.size+1+1+1) W.heap.size (W.heap.size+1) (W.heap.size+1+1) (j+1) f1 f2 f3:=⟨tF.mono oQ oQ oQ,hI.c1.skip hx (.inr hu),hI.c2.skip hx (.inr hu),hI.c3.skip hx (.inr hu)⟩;simp only[cJ]at bn lk;replace⟨bn,hu,hx,fk,et⟩:=H5 bn hu hx fk et;clear kb ka hM hN hI tF pw;go_wp2_with fail;go_roundw
   .exact⟨j+1,f1,f2,f3,oQ,gQ,bn.o⟩
   exact mQ
  obtain⟨i,it,hi,ahE,hit,_⟩:=uX (Int.not_lt.1 hu);have PV:=hi;unfold aM at PV;rw[PV,yf oQ,show decide (0<=(i:Int))=true from zW oQ]at lk;have J0:i<=4194304:=oQ;have lk1:=tF.p1.rB J0;have XB:=tF.p2.rB J0;have S7:=tF.p3.rB J0;obtain⟨e1,e2,_⟩:=hI.c1 i;obtain⟨e3,e4,_⟩:=hI.c2 i;obtain⟨e5,e6,_⟩:=hI.c3 i;obtain⟨c1v,Qe⟩:=aB ((f1 (ki i)).getD 0)
  obtain⟨c2v,IL⟩:=aB ((f2 (ki i)).getD 0)
  obtain⟨c3v,Fl⟩:=aB ((f3 (ki i)).getD 0)
  rw[<-Qe]at lk1 e1 e2;rw[<-IL]at XB e3 e4;rw[<-Fl]at S7 e5 e6;have v1:(Lit.int .i64 (c1v+1)).wf=true:=WalkArith.wf_i64 oQ;have v2:(Lit.int .i64 (c2v+1)).wf=true:=WalkArith.wf_i64 oQ;have v3:(Lit.int .i64 (c3v+1)).wf=true:=WalkArith.wf_i64 oQ;have YD:=λ(h:bC x.op=true)=>hI.c1.put hx hi h
  have cp2:=λ(h:lM x=true)=>hI.c2.put hx hi h
  have cp3:=λ(h:dm x.op=true)=>hI.c3.put hx hi h
  have cs1:=λ(h:bC x.op=false)=>hI.c1.skip hx (.inl h)
  have CY:=λ(h:lM x=false)=>hI.c2.skip hx (.inl h)
  have Us:=λ(h:dm x.op=false)=>hI.c3.skip hx (.inl h)
  rw[<-Qe]at YD;rw[<-IL]at cp2;rw[<-Fl]at cp3;have z0:=pw.cell 0;simp only[cJ,zY]at tF lk lk1 XB S7 pw z0;replace⟨tF,pw,YD,cp2,cp3,cs1,CY,Us,hI,hx,fk,et⟩:=uM tF pw YD cp2 cp3 cs1 CY Us hI hx fk et;replace⟨hi,PV,hit,Qe,IL,Fl,kb,ka⟩:=H8 hi PV hit Qe IL Fl kb ka;clear hM hN hu;by_cases h4:x.op=4
  .have jJ:bC x.op=true:=(by rw[h4];rfl);have Ut:dm x.op=false:=by rw[h4];rfl
   have h11:lM x=false:=(by unfold lM;rw[h4];rfl);obtain rfl:ba=true:=fk.o.trans jJ;obtain rfl:ag=false:=et.o.trans Ut;have rC:(x.op==11)=false:=cM oQ;have hT:=Hd (xW (YD.o jJ) (xW (CY.o h11) (Us.o Ut)));replace h4:=Hd h4;clear jJ Ut h11 fk et;go_wp2_with (first
    |(go_at_call 91;refine(kb.o _).aR ?_)
    |(go_at_call 92;refine(ka.o _).aR ?_)
    |(refine ay (.mapUpdate 214 (.tmp 37) (.tmp 38) (.tmp 40)) rfl ?_;refine ln rfl (.tmp 37) (.tmp 38) (.tmp 40) rfl rfl tF.o.p1 S6 rfl rfl J0 v1 ?_;intro w1 Lb Fm;have tG:=tF.o.YC Lb Fm;have dJ:=pw.o.grown Fm (λe=>by injection e with e;omega);have z0:=dJ.cell 0;simp only[zY]at z0;have XB:=tG.p2.rB J0;have S7:=tG.p3.rB J0;rw[<-IL.o]at XB;rw[<-Fl.o]at S7;replace⟨tG,dJ⟩:=H2 tG dJ;clear Lb Fm))
   go_roundw
   .exact⟨j+1,_,_,_,oQ,gQ,tG.o.mono oQ oQ oQ,hT.o.1,hT.o.2.1,hT.o.2.2⟩
   exact mQ
  by_cases h11:x.op=11
  .have jJ:bC x.op=true:=(by rw[h11];rfl);have Ut:dm x.op=false:=by rw[h11];rfl
   have Fo:lM x=true:=(by unfold lM;rw[h11];rfl);obtain rfl:ba=true:=fk.o.trans jJ;obtain rfl:ag=false:=et.o.trans Ut;have rC:(x.op==11)=true:=mf h11;have hT:=Hd (xW (YD.o jJ) (xW (cp2.o Fo) (Us.o Ut)));replace⟨h4,h11⟩:=H2 h4 h11;clear jJ Ut Fo fk et;go_wp2_with (first
    |(go_at_call 91;refine(kb.o _).aR ?_)
    |(go_at_call 92;refine(ka.o _).aR ?_)
    |(refine ay (.mapUpdate 214 (.tmp 37) (.tmp 38) (.tmp 40)) rfl ?_;refine ln rfl (.tmp 37) (.tmp 38) (.tmp 40) rfl rfl tF.o.p1 S6 rfl rfl J0 v1 ?_;intro w1 Lb Fm;have tG:=tF.o.YC Lb Fm;have dJ:=pw.o.grown Fm (λe=>by injection e with e;omega);have z0:=dJ.cell 0;simp only[zY]at z0;have XB:=tG.p2.rB J0;have S7:=tG.p3.rB J0;rw[<-IL.o]at XB;rw[<-Fl.o]at S7;replace⟨tG,dJ⟩:=H2 tG dJ;clear Lb Fm)
    |(refine ay (.mapUpdate 214 (.tmp 44) (.tmp 45) (.tmp 47)) rfl ?_;refine ln rfl (.tmp 44) (.tmp 45) (.tmp 47) rfl rfl tG.o.p2 S6 rfl rfl J0 v2 ?_;intro w2 YE Uu;have Lc:=tG.o.acy YE Uu;have Uv:=dJ.o.grown Uu (λe=>by injection e with e;omega);have z0:=Uv.cell 0;simp only[zY]at z0;have S7:=Lc.p3.rB J0;rw[<-Fl.o]at S7;replace⟨Lc,Uv⟩:=H2 Lc Uv;clear YE Uu))
   go_roundw
   .exact⟨j+1,_,_,_,oQ,gQ,Lc.o.mono oQ oQ oQ,hT.o.1,hT.o.2.1,hT.o.2.2⟩
   exact mQ
  have jJ:bC x.op=false:=by unfold bC;rw[zV h4,zV h11];rfl
  have Fo:lM x=false:=zV h11;obtain rfl:ba=false:=fk.o.trans jJ;have rC:(x.op==11)=false:=cM h11;replace⟨h4,h11⟩:=H2 h4 h11;cases ag with
  |true=>
   have hT:=Hd (xW (cs1.o jJ) (xW (CY.o Fo) (cp3.o et.o.symm)));clear jJ Fo fk et;go_wp2_with (first
    |(go_at_call 91;refine(kb.o _).aR ?_)
    |(go_at_call 92;refine(ka.o _).aR ?_)
    |(refine ay (.mapUpdate 214 (.tmp 51) (.tmp 52) (.tmp 54)) rfl ?_;refine ln rfl (.tmp 51) (.tmp 52) (.tmp 54) rfl rfl tF.o.p3 S6 rfl rfl J0 v3 ?_;intro w3 YF Uw;have tG:=tF.o.acz YF Uw;have dJ:=pw.o.grown Uw (λe=>by injection e with e;omega);have z0:=dJ.cell 0;simp only[zY]at z0;replace⟨tG,dJ⟩:=H2 tG dJ;clear YF Uw))
   go_roundw
   .exact⟨j+1,_,_,_,oQ,gQ,tG.o.mono oQ oQ oQ,hT.o.1,hT.o.2.1,hT.o.2.2⟩
   exact mQ
  |false=>
   have hT:=Hd (xW (cs1.o jJ) (xW (CY.o Fo) (Us.o et.o.symm)));clear jJ Fo fk et;go_wp2_with (first
    |(go_at_call 91;refine(kb.o _).aR ?_)
    |(go_at_call 92;refine(ka.o _).aR ?_))
   go_roundw
   .exact⟨j+1,_,_,_,oQ,gQ,tF.o.mono oQ oQ oQ,hT.o.1,hT.o.2.1,hT.o.2.2⟩
   exact mQ
 .have g1:=jS j t.length;obtain rfl:j=t.length:=oQ;have az:(List.range q.items.length).filter (oE f1)=dn q t:=hI.c1.list q.items.length;replace az:=Hd az;have k1:=Hd (kr.o _ _ _ wr hI.us.b0 hI.us.p1);have k2:=Hd (λW2 (hW:Bw wr W2)=>kr.o _ _ _ W2 (hI.us.b0.stay hW) (hI.us.p2.stay hW));have k3:=Hd (λW2 (hW:Bw wr W2)=>kr.o _ _ _ W2 (hI.us.b0.stay hW) (hI.us.p3.stay hW));have hus:=Hd hI.us;clear hI;have Ld:=True.intro;have Le:=True.intro;go_wp2_with (first
   |(go_at_call 142;have _t:=Ld;clear Ld;refine k1.o.mono ?_;rintro e W2 ⟨v1,rfl,ax,J1⟩;obtain⟨D1,d1,rfl⟩:=ax.form;replace⟨ax,J1⟩:=H2 ax J1)
   |(go_at_call 142;have _t:=Le;clear Le;refine(k2.o W2 J1.o).mono ?_;rintro e W3 ⟨v2,rfl,iK,yk⟩;obtain⟨D2,d2,rfl⟩:=iK.form;replace⟨iK,yk⟩:=H2 iK yk)
   |(go_at_call 142;refine(k3.o W3 (J1.o.trans (yk.o.mono J1.o.size))).mono ?_;rintro e W4 ⟨v3,rfl,qM,qw⟩;obtain⟨D3,d3,rfl⟩:=qM.form;replace⟨qM,qw⟩:=H2 qM qw;have Fp:=J1.o.trans (yk.o.mono J1.o.size);have J2:=Fp.trans (qw.o.mono Fp.size);have G4:=Hd (hus.o.b1.stay J2);replace J2:=Hd J2;clear Fp)
   |(refine ay (.store 184 (.tmp 4) (.tmp 66)) rfl ?_;refine eU rfl 184 (.tmp 4) (.tmp 66) rfl (cs':=[.slice D1 ((List.range q.items.length).filter (oE f1)).length d1,.slice D2 ((List.range q.items.length).filter (oE f2)).length d2,.slice D3 ((List.range q.items.length).filter (oE f3)).length d3]) G4.o zx rfl rfl rfl rfl ?_;intro w1 cL aw))
  have eC:=J1.o.size;have ia:=yk.o.size;have hne:∀{v:Value}{B n:Nat}{ds:List D},OL W4 B eL 3 1 v n ds->v.ownBlock=none\/v.ownBlock≠some (w.heap.size+1):=λh=>.inr (h.aU G4.o dQ)
  have h1:=((ax.o.stay yk.o).stay qw.o);have h2:=(iK.o.stay qw.o);have h3:=qM.o;refine l5 rfl cL zx rfl rfl (oG.mk az.o ((h1.kept aw (hne h1) (λb h=>h.elim)).base rA) ((h2.kept aw (hne h2) (λb h=>h.elim)).base oQ) ((h3.kept aw (hne h3) (λb h=>h.elim)).base oQ) ?_);have BR:=hus.o.hb.trans (J2.o.mono rA);exact BR.grown aw BR.size (λq hq=>by injection hq with hq;omega)
theorem Qf (q s t G F v1 v2 v3)(hs:jE q)(w)(R:QR w G q s)(hF:∀b,F b->b<w.heap.size)(r:Rd w F v1 (.sl (dn q t).length ((dn q t).map iJ)))(h2:∃A n c,v2=.slice A n c)(h3:∃A n c,v3=.slice A n c):
  Cl 98 #[.agg ⟨qV q s⟩,.agg #[v1,v2,v3]] w λe w'=>e=.returned (.bool (iw q t))/\Bw w w':=by
 obtain⟨A4,c4,rfl,_,_⟩:=r.cU;obtain⟨B2,m2,d2,rfl⟩:=h2;obtain⟨B3,m3,d3,rfl⟩:=h3;have bL:Bw w ((w.alloc (.cells ⟨qV q s⟩ 31)).alloc (.cells ⟨[.slice A4 (dn q t).length c4,.slice B2 m2 d2,.slice B3 m3 d3]⟩ 184)):=(bA).alloc sJ _;have b0:ao ((w.alloc (.cells ⟨qV q s⟩ 31)).alloc (.cells ⟨[.slice A4 (dn q t).length c4,.slice B2 m2 d2,.slice B3 m3 d3]⟩ 184)) w.heap.size 31 (qV q s):=(ao.new w _ _).alloc _;have b1:ao ((w.alloc (.cells ⟨qV q s⟩ 31)).alloc (.cells ⟨[.slice A4 (dn q t).length c4,.slice B2 m2 d2,.slice B3 m3 d3]⟩ 184)) (w.heap.size+1) 184 [.slice A4 (dn q t).length c4,.slice B2 m2 d2,.slice B3 m3 d3]:=ao.new' sJ;have qL:(dn q t).length<=1048576:=zU (ky (p:=λi=>t.any λx=>decide (aM q x.v=(i:Int))&&bC x.op) q.items.length) hs.il;have hlt:∀(j i:Nat),(dn q t)[j]? =some i->i<q.items.length:=λj i h=>by
  have:=zA h;unfold dn at this;exact List.mem_range.1 (List.mem_filter.1 this).1
 have hR:=(R.under bL).r1;replace r:=r.under bL hF;have y0:=b0.cell 0;have u0:=b1.cell 0;obtain⟨b,hb⟩:=aB (iw q t)
 rw[<-hb];unfold iw at hb;have BZ:pQ q (dn q t) (dn q t).length=((dn q t).filter (mZ q)).length:=by unfold pQ;rw[zL]
 rw[<-BZ]at hb;clear BZ;generalize dn q t=L at*;obtain⟨A1,c1,A2,c2,A3,c3⟩:=s;simp only[qV,zY]at bL y0 u0 hR r |-;have YG:∀j,pQ q L j<=j:=λj=>zU (List.length_filter_le _ _) (List.length_take_le _ _)
 replace⟨hb,bL,hR,r,hlt,YG⟩:=H6 hb bL hR r hlt YG;clear R hs b0 b1 hF;go_enter func98,ntmps98;go_wp2;go_loopw [5,6,12] (λn m i wr=>∃j a b:Nat,j<=L.length/\i=.int .i64 j/\n=.int .i64 a/\m=.int .i64 b/\a+b<=j/\Hid (a+b=pQ q L j)/\wr=((w.alloc (.cells ⟨[.slice A1 q.items.length c1,.int .i64 q.mode,.int .i64 q.after,.slice A2 q.wh.length c2,.int .i64 q.within,.string q.au,.slice A3 q.ret.length c3]⟩ 31)).alloc (.cells ⟨[.slice A4 L.length c4,.slice B2 m2 d2,.slice B3 m3 d3]⟩ 184))) (λ_ _ i _=>L.length- (intOf i).toNat)
 .exact⟨0,0,0,zE _,rfl,rfl,rfl,nR,rfl,rfl⟩
 obtain⟨j,a,b2,hj,rfl,rfl,rfl,jX,Ac,rfl⟩:=hrel;by_cases hl:j<L.length
 .obtain⟨i,hi⟩:=av hl;have iT:=hlt.o j i hi;obtain⟨it,hit⟩:=av (l:=q.items) iT;obtain⟨g,off,D2,e2,rfl,_,_,a0,a1,a2,a3,a4⟩:=eV hR.o hit;obtain⟨g4,ahI,rfl,_,q0⟩:=r.o.at1 (i:=j) (y:=.int .i64 i) (by rw[zG,hi];rfl);have g1:=aH j;have g2:=aV j L.length;have g3:=aH i;have g4':=aV i q.items.length;have bz:=yj (q:=q) hi;have Ux:mZ q i=(it.neg||decide (1<it.hi)):=by unfold mZ;rw[hit]
  rw[Ux]at bz;have l4:a<=1048576:=oQ;have jJ:b2<=1048576:=oQ;replace⟨hi,hit,Ux⟩:=H3 hi hit Ux;generalize it.neg=ng at*;cases ng with
  |true=>
   have S3:Hid (a+1+b2=pQ q L (j+1)):=by show a+1+b2=_;rw[bz,<-Ac.o];simp;omega
   clear bz;go_wp2;go_roundw
   .exact⟨j+1,a+1,b2,oQ,gQ,gQ,rfl,oQ,S3,(by first|exact rfl |trivial)⟩
   exact mQ
  |false=>
   by_cases h1:1<it.hi
   .have S3:Hid (a+(b2+1)=pQ q L (j+1)):=by show a+(b2+1)=_;rw[bz,<-Ac.o];simp[h1];omega
    clear bz;go_wp2;go_roundw
    .exact⟨j+1,a,b2+1,oQ,gQ,rfl,gQ,oQ,S3,(by first|exact rfl |trivial)⟩
    exact mQ
   .have S3:Hid (a+b2=pQ q L (j+1)):=by show a+b2=_;rw[bz,<-Ac.o];simp[h1]
    clear bz;go_wp2;go_roundw
    .exact⟨j+1,a,b2,oQ,gQ,rfl,rfl,oQ,S3,(by first|exact rfl |trivial)⟩
    exact mQ
 .have g1:=jS j L.length;obtain rfl:j=L.length:=oQ;have l4:a<=1048576:=oQ;have jJ:b2<=1048576:=oQ;have ae:b=decide ((1:Int)<(a:Int)+(b2:Int)):=by
   rw[hb.o,<-Ac.o];rw[decide_eq_decide];omega
  replace ae:=Hd ae;go_wp2;go_ret;exact⟨fZ ae.o.symm,bL.o⟩
end dR
