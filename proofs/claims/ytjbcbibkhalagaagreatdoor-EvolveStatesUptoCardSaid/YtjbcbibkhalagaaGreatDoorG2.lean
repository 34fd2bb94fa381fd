/- What is wrong with an item by itself. -/
import Derived.Test.YtjbcbibkhalagaaGreatDoorD7
namespace Go.Proofs.YtjbcbibkhalagaaGreatDoor
set_option maxRecDepth 100000
set_option maxHeartbeats 16000000
open Proofs.Tryz Go.RowKit Go.Deep Go.Maps
set_option linter.unusedVariables false
set_option linter.unusedSimpArgs false
theorem CT {P t e size bytes}(T:nW P t e size bytes){A}(n cap m)(hm:m<=cap)(W)(hA:A=none\/∃g off,A=some ⟨g,off,none⟩):(Instr.slice t (.slice A n cap) none (some (.int .i64 m)) none).run P W=.ok (.slice A m cap) W:=by
 obtain⟨hs,⟨i,z,hi,hz,hsz,hb,EH⟩,hp⟩:=T;have h0:=aH m;have h1:(m:Int)<=(cap:Int):=oQ;rcases hA with rfl |⟨g,off,rfl⟩
 .simp[Instr.slice,run_underlying hs,Instr.sliceBounds,run_sliceBound,sizeOf,typeInfo,hi,h0,h1,hm]
 .simp[Instr.slice,run_underlying hs,Instr.sliceBounds,run_sliceBound,sizeOf,typeInfo,hi,h0,h1,hm,Addr.add]
theorem E6 {l:List ByteArray}{j y}(h:l[j]? =some y)(hd:(l.take j).Nodup)(hn:y∉l.take j):(l.take (j+1)).Nodup:=by
 rw[zJ,h];show(l.take j++[y]).Nodup
 rw[List.nodup_append];exact⟨hd,sJ,λa ha b hb=>by simp at hb;subst hb;exact λe=>hn (e▸ha)⟩
theorem Iy {l:List ByteArray}{j k:Nat}{y}(h:l[j]? =some y)(h2:l[k]? =some y)(hk:k<j):¬l.Nodup:=λhd=>by
 have:=(j5 l).1 hd j y h;exact this (List.mem_take_iff_getElem.2 ⟨k,by have:=(zC.1 h).1;omega,(zC.1 h2).2⟩)
namespace dR
open cH
theorem Ue (A c F l x A2 c2)(hl:iI l)(hx:x.ah.length<=1048576)(w)(hF:∀b,F b->b<w.heap.size)(r:Rd w F (.slice A l.length c) (.sl l.length (l.flatMap fj)))(r2:Rd w F (.slice A2 x.ah.length c2) (.sl x.ah.length (x.ah.flatMap aG))):
  Cl 90 #[.agg ⟨[.slice A l.length c]⟩,.agg ⟨dX x (.slice A2 x.ah.length c2)⟩] w λe w'=>e=.returned (.int .i64 (fN l x))/\Bw w w':=by
 have h0:=HB.new l A c x (.slice A2 x.ah.length c2) w;have qK:=hl.1;have k1:∀(n:ByteArray) W,Bw w W->Cl 66 #[.agg ⟨[.slice A l.length c]⟩,.string n] W λe w'=>e=.returned (.int .i64 (aj (aY l) n))/\Bw W w':=λn W hW=>ot A c F l n qK W (λb h=>zF (hF b h) hW.size) (r.under hW hF)
 obtain⟨b,hc⟩:=aB (fN l x)
 rw[<-hc];unfold fN jl at hc;have hcc:x.ah.length<=c2:=by obtain⟨_,_,e,h1,_⟩:=r2.cU;injection e with _ _ e;subst e;exact h1
 obtain⟨neg,ah,v,lo,hi⟩:=x;simp only[dX]at h0 hc hx r2 hcc |-;replace⟨hc,r,r2,hF,h0,k1⟩:=H6 hc r r2 hF h0 k1;go_enter func90,ntmps90;go_wp2;go_loopw [14] (λi wr=>∃j:Nat,j<=ah.length/\i=.int .i64 j/\HB l A c ⟨neg,ah,v,lo,hi⟩ (.slice A2 ah.length c2) w wr/\Hid ((ah.take j).all (λn=> !decide (lJ l n))=true)) (λi _=>ah.length- (intOf i).toNat)
 .exact⟨0,zE _,rfl,h0.o,rfl⟩
 clear h0;obtain⟨j,hj,rfl,hI,hp⟩:=hrel;by_cases hlt:j<ah.length
 .obtain⟨y,hy⟩:=av hlt;obtain⟨g,off,rfl,_,a0⟩:=dN (r2.o.under hI.1 hF.o) hy;obtain⟨y0,_,y1,_⟩:=hI.cells;have g0:=aH j;have g1:=aV j ah.length;have eW:=k1.o y;obtain⟨ti,wM⟩:=aB (aj (aY l) y)
  rw[<-wM]at eW;replace eW:=Hd eW;by_cases ha:ti<0
  .have hn:lJ l y:=(by unfold lJ;omega);have ae:b=61:=by rw[hc.o];exact if_pos (xM.2 ⟨y,zA hy,zW hn⟩)
   replace⟨ae,wM,hy,hI⟩:=H4 ae wM hy hI;go_wp2_with (go_at_call 66;refine(eW.o _ (by first|exact hI.o.1 |exact hI.o.1.drew |exact(hI.o.drewN _).1)).eQ λW hW=>?_;replace hI:=Hd (hI.o.stay (by first|exact hW |exact(below_drewN bR _).trans hW));clear hW);go_ret;exact⟨hY ae.o.symm,hI.o.1⟩
  .have hn:¬lJ l y:=(by unfold lJ;omega);have ej:=Hd (dG hy hp.o (by simp[hn]));replace⟨wM,hy,hI⟩:=H3 wM hy hI;go_wp2_with (go_at_call 66;refine(eW.o _ (by first|exact hI.o.1 |exact hI.o.1.drew |exact(hI.o.drewN _).1)).eQ λW hW=>?_;replace hI:=Hd (hI.o.stay (by first|exact hW |exact(below_drewN bR _).trans hW));clear hW);go_roundw
   .exact⟨j+1,oQ,gQ,hI.o,ej⟩
   exact mQ
 .have g1:=jS j ah.length;obtain rfl:j=ah.length:=oQ;have lK:=ft hp.o;have jj:b=if¬ah.Nodup then 62 else if lo<1\/hi<lo\/4<hi then 63 else 0:=by
   rw[hc.o];refine if_neg λh=>?_
   obtain⟨n,hn,hd⟩:=xM.1 h;have:=xP.1 lK n hn;rw[hd]at this;cases this
  clear hc lK hp;replace jj:=Hd jj;obtain⟨_,_,y1,_⟩:=hI.cells;replace hI:=Hd hI;go_wp2;clear y1;go_loopw [26] (λi wx=>∃j:Nat,j<=ah.length/\i=.int .i64 j/\HB l A c ⟨neg,ah,v,lo,hi⟩ (.slice A2 ah.length c2) w wx/\Hid (ah.take j).Nodup) (λi _=>ah.length- (intOf i).toNat)
  .exact⟨0,zE _,rfl,hI.o,List.nodup_nil⟩
  clear hI g1 hlt hj;obtain⟨j,hj,rfl,hI,hp⟩:=hrel;obtain⟨y0,_,y1,_,y3,y4⟩:=hI.cells;by_cases hlt:j<ah.length
  .obtain⟨y,hy⟩:=av hlt;have rr:=Hd (r2.o.under hI.1 hF.o);obtain⟨g,off,rfl,_,a0⟩:=dN rr.o hy;have g0:=aH j;have g1:=aV j ah.length;have hcut:=CT rm (A:=some ⟨g,off,none⟩) ah.length c2 j oQ wr (.inr ⟨_,_,rfl⟩);replace⟨hy,hI⟩:=H2 hy hI;go_wp2;go_loopw [36] (λi wx=>∃k:Nat,k<=j/\i=.int .i64 k/\wx=wr/\Hid (∀(i:Nat),i<k->ah[i]? ≠some y)) (λi _=>j- (intOf i).toNat)
   .exact⟨0,zE _,rfl,rfl,λi h=>by omega⟩
   obtain⟨k,hk,rfl,rfl,hq⟩:=hrel;by_cases kW:k<j
   .obtain⟨z,hz⟩:=av (l:=ah) (i:=k) oQ;obtain⟨_,_,e,_,b0⟩:=dN rr.o hz;injection e with e
    injection e with e1 e2
    subst e1 e2;have f0:=aH k;have f1:(k:Int)<(j:Int):=oQ;replace hz:=Hd hz;by_cases hu:z=y
    .have wE:(z.toList==y.toList)=true:=(by rw[ji];exact zW hu);have ae:b=62:=by rw[jj.o];exact if_pos (Iy hy.o (by rw[hz.o,hu]) kW)
     replace⟨hu,ae⟩:=H2 hu ae;go_wp2;go_ret;exact⟨hY ae.o.symm,hI.o.1⟩
    .have wE:(z.toList==y.toList)=false:=(by rw[ji];exact zV hu);replace hu:=Hd hu;go_wp2;go_roundw
     .refine⟨k+1,oQ,gQ,(by first|exact rfl |trivial),λi h e=>?_⟩;by_cases Uf:i=k
      .subst Uf;rw[hz.o]at e;injection e with e
       exact hu.o e
      .exact hq.o i oQ e
     exact mQ
   .have f1:¬(k:Int)<(j:Int):=oQ;obtain rfl:k=j:=oQ;have ej:(ah.take (k+1)).Nodup:=E6 hy.o hp.o λhm=>by
     obtain⟨i,hi,e⟩:=List.mem_take_iff_getElem.1 hm;exact hq.o i oQ (by rw[zI oQ,e])
    replace ej:=Hd ej;go_wp2;go_roundw
    .exact⟨k+1,oQ,gQ,hI.o,ej⟩
    exact mQ
  .have g1:=jS j ah.length;obtain rfl:j=ah.length:=oQ;have hd:=hp.o;rw[zL]at hd;have OX:b=if lo<1\/hi<lo\/4<hi then 63 else 0:=by rw[jj.o];exact if_neg (λh=>h hd)
   clear jj hd hp;replace hI:=Hd hI;by_cases p1:lo<1
   .have ae:=Hd (show b=63 by rw[OX];exact if_pos (.inl p1));clear OX;go_wp2;go_ret;exact⟨hY ae.o.symm,hI.o.1⟩
   by_cases p2:hi<lo
   .have ae:=Hd (show b=63 by rw[OX];exact if_pos (.inr (.inl p2)));clear OX;go_wp2;go_ret;exact⟨hY ae.o.symm,hI.o.1⟩
   by_cases p3:4<hi
   .have ae:=Hd (show b=63 by rw[OX];exact if_pos (.inr (.inr p3)));clear OX;go_wp2;go_ret;exact⟨hY ae.o.symm,hI.o.1⟩
   .have ae:=Hd (show b=0 by rw[OX];exact if_neg oQ);clear OX;go_wp2;go_ret;exact⟨hY ae.o.symm,hI.o.1⟩
end dR
def jH (c p i s:Int):List Value:=[.int .i64 c,.int .i64 p,.int .i64 i,.int .i64 s]
theorem aZ:jV prog 99 4:=⟨_,underlying99,rfl,kQ⟩
def bN (c:Int)(w:World)(e:Ending)(w':World):Prop:=∃p i s,e=.returned (.agg #[.int .i64 c,.int .i64 p,.int .i64 i,.int .i64 s])/\(c=0->p=0/\i=0/\s=0)/\Bw w w'
theorem bN.mk {c d p i s w w'}(hc:d=c)(hz:c=0->p=0/\i=0/\s=0)(hb:Bw w w'):bN c w (.returned (.agg ⟨jH d p i s⟩)) w':=by subst hc;exact⟨p,i,s,rfl,hz,hb⟩
theorem tA {α}{g:Nat->α->Int}{l}(h:∀(i:Nat) x,l[i]? =some x->g i x=0):fz (aO (λi x=>[g i x]) 0 l)=0:=PN λc hc=>by
 obtain⟨i,x,hx,hc⟩:=eD hc;rw[Nat.zero_add]at hc;rw[xB.1 hc];exact h i x hx
theorem uV {α}{g:Nat->α->Int}{l j x c}(hx:l[j]? =some x)(h:∀(i:Nat) y,l[i]? =some y->i<j->g i y=0)(hc:g j x=c)(hne:c≠0):fz (aO (λi x=>[g i x]) 0 l)=c:=by
 suffices hs:∀(m:List α)(n j:Nat),m[j]? =some x->(∀(i:Nat) y,m[i]? =some y->i<j->g (n+i) y=0)->g (n+j) x=c->fz (aO (λi x=>[g i x]) n m)=c from hs l 0 j hx (λi y hy hi=>by rw[Nat.zero_add];exact h i y hy hi) (by rw[Nat.zero_add];exact hc)
 intro m;induction m with
 |nil=>intro n j hx;cases hx
 |cons y r ih=>
  intro n j hx h hc;show fz (g n y::aO (λi x=>[g i x]) (n+1) r)=c
  cases j with
  |zero=>
   injection hx with hx
   subst hx;unfold fz;rw[Nat.add_zero]at hc;rw[hc,if_neg hne]
  |succ j=>
   have h0:=h 0 y rfl oQ;unfold fz;rw[Nat.add_zero]at h0;rw[if_pos h0];exact ih (n+1) j hx (λi y hy hi=>by rw[show n+1+i=n+(i+1) by omega];exact h (i+1) y hy oQ) (by rw[show n+1+j=n+(j+1) by omega];exact hc)
theorem E7 (a b s):aj (a++b) s=if aj a s<0 then(if aj b s<0 then -1 else a.length+aj b s)else aj a s:=by
 unfold aj;rw[List.findIdx?_append];cases h:a.findIdx? (λx=>decide (x=s))with
 |some i=>simp;omega
 |none=>
  cases h2:b.findIdx? (λx=>decide (x=s))with
  |none=>simp
  |some i=>simp;omega
theorem E8 {l}{j:Nat}{v}(h:l[j]? =some v):aj l v<(j:Int)<->0<=aj (l.take j) v:=by
 obtain⟨h1,h2⟩:=zC.1 h;have e:l=l.take j++l.drop j:=(List.take_append_drop j l).symm;have h3:aj (l.drop j) v=0:=by
  rw[List.drop_eq_getElem_cons h1,h2];unfold aj;simp[List.findIdx?_cons]
 have h4:=E7 (l.take j) (l.drop j) v;rw[<-e,h3,zO,Nat.min_eq_left oQ]at h4;have h5:=yg (l.take j) v;rw[zO,Nat.min_eq_left oQ]at h5;by_cases hp:aj (l.take j) v<0
 .rw[if_pos hp,if_neg oQ]at h4;omega
 .rw[if_neg hp]at h4;omega
def Iz (l:List Td)(q:Qy)(i:Nat)(x:It):Int:=if fN l x≠0 then fN l x else if aM q x.v<(i:Int)then 64 else 0
theorem CU {l q}(h:10<q.items.length):bM l q=60:=by unfold bM;exact if_pos h
theorem yi {l q}(h:¬10<q.items.length){j x c}(hx:q.items[j]? =some x)(ha:∀(i:Nat) y,q.items[i]? =some y->i<j->Iz l q i y=0)(hc:Iz l q j x=c)(hne:c≠0):bM l q=c:=by
 unfold bM;rw[if_neg h,zi];have:=uV (g:=Iz l q) hx ha hc hne;unfold Iz at this;rw[this,if_neg hne]
theorem E9 {l q}(h:¬10<q.items.length)(ha:∀(i:Nat) y,q.items[i]? =some y->i<q.items.length->Iz l q i y=0):bM l q=if q.items.all (·.neg)=true then 65 else 0:=by
 unfold bM;rw[if_neg h,zi,EY];have:=tA (g:=Iz l q) (λi x hx=>ha i x hx (zC.1 hx).1);unfold Iz at this;rw[this];rfl
def sG (q:Qy)(j:Nat):Nat:=((q.items.take j).filter (λx=> !x.neg)).length
theorem IA {q j x}(h:q.items[j]? =some x):sG q (j+1)=sG q j+if x.neg=true then 0 else 1:=by
 unfold sG;rw[zJ,h,List.filter_append,zH];cases hx:x.neg<;>simp[hx]
theorem PT (q j):sG q j<=j:=zU (List.length_filter_le _ _) (List.length_take_le _ _)
theorem K3 (q):sG q q.items.length=0<->q.items.all (·.neg)=true:=by
 unfold sG;rw[zL,List.length_eq_zero_iff,List.filter_eq_nil_iff,xP];constructor
 .intro h x hx;simpa using h x hx
 .intro h x hx;simp[h x hx]
structure IK (l:List Td)(A:Option Addr)(c:Nat)(q:Qy)(s:fV)(w wr:World)(j:Nat):Prop where
 hb:Bw w wr
 b0:ao wr w.heap.size 24 [.slice A l.length c]
 b1:ao wr (w.heap.size+1) 31 (qV q s)
 b2:ao wr (w.heap.size+1+1) 99 (jH 0 0 0 0)
 mp:∃f,cV 9 wr (w.heap.size+1+1+1) j f/\ni ((lZ q).take j) f
theorem IK.stay {l A c q s w wr W j}(h:IK l A c q s w wr j)(hb:Bw wr W):IK l A c q s w W j:=
 ⟨h.hb.trans (hb.mono h.hb.size),h.b0.stay hb,h.b1.stay hb,h.b2.stay hb,let ⟨f,h1,h2⟩:=h.mp;⟨f,h1.stay hb,h2⟩⟩
theorem IK.new (l A c q s w):IK l A c q s w ((((w.alloc (.cells ⟨[.slice A l.length c]⟩ 24)).alloc (.cells ⟨qV q s⟩ 31)).alloc (.cells ⟨jH 0 0 0 0⟩ 99)).alloc (.map #[] 0)) 0:=by
 have h0:Bw w (((w.alloc (.cells ⟨[.slice A l.length c]⟩ 24)).alloc (.cells ⟨qV q s⟩ 31)).alloc (.cells ⟨jH 0 0 0 0⟩ 99)):=((bA).alloc sJ _).alloc (by simp;omega) _;exact⟨h0.alloc (by simp;omega) _,((((ao.new w _ _).alloc _).alloc _).alloc _),(((ao.new' sJ).alloc _).alloc _),((ao.new' sJ).alloc _),_,cV.GX sJ,λv=>rfl⟩
theorem IK.fin {l A c q s w wr w1 j}(h:IK l A c q s w wr j)(hg:wr.grownBy w1 (some (w.heap.size+1+1))):Bw w w1:=h.hb.grown hg h.hb.size (λq hq=>by injection hq with hq;omega)
theorem IK.put {l A c q s w wr w1 j f}(h:IK l A c q s w wr j)(hm:cV 9 w1 (w.heap.size+1+1+1) (j+1) f)(hn:ni ((lZ q).take (j+1)) f)(hg:wr.grownBy w1 (some (w.heap.size+1+1+1))):IK l A c q s w w1 (j+1):=
 ⟨h.hb.grown hg h.hb.size (λq hq=>by injection hq with hq;omega),h.b0.grown hg (λe=>by injection e with e;omega),h.b1.grown hg (λe=>by injection e with e;omega),h.b2.grown hg (λe=>by injection e with e;omega),f,hm,hn⟩
namespace dR
open cH
theorem PU (A c F l q s)(hl:iI l)(hs:jE q)(w)(hF:∀b,F b->b<w.heap.size)(r:Rd w F (.slice A l.length c) (.sl l.length (l.flatMap fj)))(R:QR w F q s):
  Cl 53 #[.agg ⟨[.slice A l.length c]⟩,.agg ⟨qV q s⟩] w (bN (bM l q) w):=by
 have h0:=IK.new l A c q s w;have k1:∀(x:It) A2 c2 W,x∈q.items->Bw w W->Rd W F (.slice A2 x.ah.length c2) (.sl x.ah.length (x.ah.flatMap aG))->Cl 90 #[.agg ⟨[.slice A l.length c]⟩,.agg ⟨dX x (.slice A2 x.ah.length c2)⟩] W λe w'=>e=.returned (.int .i64 (fN l x))/\Bw W w':=λx A2 c2 W hx hW rx=>Ue A c F l x A2 c2 hl (hs.it x hx).1.1 W (λb h=>zF (hF b h) hW.size) (r.under hW hF) rx
 have hv:∀x∈q.items,x.v.size<=1048576:=λx hx=>(hs.it x hx).2
 have iT:=hs.il;obtain⟨b,hc⟩:=aB (bM l q)
 rw[<-hc];have SL:∀w:World,(Instr.makeMap 134 none).run prog w=.ok (.map (some w.heap.size)) (w.alloc (.map #[] 0)):=λw=>by simp[Instr.makeMap,run_underlying underlying134,asInt,asIntOf,Result.andThen]
 obtain⟨A1,c1,A2,c2,A3,c3⟩:=s;have j7:=R.r1;simp only[qV,jH]at h0 j7 |-;replace⟨hc,j7,hF,k1,hv,h0⟩:=H6 hc j7 hF k1 hv h0;clear hs R r;by_cases h10:10<q.items.length
 .have ae:(60:Int)=b:=by rw[hc.o];exact(CU h10).symm
  have g0:(10:Int)<q.items.length:=oQ;replace ae:=Hd ae;have cD:=((((ao.new' (w:=((w.alloc (.cells ⟨[.slice A l.length c]⟩ 24)).alloc (.cells ⟨qV q ⟨A1,c1,A2,c2,A3,c3⟩⟩ 31))) (g:=w.heap.size+1+1) (t:=99) (cs:=jH 0 0 0 0) sJ))));have Ug:Bw w (((w.alloc (.cells ⟨[.slice A l.length c]⟩ 24)).alloc (.cells ⟨qV q ⟨A1,c1,A2,c2,A3,c3⟩⟩ 31)).alloc (.cells ⟨jH 0 0 0 0⟩ 99)):=((bA).alloc sJ _).alloc (by simp;omega) _;simp only[qV,jH]at cD Ug;replace⟨cD,Ug⟩:=H2 cD Ug;clear hc h0;go_enter func53,ntmps53;go_wp2_with (refine ay (.store 99 (.tmp 4) (.tmp 16)) rfl ?_;refine eU rfl 99 (.tmp 4) (.tmp 16) rfl (cs':=jH 60 1 10 0) cD.o aZ rfl rfl rfl rfl ?_;intro w1 cL aw);exact l5 rfl cL aZ rfl rfl (bN.mk ae.o (λh=>by have:=ae.o;omega) (Ug.o.grown aw Ug.o.size (λq hq=>by injection hq with hq;omega)))
 have g0:¬(10:Int)<q.items.length:=oQ;replace h10:=Hd h10;go_enter func53,ntmps53;go_wp2;go_loopw [6,21] (λp i wr=>∃j:Nat,j<=q.items.length/\i=.int .i64 j/\p=.int .i64 (sG q j:Nat)/\IK l A c q ⟨A1,c1,A2,c2,A3,c3⟩ w wr j/\Hid (∀(i:Nat) y,q.items[i]? =some y->i<j->Iz l q i y=0)) (λ_ i _=>q.items.length- (intOf i).toNat)
 .exact⟨0,zE _,rfl,rfl,h0.o,λi y hy hi=>by omega⟩
 clear h0;obtain⟨j,hj,rfl,rfl,hI,hp⟩:=hrel;have Es:=PT q j;have hpn:sG q j=0<->(sG q j:Int)=0:=oQ;by_cases hlt:j<q.items.length
 .obtain⟨x,hx⟩:=av hlt;have mB:=IA hx;obtain⟨g,off,B2,d2,rfl,_,rx,a0,a1,a2,a3,a4⟩:=eV (j7.o.under hI.hb hF.o) hx;have g1:=aH j;have g2:=aV j q.items.length;have uW:=zA hx;have wN:=hv.o x uW;have hvx:(lZ q)[j]? =some x.v:=by unfold lZ;rw[zG,hx];rfl
  have GY:=CQ hx;have hcut:aM q x.v<(j:Int)<->0<=aj ((lZ q).take j) x.v:=E8 hvx;have hlen:((lZ q).take j).length=j:=by rw[zO,uu];omega
  have y0:wr.cell? ⟨w.heap.size,0,none⟩=some (.slice A l.length c):=hI.b0.cell 0;have hsz:w.heap.size+1+1+1<wr.heap.size:=let ⟨_,hm,_⟩:=hI.mp;hm.lt
  have BV:Bw wr (wr.alloc (.cells ⟨dX x (.slice B2 x.ah.length d2)⟩ 60)):=bA;have eW:=k1.o x B2 d2 _ uW (hI.hb.trans (BV.mono hI.hb.size)) (rx.alloc _);have eE:=hI.stay BV;have uQ:ao (wr.alloc (.cells ⟨dX x (.slice B2 x.ah.length d2)⟩ 60)) wr.heap.size 60 (dX x (.slice B2 x.ah.length d2)):=ao.new _ _ _;obtain⟨ic,IE⟩:=aB (fN l x)
  rw[<-IE]at eW;obtain⟨pj,hpj⟩:=aB (sG q j)
  have hwf:(Lit.int .i64 (j:Int)).wf=true:=WalkArith.wf_i64 oQ;have y1:=eE.b0.cell 0;simp only[dX,zY]at eW eE uQ y1;rw[<-hpj]at mB Es |-;clear hpn;replace⟨rx,hx,hvx,GY,hI,eE,uQ,BV,eW,mB,hlen,hpj⟩:=uM rx hx hvx GY hI eE uQ BV eW mB hlen hpj;by_cases qa:ic=0
  .subst qa;by_cases hu:0<=aj ((lZ q).take j) x.v
   .have ae:(64:Int)=b:=by
     rw[hc.o];refine(yi h10.o hx.o hp.o ?_ dQ).symm;unfold Iz;rw[if_neg (λh=>h IE.symm),if_pos (hcut.2 hu)]
    have hd:decide (0<=aj ((lZ q).take j) x.v)=true:=zW hu;clear hcut;replace⟨hd,hu,ae,IE⟩:=H4 hd hu ae IE;go_wp2_with (first
     |(go_at_call 90;refine eW.o.mono ?_;rintro e W ⟨rfl,hW⟩;have bn:=eE.o.stay hW;have qn:=uQ.o.stay hW;have z2:W.cell? ⟨wr.heap.size,2,none⟩=some (.string x.v):=qn.cell 2;obtain⟨f,hM,hN⟩:=bn.mp;have lk:=hM.look wN;rw[hN x.v,fW,hd.o]at lk;replace⟨bn,hM,hN,qn⟩:=H4 bn hM hN qn;clear hW)
     |(refine ay (.store 99 (.tmp 4) (.tmp 43)) rfl ?_;refine eU rfl 99 (.tmp 4) (.tmp 43) rfl (cs':=jH 64 1 j 0) bn.o.b2 aZ rfl rfl rfl rfl ?_;intro w1 cL aw))
    exact l5 rfl cL aZ rfl rfl (bN.mk ae.o (λh=>by have:=ae.o;omega) (bn.o.fin aw))
   .have hd:decide (0<=aj ((lZ q).take j) x.v)=false:=zV hu;have E':∀f,ni ((lZ q).take j) f->ni ((lZ q).take (j+1)) (E4 f (kl x.v) j):=λf hN=>by
     have:=hN.put (Int.not_le.1 hu);rw[<-GY.o,hlen.o]at this;exact this
    have hz:Iz l q j x=0:=by
     unfold Iz;rw[if_neg (λh=>h IE.symm),if_neg (λh=>hu (hcut.1 h))]
    have ej:∀(i:Nat) y,q.items[i]? =some y->i<j+1->Iz l q i y=0:=λi y hy hi=>by
     by_cases e:i=j
     .subst e;obtain rfl:x=y:=by have:=hx.o;rw[hy]at this;exact(eO this).symm
      exact hz
     .exact hp.o i y hy oQ
    have hjj:j<=1048576:=oQ;clear hcut hz;replace⟨ej,E',hd,hu,IE⟩:=H5 ej E' hd hu IE;cases ry:x.neg with
    |true=>
     have Fa:sG q (j+1)=pj:=(by rw[mB.o,ry];rfl);replace⟨ry,Fa⟩:=H2 ry Fa;go_wp2_with (first
      |(go_at_call 90;refine eW.o.mono ?_;rintro e W ⟨rfl,hW⟩;have bn:=eE.o.stay hW;have qn:=uQ.o.stay hW;have z0:W.cell? ⟨wr.heap.size,0,none⟩=some (.bool x.neg):=qn.cell 0;rw[ry.o]at z0;have z2:W.cell? ⟨wr.heap.size,2,none⟩=some (.string x.v):=qn.cell 2;obtain⟨f,hM,hN⟩:=bn.mp;have lk:=hM.look wN;rw[hN x.v,fW,hd.o]at lk;replace⟨bn,hM,hN,qn⟩:=H4 bn hM hN qn;clear hW)
      |(at_mapUpdate;refine oD rfl (.tmp 44) (.tmp 46) (.tmp 47) rfl rfl hM.o hjj rfl rfl wN hwf ?_;intro w1 uv aw;have dB:=bn.o.put uv (E'.o _ hN.o) aw;have z0:w1.cell? ⟨wr.heap.size,0,none⟩=some (.bool x.neg):=(qn.o.grown aw (λe=>by injection e with e;omega)).cell 0;rw[ry.o]at z0;replace dB:=Hd dB;clear uv aw))
     go_roundw
     .exact⟨j+1,oQ,gQ,by rw[Fa.o],dB.o,ej⟩
     exact mQ
    |false=>
     have Fa:sG q (j+1)=pj+1:=(by rw[mB.o,ry];rfl);replace⟨ry,Fa⟩:=H2 ry Fa;go_wp2_with (first
      |(go_at_call 90;refine eW.o.mono ?_;rintro e W ⟨rfl,hW⟩;have bn:=eE.o.stay hW;have qn:=uQ.o.stay hW;have z0:W.cell? ⟨wr.heap.size,0,none⟩=some (.bool x.neg):=qn.cell 0;rw[ry.o]at z0;have z2:W.cell? ⟨wr.heap.size,2,none⟩=some (.string x.v):=qn.cell 2;obtain⟨f,hM,hN⟩:=bn.mp;have lk:=hM.look wN;rw[hN x.v,fW,hd.o]at lk;replace⟨bn,hM,hN,qn⟩:=H4 bn hM hN qn;clear hW)
      |(at_mapUpdate;refine oD rfl (.tmp 44) (.tmp 46) (.tmp 47) rfl rfl hM.o hjj rfl rfl wN hwf ?_;intro w1 uv aw;have dB:=bn.o.put uv (E'.o _ hN.o) aw;have z0:w1.cell? ⟨wr.heap.size,0,none⟩=some (.bool x.neg):=(qn.o.grown aw (λe=>by injection e with e;omega)).cell 0;rw[ry.o]at z0;replace dB:=Hd dB;clear uv aw))
     go_roundw
     .exact⟨j+1,oQ,gQ,by rw[Fa.o];go_num,dB.o,ej⟩
     exact mQ
  .have ae:ic=b:=by
    rw[hc.o];refine(yi h10.o hx.o hp.o ?_ qa).symm;unfold Iz;rw[if_pos (by rw[<-IE];exact qa),IE]
   have Xz:=gL qa;have PV:=cM qa;have hi3:=Hd qa;clear qa hcut;replace⟨ae,IE⟩:=H2 ae IE;go_wp2_with (first
    |(go_at_call 90;refine eW.o.mono ?_;rintro e W ⟨rfl,hW⟩;have bn:=Hd (eE.o.stay hW);clear hW)
    |(refine ay (.store 99 (.tmp 4) (.tmp 33)) rfl ?_;refine eU rfl 99 (.tmp 4) (.tmp 33) rfl (cs':=jH ic 1 j 0) bn.o.b2 aZ rfl rfl rfl rfl ?_;intro w1 cL aw))
   exact l5 rfl cL aZ rfl rfl (bN.mk ae.o (λh=>absurd (ae.o.trans h) hi3.o) (bn.o.fin aw))
 .have g1:=jS j q.items.length;obtain rfl:j=q.items.length:=oQ;have ae:b=if q.items.all (·.neg)=true then 65 else 0:=by rw[hc.o];exact E9 h10.o hp.o
  have uw:=K3 q;generalize sG q q.items.length=p at Es uw;clear hpn;replace hI:=Hd hI;by_cases hz:p=0
  .have cL:((p:Int)==0)=true:=mf oQ;have aP:(65:Int)=b:=by rw[ae,if_pos (uw.1 hz)]
   clear ae uw;replace⟨aP,hz⟩:=H2 aP hz;go_wp2_with (refine ay (.store 99 (.tmp 4) (.tmp 56)) rfl ?_;refine eU rfl 99 (.tmp 4) (.tmp 56) rfl (cs':=jH 65 1 0 0) hI.o.b2 aZ rfl rfl rfl rfl ?_;intro w1 cL aw);exact l5 rfl cL aZ rfl rfl (bN.mk aP.o (λh=>by have:=aP.o;omega) (hI.o.fin aw))
  .have cL:((p:Int)==0)=false:=cM oQ;have aP:(0:Int)=b:=by rw[ae,if_neg (λh=>hz (uw.2 h))]
   clear ae uw;replace⟨aP,hz⟩:=H2 aP hz;go_wp2_with (refine ay (.store 99 (.tmp 4) (.tmp 57)) rfl ?_;refine eU rfl 99 (.tmp 4) (.tmp 57) rfl (cs':=jH 0 0 0 0) hI.o.b2 aZ rfl rfl rfl rfl ?_;intro w1 cL aw);exact l5 rfl cL aZ rfl rfl (bN.mk aP.o (λh=>⟨rfl,rfl,rfl⟩) (hI.o.fin aw))
end dR
