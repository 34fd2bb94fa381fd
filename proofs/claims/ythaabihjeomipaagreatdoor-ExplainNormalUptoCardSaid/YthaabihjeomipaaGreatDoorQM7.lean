/- explain.home. -/
import Derived.Test.YthaabihjeomipaaGreatDoorQM6
import Derived.Test.YthaabihjeomipaaGreatDoorQGa
namespace Go.Proofs.YthaabihjeomipaaGreatDoor
set_option maxRecDepth 100000
set_option maxHeartbeats 16000000
open Go.RowKit Go.Deep
set_option linter.unusedVariables false
set_option linter.unusedSimpArgs false
def csD (L:List Nat):List D:=[.sl L.length (L.map cjD)]
theorem cj_pl (L:List Nat):PlainL (L.map cjD):=fun d hd=>by
 obtain⟨i,_,rfl⟩:=List.mem_map.1 hd;exact⟨_,rfl⟩
theorem cs_at {w:World}{F:Nat→Prop}{A:Option Addr}{c i:Nat}{l:List (List Nat)}{x:List Nat}(r:Rd w F (.slice A l.length c) (.sl l.length (l.flatMap csD)))(hp:l[i]? =some x):∃b off A2 c2,A=some ⟨b,off,none⟩∧F b∧
  w.cell? ⟨b,off+i,none⟩=some (.slice A2 x.length c2)∧Rd w F (.slice A2 x.length c2) (.sl x.length (x.map cjD)):=by
 obtain⟨b,off,e,hF,_,h2⟩:=r.rowv (f:=csD) (m:=1) (fun _=>rfl) hp oQ;obtain⟨A2,c2,h3,h4⟩:=h2 0 x.length (x.map cjD) rfl;exact⟨b,off,A2,c2,e,hF,by simpa using h3,h4⟩
theorem take_flatN {Ls:List (List Nat)}{j:Nat}{x:List Nat}(h:Ls[j]? =some x):(Ls.take (j+1)).flatten=(Ls.take j).flatten++x:=by
 rw[zJ,h,List.flatten_append];simp
theorem flat_leN {Ls:List (List Nat)}(j:Nat):(Ls.take j).flatten.length≤Ls.flatten.length:=by
 have h:Ls.flatten=(Ls.take j).flatten++(Ls.drop j).flatten:=by rw[←List.flatten_append,List.take_append_drop]
 rw[h,zH];omega
theorem OL.room {w:World}{B e size g cap:Nat}{cs:List Value}(hB:B≤g)(hb:Blk w g e cs)(hl:cs.length=cap*size)(hm:cap≤maxLen):OL w B NoF e size (.slice (some ⟨g,0,none⟩) 0 cap) 0 []:=
 ⟨[],⟨sJ,.inr ⟨g,cap,⟨cs⟩,rfl,hB,hb,zE _,hm,by simpa using hl,sJ⟩⟩,rfl,fun k d h=>by simp at h⟩
theorem minOf_mem:∀(l:List Int),l≠ []→Lib.minOf l∈l∧∀x∈l,Lib.minOf l≤x:=by
 have key:∀(l:List Int)(d:Int),(l.foldl min d=d∨l.foldl min d∈l)∧l.foldl min d≤d∧∀x∈l,l.foldl min d≤x:=by
  intro l;induction l with
  |nil=>intro d;exact⟨.inl rfl,Int.le_refl _,fun x h=>by cases h⟩
  |cons y r ih=>
   intro d;obtain⟨h1,h2,h3⟩:=ih (min d y);rw[List.foldl_cons];refine⟨?_,oQ,fun x hx=>?_⟩
   ·rcases h1 with e |e
    ·rcases Int.le_total d y with h |h
     ·rw[e,Int.min_eq_left h];exact .inl rfl
     ·rw[e,Int.min_eq_right h];exact .inr (xS ..)
    ·exact .inr (xU _ e)
   ·rcases List.mem_cons.1 hx with e |e
    ·subst e;omega
    ·exact h3 x e
 intro l hl;cases l with
 |nil=>exact absurd rfl hl
 |cons y r=>
  obtain⟨h1,h2,h3⟩:=key (y::r) y;unfold Lib.minOf;show(y::r).foldl min y∈y::r∧_
  refine⟨?_,h3⟩;rcases h1 with e |e
  ·rw[e];exact xS ..
  ·exact e
theorem minOf_eq {l:List Nat}(h:l≠ []):Lib.minOf (l.map fun(i:Nat)=>(i:Int))=(minL l:Int):=by
 obtain⟨h1,h2⟩:=minOf_mem (l.map fun(i:Nat)=>(i:Int)) (by simpa using h);obtain⟨i,hi,e⟩:=List.mem_map.1 h1;have h3:=minL_le hi;have h4:=h2 _ (List.mem_map.2 ⟨_,minL_mem h,rfl⟩);rw[←e]at h4 ⊢;omega
theorem cj_cells {w:World}{F:Nat→Prop}{b off n c:Nat}{L:List Nat}(r:Rd w F (.slice (some ⟨b,off,none⟩) n c) (.sl L.length (L.map cjD))):∀j,j<L.length→w.cell? ⟨b,off+j,none⟩=some (.int .i64 ((L.map fun(i:Nat)=>(i:Int)).getD j 0)):=fun j hj=>by
 obtain⟨b',off',e,_,h⟩:=r.cells (fun e=>by have h2:=congrArg List.length e;rw[xC,List.length_nil]at h2;omega);injection e with e;injection e with e1 e2
 subst e1 e2;obtain⟨u,h1,h2⟩:=h j (cjD L[j]) (by rw[zG,zI hj];rfl);rw[h1,h2.v_inv];simp[List.getD,zI hj]
namespace shW
open nmW ckW
theorem grow_k (n:Nat)(hn:0<n)(hl:n≤4194304)(w:World):Calls Tryz.prog 124 #[.slice none 0 0,.int .i64 n] w fun e w'=>∃v,e=.returned v∧OL w' w.heap.size NoF 3 1 v 0 []∧Bw w w':=by
 obtain⟨ht,⟨i,z,hi,hz,hsize,hby,hzs⟩,hp⟩:=elInt;have hr:=Any8.slices_Grow_grow Tryz.laysGrow124 i z hi hz oQ none 0 0 n [] w nR oQ (by rw[hby];omega) oQ sJ (fun _=>rfl) (fun a h=>by cases h);refine hr.mono ?_;rintro e w' ⟨rfl,rfl⟩;have hg:=grownCap_ge w (0+n) 0 3;have hg2:0+n≤grownCap w (0+n) 0 (Tryz.laysGrow124_ren.t 25):=grownCap_ge w (0+n) 0 _;have hg3:grownCap w (0+n) 0 (Tryz.laysGrow124_ren.t 25)=grownCap w (0+n) 0 3:=rfl;have hm:=grownCap_le_maxLen w (0+n) 0 3 (by unfold maxLen;omega);have key:∀X:Array Value,X.size=grownCap w (0+n) 0 3→∃v,(Ending.returned (.slice (some ⟨w.heap.size,0,none⟩) 0 (grownCap w (0+n) 0 3))=.returned v)∧OL (w.drew.alloc (.cells X 3)) w.heap.size NoF 3 1 v 0 []∧Bw w (w.drew.alloc (.cells X 3)):=fun X hX=>
  ⟨_,rfl,OL.room (g:=w.heap.size) (cs:=X.toList) nR (Blk.new w.drew _ X.toList) (by rw[Array.length_toList,hX];omega) hm,((bR).drew).alloc nR _⟩
 refine key _ ?_;simp only[Array.size_append,Builtin.zeroCells,Array.size_ofFn,Array.size_map,Array.size_range,hzs,List.size_toArray,List.length_nil];omega
def flN (Ls:List (List Nat))(j:Nat):Nat:=(Ls.take j).flatten.length
theorem flN_next {Ls:List (List Nat)}{j:Nat}{x:List Nat}(h:Ls[j]? =some x):flN Ls (j+1)=flN Ls j+x.length:=by unfold flN;rw[take_flatN h,zH]
theorem flN_le (Ls:List (List Nat))(j:Nat):flN Ls j≤flN Ls Ls.length:=by unfold flN;rw[zL];exact flat_leN j
def CcRel (Ls:List (List Nat))(w:World)(v i:Value)(wr:World):Prop:=∃j:Nat,j≤Ls.length∧i=.int .i64 j∧OL wr w.heap.size NoF 3 1 v (flN Ls j) ((Ls.take j).flatten.map cjD)∧Bw w wr
theorem concat_k (A:Option Addr)(c:Nat)(F:Nat→Prop)(Ls:List (List Nat))(w:World)(hl:Ls.length≤1048576)(h0:0<flN Ls Ls.length)(hs:flN Ls Ls.length≤4194304)(hF:∀b,F b→b<w.heap.size)(r:Rd w F (.slice A Ls.length c) (.sl Ls.length (Ls.flatMap csD))):
  Calls Tryz.prog 83 #[.slice A Ls.length c] w (IlPost Ls.flatten w):=by
 have kg:=Hd (grow_k (flN Ls Ls.length) h0 hs w);have hle:=Hd (flN_le Ls);have hnx:=Hd (fun(j:Nat)(x:List Nat)(h:Ls[j]? =some x)=>flN_next h);have hz:=Hd (show flN Ls 0=0 from rfl);replace r:=Hd r;replace hF:=Hd hF;go_enter Tryz.func83,Tryz.ntmps83;go_wp2;go_loopw [3,11] (fun v i wr=>wr=w∧∃j:Nat,j≤Ls.length∧i=.int .i64 j∧v=.int .i64 (flN Ls j:Nat)) (fun _ i _=>Ls.length- (intOf i).toNat)
 case atStart=>exact⟨rfl,0,zE _,rfl,rfl⟩
 case round=>
  obtain⟨hwr,j,hj,rfl,rfl⟩:=hrel;obtain rfl:=hwr.symm;clear hwr;by_cases hlt:j<Ls.length
  ·obtain⟨x,hx⟩:=getx hlt;obtain⟨b,off,A2,c2,rfl,_,x0,r2⟩:=cs_at r.out hx;have g0:(0:Int)≤(j:Int):=oQ;have g1:(j:Int)<Ls.length:=oQ;have hlen:=hle.out (j+1);have hN:=hnx.out j x hx;have hw1:IntKind.i64.wrap ((flN Ls j:Int)+(x.length:Int))=(flN Ls j:Int)+(x.length:Int):=by rw[xI]<;>omega
   have g2:¬((flN Ls j:Int)+(x.length:Int))<0:=oQ;replace hN:=Hd hN;replace hx:=Hd hx;clear r2 hlen;go_wp2;go_roundw
   case rel=>exact⟨trivial,j+1,oQ,gQ,by rw[hN.out,Int.natCast_add]⟩
   case measure=>exact mQ
  ·obtain rfl:j=Ls.length:=oQ;have g1:¬(Ls.length:Int)<Ls.length:=oQ;clear hj hlt;go_upto_region 11 with(go_at_call 124;refine kg.out.mono ?_;rintro e W0 ⟨v0,rfl,hO0,hX0⟩;have hC0:CcRel Ls w v0 (.int .i64 0) W0:=⟨0,zE _,rfl,hO0,hX0⟩;obtain⟨A0,c0,rfl⟩:=hO0.form;replace hC0:=Hd hC0;clear hO0 hX0)
   go_loopw [6,27] (fun v i wr=>CcRel Ls w v i wr) (fun _ i _=>Ls.length- (intOf i).toNat)
   case atStart=>exact hC0.out
   case round=>
    clear hC0;obtain⟨j,hj,rfl,hO,hB⟩:=hrel;by_cases hlt:j<Ls.length
    ·obtain⟨x,hx⟩:=getx hlt;obtain⟨b,off,A2,c2,rfl,_,x0,r2⟩:=cs_at (r.out.under hB hF.out) hx;have g0:(0:Int)≤(j:Int):=oQ;have g1:(j:Int)<Ls.length:=oQ;have hlen:=hle.out (j+1);have hN:=Hd (hnx.out j x hx);have hfl:=Hd (take_flatN hx);obtain⟨A1,c1,rfl⟩:=hO.form;replace hO:=Hd hO;have hsr:=Hd (Rd.srcq (G:=fun b=>NoF b∧some b≠(Value.slice A1 (flN Ls j) c1).ownBlock) (cj_pl x) r2);have hsz:=hB.size;replace hB:=Hd hB;replace hx:=Hd hx;clear r2;go_wp2_with (at_builtin;refine wpa rfl (.tmp 31) (.tmp 32) _ rfl (m:=x.length) (news:=x.map cjD) elInt hO.out rfl rfl hsr.out sJ (by have:=hN.out;omega) oQ hsz ?_;intro v' w1 hO1 hg1 ha1;have hB1:=Hd (hB.out.grown hg1 hsz (fun q hq=>(hO.out.lt q hq).1));rw[←hN.out]at hO1;obtain⟨A3,c3,rfl⟩:=hO1.form;replace hO1:=Hd hO1;clear hg1 ha1);go_roundw
     case rel=>exact⟨j+1,oQ,gQ,by rw[hfl.out,xR];exact hO1.out,hB1.out⟩
     case measure=>exact mQ
    ·obtain rfl:j=Ls.length:=oQ;have g1:¬(Ls.length:Int)<Ls.length:=oQ;rw[zL]at hO;have hfl:flN Ls Ls.length=Ls.flatten.length:=by unfold flN;rw[zL]
     rw[hfl]at hO ⊢;replace hO:=Hd hO;replace hfl:=Hd hfl;go_wp2;go_ret;exact IlPost.mk hO.out hB
end shW
theorem find_first {L:List Nat}{p:Nat→Bool}{j i:Nat}(h:L[j]? =some i)(hp:p i=true)(hb:∀(k a:Nat),L[k]? =some a→k<j→p a=false):L.find? p=some i:=by
 obtain⟨h1,rfl⟩:=zC.1 h;refine List.find?_eq_some_iff_getElem.2 ⟨hp,j,h1,rfl,fun k hk=>?_⟩;rw[hb k _ (zI oQ) hk];rfl
theorem find_no {L:List Nat}{p:Nat→Bool}(hb:∀(k a:Nat),L[k]? =some a→p a=false):L.find? p=none:=by
 refine List.find?_eq_none.2 fun x hx=>?_
 obtain⟨k,hk⟩:=zN hx;rw[hb k x hk];simp
theorem uL_eq1 (q:Qy)(t:List Nd):uL q t is11=prevs q t:=rfl
theorem uL_eq2 (q:Qy)(t:List Nd):(uL q t fun x=>aggO x.op)=aggs q t:=rfl
theorem uses_lt {q:Qy}{t:List Nd}{P:Nd→Bool}{i j:Nat}(h:(usesL q t P)[j]? =some i):i<q.items.length:=(mem_uses.1 (zA h)).1
theorem uses_len (q:Qy)(t:List Nd)(P:Nd→Bool):(usesL q t P).length≤q.items.length:=by unfold usesL;exact filt_len _
theorem csrd {W:World}{F G:Nat→Prop}{t g:Nat}{v1 v2:Value}{L1 L2:List Nat}(hg:W.heap.size=g)(hG:∀b,G b→F b)(hF:F g)(h1:Rd W G v1 (.sl L1.length (L1.map cjD)))(h2:Rd W G v2 (.sl L2.length (L2.map cjD))):
  Rd (W.alloc (.cells ⟨[v1,v2]⟩ t)) F (.slice (some ⟨g,0,none⟩) 2 2) (.sl 2 ([L1,L2].flatMap csD)):=by
 subst hg;have hb:=Blk.new W t [v1,v2];have key:∀(k:Nat) d,([L1,L2].flatMap csD)[k]? =some d→∃u,[v1,v2][k]? =some u∧Rd (W.alloc (.cells ⟨[v1,v2]⟩ t)) F u d:=fun k d hd=>by
  match k,hd with
  |0,hd=>simp[csD]at hd;subst hd;exact⟨v1,rfl,(h1.alloc _).mono fun b h _=>hG b h⟩
  |1,hd=>simp[csD]at hd;subst hd;exact⟨v2,rfl,(h2.alloc _).mono fun b h _=>hG b h⟩
  |k+2,hd=>simp[csD]at hd
 refine .sl _ _ _ W.heap.size 0 _ (fun k=>([v1,v2][k]?).getD undef) nR (by unfold maxLen;omega) (fun _=>⟨rfl,hF⟩) (fun k d hd=>?_) (fun k d hd=>?_)
 ·obtain⟨u,hu,_⟩:=key k d hd;rw[Nat.zero_add,hb.cell k,hu];rfl
 ·obtain⟨u,hu,hr⟩:=key k d hd;rw[hu];exact hr
theorem cj_at {w:World}{F:Nat→Prop}{A:Option Addr}{c i j:Nat}{L:List Nat}(r:Rd w F (.slice A L.length c) (.sl L.length (L.map cjD)))(h:L[j]? =some i):∃b off,A=some ⟨b,off,none⟩∧w.cell? ⟨b,off+j,none⟩=some (.int .i64 (i:Nat)):=by
 obtain⟨b,off,e,_,h2⟩:=r.cells (fun e=>by have h2:=congrArg List.length e;rw[xC,List.length_nil]at h2;have:=(zC.1 h).1;omega);obtain⟨u,hu,hr⟩:=h2 j (cjD i) (by rw[zG,h];rfl);exact⟨b,off,e,by rw[hu,hr.v_inv]⟩
def HmP (x:Int×Bool)(w:World)(e:Ending)(w':World):Prop:=e=.returned (.tuple #[.int .i64 x.1,.bool x.2])∧Bw w w'
namespace shW
open nmW ckW
theorem home_k (q:Qy)(s:Sl3)(t:List Nd)(G:Nat→Prop)(v1 v2 v3:Value)(hs:SzQ q)(w:World)(Q:QR w G q s)(r1:Rd w (fun b=>b<w.heap.size) v1 (.sl (bares q t).length ((bares q t).map cjD)))(r2:Rd w (fun b=>b<w.heap.size) v2 (.sl (prevs q t).length ((prevs q t).map cjD)))(r3:Rd w (fun b=>b<w.heap.size) v3 (.sl (aggs q t).length ((aggs q t).map cjD))):
  Calls Tryz.prog 40 #[.agg ⟨qV q s⟩,.agg #[v1,v2,v3]] w (HmP (homeP q t) w):=by
 obtain⟨D1,d1,rfl,_,_⟩:=r1.sl_inv;obtain⟨D2,d2,rfl,_,_⟩:=r2.sl_inv;obtain⟨D3,d3,rfl,_,_⟩:=r3.sl_inv;have hb0:Bw w ((w.alloc (.cells ⟨qV q s⟩ 31)).alloc (.cells ⟨[.slice D1 (bares q t).length d1,.slice D2 (prevs q t).length d2,.slice D3 (aggs q t).length d3]⟩ 82)):=(bA).alloc sJ _;have b0:Blk ((w.alloc (.cells ⟨qV q s⟩ 31)).alloc (.cells ⟨[.slice D1 (bares q t).length d1,.slice D2 (prevs q t).length d2,.slice D3 (aggs q t).length d3]⟩ 82)) w.heap.size 31 (qV q s):=(Blk.new w _ _).alloc _;have b1:Blk ((w.alloc (.cells ⟨qV q s⟩ 31)).alloc (.cells ⟨[.slice D1 (bares q t).length d1,.slice D2 (prevs q t).length d2,.slice D3 (aggs q t).length d3]⟩ 82)) (w.heap.size+1) 82 [.slice D1 (bares q t).length d1,.slice D2 (prevs q t).length d2,.slice D3 (aggs q t).length d3]:=Blk.new' sJ;have hl1:(bares q t).length≤q.items.length:=uses_len q t _;have hl2:(prevs q t).length≤q.items.length:=uses_len q t _;have hl3:(aggs q t).length≤q.items.length:=uses_len q t _;have hil:=hs.il;have hlt:∀(j i:Nat),(bares q t)[j]? =some i→i<q.items.length:=fun j i h=>uses_lt h
 obtain⟨X,hX⟩:∃X,X=homeP q t:=⟨_,rfl⟩
 rw[←hX];unfold homeP at hX;replace r1:=r1.under hb0 (fun b h=>h);replace r3:=r3.under hb0 (fun b h=>h);have hR:=(Q.under hb0).r1;have hRl:=(Q.under hb0).lt;obtain⟨W0,hW0⟩:∃W0,W0=((w.alloc (.cells ⟨qV q s⟩ 31)).alloc (.cells ⟨[.slice D1 (bares q t).length d1,.slice D2 (prevs q t).length d2,.slice D3 (aggs q t).length d3]⟩ 82)):=⟨_,rfl⟩
 rw[←hW0]at hb0 b0 b1 r1 r3 hR hRl;have kc:(bares q t)++(aggs q t)≠ []→Calls Tryz.prog 83 #[.slice (some ⟨W0.heap.size,0,none⟩) 2 2] (W0.alloc (.cells ⟨[.slice D1 (bares q t).length d1,.slice D3 (aggs q t).length d3]⟩ 62)) (IlPost (bares q t++aggs q t) (W0.alloc (.cells ⟨[.slice D1 (bares q t).length d1,.slice D3 (aggs q t).length d3]⟩ 62))):=fun hne=>by
  have e:[bares q t,aggs q t].flatten=bares q t++aggs q t:=sJ;have e2:flN [bares q t,aggs q t] [bares q t,aggs q t].length=(bares q t).length+(aggs q t).length:=by unfold flN;simp
  have h:=concat_k (some ⟨W0.heap.size,0,none⟩) 2 (fun b=>b<W0.heap.size+1) [bares q t,aggs q t] (W0.alloc (.cells ⟨[.slice D1 (bares q t).length d1,.slice D3 (aggs q t).length d3]⟩ 62)) sJ (by
   rw[e2];have:=List.length_pos_iff.2 hne;rw[zH]at this;exact this) (by rw[e2];omega) (fun b h=>by simpa using h) (csrd (G:=fun b=>b<w.heap.size) rfl (fun b h=>by have:=hb0.size;omega) (by show W0.heap.size<W0.heap.size+1;omega) r1 r3)
  rw[e]at h;exact h
 have km:∀W v n c,n=(bares q t++aggs q t).length→OL W (W0.alloc (.cells ⟨[.slice D1 (bares q t).length d1,.slice D3 (aggs q t).length d3]⟩ 62)).heap.size NoF 3 1 (.slice v n c) n ((bares q t++aggs q t).map cjD)→bares q t++aggs q t≠ []→Calls Tryz.prog 82 #[.slice v n c] W fun e w'=>e=.returned (.int .i64 (minL (bares q t++aggs q t)))∧w'=W:=fun W v n c hn hO hne=>by
  subst hn;have r:=hO.rd (G:=fun _=>True) (fun _ h _=>h.elim) (fun _ _ _=>trivial);have hp:=List.length_pos_iff.2 hne;obtain⟨b,off,e,_,_⟩:=r.cells (fun e=>by have h2:=congrArg List.length e;rw[xC,List.length_nil]at h2;omega);subst e;have h:=Tryz.slices_Min_int b off (bares q t++aggs q t).length c ((bares q t++aggs q t).map fun(i:Nat)=>(i:Int)) W oQ (by rw[xC];omega) (by rw[zH];omega) (fun j hj=>cj_cells r j (by rw[xC]at hj;exact hj));rw[xH (by rw[xC];omega),minOf_eq hne]at h;exact h
 have hnl:∀L:List Nat,decide (L=[])=(L.length==0):=fun L=>by cases L<;>simp
 rw[hnl,hnl]at hX;have hne:¬(bares q t=[]∧aggs q t=[])→bares q t++aggs q t≠ []:=fun h e=>h (List.append_eq_nil_iff.1 e)
 have hz:(bares q t=[]∧aggs q t=[])↔(bares q t).length+(aggs q t).length=0:=by
  rw[←List.length_eq_zero_iff,←List.length_eq_zero_iff];omega
 generalize bares q t=L1 at*;generalize aggs q t=L3 at*;generalize prevs q t=L2 at*;have y0:=b0.cell 0;have u0:=b1.cell 0;have u1:=b1.cell 1;have u2:=b1.cell 2;simp only[qV,zY,xA]at y0 u0 u1 u2 hW0 ⊢;have hw:IntKind.i64.wrap ((L1.length:Int)+(L3.length:Int))=(L1.length:Int)+(L3.length:Int):=by rw[xI]<;>omega
 have hBB:=Hd hb0;replace b0:=Hd b0;replace b1:=Hd b1;replace kc:=Hd kc;replace km:=Hd km;replace r1:=Hd r1;replace r3:=Hd r3;replace hR:=Hd hR;replace hRl:=Hd hRl;replace hlt:=Hd hlt;replace hne:=Hd hne;clear r2 Q hs hb0 hnl;by_cases c0:L1=[]∧L3=[]
 ·rw[if_pos c0]at hX;subst hX;have h0:=hz.1 c0;have e1:((L1.length:Int)+(L3.length:Int)==0)=true:=beqT oQ;replace hz:=Hd hz;clear c0 h0;go_enter Tryz.func40,Tryz.ntmps40;go_upto_region 1 with fail
  rw[←hW0];clear hW0;go_wp2;refine bodyPost_ret (results_tmp2 rfl _ _ _) rfl ?_;exact⟨rfl,hBB.out⟩
 rw[if_neg c0]at hX;have hp:¬(L1.length:Int)+(L3.length:Int)=0:=fun e=>c0 (hz.2 oQ)
 have e1:((L1.length:Int)+(L3.length:Int)==0)=false:=beqF hp;have hne':=hne.out c0;have kc1:=Hd (kc.out hne');have km1:=Hd (fun W v n c h1 h2=>km.out W v n c h1 h2 hne');obtain⟨OW,hOW⟩:∃b,b=(decide (L1.length=1)&&(L3.length==0&&L2.length==0)):=⟨_,rfl⟩
 rw[←hOW]at hX;replace hOW:=Hd hOW;replace hX:=Hd hX;replace hne':=Hd hne';clear hz c0 hne kc km;go_enter Tryz.func40,Tryz.ntmps40;go_upto_region 1 with fail
 rw[←hW0];clear hW0;go_upto_region 3 with fail
 go_cut [6] (fun s wx=>s=.bool OW∧wx=W0)
 case first=>
  have hd:=hOW.out;have a1:((L1.length:Int)==1)=decide (L1.length=1):=by
   by_cases h:L1.length=1
   ·rw[zW h];exact beqT oQ
   ·rw[zV h];exact beqF oQ
  have a3:((L3.length:Int)==0)=(L3.length==0):=by
   by_cases h:L3.length=0
   ·rw[h];rfl
   ·have:(L3.length==0)=false:=by simp[h]
    rw[this];exact beqF oQ
  have a2:((L2.length:Int)==0)=(L2.length==0):=by
   by_cases h:L2.length=0
   ·rw[h];rfl
   ·have:(L2.length==0)=false:=by simp[h]
    rw[this];exact beqF oQ
  generalize decide (L1.length=1)=x1 at a1 hd;generalize (L3.length==0)=x3 at a3 hd;generalize (L2.length==0)=x2 at a2 hd;replace hd:=Hd hd;cases x1<;>cases x3<;>cases x2
  all_goals
   go_wp2;go_meet;exact⟨by rw[hd.out];rfl,rfl⟩
 case rest=>
 obtain⟨rfl,hwc⟩:=hcut;obtain rfl:=hwc.symm;clear hwc;go_wp2;go_loopw [36] (fun i wr=>wr=W0∧∃j:Nat,j≤L1.length∧i=.int .i64 j∧Hid (∀(k a:Nat),L1[k]? =some a→k<j→negAt q a=false)) (fun i _=>L1.length- (intOf i).toNat)
 case atStart=>exact⟨rfl,0,zE _,rfl,fun k a h h3=>by omega⟩
 case round=>
  obtain⟨hwr,j,hj,rfl,hpp⟩:=hrel;obtain rfl:=hwr.symm;clear hwr;by_cases hjl:j<L1.length
  ·obtain⟨i,hi⟩:=getx hjl;have hil2:=hlt.out j i hi;obtain⟨x,hx⟩:=getx hil2;have z0:=cj_at r1.out hi;obtain⟨gb,ob,rfl,z0⟩:=z0;obtain⟨gi,off,B2,d2',hA,_,_,a0,_⟩:=it_at hR.out hx;have g0:(0:Int)≤(j:Int):=oQ;have g1:(j:Int)<L1.length:=oQ;have g2:(0:Int)≤(i:Int):=oQ;have g3:(i:Int)<q.items.length:=oQ;rw[hA]at y0;have hng:negAt q i=x.neg:=by unfold negAt;rw[hx]
   replace hA:=Hd hA;replace hx:=Hd hx;cases hv:x.neg with
   |true=>
    rw[hv]at a0 hng;have hfin:X=((i:Int),OW):=by rw[hX.out,find_first hi hng hpp.out]
    replace hfin:=Hd hfin;replace hi:=Hd hi;clear hng hv;go_wp2;refine bodyPost_ret (results_tmp2 rfl _ _ _) rfl ?_;exact⟨by rw[hfin.out];rfl,hBB.out⟩
   |false=>
    rw[hv]at a0 hng;have hpp2:Hid (∀(k a:Nat),L1[k]? =some a→k<j+1→negAt q a=false):=Hd fun k a h h3=>by
     by_cases hkj:k=j
     ·subst hkj;rw[hi]at h;injection h with h;subst h;exact hng
     ·exact hpp.out k a h oQ
    replace hi:=Hd hi;clear hng hv;go_wp2;go_roundw
    case rel=>exact⟨trivial,j+1,oQ,gQ,hpp2⟩
    case measure=>exact mQ
  ·obtain rfl:j=L1.length:=oQ;have g1:¬(L1.length:Int)<L1.length:=oQ;have hfin:X=((minL (L1++L3):Int),OW):=by rw[hX.out,find_no fun k a h=>hpp.out k a h (zC.1 h).1]
   replace hfin:=Hd hfin;have hBa:Bw w (W0.alloc (.cells ⟨[.slice D1 L1.length d1,.slice D3 L3.length d3]⟩ 62)):=hBB.out.alloc hBB.out.size _;replace hBa:=Hd hBa;go_wp2_with (first
    |(go_at_call 83;refine kc1.out.mono ?_;rintro e W2 ⟨v2,rfl,hO2,hX2⟩;obtain⟨N,hN⟩:∃N,N=(L1++L3).length:=⟨_,rfl⟩;rw[←hN]at hO2;obtain⟨A2,c2,rfl⟩:=hO2.form;have km2:=Hd (km1.out W2 A2 N c2 hN hO2);replace hN:=Hd hN;replace hX2:=Hd hX2;clear hO2)
    |(go_at_call 82;refine km2.out.mono ?_;rintro e W3 ⟨rfl,hx⟩;subst W3))
   refine bodyPost_ret (results_tmp2 rfl _ _ _) rfl ?_;exact⟨by rw[hfin.out];rfl,hBa.out.and1 nR hX2.out⟩
end shW
theorem bl_skip {q:Qy}{s:Bl}{x:Nd}(h:isVar x.op=false):blS q s x=s:=by unfold blS;rw[if_pos h]
theorem bl_step {q:Qy}{s:Bl}{x:Nd}(h:isVar x.op=true):blS q s x=⟨if s.least<0∨itemI q x.v<s.least then itemI q x.v else s.least,if bareO x.op=true∧negAt q (itemI q x.v).toNat=true then itemI q x.v else s.neg,if bareO x.op=true then itemI q x.v else s.bare,
  if bareO x.op=true∧0≤s.bare∧s.bare≠itemI q x.v then true else s.sev,if x.op≠4 then true else s.oth⟩:=by
 unfold blS;rw[if_neg (by rw[h];intro h;cases h)]
theorem blA_next {q:Qy}{t:List Nd}{j:Nat}{x:Nd}(h:t[j]? =some x):blA q (t.take (j+1))=blS q (blA q (t.take j)) x:=by
 rw[zJ,h];exact blA_snoc q (t.take j) x
def BeRel (q:Qy)(s:Sl3)(t:List Nd)(w:World)(a b c d e i:Value)(wr:World):Prop:=∃(j:Nat)(S:Bl),j≤t.length∧S=blA q (t.take j)∧i=.int .i64 j∧a=.int .i64 S.least∧b=.int .i64 S.neg∧c=.int .i64 S.bare∧d=.bool S.sev∧e=.bool S.oth∧QB q s w wr
theorem BeRel.mk {q:Qy}{s:Sl3}{t:List Nd}{w wr:World}{j:Nat}{S:Bl}{a b c d e i:Value}(h1:j≤t.length)(h2:S=blA q (t.take j))(h3:i=.int .i64 j)(ha:a=.int .i64 S.least)(hb:b=.int .i64 S.neg)(hc:c=.int .i64 S.bare)(hd:d=.bool S.sev)(he:e=.bool S.oth)(hq:QB q s w wr):BeRel q s t w a b c d e i wr:=⟨j,S,h1,h2,h3,ha,hb,hc,hd,he,hq⟩
def BeP (x:Int×Bool)(w:World)(e:Ending)(w':World):Prop:=e=.returned (.tuple #[.int .i64 x.1,.bool x.2])∧Bw w w'
namespace shR
open nmW shW ckW
theorem belongs_k (q:Qy)(s:Sl3)(A:Option Addr)(c:Nat)(F G:Nat→Prop)(t:List Nd)(hs:SzQ q)(ht:SzN t)(hv:∀x∈t,isVar x.op=true→0≤itemI q x.v∧itemI q x.v<(q.items.length:Int))(w:World)(Q:QR w G q s)(hF:∀b,F b→b<w.heap.size)(r:Rd w F (.slice A t.length c) (.sl t.length (t.flatMap ndD))):
  Calls Tryz.prog 29 #[.agg ⟨qV q s⟩,.slice A t.length c] w (BeP (belR q t) w):=by
 have h0:=QB.new q s w;have ki:∀(v:ByteArray) W,Bw w W→Calls Tryz.prog 61 #[.agg ⟨qV q s⟩,.string v] W fun e w'=>e=.returned (.int .i64 (itemI q v))∧Bw W w':=fun v W h=>ritem_k q s G v hs.il W (Q.under h).lt (Q.under h).r1
 have kq:∀W,Bw w W→QR W G q s:=fun W h=>Q.under h
 have hl:=ht.1;have hs0:blA q (t.take 0)=bl0:=rfl;obtain⟨A1,c1,A2,c2,A3,c3⟩:=s;simp only[qV]at h0 ki ⊢;replace h0:=Hd h0;replace ki:=Hd ki;replace kq:=Hd kq;replace r:=Hd r;replace hF:=Hd hF;replace hv:=Hd hv;replace hs0:=Hd hs0;clear hs ht Q;go_enter Tryz.func29,Tryz.ntmps29;go_wp2;go_loopw [6,7,8,9,10,11] (fun a b c d e i wr=>BeRel q ⟨A1,c1,A2,c2,A3,c3⟩ t w a b c d e i wr) (fun _ _ _ _ _ i _=>t.length- (intOf i).toNat)
 case atStart=>exact .mk (j:=0) (S:=bl0) (zE _) hs0.out.symm rfl rfl rfl rfl rfl rfl h0.out
 case round=>
  clear h0 hs0;obtain⟨j,S,hj,hS,rfl,rfl,rfl,rfl,rfl,rfl,hQ⟩:=hrel;by_cases hlt:j<t.length
  ·obtain⟨x,hx⟩:=getx hlt;obtain⟨g,off,rfl,hFg,z0,z1,z2,z3,z4,z5⟩:=nd_at (r.out.under hQ.1 hF.out) hx;have hsz:=hQ.1.size;have g0:(0:Int)≤(j:Int):=oQ;have g1:(j:Int)<t.length:=oQ;have hnx:=blA_next (q:=q) hx;rw[←hS]at hnx;obtain⟨y0,y1,y2,y3,y4,y5,y6⟩:=hQ.cells;simp only at y0 y1 y2 y3 y4 y5 y6;cases hvr:isVar x.op with
   |false=>
    rw[bl_skip hvr]at hnx;have hgd:decide (x.op<4)=true∨(decide (x.op<4)=false∧decide (11<x.op)=true):=by
     unfold isVar at hvr;by_cases h4:x.op<4
     ·exact .inl (zW h4)
     ·rw[zW (by omega:4≤x.op),xE]at hvr;have:=of_decide_eq_false hvr;exact .inr ⟨zV h4,zW oQ⟩
    obtain⟨op,nn,vv,at_,na,nb⟩:=x;simp only at z0 hgd;replace hnx:=Hd hnx;replace hQ:=Hd hQ;replace hS:=Hd hS;clear hx hvr z1 z2 z3 z4 z5 y0 y1 y2 y3 y4 y5 y6;rcases hgd with h4 |⟨h4,h11⟩
    all_goals
     go_wp2;go_roundw
     case rel=>exact .mk (j:=j+1) (S:=S) oQ hnx.out.symm gQ rfl rfl rfl rfl rfl hQ.out
     case measure=>exact mQ
   |true=>
    rw[bl_step hvr]at hnx;obtain⟨hk0,hk1⟩:=hv.out x (zA hx) hvr;have h411:decide (x.op<4)=false∧decide (11<x.op)=false:=by
     unfold isVar at hvr;simp only[xK,decide_eq_true_eq]at hvr;exact⟨zV oQ,zV oQ⟩
    obtain⟨h4,h11⟩:=h411;have ki1:=ki.out x.v;obtain⟨k,hk⟩:∃k:Nat,itemI q x.v=(k:Int):=⟨(itemI q x.v).toNat,oQ⟩
    rw[hk]at hk0 hk1 ki1 hnx;rw[Int.toNat_natCast]at hnx;obtain⟨it,hit⟩:=getx (l:=q.items) (i:=k) oQ;have hng:negAt q k=it.neg:=by unfold negAt;rw[hit]
    rw[hng]at hnx;obtain⟨op,nn,vv,at_,na,nb⟩:=x;simp only at z0 z2 h4 h11 ki1 hnx;obtain⟨sl,sn,sb,sv,so⟩:=S;simp only at hnx;obtain⟨L',hL'⟩:∃L',L'=if sl<0∨(k:Int)<sl then(k:Int)else sl:=⟨_,rfl⟩
    obtain⟨N',hN'⟩:∃N',N'=if bareO op=true∧it.neg=true then(k:Int)else sn:=⟨_,rfl⟩
    obtain⟨B',hB'⟩:∃B',B'=if bareO op=true then(k:Int)else sb:=⟨_,rfl⟩
    obtain⟨V',hV'⟩:∃V',V'=if bareO op=true∧0≤sb∧sb≠(k:Int)then true else sv:=⟨_,rfl⟩
    obtain⟨O',hO'⟩:∃O',O'=if op≠4 then true else so:=⟨_,rfl⟩
    rw[←hL',←hN',←hB',←hV',←hO']at hnx;replace hL':=Hd hL';replace hN':=Hd hN';replace hB':=Hd hB';replace hV':=Hd hV';replace hO':=Hd hO';replace hnx:=Hd hnx;replace hS:=Hd hS;replace ki1:=Hd ki1;replace hit:=Hd hit;replace hQ:=Hd hQ;clear hx hvr hk hng;go_upto_region 11 with fail
    go_cut [13] (fun s wx=>s=.int .i64 (k:Nat)∧QB q ⟨A1,c1,A2,c2,A3,c3⟩ w wx)
    case first=>
     go_region_law (go_simp;go_at_call 61;refine(ki1.out _ (by first|exact hQ.out.1 |exact hQ.out.1.drew)).mono ?_;rintro e W1 ⟨rfl,hX1⟩;have hQ1:=Hd ((by first|exact hQ.out |exact hQ.out.stay ((bR).drew):QB q ⟨A1,c1,A2,c2,A3,c3⟩ w _).stay hX1);clear hX1)
     all_goals(go_wp2;all_goals(go_meet;exact⟨rfl,hQ1.out⟩))
    case rest=>
    clear hQ y0 y1 y2 y3 y4 y5 y6 z0 z1 z2 z3 z4 z5;obtain⟨rfl,hQ⟩:=hcut;obtain⟨y0,y1,y2,y3,y4,y5,y6⟩:=hQ.cells;simp only at y0 y1 y2 y3 y4 y5 y6;obtain⟨gi,oi,B2,d2,rfl,_,_,a0,_⟩:=it_at (kq.out wc hQ.1).r1 hit.out;replace hQ:=Hd hQ;obtain⟨W1,hW1⟩:∃W,W=wc:=⟨_,rfl⟩
    subst hW1;go_upto_region 12 with fail
    go_cut [45] (fun s wx=>s=.bool (decide (sl<0∨(k:Int)<sl))∧wx=W1)
    case first=>
     by_cases h1:sl<0
     ·have h3:=zW (p:=sl<0∨(k:Int)<sl) (.inl h1);go_wp2;go_meet;exact⟨by rw[h3],rfl⟩
     ·by_cases h2:(k:Int)<sl
      ·have h3:=zW (p:=sl<0∨(k:Int)<sl) (.inr h2);go_wp2;go_meet;exact⟨by rw[h3],rfl⟩
      ·have h3:=zV (p:=sl<0∨(k:Int)<sl) oQ;go_wp2;go_meet;exact⟨by rw[h3],rfl⟩
    case rest=>
    obtain⟨rfl,hwc⟩:=hcut;obtain rfl:=hwc.symm;clear hwc;rename_i K2 hK2;refine hK2 _ _ ?_;clear hK2 K2;go_cut [6] (fun s wx=>s=.int .i64 L'∧wx=W1)
    case first=>
     have hd:=hL'.out;by_cases h:sl<0∨(k:Int)<sl
     ·rw[if_pos h]at hd;have h3:=zW h;generalize decide (sl<0∨(k:Int)<sl)=b at h3;subst h3;go_wp2;go_meet;exact⟨by rw[hd],rfl⟩
     ·rw[if_neg h]at hd;have h3:=zV h;generalize decide (sl<0∨(k:Int)<sl)=b at h3;subst h3;go_wp2;go_meet;exact⟨by rw[hd],rfl⟩
    case rest=>
    obtain⟨rfl,hwc⟩:=hcut;obtain rfl:=hwc.symm;clear hwc;have p0:(0:Int)≤(k:Int):=hk0;have p1:(k:Int)<q.items.length:=hk1;go_upto_region 14 with fail
    go_cut [52] (fun s wx=>s=.bool (bareO op)∧wx=W1)
    case first=>
     by_cases h1:op=4
     ·have h3:bareO op=true:=(by unfold bareO;rw[zW h1,Bool.true_or]);have e1:(op==4)=true:=beqT h1;go_wp2;go_meet;exact⟨by rw[h3],rfl⟩
     ·have e1:(op==4)=false:=beqF h1;by_cases h2:op=11
      ·have h3:bareO op=true:=(by unfold bareO;rw[zW h2,Bool.or_true]);have e2:(op==11)=true:=beqT h2;go_wp2;go_meet;exact⟨by rw[h3],rfl⟩
      ·have h3:bareO op=false:=(by unfold bareO;rw[zV h1,zV h2];rfl);have e2:(op==11)=false:=beqF h2;go_wp2;go_meet;exact⟨by rw[h3],rfl⟩
    case rest=>
    obtain⟨rfl,hwc⟩:=hcut;obtain rfl:=hwc.symm;clear hwc;rename_i K2 hK2;refine hK2 _ _ ?_;clear hK2 K2;go_cut [7,8,9] (fun a b c wx=>a=.int .i64 N'∧b=.int .i64 B'∧c=.bool V'∧wx=W1)
    case first=>
     have hn:=hN'.out;have hb:=hB'.out;have hvv:=hV'.out;cases hbo:bareO op with
     |false=>
      rw[hbo]at hn hb hvv;rw[if_neg sJ]at hn hb hvv;go_wp2;go_meet;exact⟨by rw[hn],by rw[hb],by rw[hvv],rfl⟩
     |true=>
      rw[hbo]at hn hb hvv;rw[if_pos rfl]at hb;have hn2:N'=if it.neg=true then(k:Int)else sn:=by rw[hn];simp
      have hv2:V'=if 0≤sb∧sb≠(k:Int)then true else sv:=by rw[hvv];simp
      replace hn2:=Hd hn2;replace hv2:=Hd hv2;replace hb:=Hd hb;clear hn hvv hbo;cases hng:it.neg<;>rw[hng]at a0
      all_goals
       have hn3:=hn2.out;rw[hng]at hn3;simp only[if_true,if_false,Bool.false_eq_true]at hn3;replace hn3:=Hd hn3;clear hng hn2;by_cases h1:0≤sb
       ·by_cases h2:sb=(k:Int)
        ·have hv3:V'=sv:=(by rw[hv2.out,if_neg (fun h=>h.2 h2)]);have e2:(sb != (k:Int))=false:=by simp[h2]
         have e3:(sb==(k:Int))=true:=beqT h2;replace h2:=Hd h2;replace hv3:=Hd hv3;go_wp2;go_meet;exact⟨by rw[hn3.out],by rw[hb.out],by rw[hv3.out],rfl⟩
        ·have hv3:V'=true:=(by rw[hv2.out,if_pos ⟨h1,h2⟩]);have e2:(sb != (k:Int))=true:=by simp[h2]
         have e3:(sb==(k:Int))=false:=beqF h2;replace hv3:=Hd hv3;go_wp2;go_meet;exact⟨by rw[hn3.out],by rw[hb.out],by rw[hv3.out],rfl⟩
       ·have hv3:=Hd (show V'=sv by rw[hv2.out,if_neg (fun h=>h1 h.1)]);go_wp2;go_meet;exact⟨by rw[hn3.out],by rw[hb.out],by rw[hv3.out],rfl⟩
    case rest=>
    obtain⟨rfl,rfl,rfl,hwc⟩:=hcut;obtain rfl:=hwc.symm;clear hwc;go_upto_region 20 with fail
    go_cut [69] (fun s wx=>s=.bool (op != 4)∧wx=W1)
    case first=>
     go_wp2;go_meet;exact⟨rfl,rfl⟩
    case rest=>
    obtain⟨rfl,hwc⟩:=hcut;obtain rfl:=hwc.symm;clear hwc;rename_i K2 hK2;refine hK2 _ _ ?_;clear hK2 K2;have hd:=hO'.out;by_cases h:op=4
    ·rw[if_neg (fun h2=>h2 h)]at hd;have e2:(op != 4)=false:=by simp[h]
     replace h:=Hd h;replace hd:=Hd hd;go_wp2;go_roundw
     case rel=>exact .mk (j:=j+1) (S:=⟨L',N',B',V',O'⟩) oQ hnx.out.symm gQ rfl rfl rfl rfl (by rw[hd.out]) hQ.out
     case measure=>exact mQ
    ·rw[if_pos h]at hd;have e2:(op != 4)=true:=by simp[h]
     replace hd:=Hd hd;go_wp2;go_roundw
     case rel=>exact .mk (j:=j+1) (S:=⟨L',N',B',V',O'⟩) oQ hnx.out.symm gQ rfl rfl rfl rfl (by rw[hd.out]) hQ.out
     case measure=>exact mQ
  ·obtain rfl:j=t.length:=oQ;have g1:¬(t.length:Int)<t.length:=oQ;rw[zL]at hS;obtain⟨X,hX⟩:∃X,X=belR q t:=⟨_,rfl⟩
   have hX2:=hX;unfold belR at hX2;rw[←hS]at hX2;obtain⟨sl,sn,sb,sv,so⟩:=S;simp only at hX2;replace hX:=Hd hX;replace hX2:=Hd hX2;replace hQ:=Hd hQ;clear hS;go_upto_region 22 with fail
   go_cut [14] (fun s wx=>s=.bool (decide (0≤sb)&&(!sv&& !so))∧wx=wr)
   case first=>
    by_cases h1:0≤sb
    ·have h3:=zW h1;cases sv<;>cases so
     all_goals
      go_wp2;go_meet;exact⟨by rw[h3];rfl,rfl⟩
    ·have h3:=zV h1;go_wp2;go_meet;exact⟨by rw[h3];rfl,rfl⟩
   case rest=>
   obtain⟨rfl,hwc⟩:=hcut;obtain rfl:=hwc.symm;clear hwc;by_cases h:0≤sn
   ·have hd:=hX2.out;rw[if_pos h]at hd;replace hd:=Hd hd;go_wp2;refine bodyPost_ret (results_tmp2 rfl _ _ _) rfl ?_;exact⟨by rw[←hX.out,hd.out];rfl,hQ.out.1⟩
   ·have hd:=hX2.out;rw[if_neg h]at hd;replace hd:=Hd hd;go_wp2;refine bodyPost_ret (results_tmp2 rfl _ _ _) rfl ?_;exact⟨by rw[←hX.out,hd.out];rfl,hQ.out.1⟩
end shR
end Go.Proofs.YthaabihjeomipaaGreatDoor
