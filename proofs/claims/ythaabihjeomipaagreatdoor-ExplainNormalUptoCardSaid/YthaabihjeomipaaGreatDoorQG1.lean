/- Maps with their values; byName. -/
import Derived.Test.YthaabihjeomipaaGreatDoorQD7
import Derived.Maps.OwnSet
import Derived.Deep.AppendLies
namespace Go.Proofs.YthaabihjeomipaaGreatDoor
set_option maxRecDepth 100000
set_option maxHeartbeats 16000000
open Go.RowKit Go.Deep Go.Maps
set_option linter.unusedVariables false
set_option linter.unusedSimpArgs false
theorem keyS:Keyed Tryz.prog 9:=string_keyed Tryz.underlying9
theorem keyI:Keyed Tryz.prog 3:=int_keyed Tryz.underlying3
theorem zeroI (w:World):(zeroValue 3).run Tryz.prog w=.ok (.int .i64 0) w:=kQ
theorem run_makeHint (n:Int)(w:World):(Instr.makeMap 118 (some (.int .i64 n))).run Tryz.prog w=.ok (.map (some w.heap.size)) (w.alloc (.map #[] 0)):=by
 simp[Instr.makeMap,run_underlying Tryz.underlying118,asInt,asIntOf,Result.andThen]
def kl (s:ByteArray):Lit:=.string s.data.toList
theorem kl_key {s:ByteArray}(h:s.size≤1048576):keyOf Tryz.prog 9 (.string s)=some (kl s):=WideMaps.keyOf_string_mk Tryz.underlying9 (by unfold maxLen;omega)
theorem kl_ne {s t:ByteArray}(h:s≠t):kl s≠kl t:=fun e=>h (by unfold kl at e;injection e with e;exact ByteArray.ext (Array.ext' e))
def MapG (k:TypeId)(w:World)(m n:Nat)(f:Lit→Option Int):Prop:=
 ∃D:DataW Unit,w.ownsMap Tryz.prog k (plainElem Tryz.prog 3) m n D∧∀x,Maps.has D x=(f x).isSome∧D.atKey x (.lit (.int .i64 0))=.lit (.int .i64 ((f x).getD 0))
theorem MapG.made (k:TypeId)(w:World):MapG k (w.alloc (.map #[] 0)) w.heap.size 0 (fun _=>none):=
 ⟨.map [],World.ownsMap_made _ _ _ _,fun s=>⟨rfl,rfl⟩⟩
theorem MapG.made' {k:TypeId}{w:World}{g:Nat}(hg:w.heap.size=g):MapG k (w.alloc (.map #[] 0)) g 0 (fun _=>none):=hg▸MapG.made k w
theorem MapG.lt {k:TypeId}{w:World}{m n:Nat}{f:Lit→Option Int}(h:MapG k w m n f):m<w.heap.size:=let ⟨_,h1,_⟩:=h;h1.lt
theorem MapG.mono {k:TypeId}{w:World}{m n n':Nat}{f:Lit→Option Int}(h:MapG k w m n f)(hn:n≤n'):MapG k w m n' f:=let ⟨D,h1,h2⟩:=h;⟨D,h1.mono hn,h2⟩
theorem MapG.kept {k:TypeId}{w w':World}{m n:Nat}{f:Lit→Option Int}{row:Option Nat}(h:MapG k w m n f)(hg:w.grownBy w' row)(hne:some m≠row):MapG k w' m n f:=
 let ⟨D,h1,h2⟩:=h;⟨D,h1.kept hg hne,h2⟩
theorem MapG.stay {k:TypeId}{w w':World}{m n:Nat}{f:Lit→Option Int}(h:MapG k w m n f)(hb:Bw w w'):MapG k w' m n f:=h.kept (row:=none) (Below.grown_none hb) sJ
theorem MapG.setCell {k:TypeId}{w:World}{m n:Nat}{f:Lit→Option Int}(h:MapG k w m n f){a:Addr}(ha:m≠a.block)(u:Value):MapG k (w.setCell a u) m n f:=
 let ⟨D,h1,h2⟩:=h;⟨D,h1.setCell ha u,h2⟩
theorem MapG.look {w:World}{m n:Nat}{f:Lit→Option Int}(h:MapG 9 w m n f){s:ByteArray}(hs:s.size≤1048576):
  (Instr.lookup 118 (.map (some m)) (.string s) true).run Tryz.prog w=.ok (.tuple #[.int .i64 ((f (kl s)).getD 0),.bool (f (kl s)).isSome]) w:=by
 obtain⟨D,h1,h2⟩:=h;obtain⟨v,ps,hrun,hv⟩:=h1.look_ok keyS Tryz.underlying118 (zeroI w) (plainElem_int Tryz.underlying3 dQ) (kl_key hs);obtain⟨c,rfl,hc,_⟩:=plainElem_int_inv Tryz.underlying3 hv;have e:DataW.lit (.int .i64 ((f (kl s)).getD 0))=(DataW.lit (.int .i64 c):DataW Unit):=(h2 (kl s)).2.symm.trans (congrArg Prod.fst hc);have e2:(f (kl s)).getD 0=c:=by
  exact(Lit.int.inj (DataW.lit.inj e)).2
 rw[hrun,(h2 _).1,e2]
open Classical in
noncomputable def putM (f:Lit→Option Int)(x:Lit)(k:Int):Lit→Option Int:=fun y=>if y=x then some k else f y
theorem putM_same (f:Lit→Option Int)(x:Lit)(k:Int):putM f x k x=some k:=if_pos rfl
theorem putM_other {f:Lit→Option Int}{x y:Lit}{k:Int}(h:y≠x):putM f x k y=f y:=if_neg h
theorem wpList_putS {w:World}{ops:Array Oper}{rest:List Oper}{o:Oper}{a:Act}{Q:Exit→Act→World→Prop}(hg:o.guard=none)(m x v:Operand)(hop:o.op=Op.mapUpdate 118 m x v)
  {b n:Nat}{f:Lit→Option Int}{s:ByteArray}{k:Int}(hm:a.eval m=.map (some b))(h:MapG 9 w b n f)(hn:n≤1048576)(hx:a.eval x=.string s)(hv:a.eval v=.int .i64 k)(hs:s.size≤1048576)(hk:(Lit.int .i64 k).wf=true)
  (hK:∀w',MapG 9 w' b (n+1) (putM f (kl s) k)→w.grownBy w' (some b)→wpList Tryz.prog ops Q rest (a.put o.dst undef) w'):wpList Tryz.prog ops Q (o::rest) a w:=by
 obtain⟨D,h1,h2⟩:=h;refine wpList_mapUpdate_own w hg m x v _ hop 9 3 keyS Tryz.underlying118 _ b n D hm h1 (by unfold maxLen;omega) _ _ (kl s) hx hv (kl_key hs) _ [] (plainElem_int Tryz.underlying3 hk) fun w' h3 h4=>hK w' ⟨_,h3,fun t=>?_⟩ h4
 by_cases e:t=kl s
 ·subst e;rw[has_put_same h1.isMap (by unfold kl;trivial),atKey_put_same h1.isMap (by unfold kl;trivial),putM_same];exact⟨rfl,rfl⟩
 ·rw[has_put_other e,atKey_put_other e,putM_other e];exact h2 t
def optP (p:Int):Option Int:=if p<0 then none else some p
theorem optP_isSome (p:Int):(optP p).isSome=decide (0≤p):=by
 unfold optP;by_cases h:p<0
 ·rw[if_pos h,zV oQ];rfl
 ·rw[if_neg h,zW oQ];rfl
theorem optP_getD {p:Int}(h:0≤p):(optP p).getD 0=p:=by unfold optP;rw[if_neg oQ];rfl
theorem placeI_lt (l:List ByteArray)(s:ByteArray):placeI l s<l.length:=by
 unfold placeI;split
 ·rename_i i h;rw[List.findIdx?_eq_some_iff_getElem]at h;obtain⟨hi,_⟩:=h;omega
 ·omega
theorem placeI_ge (l:List ByteArray)(s:ByteArray): -1≤placeI l s:=by unfold placeI;split<;>omega
theorem placeI_snoc (l:List ByteArray)(y s:ByteArray):placeI (l++[y]) s=if placeI l s<0 then(if y=s then(l.length:Int)else -1)else placeI l s:=by
 unfold placeI;rw[List.findIdx?_append];cases h:l.findIdx? (fun a=>decide (a=s))with
 |some i=>simp;omega
 |none=>
  by_cases e:y=s
  ·simp[e,List.findIdx?_cons]
  ·simp[e,List.findIdx?_cons]
theorem vrs_take {q:Qy}{j:Nat}{x:It}(h:q.items[j]? =some x):(vrs q).take (j+1)=(vrs q).take j++[x.v]:=by
 unfold vrs;rw[zJ,zG,h];rfl
theorem vrs_len (q:Qy):(vrs q).length=q.items.length:=by unfold vrs;simp
def NmIs (l:List ByteArray)(f:Lit→Option Int):Prop:=∀v,f (kl v)=optP (placeI l v)
theorem NmIs.old {l:List ByteArray}{f:Lit→Option Int}{y:ByteArray}(h:NmIs l f)(hy:0≤placeI l y):NmIs (l++[y]) f:=fun v=>by
 rw[h v,placeI_snoc];by_cases e:y=v
 ·subst e;rw[if_neg oQ]
 ·rw[if_neg e];by_cases h2:placeI l v<0
  ·rw[if_pos h2];have:=placeI_ge l v;congr 1;omega
  ·rw[if_neg h2]
theorem NmIs.put {l:List ByteArray}{f:Lit→Option Int}{y:ByteArray}(h:NmIs l f)(hy:placeI l y<0):NmIs (l++[y]) (putM f (kl y) l.length):=fun v=>by
 rw[placeI_snoc];by_cases e:y=v
 ·subst e;rw[putM_same,if_pos hy,if_pos rfl];unfold optP;rw[if_neg oQ]
 ·rw[putM_other (fun h=>kl_ne e h.symm),if_neg e,h v];by_cases h2:placeI l v<0
  ·rw[if_pos h2];have:=placeI_ge l v;congr 1;omega
  ·rw[if_neg h2]
structure BN (q:Qy)(s:Sl3)(w wr:World)(j:Nat):Prop where
 qb:QB q s w wr
 mp:∃f,MapG 9 wr (w.heap.size+1) j f∧NmIs ((vrs q).take j) f
theorem BN.stay {q:Qy}{s:Sl3}{w wr W:World}{j:Nat}(h:BN q s w wr j)(hb:Bw wr W):BN q s w W j:=⟨h.qb.stay hb,let ⟨f,h1,h2⟩:=h.mp;⟨f,h1.stay hb,h2⟩⟩
namespace ckW
open nmW
theorem byName_k (q:Qy)(s:Sl3)(F:Nat→Prop)(hl:q.items.length≤1048576)(hv:∀x∈q.items,x.v.size≤1048576)(w:World)(hF:∀b,F b→b<w.heap.size)(r:Rd w F (.slice s.a1 q.items.length s.c1) (.sl q.items.length (q.items.flatMap itD))):
  Calls Tryz.prog 69 #[.agg ⟨qV q s⟩] w fun e w'=>e=.returned (.map (some (w.heap.size+1)))∧(∃f,MapG 9 w' (w.heap.size+1) q.items.length f∧NmIs (vrs q) f)∧Bw w w':=by
 have h0:=QB.new q s w;obtain⟨A1,c1,A2,c2,A3,c3⟩:=s;have hm0:BN q ⟨A1,c1,A2,c2,A3,c3⟩ w ((w.alloc (.cells ⟨qV q ⟨A1,c1,A2,c2,A3,c3⟩⟩ 31)).alloc (.map #[] 0)) 0:=⟨h0.stay bA,_,MapG.made' sJ,fun v=>rfl⟩;simp only[qV]at h0 r hm0 ⊢;replace r:=Hd r;replace hF:=Hd hF;replace h0:=Hd h0;replace hm0:=Hd hm0;replace hv:=Hd hv;have hmm:=run_makeHint;go_enter Tryz.func69,Tryz.ntmps69;go_wp2;go_loopw [15] (fun i wr=>∃j:Nat,j≤q.items.length∧i=.int .i64 j∧BN q ⟨A1,c1,A2,c2,A3,c3⟩ w wr j) (fun i _=>q.items.length- (intOf i).toNat)
 case atStart=>exact⟨0,zE _,rfl,hm0.out⟩
 case round=>
  clear h0 hm0;obtain⟨j,hj,rfl,hI⟩:=hrel;obtain⟨hQ,f,hM,hN⟩:=hI;obtain⟨y0,_⟩:=hQ.cells;simp only at y0;by_cases hlt:j<q.items.length
  ·obtain⟨x,hx⟩:=getx hlt;obtain⟨g,off,B2,d2,rfl,_,_,a0,a1,a2,a3,a4⟩:=it_at (r.out.under hQ.1 hF.out) hx;have g0:(0:Int)≤(j:Int):=oQ;have g1:(j:Int)<q.items.length:=oQ;have hxv:=hv.out x (zA hx);have hsz:=hM.lt;have hb1:Bw wr (wr.alloc (.cells ⟨itV x (.slice B2 x.tys.length d2)⟩ 53)):=bA;have lk:=(hM.stay hb1).look hxv;have hM1:=hM.stay hb1;have hQ1:=hQ.stay hb1;rw[hN x.v]at lk;rw[optP_isSome]at lk;simp only[itV]at lk hb1 hM1 hQ1;have hNt:=Hd (vrs_take hx);have hwf:(Lit.int .i64 (j:Int)).wf=true:=WalkArith.wf_i64 oQ;replace hb1:=Hd hb1;replace hQ1:=Hd hQ1;replace hQ:=Hd hQ;replace hx:=Hd hx;have hlen:((vrs q).take j).length=j:=by rw[zO,vrs_len];omega
   by_cases hu:0≤placeI ((vrs q).take j) x.v
   ·have hN2:=hN.old hu;rw[←hNt.out]at hN2;rw[zW hu]at lk;replace hM:=Hd hM;replace hM1:=Hd hM1;replace hN:=Hd hN;replace hN2:=Hd hN2;clear hlen hu;go_wp2_with fail;go_roundw
    case rel=>exact⟨j+1,oQ,gQ,hQ1.out,f,hM1.out.mono oQ,hN2.out⟩
    case measure=>exact mQ
   ·have hN2:=hN.put (Int.not_le.1 hu);rw[←hNt.out,hlen]at hN2;rw[zV hu]at lk;replace hM:=Hd hM;have hMM:=Hd hM1;replace hN:=Hd hN;replace hN2:=Hd hN2;clear hlen hu;have hjj:j≤1048576:=oQ;go_wp2_with (at_mapUpdate;refine wpList_putS rfl (.tmp 29) (.tmp 31) (.tmp 32) rfl rfl hMM.out hjj rfl rfl hxv hwf ?_;intro w1 hm1 hg1);have hw1:BN q ⟨some ⟨g,off,none⟩,c1,A2,c2,A3,c3⟩ w w1 (j+1):=by
     refine⟨⟨?_,?_⟩,_,hm1,hN2.out⟩
     ·exact hQ1.out.1.grown hg1 hQ1.out.1.size (fun q hq=>by injection hq with hq;omega)
     ·exact hQ1.out.2.grown hg1 sJ
    replace hw1:=Hd hw1;clear hm1 hg1;go_wp2_with fail;go_roundw
    case rel=>exact⟨j+1,oQ,gQ,hw1.out⟩
    case measure=>exact mQ
  ·have g1:¬(j:Int)<q.items.length:=oQ;obtain rfl:j=q.items.length:=oQ;rw[←vrs_len q,zL]at hN;replace hQ:=Hd hQ;replace hM:=Hd hM;replace hN:=Hd hN;go_wp2;go_ret;exact⟨rfl,⟨f,hM.out,hN.out⟩,hQ.out.1⟩
end ckW
theorem run_cutF {P:Program}{t e size bytes:Nat}(T:ElT P t e size bytes){A:Option Addr}(n cap m:Nat)(hm:m≤cap)(W:World)(hA:A=none∨∃g off,A=some ⟨g,off,none⟩):(Instr.slice t (.slice A n cap) none (some (.int .i64 m)) none).run P W=.ok (.slice A m cap) W:=by
 obtain⟨hs,⟨i,z,hi,hz,hsz,hb,hzs⟩,hp⟩:=T;have h0:(0:Int)≤(m:Int):=oQ;have h1:(m:Int)≤(cap:Int):=oQ;rcases hA with rfl |⟨g,off,rfl⟩
 ·simp[Instr.slice,run_underlying hs,Instr.sliceBounds,run_sliceBound,sizeOf,typeInfo,hi,h0,h1,hm]
 ·simp[Instr.slice,run_underlying hs,Instr.sliceBounds,run_sliceBound,sizeOf,typeInfo,hi,h0,h1,hm,Addr.add]
theorem take_nodup {l:List ByteArray}{j:Nat}{y:ByteArray}(h:l[j]? =some y)(hd:(l.take j).Nodup)(hn:y∉l.take j):(l.take (j+1)).Nodup:=by
 rw[zJ,h];show(l.take j++[y]).Nodup
 rw[List.nodup_append];exact⟨hd,sJ,fun a ha b hb=>by simp at hb;subst hb;exact fun e=>hn (e▸ha)⟩
theorem not_nodup {l:List ByteArray}{j k:Nat}{y:ByteArray}(h:l[j]? =some y)(h2:l[k]? =some y)(hk:k<j):¬l.Nodup:=fun hd=>by
 have:=(nodup_iff_take l).1 hd j y h;exact this (List.mem_take_iff_getElem.2 ⟨k,by have:=(zC.1 h).1;omega,(zC.1 h2).2⟩)
namespace ckW
open nmW
theorem item_k (A:Option Addr)(c:Nat)(F:Nat→Prop)(l:List Td)(x:It)(A2:Option Addr)(c2:Nat)(hl:SzT l)(hx:x.tys.length≤1048576)(w:World)(hF:∀b,F b→b<w.heap.size)(r:Rd w F (.slice A l.length c) (.sl l.length (l.flatMap tdD)))
  (r2:Rd w F (.slice A2 x.tys.length c2) (.sl x.tys.length (x.tys.flatMap strD))):
  Calls Tryz.prog 112 #[.agg ⟨[.slice A l.length c]⟩,.agg ⟨itV x (.slice A2 x.tys.length c2)⟩] w fun e w'=>e=.returned (.int .i64 (itemC l x))∧Bw w w':=by
 have h0:=HB.new l A c x (.slice A2 x.tys.length c2) w;have hl1:=hl.1;have k1:∀(n:ByteArray) W,Bw w W→Calls Tryz.prog 109 #[.agg ⟨[.slice A l.length c]⟩,.string n] W fun e w'=>e=.returned (.int .i64 (placeI (nmsT l) n))∧Bw W w':=fun n W hW=>typeOf_k A c F l n hl1 W (fun b h=>zF (hF b h) hW.size) (r.under hW hF)
 obtain⟨b,hc⟩:∃b,b=itemC l x:=⟨_,rfl⟩
 rw[←hc];unfold itemC repBad at hc;have hcc:x.tys.length≤c2:=by obtain⟨_,_,e,h1,_⟩:=r2.sl_inv;injection e with _ _ e;subst e;exact h1
 obtain⟨neg,tys,v,lo,hi⟩:=x;simp only[itV]at h0 hc hx r2 hcc ⊢;replace hc:=Hd hc;replace r:=Hd r;replace r2:=Hd r2;replace hF:=Hd hF;replace h0:=Hd h0;replace k1:=Hd k1;go_enter Tryz.func112,Tryz.ntmps112;go_wp2;go_loopw [14] (fun i wr=>∃j:Nat,j≤tys.length∧i=.int .i64 j∧HB l A c ⟨neg,tys,v,lo,hi⟩ (.slice A2 tys.length c2) w wr∧Hid ((tys.take j).all (fun n=> !decide (noTy l n))=true)) (fun i _=>tys.length- (intOf i).toNat)
 case atStart=>exact⟨0,zE _,rfl,h0.out,rfl⟩
 case round=>
  clear h0;obtain⟨j,hj,rfl,hI,hp⟩:=hrel;by_cases hlt:j<tys.length
  ·obtain⟨y,hy⟩:=getx hlt;obtain⟨g,off,rfl,_,a0⟩:=str_at (r2.out.under hI.1 hF.out) hy;obtain⟨y0,_,y1,_⟩:=hI.cells;have g0:(0:Int)≤(j:Int):=oQ;have g1:(j:Int)<tys.length:=oQ;have k1':=k1.out y;obtain⟨ti,hti⟩:∃a,a=placeI (nmsT l) y:=⟨_,rfl⟩
   rw[←hti]at k1';replace k1':=Hd k1';by_cases ha:ti<0
   ·have hn:noTy l y:=(by unfold noTy;omega);have hfin:b=61:=by rw[hc.out];exact if_pos (xM.2 ⟨y,zA hy,zW hn⟩)
    replace hfin:=Hd hfin;replace hti:=Hd hti;replace hy:=Hd hy;replace hI:=Hd hI;go_wp2_with (go_at_call 109;refine(k1'.out _ (by first|exact hI.out.1 |exact hI.out.1.drew |exact(hI.out.drewN _).1)).mono ?_;rintro e W ⟨rfl,hW⟩;replace hI:=Hd (hI.out.stay (by first|exact hW |exact(below_drewN bR _).trans hW));clear hW);go_ret;exact⟨rtI hfin.out.symm,hI.out.1⟩
   ·have hn:¬noTy l y:=(by unfold noTy;omega);have hp2:=Hd (all_next hy hp.out (by simp[hn]));replace hti:=Hd hti;replace hy:=Hd hy;replace hI:=Hd hI;go_wp2_with (go_at_call 109;refine(k1'.out _ (by first|exact hI.out.1 |exact hI.out.1.drew |exact(hI.out.drewN _).1)).mono ?_;rintro e W ⟨rfl,hW⟩;replace hI:=Hd (hI.out.stay (by first|exact hW |exact(below_drewN bR _).trans hW));clear hW);go_roundw
    case rel=>exact⟨j+1,oQ,gQ,hI.out,hp2⟩
    case measure=>exact mQ
  ·have g1:¬(j:Int)<tys.length:=oQ;obtain rfl:j=tys.length:=oQ;have hall:=all_end hp.out;have hc2:b=if¬tys.Nodup then 62 else if lo<1∨hi<lo∨4<hi then 63 else 0:=by
    rw[hc.out];refine if_neg fun h=>?_
    obtain⟨n,hn,hd⟩:=xM.1 h;have:=xP.1 hall n hn;rw[hd]at this;cases this
   clear hc hall hp;replace hc2:=Hd hc2;obtain⟨_,_,y1,_⟩:=hI.cells;replace hI:=Hd hI;go_wp2;clear y1;go_loopw [26] (fun i wx=>∃j:Nat,j≤tys.length∧i=.int .i64 j∧HB l A c ⟨neg,tys,v,lo,hi⟩ (.slice A2 tys.length c2) w wx∧Hid (tys.take j).Nodup) (fun i _=>tys.length- (intOf i).toNat)
   case atStart=>exact⟨0,zE _,rfl,hI.out,List.nodup_nil⟩
   case round=>
    clear hI g1 hlt hj;obtain⟨j,hj,rfl,hI,hp⟩:=hrel;obtain⟨y0,_,y1,_,y3,y4⟩:=hI.cells;by_cases hlt:j<tys.length
    ·obtain⟨y,hy⟩:=getx hlt;have rr:=Hd (r2.out.under hI.1 hF.out);obtain⟨g,off,rfl,_,a0⟩:=str_at rr.out hy;have g0:(0:Int)≤(j:Int):=oQ;have g1:(j:Int)<tys.length:=oQ;have hcut:=run_cutF elStr (A:=some ⟨g,off,none⟩) tys.length c2 j oQ wr (.inr ⟨_,_,rfl⟩);replace hy:=Hd hy;replace hI:=Hd hI;go_wp2;go_loopw [36] (fun i wx=>∃k:Nat,k≤j∧i=.int .i64 k∧wx=wr∧Hid (∀(i:Nat),i<k→tys[i]? ≠some y)) (fun i _=>j- (intOf i).toNat)
     case atStart=>exact⟨0,zE _,rfl,rfl,fun i h=>by omega⟩
     case round=>
      obtain⟨k,hk,rfl,rfl,hq⟩:=hrel;by_cases hlk:k<j
      ·obtain⟨z,hz⟩:=getx (l:=tys) (i:=k) oQ;obtain⟨_,_,e,_,b0⟩:=str_at rr.out hz;injection e with e
       injection e with e1 e2
       subst e1 e2;have f0:(0:Int)≤(k:Int):=oQ;have f1:(k:Int)<(j:Int):=oQ;replace hz:=Hd hz;by_cases hu:z=y
       ·have hu2:(z.toList==y.toList)=true:=(by rw[bqb];exact zW hu);have hfin:b=62:=by rw[hc2.out];exact if_pos (not_nodup hy.out (by rw[hz.out,hu]) hlk)
        replace hu:=Hd hu;replace hfin:=Hd hfin;go_wp2;go_ret;exact⟨rtI hfin.out.symm,hI.out.1⟩
       ·have hu2:(z.toList==y.toList)=false:=(by rw[bqb];exact zV hu);replace hu:=Hd hu;go_wp2;go_roundw
        case rel=>
         refine⟨k+1,oQ,gQ,(by first|exact rfl |trivial),fun i h e=>?_⟩;by_cases hik:i=k
         ·subst hik;rw[hz.out]at e;injection e with e
          exact hu.out e
         ·exact hq.out i oQ e
        case measure=>exact mQ
      ·have f1:¬(k:Int)<(j:Int):=oQ;obtain rfl:k=j:=oQ;have hp2:(tys.take (k+1)).Nodup:=take_nodup hy.out hp.out fun hm=>by
        obtain⟨i,hi,e⟩:=List.mem_take_iff_getElem.1 hm;exact hq.out i oQ (by rw[zI oQ,e])
       replace hp2:=Hd hp2;go_wp2;go_roundw
       case rel=>exact⟨k+1,oQ,gQ,hI.out,hp2⟩
       case measure=>exact mQ
    ·have g1:¬(j:Int)<tys.length:=oQ;obtain rfl:j=tys.length:=oQ;have hd:=hp.out;rw[zL]at hd;have hc3:b=if lo<1∨hi<lo∨4<hi then 63 else 0:=by rw[hc2.out];exact if_neg (fun h=>h hd)
     clear hc2 hd hp;replace hI:=Hd hI;by_cases p1:lo<1
     ·have hfin:=Hd (show b=63 by rw[hc3];exact if_pos (.inl p1));clear hc3;go_wp2;go_ret;exact⟨rtI hfin.out.symm,hI.out.1⟩
     by_cases p2:hi<lo
     ·have hfin:=Hd (show b=63 by rw[hc3];exact if_pos (.inr (.inl p2)));clear hc3;go_wp2;go_ret;exact⟨rtI hfin.out.symm,hI.out.1⟩
     by_cases p3:4<hi
     ·have hfin:=Hd (show b=63 by rw[hc3];exact if_pos (.inr (.inr p3)));clear hc3;go_wp2;go_ret;exact⟨rtI hfin.out.symm,hI.out.1⟩
     ·have hfin:=Hd (show b=0 by rw[hc3];exact if_neg oQ);clear hc3;go_wp2;go_ret;exact⟨rtI hfin.out.symm,hI.out.1⟩
end ckW
def flV (c p i s:Int):List Value:=[.int .i64 c,.int .i64 p,.int .i64 i,.int .i64 s]
theorem aggFl:AggT Tryz.prog 59 4:=⟨_,Tryz.underlying59,rfl,kQ⟩
def FwPost (c:Int)(w:World)(e:Ending)(w':World):Prop:=∃p i s,e=.returned (.agg #[.int .i64 c,.int .i64 p,.int .i64 i,.int .i64 s])∧(c=0→p=0∧i=0∧s=0)∧Bw w w'
theorem FwPost.mk {c d p i s:Int}{w w':World}(hc:d=c)(hz:c=0→p=0∧i=0∧s=0)(hb:Bw w w'):FwPost c w (.returned (.agg ⟨flV d p i s⟩)) w':=by subst hc;exact⟨p,i,s,rfl,hz,hb⟩
theorem fz_mapI_all {α:Type}{g:Nat→α→Int}{l:List α}(h:∀(i:Nat) x,l[i]? =some x→g i x=0):fz (mapI (fun i x=>[g i x]) 0 l)=0:=fz_zero fun c hc=>by
 obtain⟨i,x,hx,hc⟩:=mem_mapI hc;rw[Nat.zero_add]at hc;rw[xB.1 hc];exact h i x hx
theorem fz_mapI_at {α:Type}{g:Nat→α→Int}{l:List α}{j:Nat}{x:α}{c:Int}(hx:l[j]? =some x)(h:∀(i:Nat) y,l[i]? =some y→i<j→g i y=0)(hc:g j x=c)(hne:c≠0):fz (mapI (fun i x=>[g i x]) 0 l)=c:=by
 suffices hs:∀(m:List α)(n j:Nat),m[j]? =some x→(∀(i:Nat) y,m[i]? =some y→i<j→g (n+i) y=0)→g (n+j) x=c→fz (mapI (fun i x=>[g i x]) n m)=c from hs l 0 j hx (fun i y hy hi=>by rw[Nat.zero_add];exact h i y hy hi) (by rw[Nat.zero_add];exact hc)
 intro m;induction m with
 |nil=>intro n j hx;cases hx
 |cons y r ih=>
  intro n j hx h hc;show fz (g n y::mapI (fun i x=>[g i x]) (n+1) r)=c
  cases j with
  |zero=>
   injection hx with hx
   subst hx;unfold fz;rw[Nat.add_zero]at hc;rw[hc,if_neg hne]
  |succ j=>
   have h0:=h 0 y rfl oQ;unfold fz;rw[Nat.add_zero]at h0;rw[if_pos h0];exact ih (n+1) j hx (fun i y hy hi=>by rw[show n+1+i=n+(i+1) by omega];exact h (i+1) y hy oQ) (by rw[show n+1+j=n+(j+1) by omega];exact hc)
theorem placeI_app (a b:List ByteArray)(s:ByteArray):placeI (a++b) s=if placeI a s<0 then(if placeI b s<0 then -1 else a.length+placeI b s)else placeI a s:=by
 unfold placeI;rw[List.findIdx?_append];cases h:a.findIdx? (fun x=>decide (x=s))with
 |some i=>simp;omega
 |none=>
  cases h2:b.findIdx? (fun x=>decide (x=s))with
  |none=>simp
  |some i=>simp;omega
theorem placeI_cut {l:List ByteArray}{j:Nat}{v:ByteArray}(h:l[j]? =some v):placeI l v<(j:Int)↔0≤placeI (l.take j) v:=by
 obtain⟨h1,h2⟩:=zC.1 h;have e:l=l.take j++l.drop j:=(List.take_append_drop j l).symm;have h3:placeI (l.drop j) v=0:=by
  rw[List.drop_eq_getElem_cons h1,h2];unfold placeI;simp[List.findIdx?_cons]
 have h4:=placeI_app (l.take j) (l.drop j) v;rw[←e,h3,zO,Nat.min_eq_left oQ]at h4;have h5:=placeI_lt (l.take j) v;rw[zO,Nat.min_eq_left oQ]at h5;by_cases hp:placeI (l.take j) v<0
 ·rw[if_pos hp,if_neg oQ]at h4;omega
 ·rw[if_neg hp]at h4;omega
def itC (l:List Td)(q:Qy)(i:Nat)(x:It):Int:=if itemC l x≠0 then itemC l x else if itemI q x.v<(i:Int)then 64 else 0
theorem itemsC_many {l:List Td}{q:Qy}(h:10<q.items.length):itemsC l q=60:=by unfold itemsC;exact if_pos h
theorem itemsC_at {l:List Td}{q:Qy}(h:¬10<q.items.length){j:Nat}{x:It}{c:Int}(hx:q.items[j]? =some x)(ha:∀(i:Nat) y,q.items[i]? =some y→i<j→itC l q i y=0)(hc:itC l q j x=c)(hne:c≠0):itemsC l q=c:=by
 unfold itemsC;rw[if_neg h,fz_app];have:=fz_mapI_at (g:=itC l q) hx ha hc hne;unfold itC at this;rw[this,if_neg hne]
theorem itemsC_end {l:List Td}{q:Qy}(h:¬10<q.items.length)(ha:∀(i:Nat) y,q.items[i]? =some y→i<q.items.length→itC l q i y=0):itemsC l q=if q.items.all (·.neg)=true then 65 else 0:=by
 unfold itemsC;rw[if_neg h,fz_app,fz_one];have:=fz_mapI_all (g:=itC l q) (fun i x hx=>ha i x hx (zC.1 hx).1);unfold itC at this;rw[this];rfl
def posN (q:Qy)(j:Nat):Nat:=((q.items.take j).filter (fun x=> !x.neg)).length
theorem posN_next {q:Qy}{j:Nat}{x:It}(h:q.items[j]? =some x):posN q (j+1)=posN q j+if x.neg=true then 0 else 1:=by
 unfold posN;rw[zJ,h,List.filter_append,zH];cases hx:x.neg<;>simp[hx]
theorem posN_le (q:Qy)(j:Nat):posN q j≤j:=zU (List.length_filter_le _ _) (List.length_take_le _ _)
theorem posN_end (q:Qy):posN q q.items.length=0↔q.items.all (·.neg)=true:=by
 unfold posN;rw[zL,List.length_eq_zero_iff,List.filter_eq_nil_iff,xP];constructor
 ·intro h x hx;simpa using h x hx
 ·intro h x hx;simp[h x hx]
structure IK (l:List Td)(A:Option Addr)(c:Nat)(q:Qy)(s:Sl3)(w wr:World)(j:Nat):Prop where
 hb:Bw w wr
 b0:Blk wr w.heap.size 24 [.slice A l.length c]
 b1:Blk wr (w.heap.size+1) 31 (qV q s)
 b2:Blk wr (w.heap.size+1+1) 59 (flV 0 0 0 0)
 mp:∃f,MapG 9 wr (w.heap.size+1+1+1) j f∧NmIs ((vrs q).take j) f
theorem IK.stay {l:List Td}{A:Option Addr}{c:Nat}{q:Qy}{s:Sl3}{w wr W:World}{j:Nat}(h:IK l A c q s w wr j)(hb:Bw wr W):IK l A c q s w W j:=
 ⟨h.hb.trans (hb.mono h.hb.size),h.b0.stay hb,h.b1.stay hb,h.b2.stay hb,let ⟨f,h1,h2⟩:=h.mp;⟨f,h1.stay hb,h2⟩⟩
theorem IK.new (l:List Td)(A:Option Addr)(c:Nat)(q:Qy)(s:Sl3)(w:World):IK l A c q s w ((((w.alloc (.cells ⟨[.slice A l.length c]⟩ 24)).alloc (.cells ⟨qV q s⟩ 31)).alloc (.cells ⟨flV 0 0 0 0⟩ 59)).alloc (.map #[] 0)) 0:=by
 have h0:Bw w (((w.alloc (.cells ⟨[.slice A l.length c]⟩ 24)).alloc (.cells ⟨qV q s⟩ 31)).alloc (.cells ⟨flV 0 0 0 0⟩ 59)):=((bA).alloc sJ _).alloc (by simp;omega) _;exact⟨h0.alloc (by simp;omega) _,((((Blk.new w _ _).alloc _).alloc _).alloc _),(((Blk.new' sJ).alloc _).alloc _),((Blk.new' sJ).alloc _),_,MapG.made' sJ,fun v=>rfl⟩
theorem IK.fin {l:List Td}{A:Option Addr}{c:Nat}{q:Qy}{s:Sl3}{w wr w1:World}{j:Nat}(h:IK l A c q s w wr j)(hg:wr.grownBy w1 (some (w.heap.size+1+1))):Bw w w1:=h.hb.grown hg h.hb.size (fun q hq=>by injection hq with hq;omega)
theorem IK.put {l:List Td}{A:Option Addr}{c:Nat}{q:Qy}{s:Sl3}{w wr w1:World}{j:Nat}{f:Lit→Option Int}(h:IK l A c q s w wr j)(hm:MapG 9 w1 (w.heap.size+1+1+1) (j+1) f)(hn:NmIs ((vrs q).take (j+1)) f)(hg:wr.grownBy w1 (some (w.heap.size+1+1+1))):IK l A c q s w w1 (j+1):=
 ⟨h.hb.grown hg h.hb.size (fun q hq=>by injection hq with hq;omega),h.b0.grown hg (fun e=>by injection e with e;omega),h.b1.grown hg (fun e=>by injection e with e;omega),h.b2.grown hg (fun e=>by injection e with e;omega),f,hm,hn⟩
namespace ckW
open nmW
theorem items_k (A:Option Addr)(c:Nat)(F:Nat→Prop)(l:List Td)(q:Qy)(s:Sl3)(hl:SzT l)(hs:SzQ q)(w:World)(hF:∀b,F b→b<w.heap.size)(r:Rd w F (.slice A l.length c) (.sl l.length (l.flatMap tdD)))(R:QR w F q s):
  Calls Tryz.prog 68 #[.agg ⟨[.slice A l.length c]⟩,.agg ⟨qV q s⟩] w (FwPost (itemsC l q) w):=by
 have h0:=IK.new l A c q s w;have k1:∀(x:It) A2 c2 W,x∈q.items→Bw w W→Rd W F (.slice A2 x.tys.length c2) (.sl x.tys.length (x.tys.flatMap strD))→Calls Tryz.prog 112 #[.agg ⟨[.slice A l.length c]⟩,.agg ⟨itV x (.slice A2 x.tys.length c2)⟩] W fun e w'=>e=.returned (.int .i64 (itemC l x))∧Bw W w':=fun x A2 c2 W hx hW rx=>item_k A c F l x A2 c2 hl (hs.it x hx).1.1 W (fun b h=>zF (hF b h) hW.size) (r.under hW hF) rx
 have hv:∀x∈q.items,x.v.size≤1048576:=fun x hx=>(hs.it x hx).2
 have hil:=hs.il;obtain⟨b,hc⟩:∃b,b=itemsC l q:=⟨_,rfl⟩
 rw[←hc];have hmm:∀w:World,(Instr.makeMap 118 none).run Tryz.prog w=.ok (.map (some w.heap.size)) (w.alloc (.map #[] 0)):=fun w=>by simp[Instr.makeMap,run_underlying Tryz.underlying118,asInt,asIntOf,Result.andThen]
 obtain⟨A1,c1,A2,c2,A3,c3⟩:=s;have hR1:=R.r1;simp only[qV,flV]at h0 hR1 ⊢;replace hc:=Hd hc;replace hR1:=Hd hR1;replace hF:=Hd hF;replace k1:=Hd k1;replace hv:=Hd hv;replace h0:=Hd h0;clear hs R r;by_cases h10:10<q.items.length
 ·have hfin:(60:Int)=b:=by rw[hc.out];exact(itemsC_many h10).symm
  have g0:(10:Int)<q.items.length:=oQ;replace hfin:=Hd hfin;have hB2:=((((Blk.new' (w:=((w.alloc (.cells ⟨[.slice A l.length c]⟩ 24)).alloc (.cells ⟨qV q ⟨A1,c1,A2,c2,A3,c3⟩⟩ 31))) (g:=w.heap.size+1+1) (t:=59) (cs:=flV 0 0 0 0) sJ))));have hBb:Bw w (((w.alloc (.cells ⟨[.slice A l.length c]⟩ 24)).alloc (.cells ⟨qV q ⟨A1,c1,A2,c2,A3,c3⟩⟩ 31)).alloc (.cells ⟨flV 0 0 0 0⟩ 59)):=((bA).alloc sJ _).alloc (by simp;omega) _;simp only[qV,flV]at hB2 hBb;replace hB2:=Hd hB2;replace hBb:=Hd hBb;clear hc h0;go_enter Tryz.func68,Tryz.ntmps68;go_wp2_with (refine at_op (.store 59 (.tmp 4) (.tmp 16)) rfl ?_;refine wsb rfl 59 (.tmp 4) (.tmp 16) rfl (cs':=flV 60 1 10 0) hB2.out aggFl rfl rfl rfl rfl ?_;intro w1 hz1 hg1);exact bpa rfl hz1 aggFl rfl rfl (FwPost.mk hfin.out (fun h=>by have:=hfin.out;omega) (hBb.out.grown hg1 hBb.out.size (fun q hq=>by injection hq with hq;omega)))
 have g0:¬(10:Int)<q.items.length:=oQ;replace h10:=Hd h10;go_enter Tryz.func68,Tryz.ntmps68;go_wp2;go_loopw [6,21] (fun p i wr=>∃j:Nat,j≤q.items.length∧i=.int .i64 j∧p=.int .i64 (posN q j:Nat)∧IK l A c q ⟨A1,c1,A2,c2,A3,c3⟩ w wr j∧Hid (∀(i:Nat) y,q.items[i]? =some y→i<j→itC l q i y=0)) (fun _ i _=>q.items.length- (intOf i).toNat)
 case atStart=>exact⟨0,zE _,rfl,rfl,h0.out,fun i y hy hi=>by omega⟩
 case round=>
  clear h0;obtain⟨j,hj,rfl,rfl,hI,hp⟩:=hrel;have hpl:=posN_le q j;have hpn:posN q j=0↔(posN q j:Int)=0:=oQ;by_cases hlt:j<q.items.length
  ·obtain⟨x,hx⟩:=getx hlt;have hpx:=posN_next hx;obtain⟨g,off,B2,d2,rfl,_,rx,a0,a1,a2,a3,a4⟩:=it_at (hR1.out.under hI.hb hF.out) hx;have g1:(0:Int)≤(j:Int):=oQ;have g2:(j:Int)<q.items.length:=oQ;have hxm:=zA hx;have hxv:=hv.out x hxm;have hvx:(vrs q)[j]? =some x.v:=by unfold vrs;rw[zG,hx];rfl
   have hNt:=vrs_take hx;have hcut:itemI q x.v<(j:Int)↔0≤placeI ((vrs q).take j) x.v:=placeI_cut hvx;have hlen:((vrs q).take j).length=j:=by rw[zO,vrs_len];omega
   have y0:wr.cell? ⟨w.heap.size,0,none⟩=some (.slice A l.length c):=hI.b0.cell 0;have hsz:w.heap.size+1+1+1<wr.heap.size:=let ⟨_,hm,_⟩:=hI.mp;hm.lt
   have hbI:Bw wr (wr.alloc (.cells ⟨itV x (.slice B2 x.tys.length d2)⟩ 53)):=bA;have k1':=k1.out x B2 d2 _ hxm (hI.hb.trans (hbI.mono hI.hb.size)) (rx.alloc _);have hI1:=hI.stay hbI;have hbx:Blk (wr.alloc (.cells ⟨itV x (.slice B2 x.tys.length d2)⟩ 53)) wr.heap.size 53 (itV x (.slice B2 x.tys.length d2)):=Blk.new _ _ _;obtain⟨ic,hic⟩:∃a,a=itemC l x:=⟨_,rfl⟩
   rw[←hic]at k1';obtain⟨pj,hpj⟩:∃a,a=posN q j:=⟨_,rfl⟩
   have hwf:(Lit.int .i64 (j:Int)).wf=true:=WalkArith.wf_i64 oQ;have y1:=hI1.b0.cell 0;simp only[itV,zY]at k1' hI1 hbx y1;rw[←hpj]at hpx hpl ⊢;clear hpn;replace rx:=Hd rx;replace hx:=Hd hx;replace hvx:=Hd hvx;replace hNt:=Hd hNt;replace hI:=Hd hI;replace hI1:=Hd hI1;replace hbx:=Hd hbx;replace hbI:=Hd hbI;replace k1':=Hd k1';replace hpx:=Hd hpx;replace hlen:=Hd hlen;replace hpj:=Hd hpj;by_cases hi0:ic=0
   ·subst hi0;by_cases hu:0≤placeI ((vrs q).take j) x.v
    ·have hfin:(64:Int)=b:=by
      rw[hc.out];refine(itemsC_at h10.out hx.out hp.out ?_ dQ).symm;unfold itC;rw[if_neg (fun h=>h hic.symm),if_pos (hcut.2 hu)]
     have hd:decide (0≤placeI ((vrs q).take j) x.v)=true:=zW hu;clear hcut;replace hd:=Hd hd;replace hu:=Hd hu;replace hfin:=Hd hfin;replace hic:=Hd hic;go_wp2_with (first
      |(go_at_call 112;refine k1'.out.mono ?_;rintro e W ⟨rfl,hW⟩;have hI2:=hI1.out.stay hW;have hbx2:=hbx.out.stay hW;have z2:W.cell? ⟨wr.heap.size,2,none⟩=some (.string x.v):=hbx2.cell 2;obtain⟨f,hM,hN⟩:=hI2.mp;have lk:=hM.look hxv;rw[hN x.v,optP_isSome,hd.out]at lk;replace hI2:=Hd hI2;replace hM:=Hd hM;replace hN:=Hd hN;replace hbx2:=Hd hbx2;clear hW)
      |(refine at_op (.store 59 (.tmp 4) (.tmp 43)) rfl ?_;refine wsb rfl 59 (.tmp 4) (.tmp 43) rfl (cs':=flV 64 1 j 0) hI2.out.b2 aggFl rfl rfl rfl rfl ?_;intro w1 hz1 hg1))
     exact bpa rfl hz1 aggFl rfl rfl (FwPost.mk hfin.out (fun h=>by have:=hfin.out;omega) (hI2.out.fin hg1))
    ·have hd:decide (0≤placeI ((vrs q).take j) x.v)=false:=zV hu;have hN0:∀f,NmIs ((vrs q).take j) f→NmIs ((vrs q).take (j+1)) (putM f (kl x.v) j):=fun f hN=>by
      have:=hN.put (Int.not_le.1 hu);rw[←hNt.out,hlen.out]at this;exact this
     have hz:itC l q j x=0:=by
      unfold itC;rw[if_neg (fun h=>h hic.symm),if_neg (fun h=>hu (hcut.1 h))]
     have hp2:∀(i:Nat) y,q.items[i]? =some y→i<j+1→itC l q i y=0:=fun i y hy hi=>by
      by_cases e:i=j
      ·subst e;obtain rfl:x=y:=by have:=hx.out;rw[hy]at this;exact(zq9 this).symm
       exact hz
      ·exact hp.out i y hy oQ
     have hjj:j≤1048576:=oQ;clear hcut hz;replace hp2:=Hd hp2;replace hN0:=Hd hN0;replace hd:=Hd hd;replace hu:=Hd hu;replace hic:=Hd hic;cases hneg:x.neg with
     |true=>
      have hpx2:posN q (j+1)=pj:=(by rw[hpx.out,hneg];rfl);replace hneg:=Hd hneg;replace hpx2:=Hd hpx2;go_wp2_with (first
       |(go_at_call 112;refine k1'.out.mono ?_;rintro e W ⟨rfl,hW⟩;have hI2:=hI1.out.stay hW;have hbx2:=hbx.out.stay hW;have z0:W.cell? ⟨wr.heap.size,0,none⟩=some (.bool x.neg):=hbx2.cell 0;rw[hneg.out]at z0;have z2:W.cell? ⟨wr.heap.size,2,none⟩=some (.string x.v):=hbx2.cell 2;obtain⟨f,hM,hN⟩:=hI2.mp;have lk:=hM.look hxv;rw[hN x.v,optP_isSome,hd.out]at lk;replace hI2:=Hd hI2;replace hM:=Hd hM;replace hN:=Hd hN;replace hbx2:=Hd hbx2;clear hW)
       |(at_mapUpdate;refine wpList_putS rfl (.tmp 44) (.tmp 46) (.tmp 47) rfl rfl hM.out hjj rfl rfl hxv hwf ?_;intro w1 hm1 hg1;have hI3:=hI2.out.put hm1 (hN0.out _ hN.out) hg1;have z0:w1.cell? ⟨wr.heap.size,0,none⟩=some (.bool x.neg):=(hbx2.out.grown hg1 (fun e=>by injection e with e;omega)).cell 0;rw[hneg.out]at z0;replace hI3:=Hd hI3;clear hm1 hg1))
      go_roundw
      case rel=>exact⟨j+1,oQ,gQ,by rw[hpx2.out],hI3.out,hp2⟩
      case measure=>exact mQ
     |false=>
      have hpx2:posN q (j+1)=pj+1:=(by rw[hpx.out,hneg];rfl);replace hneg:=Hd hneg;replace hpx2:=Hd hpx2;go_wp2_with (first
       |(go_at_call 112;refine k1'.out.mono ?_;rintro e W ⟨rfl,hW⟩;have hI2:=hI1.out.stay hW;have hbx2:=hbx.out.stay hW;have z0:W.cell? ⟨wr.heap.size,0,none⟩=some (.bool x.neg):=hbx2.cell 0;rw[hneg.out]at z0;have z2:W.cell? ⟨wr.heap.size,2,none⟩=some (.string x.v):=hbx2.cell 2;obtain⟨f,hM,hN⟩:=hI2.mp;have lk:=hM.look hxv;rw[hN x.v,optP_isSome,hd.out]at lk;replace hI2:=Hd hI2;replace hM:=Hd hM;replace hN:=Hd hN;replace hbx2:=Hd hbx2;clear hW)
       |(at_mapUpdate;refine wpList_putS rfl (.tmp 44) (.tmp 46) (.tmp 47) rfl rfl hM.out hjj rfl rfl hxv hwf ?_;intro w1 hm1 hg1;have hI3:=hI2.out.put hm1 (hN0.out _ hN.out) hg1;have z0:w1.cell? ⟨wr.heap.size,0,none⟩=some (.bool x.neg):=(hbx2.out.grown hg1 (fun e=>by injection e with e;omega)).cell 0;rw[hneg.out]at z0;replace hI3:=Hd hI3;clear hm1 hg1))
      go_roundw
      case rel=>exact⟨j+1,oQ,gQ,by rw[hpx2.out];go_num,hI3.out,hp2⟩
      case measure=>exact mQ
   ·have hfin:ic=b:=by
     rw[hc.out];refine(itemsC_at h10.out hx.out hp.out ?_ hi0).symm;unfold itC;rw[if_pos (by rw[←hic];exact hi0),hic]
    have hi1:=bneT hi0;have hi2:=beqF hi0;have hi3:=Hd hi0;clear hi0 hcut;replace hfin:=Hd hfin;replace hic:=Hd hic;go_wp2_with (first
     |(go_at_call 112;refine k1'.out.mono ?_;rintro e W ⟨rfl,hW⟩;have hI2:=Hd (hI1.out.stay hW);clear hW)
     |(refine at_op (.store 59 (.tmp 4) (.tmp 33)) rfl ?_;refine wsb rfl 59 (.tmp 4) (.tmp 33) rfl (cs':=flV ic 1 j 0) hI2.out.b2 aggFl rfl rfl rfl rfl ?_;intro w1 hz1 hg1))
    exact bpa rfl hz1 aggFl rfl rfl (FwPost.mk hfin.out (fun h=>absurd (hfin.out.trans h) hi3.out) (hI2.out.fin hg1))
  ·have g1:¬(j:Int)<q.items.length:=oQ;obtain rfl:j=q.items.length:=oQ;have hfin:b=if q.items.all (·.neg)=true then 65 else 0:=by rw[hc.out];exact itemsC_end h10.out hp.out
   have hpe:=posN_end q;generalize posN q q.items.length=p at hpl hpe;clear hpn;replace hI:=Hd hI;by_cases hz:p=0
   ·have hz1:((p:Int)==0)=true:=beqT oQ;have hfin2:(65:Int)=b:=by rw[hfin,if_pos (hpe.1 hz)]
    clear hfin hpe;replace hfin2:=Hd hfin2;replace hz:=Hd hz;go_wp2_with (refine at_op (.store 59 (.tmp 4) (.tmp 56)) rfl ?_;refine wsb rfl 59 (.tmp 4) (.tmp 56) rfl (cs':=flV 65 1 0 0) hI.out.b2 aggFl rfl rfl rfl rfl ?_;intro w1 hz1 hg1);exact bpa rfl hz1 aggFl rfl rfl (FwPost.mk hfin2.out (fun h=>by have:=hfin2.out;omega) (hI.out.fin hg1))
   ·have hz1:((p:Int)==0)=false:=beqF oQ;have hfin2:(0:Int)=b:=by rw[hfin,if_neg (fun h=>hz (hpe.2 h))]
    clear hfin hpe;replace hfin2:=Hd hfin2;replace hz:=Hd hz;go_wp2_with (refine at_op (.store 59 (.tmp 4) (.tmp 57)) rfl ?_;refine wsb rfl 59 (.tmp 4) (.tmp 57) rfl (cs':=flV 0 0 0 0) hI.out.b2 aggFl rfl rfl rfl rfl ?_;intro w1 hz1 hg1);exact bpa rfl hz1 aggFl rfl rfl (FwPost.mk hfin2.out (fun h=>⟨rfl,rfl,rfl⟩) (hI.out.fin hg1))
end ckW
end Go.Proofs.YthaabihjeomipaaGreatDoor
