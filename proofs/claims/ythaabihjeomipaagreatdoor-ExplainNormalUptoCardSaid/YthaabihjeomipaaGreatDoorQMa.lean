/- The program's sorting of texts. -/
import Derived.Test.YthaabihjeomipaaGreatDoorQL6
import Derived.Sort.OwnSorted
namespace Go.Proofs.YthaabihjeomipaaGreatDoor
set_option maxRecDepth 100000
set_option maxHeartbeats 16000000
open Go.RowKit Go.Deep Go.Sort
set_option linter.unusedVariables false
set_option linter.unusedSimpArgs false
def msB (l:List ByteArray):List ByteArray:=toB ((ofB l).mergeSort leS)
theorem ofB_len (l:List ByteArray):(ofB l).length=l.length:=by unfold ofB;rw[xC]
theorem msB_len (l:List ByteArray):(msB l).length=l.length:=by unfold msB toB;rw[xC,List.length_mergeSort,ofB_len]
theorem encS (x:ByteArray):encStr x.data.toList=.string x:=rfl
theorem enc_ofB (l:List ByteArray):(ofB l).map encStr=sV l:=by
 unfold ofB sV;rw[List.map_map];rfl
theorem ofB_toB (l:List (List UInt8)):ofB (toB l)=l:=by
 unfold ofB toB;rw[List.map_map];exact(List.map_congr_left fun x _=>by simp).trans (List.map_id l)
theorem OL.own {w:World}{B:Nat}{v:Value}{l:List ByteArray}(h:w.ownsRow B 9 1 v l.length (sV l)):OL w B NoF 9 1 v l.length (l.flatMap strD):=by
 refine⟨sV l,h,by rw[strD_len,sV_len,Nat.mul_one],fun k d hd=>?_⟩;rw[strs_map,zG]at hd;obtain⟨u,hu,rfl⟩:=xG.1 hd;refine⟨u,hu,.v _ ?_⟩;unfold sV at hu;obtain⟨x,_,rfl⟩:=List.mem_map.1 (zA hu);rfl
def cpB (l:List ByteArray):List ByteArray:=toB (Lib.compact (ofB l))
theorem cp_ms (l:List ByteArray):cpB (msB l)=srt l:=by
 unfold cpB srt;rw[show ofB (msB l)=(ofB l).mergeSort leS from ofB_toB _]
theorem compact_len (l:List (List UInt8)):(Lib.compact l).length≤l.length:=by
 unfold Lib.compact Lib.compactUpTo;rw[xC];exact zU (List.length_filter_le _ _) (by rw[List.length_range];exact nR)
theorem cpB_len (l:List ByteArray):(cpB l).length≤l.length:=by
 unfold cpB toB;rw[xC];have:=compact_len (ofB l);rw[ofB_len]at this;exact this
theorem gr_refl (w:World)(row:Option Nat):w.grownBy w row:=⟨rfl,rfl,rfl,nR,fun _ _ _=>rfl⟩
theorem gr_drewN (w:World)(n:Nat)(row:Option Nat):w.grownBy (w.drewN n) row:=⟨rfl,rfl,rfl,nR,fun _ _ _=>rfl⟩
def CpP (B:Nat)(v0:Value)(L:List ByteArray)(w:World)(e:Ending)(w':World):Prop:=∃v,e=.returned v∧OL w' B NoF 9 1 v L.length (L.flatMap strD)∧v.ownBlock=v0.ownBlock∧w.grownBy w' v0.ownBlock
theorem strsOf_eq (L:List ByteArray):Lib.strsOf (fun i=>(L[i]?).getD emp) L.length=ofB L:=by
 unfold Lib.strsOf ofB;refine List.ext_getElem? fun k=>?_
 simp only[zG];by_cases hk:k<L.length
 ·rw[List.getElem?_range hk,zI hk];simp[zI hk]
 ·rw[xO (by rw[List.length_range];omega),xO oQ];rfl
def SoP (B:Nat)(v:Value)(L:List ByteArray)(w:World)(e:Ending)(w':World):Prop:=e=.returned (.tuple #[])∧OL w' B NoF 9 1 v L.length (L.flatMap strD)∧w.grownBy w' v.ownBlock
namespace shW
open nmW
theorem sort_k (B:Nat)(v:Value)(L:List ByteArray)(w:World)(hB:B≤w.heap.size)(hl:L.length≤1048576)(h:OL w B NoF 9 1 v L.length (L.flatMap strD)):
  Calls Tryz.prog 44 #[v] w (SoP B v (msB L) w):=by
 by_cases hn:L=[]
 ·subst hn;obtain⟨A,c,rfl⟩:=h.form;have e:msB []=[]:=List.eq_nil_of_length_eq_zero (msB_len []);refine(Tryz.slices_Sort_string_none A c w).mono ?_;rintro e' w' ⟨rfl,rfl⟩;exact⟨rfl,by rw[e];exact h,gr_refl _ _⟩
 ·obtain⟨g,cap,rest,rfl,hg,hb,hup⟩:=h.sw hn;have hcap:L.length≤cap∧cap≤maxLen∧(sV L++rest).length=cap*1:=by
   obtain⟨cs,_,hb2,hnc,hm,hln,_⟩:=h.blk;have e:=hb.symm.trans hb2;injection e with e
   injection e with e
   have e:sV L++rest=cs:=by injection e
   rw[e];exact⟨hnc,hm,hln⟩
  have hH:=holds_of_block (w:=w) (g:=g) (ss:=ofB L) hb (by rw[ofB_len,enc_ofB];simp[sV_len]);have hk:=Tryz.slices_Sort_string g 0 cap (ofB L) w hH hb.lt (by rw[ofB_len];omega);rw[ofB_len]at hk;refine hk.mono ?_;rintro e w' ⟨rfl,n,os,rfl⟩;have ho:=ownsRow_sorted (n:=n) (os:=os) (ts:=(ofB L).mergeSort leS) (ss:=ofB L) (by rw[List.length_mergeSort]) hg hb (by rw[ofB_len];exact hcap.1) hcap.2.1 hcap.2.2;have hgr:=grownBy_sorted (w:=w) (g:=g) (n:=n) (os:=os) ((ofB L).mergeSort leS).toArray;refine⟨rfl,?_,hgr⟩;have e2:((ofB L).mergeSort leS).map encStr=sV (msB L):=by rw[←enc_ofB,show ofB (msB L)=(ofB L).mergeSort leS from ofB_toB _]
  rw[ofB_len,e2]at ho;exact OL.own (l:=msB L) (by rw[msB_len];exact ho) |> fun h=>by rwa [msB_len]at h ⊢
theorem compact_k (B:Nat)(v:Value)(L:List ByteArray)(w:World)(hB:B≤w.heap.size)(hl:L.length≤1048576)(h:OL w B NoF 9 1 v L.length (L.flatMap strD)):
  Calls Tryz.prog 89 #[v] w (CpP B v (cpB L) w):=by
 by_cases hn:L=[]
 ·subst hn;obtain⟨A,c,rfl⟩:=h.form;have e:cpB []=[]:=List.eq_nil_of_length_eq_zero (by have:=cpB_len [];simpa using this);refine(Tryz.slices_Compact_string_empty A c w).mono ?_;rintro e' w' ⟨rfl,rfl⟩;exact⟨_,rfl,by rw[e];exact h,rfl,gr_refl _ _⟩
 ·obtain⟨g,cap,rest,rfl,hg,hb,hup⟩:=h.sw hn;have hcap:L.length≤cap∧cap≤maxLen∧(sV L++rest).length=cap*1:=by
   obtain⟨cs,_,hb2,hnc,hm,hln,_⟩:=h.blk;have e:=hb.symm.trans hb2;injection e with e
   injection e with e
   have e:sV L++rest=cs:=by injection e
   rw[e];exact⟨hnc,hm,hln⟩
  obtain⟨hc1,hc2,hc3⟩:=hcap;have hk:=Tryz.slices_Compact_string_cells g 0 L.length cap (fun i=>(L[i]?).getD emp) w oQ hc1 (fun i hi=>by
   rw[Nat.zero_add,hb.cell,zS (by rw[sV_len];exact hi)];unfold sV;rw[zG,zI hi];rfl) (fun j _=>by rw[Nat.zero_add];exact hb.frozen j)
  rw[strsOf_eq]at hk;have hcl:=compact_len (ofB L);rw[ofB_len]at hcl;have e2:(Lib.compact (ofB L)).map encStr=sV (cpB L):=by rw[←enc_ofB,show ofB (cpB L)=Lib.compact (ofB L)from ofB_toB _]
  have e3:(cpB L).length=(Lib.compact (ofB L)).length:=by unfold cpB toB;rw[xC]
  refine hk.mono ?_;rintro e w' ⟨rfl,q,rfl⟩;rw[xR,e2,←e3];rw[←e3]at hcl;have hxl:(sV (cpB L)++(List.replicate (L.length- (cpB L).length) []).map encStr).length=L.length:=by
   rw[zH,sV_len,xC,List.length_replicate];omega
  obtain⟨h5,h6⟩:=Blk.setCells (sV (cpB L)++(List.replicate (L.length- (cpB L).length) []).map encStr) 0 (w.drewN q) _ (hb.drewN q) (by rw[hxl,zH,sV_len];omega);refine⟨_,rfl,?_,rfl,(gr_drewN w q _).trans h6⟩;refine OL.of_blk hg h5 (zU hcl hc1) hc2 ?_ (strD_len _) fun k d hd=>?_
  ·simp only[List.take_zero,List.nil_append,zH,List.length_drop,hxl,Nat.zero_add]at hc3 ⊢;have hsl:=sV_len L;omega
  ·rw[strs_map,zG]at hd;obtain⟨u,hu,rfl⟩:=xG.1 hd;have hkl:=(zC.1 hu).1;refine⟨u,?_,.v _ ?_⟩
   ·rw[List.take_zero,List.nil_append,zS (by rw[hxl];rw[sV_len]at hkl;omega),zS hkl];exact hu
   ·unfold sV at hu;obtain⟨x,_,rfl⟩:=List.mem_map.1 (zA hu);rfl
end shW
def SdF (g:Nat)(v vr:Value)(w w':World):Prop:=w.heap.size≤w'.heap.size∧∀k,k<w.heap.size→k≠g→some k≠v.ownBlock→some k≠vr.ownBlock→w'.heap[k]? =w.heap[k]?
def SdP (B g:Nat)(v vr:Value)(w:World)(L:List ByteArray)(e:Ending)(w':World):Prop:=e=.returned (.tuple #[])∧∃v',EW B g w' v' L∧Below B w w'∧(v'.ownBlock=v.ownBlock∨∃k,v'.ownBlock=some k∧w.heap.size≤k)∧SdF g v vr w w'
structure SdI (B g:Nat)(v vr:Value)(w wr:World)(L:List ByteArray)(v2:Value)(T:List ByteArray)(h:ByteArray)(j:Nat)(v':Value):Prop where
 ew:EW B g wr v' (L++(T.take j).map (h++ ·))
 ol:OL wr B NoF 9 1 v2 T.length (T.flatMap strD)
 ow:v2.ownBlock=vr.ownBlock
 ne:v'.ownBlock=none∨v'.ownBlock≠vr.ownBlock
 hb:Below B w wr
 ho:v'.ownBlock=v.ownBlock∨∃k,v'.ownBlock=some k∧w.heap.size≤k
 fr:SdF g v vr w wr
theorem SdI.next {B g:Nat}{v vr v2 v' v'':Value}{w wr w1:World}{L T:List ByteArray}{h x:ByteArray}{j:Nat}(H:SdI B g v vr w wr L v2 T h j v')(hx:T[j]? =some x)(he:EW B g w1 v'' (L++(T.take j).map (h++ ·)++[h++x]))(hb:Below B wr w1)(hf:EwF g v' v'' wr w1)(hlt:∀k,v'.ownBlock=some k→k<wr.heap.size)(hgr:some g≠vr.ownBlock):SdI B g v vr w w1 L v2 T h (j+1) v'':=by
 obtain⟨f1,f2,f3,wm,f5,rfl⟩:=hf;have hv2:∀k,v2.ownBlock=some k→k<wr.heap.size:=fun k hk=>(H.ol.lt k hk).2
 refine⟨?_,?_,H.ow,?_,H.hb.trans hb,?_,?_⟩
 ·rw[zJ,hx,xR,←zR];exact he
 ·have hne:v2.ownBlock=none∨v2.ownBlock≠v'.ownBlock:=by
   rw[H.ow];rcases H.ne with e |e
   ·cases e2:vr.ownBlock with
    |none=>exact .inl rfl
    |some k=>rw[e];exact .inr sJ
   ·exact .inr (Ne.symm e)
  exact(H.ol.kept f5 hne (fun b hb=>hb.elim)).setCell (p:=⟨g,0,none⟩) (by rw[H.ow];exact Ne.symm hgr) (fun h=>h) v''
 ·rcases f1 with f1 |⟨k,f1,f4⟩
  ·rw[f1];exact H.ne
  ·refine .inr fun e=>?_
   have:=hv2 k (by rw[H.ow,←e,f1]);omega
 ·rcases f1 with f1 |⟨k,f1,f4⟩
  ·rw[f1];exact H.ho
  ·exact .inr ⟨k,f1,zU H.fr.1 f4⟩
 ·refine⟨zU H.fr.1 f2,fun k hk hkg hkv hkr=>?_⟩;rw[f3 k (zF hk H.fr.1) hkg ?_]
  ·exact H.fr.2 k hk hkg hkv hkr
  ·rcases H.ho with ho |⟨k',ho,hk'⟩
   ·rw[ho];exact hkv
   ·rw[ho];intro e;injection e with e;omega
namespace shW
open nmW
theorem sorted_k (B g:Nat)(vL vr:Value)(L T:List ByteArray)(h:ByteArray)(w:World)(E:EW B g w vL L)(O:OL w B NoF 9 1 vr T.length (T.flatMap strD))(hne:vL.ownBlock=none∨vL.ownBlock≠vr.ownBlock)(hl:L.length≤33554432)(hT:T.length≤1048576)(hz:∀x∈T,x.size≤1048576)(hh:h.size≤1048576):
  Calls Tryz.prog 45 #[.func (.func 42) #[.pointer (some ⟨g,0,none⟩)] #[],.string h,vr] w (SdP B g vL vr w (L++(srt T).map (h++ ·))):=by
 have k1:=sort_k B vr T w E.size hT O;have k2:=fun W (hO:OL W B NoF 9 1 vr (msB T).length ((msB T).flatMap strD))(hB:B≤W.heap.size)=>compact_k B vr (msB T) W hB (by rw[msB_len];exact hT) hO
 rw[cp_ms]at k2;have hgr:some g≠vr.ownBlock:=fun e=>O.neBlk E.bx dQ e.symm
 have hzs:∀x∈srt T,x.size≤1048576:=fun x hx=>hz x (mem_srt.1 hx)
 have hsl:(srt T).length≤T.length:=by
  rw[←cp_ms];have:=cpB_len (msB T);rw[msB_len]at this;exact this
 have step:∀W,w.grownBy W vr.ownBlock→EW B g W vL L:=fun W hg=>⟨E.bx.grown hg hgr,E.ol.kept hg hne (fun b hb=>hb.elim),E.lo⟩
 have hbw:∀W,w.grownBy W vr.ownBlock→Below B w W:=fun W hg=>(zB B w).grown hg E.size (fun q hq=>(O.lt q hq).1)
 replace k1:=Hd k1;replace k2:=Hd k2;replace step:=Hd step;replace hbw:=Hd hbw;have hsz:=E.size;obtain⟨A,c,rfl⟩:=O.form;go_enter Tryz.func45,Tryz.ntmps45;go_upto_region 1 with(go_at_call 44;refine k1.out.mono ?_;rintro e W1 ⟨rfl,hO1,hg1⟩)
 have k3:=Hd (k2.out W1 hO1 (zU hsz hg1.size));go_upto_region 2 with(go_at_call 89;refine k3.out.mono ?_;rintro e W2 ⟨v2,rfl,hO2,how,hg2⟩;have hg3:=hg1.trans hg2;have hI0:SdI B g vL (.slice A T.length c) w W2 L v2 (srt T) h 0 vL:=⟨by rw[List.take_zero,List.map_nil,zT];exact step.out W2 hg3,hO2,how,hne,hbw.out W2 hg3,.inl rfl,hg3.size,fun k hk _ _ hkr=>hg3.block k hk hkr⟩;obtain⟨A2,c2,rfl⟩:=hO2.form;replace hI0:=Hd hI0;clear hO1 hg1 hO2 hg2 hg3 how k1 k2 k3 step hbw)
 go_loopw [13] (fun i wr=>∃(j:Nat)(v':Value),j≤(srt T).length∧i=.int .i64 j∧SdI B g vL (.slice A T.length c) w wr L (.slice A2 (srt T).length c2) (srt T) h j v') (fun i _=>(srt T).length- (intOf i).toNat)
 case atStart=>exact⟨0,vL,zE _,rfl,hI0.out⟩
 case round=>
  clear hI0;obtain⟨j,v',hj,rfl,hI⟩:=hrel;by_cases hlt:j<(srt T).length
  ·obtain⟨x,hx⟩:=getx hlt;obtain⟨gx,off,e,_,z0,_⟩:=(hI.ol.rd (G:=fun _=>True) (fun _ h _=>h.elim) (fun _ _ _=>trivial)).rowv (f:=strD) (m:=1) (fun _=>rfl) hx oQ;have z0:=z0 0 _ rfl;simp only[Nat.add_zero,Nat.mul_one]at z0;subst e;have g0:(0:Int)≤(j:Int):=oQ;have g1:(j:Int)<(srt T).length:=oQ;have hxz:=hzs x (zA hx);have hsz2:h.size+x.size≤9223372036854775807:=oQ;have ka:=Hd (eadd_k B g v' (L++((srt T).take j).map (h++ ·)) (h++x) wr hI.ew (by rw[zH,xC,zO];omega));have hnx:=fun v'' w1 he hb hf=>hI.next (x:=x) (v'':=v'') (w1:=w1) hx he hb hf (fun k hk=>(hI.ew.ol.lt k hk).2) hgr
   replace hnx:=Hd hnx;replace hx:=Hd hx;clear hI;go_wp2_with (go_at_call 42;refine ka.out.mono ?_;rintro e W3 ⟨rfl,v3,he3,⟨hb3,_⟩,hf3⟩;have hI3:=Hd (hnx.out v3 W3 he3 hb3 hf3);clear he3 hb3 hf3);go_roundw
   case rel=>exact⟨j+1,v3,oQ,gQ,hI3.out⟩
   case measure=>exact mQ
  ·obtain rfl:j=(srt T).length:=oQ;have g1:¬((srt T).length:Int)<(srt T).length:=oQ;have he:=hI.ew;rw[zL]at he;have hfin:=Hd (show SdP B g vL (.slice A T.length c) w (L++(srt T).map (h++ ·)) (.returned (.tuple #[])) wr from ⟨rfl,v',he,hI.hb,hI.ho,hI.fr⟩);clear he hI;go_wp2;first|refine bodyPost_ret (results_none rfl _ _ _) rfl ?_ |refine bodyPost_end (results_none rfl _ _ _) rfl ?_
   exact hfin.out
end shW
open Go.RowKit Go.Deep Go.Maps
def ptrE (v:Value):Option (DataW Unit×List MemPlace):=match v with
 | .pointer (some ⟨b,0,none⟩)=>some (.lit (.int .i64 (b:Nat)),[])
 | .pointer none=>some (.lit (.int .i64 (-1)),[])
 |_=>none
theorem ptrE_inv {v:Value}{b:Nat}{ps:List MemPlace}(h:ptrE v=some (.lit (.int .i64 (b:Nat)),ps)):v=.pointer (some ⟨b,0,none⟩):=by
 unfold ptrE at h;split at h
 ·next b'=>
  injection h with h
  have h1:=(Lit.int.inj (DataW.lit.inj (Prod.mk.inj h).1)).2;have:b'=b:=oQ;rw[this]
 ·injection h with h
  have h1:=(Lit.int.inj (DataW.lit.inj (Prod.mk.inj h).1)).2;omega
 ·cases h
def kz (i:Int):Lit:=.int .i64 i
theorem kz_key {i:Int}(h0: -1≤i)(h:i≤4194304):keyOf Tryz.prog 3 (.int .i64 i)=some (kz i):=keyOf_int_mk Tryz.underlying3 (WalkArith.wf_i64 oQ)
theorem zeroP (w:World):(zeroValue 77).run Tryz.prog w=.ok (.pointer none) w:=kQ
def MapP (w:World)(m n:Nat)(f:Int→Option Nat):Prop:=∃D:DataW Unit,w.ownsMap Tryz.prog 3 ptrE m n D∧∀i b,f i=some b→D.atKey (kz i) (.lit (.int .i64 (-1)))=.lit (.int .i64 (b:Nat))
theorem MapP.made {w:World}{g:Nat}(hg:w.heap.size=g):MapP (w.alloc (.map #[] 0)) g 0 (fun _=>none):=hg▸⟨.map [],World.ownsMap_made _ _ _ _,fun _ _ h=>by cases h⟩
theorem MapP.lt {w:World}{m n:Nat}{f:Int→Option Nat}(h:MapP w m n f):m<w.heap.size:=let ⟨_,h1,_⟩:=h;h1.lt
theorem MapP.kept {w w':World}{m n:Nat}{f:Int→Option Nat}{row:Option Nat}(h:MapP w m n f)(hg:w.grownBy w' row)(hne:some m≠row):MapP w' m n f:=let ⟨D,h1,h2⟩:=h;⟨D,h1.kept hg hne,h2⟩
theorem MapP.stay {w w':World}{m n:Nat}{f:Int→Option Nat}(h:MapP w m n f)(hb:Bw w w'):MapP w' m n f:=h.kept (row:=none) (Below.grown_none hb) sJ
theorem MapP.setCell {w:World}{m n:Nat}{f:Int→Option Nat}(h:MapP w m n f){a:Addr}(ha:m≠a.block)(u:Value):MapP (w.setCell a u) m n f:=let ⟨D,h1,h2⟩:=h;⟨D,h1.setCell ha u,h2⟩
theorem MapP.look {w:World}{m n:Nat}{f:Int→Option Nat}(h:MapP w m n f){i:Int}{b:Nat}(hf:f i=some b)(h0: -1≤i)(hi:i≤4194304):(Instr.lookup 76 (.map (some m)) (.int .i64 i) false).run Tryz.prog w=.ok (.pointer (some ⟨b,0,none⟩)) w:=by
 obtain⟨D,h1,h2⟩:=h;obtain⟨v,ps,hrun,hv⟩:=h1.lookup keyI Tryz.underlying76 (zeroP w) (zd:=.lit (.int .i64 (-1))) (zp:=[]) rfl (kz_key h0 hi);rw[h2 i b hf]at hv;rw[hrun,ptrE_inv hv]
theorem wpList_putP {w:World}{ops:Array Oper}{rest:List Oper}{o:Oper}{a:Act}{Q:Exit→Act→World→Prop}(hg:o.guard=none)(m x v:Operand)(hop:o.op=Op.mapUpdate 76 m x v)
  {b n g:Nat}{i:Int}{f:Int→Option Nat}(hm:a.eval m=.map (some b))(h:MapP w b n f)(hn:n≤1048576)(hx:a.eval x=.int .i64 i)(hv:a.eval v=.pointer (some ⟨g,0,none⟩))(h0: -1≤i)(hi:i≤4194304)
  (hK:∀w',MapP w' b (n+1) (fun j=>if j=i then some g else f j)→w.grownBy w' (some b)→wpList Tryz.prog ops Q rest (a.put o.dst undef) w'):wpList Tryz.prog ops Q (o::rest) a w:=by
 obtain⟨D,h1,h2⟩:=h;refine wpList_mapUpdate_own w hg m x v _ hop 3 77 keyI Tryz.underlying76 _ b n D hm h1 (by unfold maxLen;omega) _ _ (kz i) hx hv (kz_key h0 hi) _ [] rfl fun w' h3 h4=>hK w' ⟨_,h3,fun t c hc=>?_⟩ h4
 simp only at hc;by_cases e:t=i
 ·subst e;rw[if_pos rfl]at hc;injection hc with hc
  subst hc;rw[atKey_put_same h1.isMap (by unfold kz;trivial)]
 ·rw[if_neg e]at hc;rw[atKey_put_other (fun h=>e (by unfold kz at h;injection h))];exact h2 t c hc
end Go.Proofs.YthaabihjeomipaaGreatDoor
