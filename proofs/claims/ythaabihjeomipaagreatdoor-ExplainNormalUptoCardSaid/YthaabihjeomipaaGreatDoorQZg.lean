/- The laws of explain. -/
import Derived.Test.YthaabihjeomipaaGreatDoorQZe
import Derived.Lib.LaidTab
namespace Go.Proofs.YthaabihjeomipaaGreatDoor
set_option maxRecDepth 100000
set_option maxHeartbeats 16000000
open Go.RowKit Go.Deep
set_option linter.unusedVariables false
set_option linter.unusedSimpArgs false
theorem sum_mem {α:Type}{f:α→Nat}{l:List α}{x:α}(h:x∈l):f x≤(l.map f).sum:=by
 induction l with
 |nil=>cases h
 |cons a l ih=>
  cases h with
  |head=>simp
  |tail _ h=>have:=ih h;simp;omega
theorem sum_len {α:Type}{f:α→Nat}(hf:∀x,1≤f x)(l:List α):l.length≤(l.map f).sum:=by
 induction l with
 |nil=>simp
 |cons a l ih=>have:=hf a;simp;omega
theorem Fits.szS {d:D}{N:Nat}(h:Fits (.sl [.str]) d N)(hN:N≤1048576):∃l:List ByteArray,d=.sl l.length (l.flatMap strD)∧SzS l:=by
 obtain⟨l,h1,_,h3⟩:=h.strs;refine⟨l,h1,?_,fun a ha=>?_⟩
 ·have:=sum_len (f:=fun s:ByteArray=>s.size+1) (fun _=>by omega) l;omega
 ·have:=sum_mem (f:=fun s:ByteArray=>s.size+1) ha;omega
def tdB (t:Td):Nat:=t.name.size+1+((t.attrs.map fun s=>s.size+1).sum+1)
theorem conv_td' (ds:List D)(g:Nat→Nat)(h:FitsL [.str,.sl [.str]] ds g):∃t:Td,ds=tdD t∧True∧tdB t≤sumTo g [Ty.str,Ty.sl [Ty.str]].length:=by
 obtain⟨d0,r,rfl,h0,h⟩:=h.cons;obtain⟨d1,r,rfl,h1,h⟩:=h.cons;have:=h.nil;subst this;obtain⟨a,rfl,_,ha⟩:=h0.str_inv;obtain⟨l,rfl,_,hl⟩:=h1.strs;refine⟨⟨a,l⟩,rfl,trivial,?_⟩;have ha':a.size+1≤g 0:=ha;have hl':(l.map fun s:ByteArray=>s.size+1).sum+1≤g (0+1):=hl;simp[sumTo,tdB]at*;omega
theorem szS_of {l:List ByteArray}{N:Nat}(h:(l.map fun s:ByteArray=>s.size+1).sum≤N)(hN:N≤1048576):SzS l:=by
 refine⟨?_,fun a ha=>?_⟩
 ·have:=sum_len (f:=fun s:ByteArray=>s.size+1) (fun _=>by omega) l;omega
 ·have:=sum_mem (f:=fun s:ByteArray=>s.size+1) ha;omega
theorem szT_of {l:List Td}{N:Nat}(h:(l.map tdB).sum≤N)(hN:N≤1048576):SzT l:=by
 refine⟨?_,fun t ht=>?_⟩
 ·have:=sum_len (f:=tdB) (fun _=>by unfold tdB;omega) l;omega
 ·have h1:=sum_mem (f:=tdB) ht;have h2:tdB t=t.name.size+1+((t.attrs.map fun s=>s.size+1).sum+1):=rfl;exact⟨oQ,szS_of (N:=1048576) oQ nR⟩
theorem sum_len6 {α:Type}{f:α→Nat}(hf:∀x,6≤f x)(l:List α):6*l.length≤(l.map f).sum:=by
 induction l with
 |nil=>simp
 |cons a l ih=>have:=hf a;simp;omega
theorem wf64 {n:Int}(h:(Lit.int .i64 n).wf=true):n≤9223372036854775807:=by
 unfold Lit.wf at h;rw[xK]at h;exact of_decide_eq_true h.2
def ndTys:List Ty:=[.int .i64,.int .i64,.str,.str,.int .i64,.int .i64]
def ndB (x:Nd):Nat:=x.v.size+1+(x.at_.size+1)+4
theorem conv_nd (ds:List D)(g:Nat→Nat)(h:FitsL ndTys ds g):∃x:Nd,ds=ndD x∧x.n≤9223372036854775807∧ndB x≤sumTo g ndTys.length:=by
 obtain⟨d0,r,rfl,h0,h⟩:=h.cons;obtain⟨d1,r,rfl,h1,h⟩:=h.cons;obtain⟨d2,r,rfl,h2,h⟩:=h.cons;obtain⟨d3,r,rfl,h3,h⟩:=h.cons;obtain⟨d4,r,rfl,h4,h⟩:=h.cons;obtain⟨d5,r,rfl,h5,h⟩:=h.cons;have:=h.nil;subst this;have p0:1≤g 0:=h0.pos;have p1:1≤g (0+1):=h1.pos;have p4:1≤g (0+1+1+1+1):=h4.pos;have p5:1≤g (0+1+1+1+1+1):=h5.pos;obtain⟨op,rfl,_⟩:=h0.int_inv;obtain⟨n,rfl,hnw⟩:=h1.int_inv;obtain⟨v,rfl,_,hv⟩:=h2.str_inv;obtain⟨at_,rfl,_,ha⟩:=h3.str_inv;obtain⟨a,rfl,_⟩:=h4.int_inv;obtain⟨b,rfl,_⟩:=h5.int_inv;refine⟨⟨op,n,v,at_,a,b⟩,rfl,wf64 hnw,?_⟩;have hv':v.size+1≤g (0+1+1):=hv;have ha':at_.size+1≤g (0+1+1+1):=ha;simp[sumTo,ndB,ndTys]at*;omega
theorem szN_of {l:List Nd}{N:Nat}(h:(l.map ndB).sum≤N)(hN:N≤1048576):SzN l:=by
 refine⟨?_,fun x hx=>?_⟩
 ·have:=sum_len (f:=ndB) (fun _=>by unfold ndB;omega) l;omega
 ·have h1:=sum_mem (f:=ndB) hx;have h2:ndB x=x.v.size+1+(x.at_.size+1)+4:=rfl;omega
def itB (x:It):Nat:=(x.tys.map fun s=>s.size+1).sum+1+(x.v.size+1)
theorem conv_it (ds:List D)(g:Nat→Nat)(h:FitsL [.bool,.sl [.str],.str,.int .i64,.int .i64] ds g):∃x:It,ds=itD x∧True∧itB x≤sumTo g [Ty.bool,.sl [.str],.str,.int .i64,.int .i64].length:=by
 obtain⟨d0,r,rfl,h0,h⟩:=h.cons;obtain⟨d1,r,rfl,h1,h⟩:=h.cons;obtain⟨d2,r,rfl,h2,h⟩:=h.cons;obtain⟨d3,r,rfl,h3,h⟩:=h.cons;obtain⟨d4,r,rfl,h4,h⟩:=h.cons;have:=h.nil;subst this;obtain⟨neg,rfl⟩:=h0.bool_inv;obtain⟨tys,rfl,_,ht⟩:=h1.strs;obtain⟨v,rfl,_,hv⟩:=h2.str_inv;obtain⟨lo,rfl,_⟩:=h3.int_inv;obtain⟨hi,rfl,_⟩:=h4.int_inv;refine⟨⟨neg,tys,v,lo,hi⟩,rfl,trivial,?_⟩;have ht':(tys.map fun s:ByteArray=>s.size+1).sum+1≤g (0+1):=ht;have hv':v.size+1≤g (0+1+1):=hv;simp[sumTo,itB]at*;omega
def reB (t:List Nd):Nat:=(t.map ndB).sum+1
theorem conv_re (ds:List D)(g:Nat→Nat)(h:FitsL [.sl ndTys] ds g):∃t:List Nd,ds=reD t∧SzM t∧reB t≤sumTo g [Ty.sl ndTys].length:=by
 obtain⟨d0,r,rfl,h0,h⟩:=h.cons;have:=h.nil;subst this;obtain⟨t,rfl,hm,ht⟩:=h0.conv (b:=ndB) conv_nd;refine⟨t,rfl,hm,?_⟩;simp[sumTo,reB];omega
theorem sum_le {α:Type}{f g:α→Nat}(h:∀x,f x≤g x)(l:List α):(l.map f).sum≤(l.map g).sum:=by
 induction l with
 |nil=>simp
 |cons a l ih=>have:=h a;simp;omega
def quTys:List Ty:=[.sl [.bool,.sl [.str],.str,.int .i64,.int .i64],.int .i64,.int .i64,.sl ndTys,.int .i64,.str,.sl [.sl ndTys]]
theorem conv_qu6 {ds:List D}{g:Nat→Nat}{c:Array Value}{W:World}{N:Nat}(sz:c.size=7)(h:FitsL quTys ds g)(rd:∀(k:Nat)(d:D),ds[k]? =some d→∃u,c[k]? =some u∧Rd W (fun b=>b<W.heap.size) u d)(hN:sumTo g 7≤N)(hB:N≤1048576):
  ∃(q:Qy)(s:Sl3),c=⟨qV q s⟩∧QR W (fun b=>b<W.heap.size) q s∧SzQ q∧SzB q∧SzM q.wh∧(∀t∈q.ret,SzM t)∧6*q.wh.length≤N:=by
 obtain⟨d0,r,rfl,h0,h⟩:=h.cons;obtain⟨d1,r,rfl,h1,h⟩:=h.cons;obtain⟨d2,r,rfl,h2,h⟩:=h.cons;obtain⟨d3,r,rfl,h3,h⟩:=h.cons;obtain⟨d4,r,rfl,h4,h⟩:=h.cons;obtain⟨d5,r,rfl,h5,h⟩:=h.cons;obtain⟨d6,r,rfl,h6,h⟩:=h.cons;have:=h.nil;subst this;obtain⟨items,rfl,_,b0⟩:=h0.conv (b:=itB) conv_it;obtain⟨mode,rfl,_⟩:=h1.int_inv;obtain⟨after,rfl,_⟩:=h2.int_inv;obtain⟨wh,rfl,m3,b3⟩:=h3.conv (b:=ndB) conv_nd;obtain⟨within,rfl,_⟩:=h4.int_inv;obtain⟨by_,rfl,_,b5⟩:=h5.str_inv;obtain⟨ret,rfl,m6,b6⟩:=h6.conv (b:=reB) conv_re;obtain⟨u0,c0,r0⟩:=rd 0 _ rfl;obtain⟨A1,k1,rfl,_,_⟩:=r0.sl_inv;obtain⟨u1,c1,r1⟩:=rd 1 _ rfl;obtain rfl:=r1.v_inv;obtain⟨u2,c2,r2⟩:=rd 2 _ rfl;obtain rfl:=r2.v_inv;obtain⟨u3,c3,r3⟩:=rd 3 _ rfl;obtain⟨A2,k2,rfl,_,_⟩:=r3.sl_inv;obtain⟨u4,c4,r4⟩:=rd 4 _ rfl;obtain rfl:=r4.v_inv;obtain⟨u5,c5,r5⟩:=rd 5 _ rfl;obtain rfl:=r5.v_inv;obtain⟨u6,c6,r6⟩:=rd 6 _ rfl;obtain⟨A3,k3,rfl,_,_⟩:=r6.sl_inv;have e0:(items.map itB).sum+1≤g 0:=b0;have e3:(wh.map ndB).sum+1≤g (0+1+1+1):=b3;have e5:by_.size+1≤g (0+1+1+1+1+1):=b5;have e6:(ret.map reB).sum+1≤g (0+1+1+1+1+1+1):=b6;have hsum:g 0+g (0+1+1+1)+g (0+1+1+1+1+1)+g (0+1+1+1+1+1+1)≤N:=by simp[sumTo]at hN ⊢;omega
 refine⟨⟨items,mode,after,wh,within,by_,ret⟩,⟨A1,k1,A2,k2,A3,k3⟩,?_,⟨r0,r3,r6,fun b h=>h⟩,⟨?_,fun x hx=>?_,(show SzN wh from szN_of (l:=wh) (N:=1048576) oQ nR),(show by_.size≤1048576 by omega),?_,fun t ht=>?_⟩,⟨?_,?_⟩,m3,m6,(show 6*wh.length≤N by have:=sum_len6 (f:=ndB) (fun _=>by unfold ndB;omega) wh;omega)⟩
 ·obtain⟨l⟩:=c;simp only[List.size_toArray]at sz;simp only[List.getElem?_toArray]at c0 c1 c2 c3 c4 c5 c6;show(⟨l⟩:Array Value)=⟨[.slice A1 items.length k1,.int .i64 mode,.int .i64 after,.slice A2 wh.length k2,.int .i64 within,.string by_,.slice A3 ret.length k3]⟩
  congr 1
  match l,sz with
  | [x0,x1,x2,x3,x4,x5,x6],_=>
   obtain rfl:=zq9 c0;obtain rfl:=zq9 c1;obtain rfl:=zq9 c2;obtain rfl:=zq9 c3;obtain rfl:=zq9 c4;obtain rfl:=zq9 c5;obtain rfl:=zq9 c6;rfl
 ·have:=sum_len (f:=itB) (fun _=>by unfold itB;omega) items;show items.length≤_;omega
 ·have h1:=sum_mem (f:=itB) (show x∈items from hx);have h2:itB x=(x.tys.map fun s=>s.size+1).sum+1+(x.v.size+1):=rfl;exact⟨szS_of (N:=1048576) oQ nR,oQ⟩
 ·have:=sum_len (f:=reB) (fun _=>by unfold reB;omega) ret;show ret.length≤_;omega
 ·have h1:=sum_mem (f:=reB) (show t∈ret from ht);have h2:reB t=(t.map ndB).sum+1:=rfl;exact szN_of (N:=1048576) oQ nR
 ·have h1:=sum_le (f:=fun x:It=>x.tys.length) (g:=itB) (fun x=>by
   have:=sum_len (f:=fun s:ByteArray=>s.size+1) (fun _=>by omega) x.tys;unfold itB;omega) items
  show(items.map fun x=>x.tys.length).sum≤_;omega
 ·have h1:=sum_le (f:=fun t:List Nd=>t.length) (g:=reB) (fun t=>by
   have:=sum_len (f:=ndB) (fun _=>by unfold ndB;omega) t;unfold reB;omega) ret
  show(ret.map fun t=>t.length).sum≤_;omega
theorem conv_qu {ds:List D}{g:Nat→Nat}{c:Array Value}{W:World}{N:Nat}(sz:c.size=7)(h:FitsL quTys ds g)(rd:∀(k:Nat)(d:D),ds[k]? =some d→∃u,c[k]? =some u∧Rd W (fun b=>b<W.heap.size) u d)(hN:sumTo g 7≤N)(hB:N≤1048576):
  ∃(q:Qy)(s:Sl3),c=⟨qV q s⟩∧QR W (fun b=>b<W.heap.size) q s∧SzQ q∧SzB q∧SzM q.wh∧∀t∈q.ret,SzM t:=by
 obtain⟨q,s,h1,h2,h3,h4,h5,h6,_⟩:=conv_qu6 sz h rd hN hB;exact⟨q,s,h1,h2,h3,h4,h5,h6⟩
theorem laid_var {W:World}:∀{l:List (String×DataW Unit)}{ps:List MemPlace}{n:String}{d:DataW Unit},DataW.LaidVars Tryz.prog W l ps→(n,d)∈l→∃g t cs fuel p,Tryz.prog.globalNamed n=some g∧(Tryz.prog.globals[g]?).map (·.type)=some t∧W.var? Tryz.prog n=some cs∧DataW.trod (fun _=>()) Tryz.prog W 0 (fun _=>true) false fuel t cs.toList=some (d,p)
 | [],_,_,_,_,h=>by cases h
 |(n0,d0)::r,ps,n,d,h,hm=>by
  obtain⟨g,t,cs,fuel,p,q,h1,h2,h3,h4,h5,_⟩:=h;rcases List.mem_cons.1 hm with e |e
  ·injection e with e1 e2
   subst e1 e2;exact⟨g,t,cs,fuel,p,h1,h2,h3,h4⟩
  ·exact laid_var h5 e
theorem tab_lt {W:World}{n:String}{g:Nat}{cs:Array Value}(hg:Tryz.prog.globalNamed n=some g)(hv:W.var? Tryz.prog n=some cs)(h0:0<cs.size):g<W.heap.size:=by
 have:=World.var?_cell hg hv 0;rw[Array.getElem?_eq_getElem h0]at this;exact zX W ⟨g,0,none⟩ this
theorem strTab_of {W:World}{l:List (String×DataW Unit)}{nm:String}{g t e n i:Nat}{L:List ByteArray}(h:laidMet Tryz.prog l W)(hi:l[i]? =some (nm,.agg (L.map fun s=>.lit (.string s.data.toList))))(hg:Tryz.prog.globalNamed nm=some g)(hty:(Tryz.prog.globals[g]?).map (·.type)=some t)
  (ht:Tryz.prog.underlying t=some (.array n e))(he:Tryz.prog.underlying e=some .string)(hce:Tryz.prog.cellsOf e=1)(hct:Tryz.prog.cellsOf t=n)(h0:0<L.length):TabI g (L.map Value.string) W:=by
 obtain⟨ps,hl,_⟩:=h;obtain⟨g',t',cs,fuel,p,hg',ht',hvar,hd⟩:=laid_var hl (zA hi);obtain rfl:=zq9 (hg.symm.trans hg');obtain rfl:=zq9 (hty.symm.trans ht');cases fuel with
 |zero=>simp[DataW.trod]at hd
 |succ fuel=>
  simp only[DataW.trod,ht,hce,hct,Nat.mul_one]at hd;split at hd
  ·rename_i hcl;obtain⟨xs,hm,hx⟩:=xG.1 hd;have hxs:xs.map (·.1)=L.map fun s=>(DataW.lit (.string s.data.toList):DataW Unit):=by
    have:=congrArg Prod.fst hx;simpa using this
   have hxl:xs.length=n:=by simpa using Lib.mapM_length hm
   have hln:L.length=n:=by
    have h2:=congrArg List.length hxs;simp at h2;omega
   have key:∀(i:Nat) k,L[i]? =some k→cs[i]? =some (.string k):=fun i k hk=>by
    have hki:i<n:=by
     have h1:=(zC.1 hk).1;omega
    obtain⟨b,hb,hf⟩:=Lib.mapM_at hm i i (by simp[hki]);obtain⟨s,hc,hbs,_⟩:=DataW.trod_string he hf;have h1:cs[i]? =some (.string s):=by
     have:=congrArg (·[0]?) hc;simpa[zZ,xT] using this
    have h2:(xs.map (·.1))[i]? =some (DataW.lit (.string s.data.toList):DataW Unit):=(by simp[hb,hbs]);rw[hxs]at h2;simp only[zG,hk,Option.map_some,Option.some.injEq,DataW.lit.injEq,Lit.string.injEq]at h2;obtain rfl:k=s:=ByteArray.ext (Array.ext' h2);exact h1
   have hcs:0<cs.size:=by
    obtain⟨k,hk⟩:=getx h0;exact(Array.getElem?_eq_some_iff.1 (key 0 k hk)).1 |> fun h=>h
   refine⟨tab_lt hg hvar hcs,fun i v hv=>?_⟩;rw[zG]at hv;obtain⟨k,hk,rfl⟩:=xG.1 hv;rw[World.var?_cell hg hvar i];exact key i k hk
  ·cases hd
theorem intTab_of {W:World}{l:List (String×DataW Unit)}{nm:String}{g t e n i:Nat}{k:IntKind}{zs:List Int}(h:laidMet Tryz.prog l W)(hi:l[i]? =some (nm,Lib.tabData k zs))(hg:Tryz.prog.globalNamed nm=some g)(hty:(Tryz.prog.globals[g]?).map (·.type)=some t)
  (ht:Tryz.prog.underlying t=some (.array n e))(he:Tryz.prog.underlying e=some (.int k))(hce:Tryz.prog.cellsOf e=1)(hct:Tryz.prog.cellsOf t=n)(h0:0<zs.length):Lib.TabIs Tryz.prog W nm k zs∧TabI g (zs.map fun z=>.int k z) W:=by
 obtain⟨ps,hl,_⟩:=h;obtain⟨g',t',cs,fuel,p,hg',ht',hvar,hd⟩:=laid_var hl (zA hi);obtain rfl:=zq9 (hg.symm.trans hg');obtain rfl:=zq9 (hty.symm.trans ht');have hcs:=Lib.cells_of_tab ht he hce hct hd;have h1:Lib.TabIs Tryz.prog W nm k zs:=by
  unfold Lib.TabIs;rw[hvar,←hcs]
 refine⟨h1,tab_lt hg hvar ?_,fun i v hv=>?_⟩
 ·have:=congrArg List.length hcs;simp at this;omega
 ·rw[World.var?_cell hg h1 i];simpa using hv
structure LaidE (l:List (String×DataW Unit)):Prop where
 pw:l[2]? =some ("internal/strconv.uint64pow10",Lib.tabData .u64 Lib.pow10Tab)
 kw:l[3]? =some ("sluice/api.Keywords",.agg (kwds.map fun s=>.lit (.string s.data.toList)))
 sp:l[4]? =some ("sluice/lex.spellings",.agg (spl.map fun s=>.lit (.string s.data.toList)))
 si:l[5]? =some ("sluice/sluiceref5.signs",.agg (siL.map fun s=>.lit (.string s.data.toList)))
 cl:l[6]? =some ("sluice/sluiceref5.calls",.agg (clL.map fun s=>.lit (.string s.data.toList)))
 lv:l[7]? =some ("sluice/show.levels",Lib.tabData .i64 levL)
 sg:l[8]? =some ("sluice/show.signs",Lib.tabData .i64 sgL)
 mo:l[9]? =some ("sluice/explain.modes",.agg (moL.map fun s=>.lit (.string s.data.toList)))
 af:l[10]? =some ("sluice/explain.afters",.agg (afL.map fun s=>.lit (.string s.data.toList)))
theorem laid_all {W:World}{l:List (String×DataW Unit)}(h:laidMet Tryz.prog l W)(L:LaidE l):XT W∧RT W∧MT W:=by
 have hs:Tryz.prog.cellsOf 9=1:=kQ;have k1:=intTab_of h L.pw (g:=3) (t:=191) kQ kQ Tryz.underlying191 Tryz.underlying149 kQ kQ dQ;have k2:=strTab_of h L.kw (g:=2) (t:=185) kQ kQ Tryz.underlying185 Tryz.underlying9 hs kQ dQ;have k3:=strTab_of h L.sp (g:=11) (t:=229) kQ kQ Tryz.underlying229 Tryz.underlying9 hs kQ dQ;have k4:=strTab_of h L.si (g:=7) (t:=215) kQ kQ Tryz.underlying215 Tryz.underlying9 hs kQ dQ;have k5:=strTab_of h L.cl (g:=6) (t:=214) kQ kQ Tryz.underlying214 Tryz.underlying9 hs kQ dQ;have k6:=intTab_of h L.lv (g:=8) (t:=217) kQ kQ Tryz.underlying217 Tryz.underlying3 kQ kQ dQ;have k7:=intTab_of h L.sg (g:=4) (t:=205) kQ kQ Tryz.underlying205 Tryz.underlying199 kQ kQ dQ;have k8:=strTab_of h L.mo (g:=0) (t:=88) kQ kQ Tryz.underlying88 Tryz.underlying9 hs kQ dQ;have k9:=strTab_of h L.af (g:=1) (t:=89) kQ kQ Tryz.underlying89 Tryz.underlying9 hs kQ dQ;refine⟨⟨⟨k6.2,k7.2,k3⟩,fun i k hk=>k2.2 i _ (by rw[zG,hk];rfl),k1.1⟩,⟨k4,k5⟩,⟨k8,k9⟩⟩
theorem szq_sch {c0:Array Value}{x0:List D}{g0:Nat→Nat}{N0:Nat}{W:World}(sz0:c0.size=1)(ft0:FitsL [.sl [.str,.sl [.str]]] x0 g0)(rd0:∀(k:Nat)(d:D),x0[k]? =some d→∃u,c0[k]? =some u∧Rd W (fun b=>b<W.heap.size) u d)(bk0:sumTo g0 1≤N0)(hN:N0≤1048576):
  ∃(S:List Td)(A:Option Addr)(c:Nat),c0=#[.slice A S.length c]∧SzT S∧Rd W (fun b=>b<W.heap.size) (.slice A S.length c) (.sl S.length (S.flatMap tdD)):=by
 obtain⟨d0,r,rfl,h0,h⟩:=ft0.cons;have:=h.nil;subst this;obtain⟨S,rfl,_,hS⟩:=h0.conv (b:=tdB) conv_td';obtain⟨u0,e0,r0⟩:=rd0 0 _ rfl;obtain⟨A,c,rfl,_,_⟩:=r0.sl_inv;have hb:sumTo g0 1=g0 0:=by simp[sumTo]
 refine⟨S,A,c,?_,szT_of (N:=1048576) oQ nR,r0⟩;obtain⟨l⟩:=c0;simp at sz0 e0;match l,sz0 with
 | [a],_=>simp at e0;subst e0;rfl
end Go.Proofs.YthaabihjeomipaaGreatDoor
