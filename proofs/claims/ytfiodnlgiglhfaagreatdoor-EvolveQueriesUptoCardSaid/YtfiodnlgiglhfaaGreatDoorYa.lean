/- EvolveQueries. -/
import Derived.Test.YtfiodnlgiglhfaaGreatDoorY9
import Derived.Lib.LaidTab
namespace Go.Proofs.YtfiodnlgiglhfaaGreatDoor
set_option maxRecDepth 100000
set_option maxHeartbeats 16000000
open Go.RowKit Go.Deep
set_option linter.unusedVariables false
theorem sum_mem {α:Type}{f:α→Nat}{l:List α}{x:α}(h:x∈l):f x≤(l.map f).sum:=by
 induction l with
 |nil=>cases h
 |cons a l ih=>
  cases h with
  |head=>simp
  |tail _ h=>have:=ih h;simp;omega
theorem sum_len {α:Type}{f:α→Nat}(hf:∀x,1≤f x)(l:List α):l.length≤(l.map f).sum:=by
 induction l with
 |nil=>simp
 |cons a l ih=>have:=hf a;simp;omega
def tdB (t:Td):Nat:=t.name.size+1+((t.attrs.map fun s=>s.size+1).sum+1)
theorem conv_td' (ds:List D)(g:Nat→Nat)(h:FitsL [.str,.sl [.str]] ds g):∃t:Td,ds=tdD t∧True∧tdB t≤sumTo g [Ty.str,Ty.sl [Ty.str]].length:=by
 obtain⟨d0,r,rfl,h0,h⟩:=h.cons;obtain⟨d1,r,rfl,h1,h⟩:=h.cons;have:=h.nil;subst this;obtain⟨a,rfl,_,ha⟩:=h0.str_inv;obtain⟨l,rfl,_,hl⟩:=h1.strs;refine⟨⟨a,l⟩,rfl,trivial,?_⟩;have ha':a.size+1≤g 0:=ha;have hl':(l.map fun s:ByteArray=>s.size+1).sum+1≤g (0+1):=hl;simp[sumTo,tdB]at*;omega
theorem szS_of {l:List ByteArray}{N:Nat}(h:(l.map fun s:ByteArray=>s.size+1).sum≤N)(hN:N≤1048576):SzS l:=by
 refine⟨?_,fun a ha=>?_⟩
 ·have:=sum_len (f:=fun s:ByteArray=>s.size+1) (fun _=>by omega) l;omega
 ·have:=sum_mem (f:=fun s:ByteArray=>s.size+1) ha;omega
theorem szT_of {l:List Td}{N:Nat}(h:(l.map tdB).sum≤N)(hN:N≤1048576):SzT l:=by
 refine⟨?_,fun t ht=>?_⟩
 ·have:=sum_len (f:=tdB) (fun _=>by unfold tdB;omega) l;omega
 ·have h1:=sum_mem (f:=tdB) ht;have h2:tdB t=t.name.size+1+((t.attrs.map fun s=>s.size+1).sum+1):=rfl;exact⟨by omega,szS_of (N:=1048576) (by omega) nR⟩
def cgB (c:Cg):Nat:=c.ty.size+1+(c.at_.size+1)+(c.nm.size+1)+((c.ats.map fun s=>s.size+1).sum+1)
theorem conv_cg (ds:List D)(g:Nat→Nat)(h:FitsL [.int .i64,.str,.str,.str,.sl [.str],.int .i64] ds g):∃t:Cg,ds=cgD t∧True∧cgB t≤sumTo g [Ty.int .i64,Ty.str,Ty.str,Ty.str,Ty.sl [Ty.str],Ty.int .i64].length:=by
 obtain⟨d0,r,rfl,h0,h⟩:=h.cons;obtain⟨d1,r,rfl,h1,h⟩:=h.cons;obtain⟨d2,r,rfl,h2,h⟩:=h.cons;obtain⟨d3,r,rfl,h3,h⟩:=h.cons;obtain⟨d4,r,rfl,h4,h⟩:=h.cons;obtain⟨d5,r,rfl,h5,h⟩:=h.cons;have:=h.nil;subst this;obtain⟨kd,rfl,_⟩:=h0.int_inv;obtain⟨ty,rfl,_,ha⟩:=h1.str_inv;obtain⟨at_,rfl,_,hb⟩:=h2.str_inv;obtain⟨nm,rfl,_,hc⟩:=h3.str_inv;obtain⟨l,rfl,_,hl⟩:=h4.strs;obtain⟨n,rfl,_⟩:=h5.int_inv;refine⟨⟨kd,ty,at_,nm,l,n⟩,rfl,trivial,?_⟩;have ha':ty.size+1≤g (0+1):=ha;have hb':at_.size+1≤g (0+1+1):=hb;have hc':nm.size+1≤g (0+1+1+1):=hc;have hl':(l.map fun s:ByteArray=>s.size+1).sum+1≤g (0+1+1+1+1):=hl;simp[sumTo,cgB]at*;omega
theorem szC_of {l:List Cg}{N:Nat}(h:(l.map cgB).sum≤N)(hN:N≤1048576):l.length≤1048576∧∀c∈l,SzC c:=by
 refine⟨?_,fun t ht=>?_⟩
 ·have:=sum_len (f:=cgB) (fun _=>by unfold cgB;omega) l;omega
 ·have h1:=sum_mem (f:=cgB) ht;have h2:cgB t=t.ty.size+1+(t.at_.size+1)+(t.nm.size+1)+((t.ats.map fun s=>s.size+1).sum+1):=rfl;exact⟨by omega,by omega,szS_of (N:=1048576) (by omega) nR⟩
def ndTys:List Ty:=[.int .i64,.int .i64,.str,.str,.int .i64,.int .i64]
def ndB (x:Nd):Nat:=x.v.size+1+(x.at_.size+1)
theorem conv_nd (ds:List D)(g:Nat→Nat)(h:FitsL ndTys ds g):∃x:Nd,ds=ndD x∧True∧ndB x≤sumTo g ndTys.length:=by
 obtain⟨d0,r,rfl,h0,h⟩:=h.cons;obtain⟨d1,r,rfl,h1,h⟩:=h.cons;obtain⟨d2,r,rfl,h2,h⟩:=h.cons;obtain⟨d3,r,rfl,h3,h⟩:=h.cons;obtain⟨d4,r,rfl,h4,h⟩:=h.cons;obtain⟨d5,r,rfl,h5,h⟩:=h.cons;have:=h.nil;subst this;obtain⟨op,rfl,_⟩:=h0.int_inv;obtain⟨n,rfl,_⟩:=h1.int_inv;obtain⟨v,rfl,_,hv⟩:=h2.str_inv;obtain⟨at_,rfl,_,ha⟩:=h3.str_inv;obtain⟨a,rfl,_⟩:=h4.int_inv;obtain⟨b,rfl,_⟩:=h5.int_inv;refine⟨⟨op,n,v,at_,a,b⟩,rfl,trivial,?_⟩;have hv':v.size+1≤g (0+1+1):=hv;have ha':at_.size+1≤g (0+1+1+1):=ha;simp[sumTo,ndB,ndTys]at*;omega
theorem szN_of {l:List Nd}{N:Nat}(h:(l.map ndB).sum≤N)(hN:N≤1048576):SzN l:=by
 refine⟨?_,fun x hx=>?_⟩
 ·have:=sum_len (f:=ndB) (fun _=>by unfold ndB;omega) l;omega
 ·have h1:=sum_mem (f:=ndB) hx;have h2:ndB x=x.v.size+1+(x.at_.size+1):=rfl;omega
def itB (x:It):Nat:=(x.tys.map fun s=>s.size+1).sum+1+(x.v.size+1)
theorem conv_it (ds:List D)(g:Nat→Nat)(h:FitsL [.bool,.sl [.str],.str,.int .i64,.int .i64] ds g):∃x:It,ds=itD x∧True∧itB x≤sumTo g [Ty.bool,.sl [.str],.str,.int .i64,.int .i64].length:=by
 obtain⟨d0,r,rfl,h0,h⟩:=h.cons;obtain⟨d1,r,rfl,h1,h⟩:=h.cons;obtain⟨d2,r,rfl,h2,h⟩:=h.cons;obtain⟨d3,r,rfl,h3,h⟩:=h.cons;obtain⟨d4,r,rfl,h4,h⟩:=h.cons;have:=h.nil;subst this;obtain⟨neg,rfl⟩:=h0.bool_inv;obtain⟨tys,rfl,_,ht⟩:=h1.strs;obtain⟨v,rfl,_,hv⟩:=h2.str_inv;obtain⟨lo,rfl,_⟩:=h3.int_inv;obtain⟨hi,rfl,_⟩:=h4.int_inv;refine⟨⟨neg,tys,v,lo,hi⟩,rfl,trivial,?_⟩;have ht':(tys.map fun s:ByteArray=>s.size+1).sum+1≤g (0+1):=ht;have hv':v.size+1≤g (0+1+1):=hv;simp[sumTo,itB]at*;omega
def reB (t:List Nd):Nat:=(t.map ndB).sum+1
theorem conv_re (ds:List D)(g:Nat→Nat)(h:FitsL [.sl ndTys] ds g):∃t:List Nd,ds=reD t∧True∧reB t≤sumTo g [Ty.sl ndTys].length:=by
 obtain⟨d0,r,rfl,h0,h⟩:=h.cons;have:=h.nil;subst this;obtain⟨t,rfl,_,ht⟩:=h0.conv (b:=ndB) conv_nd;refine⟨t,rfl,trivial,?_⟩;simp[sumTo,reB];omega
theorem sum_le {α:Type}{f g:α→Nat}(h:∀x,f x≤g x)(l:List α):(l.map f).sum≤(l.map g).sum:=by
 induction l with
 |nil=>simp
 |cons a l ih=>have:=h a;simp;omega
def quTys:List Ty:=[.sl [.bool,.sl [.str],.str,.int .i64,.int .i64],.int .i64,.int .i64,.sl ndTys,.int .i64,.str,.sl [.sl ndTys]]
theorem conv_qu {ds:List D}{g:Nat→Nat}{c:Array Value}{W:World}{N:Nat}(sz:c.size=7)(h:FitsL quTys ds g)(rd:∀(k:Nat)(d:D),ds[k]? =some d→∃u,c[k]? =some u∧Rd W (fun b=>b<W.heap.size) u d)(hN:sumTo g 7≤N)(hB:N≤1048576):
  ∃(q:Qy)(s:Sl3),c=⟨qV q s⟩∧QR W (fun b=>b<W.heap.size) q s∧SzQ q∧SzB q:=by
 obtain⟨d0,r,rfl,h0,h⟩:=h.cons;obtain⟨d1,r,rfl,h1,h⟩:=h.cons;obtain⟨d2,r,rfl,h2,h⟩:=h.cons;obtain⟨d3,r,rfl,h3,h⟩:=h.cons;obtain⟨d4,r,rfl,h4,h⟩:=h.cons;obtain⟨d5,r,rfl,h5,h⟩:=h.cons;obtain⟨d6,r,rfl,h6,h⟩:=h.cons;have:=h.nil;subst this;obtain⟨items,rfl,_,b0⟩:=h0.conv (b:=itB) conv_it;obtain⟨mode,rfl,_⟩:=h1.int_inv;obtain⟨after,rfl,_⟩:=h2.int_inv;obtain⟨wh,rfl,_,b3⟩:=h3.conv (b:=ndB) conv_nd;obtain⟨within,rfl,_⟩:=h4.int_inv;obtain⟨by_,rfl,_,b5⟩:=h5.str_inv;obtain⟨ret,rfl,_,b6⟩:=h6.conv (b:=reB) conv_re;obtain⟨u0,c0,r0⟩:=rd 0 _ rfl;obtain⟨A1,k1,rfl,_,_⟩:=r0.sl_inv;obtain⟨u1,c1,r1⟩:=rd 1 _ rfl;obtain rfl:=r1.v_inv;obtain⟨u2,c2,r2⟩:=rd 2 _ rfl;obtain rfl:=r2.v_inv;obtain⟨u3,c3,r3⟩:=rd 3 _ rfl;obtain⟨A2,k2,rfl,_,_⟩:=r3.sl_inv;obtain⟨u4,c4,r4⟩:=rd 4 _ rfl;obtain rfl:=r4.v_inv;obtain⟨u5,c5,r5⟩:=rd 5 _ rfl;obtain rfl:=r5.v_inv;obtain⟨u6,c6,r6⟩:=rd 6 _ rfl;obtain⟨A3,k3,rfl,_,_⟩:=r6.sl_inv;have e0:(items.map itB).sum+1≤g 0:=b0;have e3:(wh.map ndB).sum+1≤g (0+1+1+1):=b3;have e5:by_.size+1≤g (0+1+1+1+1+1):=b5;have e6:(ret.map reB).sum+1≤g (0+1+1+1+1+1+1):=b6;have hsum:g 0+g (0+1+1+1)+g (0+1+1+1+1+1)+g (0+1+1+1+1+1+1)≤N:=by simp[sumTo]at hN ⊢;omega
 refine⟨⟨items,mode,after,wh,within,by_,ret⟩,⟨A1,k1,A2,k2,A3,k3⟩,?_,⟨r0,r3,r6,fun b h=>h⟩,⟨?_,fun x hx=>?_,(show SzN wh from szN_of (l:=wh) (N:=1048576) (by omega) nR),(show by_.size≤1048576 by omega),?_,fun t ht=>?_⟩,?_,?_⟩
 ·obtain⟨l⟩:=c;simp only[List.size_toArray]at sz;simp only[List.getElem?_toArray]at c0 c1 c2 c3 c4 c5 c6;show(⟨l⟩:Array Value)=⟨[.slice A1 items.length k1,.int .i64 mode,.int .i64 after,.slice A2 wh.length k2,.int .i64 within,.string by_,.slice A3 ret.length k3]⟩
  congr 1
  match l,sz with
  | [x0,x1,x2,x3,x4,x5,x6],_=>
   obtain rfl:=zq9 c0;obtain rfl:=zq9 c1;obtain rfl:=zq9 c2;obtain rfl:=zq9 c3;obtain rfl:=zq9 c4;obtain rfl:=zq9 c5;obtain rfl:=zq9 c6;rfl
 ·have:=sum_len (f:=itB) (fun _=>by unfold itB;omega) items;show items.length≤_;omega
 ·have h1:=sum_mem (f:=itB) (show x∈items from hx);have h2:itB x=(x.tys.map fun s=>s.size+1).sum+1+(x.v.size+1):=rfl;exact⟨szS_of (N:=1048576) (by omega) nR,by omega⟩
 ·have:=sum_len (f:=reB) (fun _=>by unfold reB;omega) ret;show ret.length≤_;omega
 ·have h1:=sum_mem (f:=reB) (show t∈ret from ht);have h2:reB t=(t.map ndB).sum+1:=rfl;exact szN_of (N:=1048576) (by omega) nR
 ·have h1:=sum_le (f:=fun x:It=>x.tys.length) (g:=itB) (fun x=>by
   have:=sum_len (f:=fun s:ByteArray=>s.size+1) (fun _=>by omega) x.tys;unfold itB;omega) items
  show(items.map fun x=>x.tys.length).sum≤_;omega
 ·have h1:=sum_le (f:=fun t:List Nd=>t.length) (g:=reB) (fun t=>by
   have:=sum_len (f:=ndB) (fun _=>by unfold ndB;omega) t;unfold reB;omega) ret
  show(ret.map fun t=>t.length).sum≤_;omega
namespace evolveQueriesW
theorem walk {c0 c2:Array Value}{x0 x2:List D}{g0 g2:Nat→Nat}{N0 N1 N2:Nat}{B:Option Addr}{m d:Nat}{x1:D}(W:World)(hK:KwIs W)(sz0:c0.size=1)(ft0:FitsL [.sl [.str,.sl [.str]]] x0 g0)
  (rd0:∀(k:Nat)(d:D),x0[k]? =some d→∃u,c0[k]? =some u∧Rd W (fun b=>b<W.heap.size) u d)(bk0:sumTo g0 1≤N0)
  (rd1:Rd W (fun b=>b<W.heap.size) (.slice B m d) x1)(ft1:Fits (.sl [.int .i64,.str,.str,.str,.sl [.str],.int .i64]) x1 N1)
  (sz2:c2.size=7)(ft2:FitsL quTys x2 g2)(rd2:∀(k:Nat)(d:D),x2[k]? =some d→∃u,c2[k]? =some u∧Rd W (fun b=>b<W.heap.size) u d)(bk2:sumTo g2 7≤N2)(hN:N0+(N1+N2)≤1048576):
  Calls Tryz.prog 3 #[.agg c0,.slice B m d,.agg c2] W fun e w'=>e=.returned (.bool true)∧Bw W w':=by
 obtain⟨q,s,rfl,hQ,hs,hSB⟩:=conv_qu sz2 ft2 rd2 bk2 (by omega);obtain⟨d0,r,rfl,h0,h⟩:=ft0.cons;have:=h.nil;subst this;obtain⟨S,rfl,_,hS⟩:=h0.conv (b:=tdB) conv_td';obtain⟨L,rfl,_,hR⟩:=ft1.conv (b:=cgB) conv_cg;obtain⟨u0,e0,r0⟩:=rd0 0 _ rfl;obtain⟨A,c,rfl,_,_⟩:=r0.sl_inv;obtain⟨B',d',e',_⟩:=rd1.sl_inv;injection e' with e1 e2 e3
 subst e1 e2 e3;have hc:c0=#[.slice A S.length c]:=by
  obtain⟨l⟩:=c0;simp at sz0 e0;match l,sz0 with
  | [a],_=>simp at e0;subst e0;rfl
 subst hc;have hb:sumTo g0 1=g0 0:=by simp[sumTo]
 obtain⟨hL,hC⟩:=szC_of (l:=L) (N:=1048576) (by omega) nR;exact lawW.lawQ_k A _ c _ _ _ S L q s (szT_of (N:=1048576) (by omega) nR) hL hC hs hSB W hK (fun _ h=>h) r0 rd1 hQ
end evolveQueriesW
theorem kwIs_of {W:World}{rest:List (String×DataW Unit)}{t e:TypeId}{n:Nat}(hg:Tryz.prog.globalNamed "sluice/api.Keywords" =some 0)(hty:(Tryz.prog.globals[0]?).map (·.type)=some t)
  (ht:Tryz.prog.underlying t=some (.array n e))(he:Tryz.prog.underlying e=some .string)(hce:Tryz.prog.cellsOf e=1)(hct:Tryz.prog.cellsOf t=n)
  (h:laidMet Tryz.prog (("sluice/api.Keywords",.agg (kwds.map fun s=>.lit (.string s.data.toList)))::rest) W):KwIs W:=by
 obtain⟨ps,⟨g',t',cs,fuel,p,q,hg',ht',hvar,hd,_,_⟩,_⟩:=h;obtain rfl:=zq9 (hg.symm.trans hg');obtain rfl:=zq9 (hty.symm.trans ht');cases fuel with
 |zero=>simp[DataW.trod]at hd
 |succ fuel=>
  simp only[DataW.trod,ht,hce,hct,Nat.mul_one]at hd;split at hd
  ·obtain⟨xs,hm,hx⟩:=xG.1 hd;have hxs:xs.map (·.1)=kwds.map fun s=>(DataW.lit (.string s.data.toList):DataW Unit):=by
    have:=congrArg Prod.fst hx;simpa using this
   have hxl:xs.length=n:=by simpa using Lib.mapM_length hm
   intro i k hk;have hki:i<n:=by
    have h1:=(zC.1 hk).1;have h2:=congrArg List.length hxs;simp at h2;omega
   obtain⟨b,hb,hf⟩:=Lib.mapM_at hm i i (by simp[hki]);obtain⟨s,hc,hbs,_⟩:=DataW.trod_string he hf;have h1:cs[i]? =some (.string s):=by
    have:=congrArg (·[0]?) hc;simpa[zZ,xT] using this
   have h2:(xs.map (·.1))[i]? =some (DataW.lit (.string s.data.toList):DataW Unit):=by simp[hb,hbs]
   rw[hxs]at h2;simp only[zG,hk,Option.map_some,Option.some.injEq,DataW.lit.injEq,Lit.string.injEq]at h2;obtain rfl:k=s:=ByteArray.ext (Array.ext' h2);have:=World.var?_cell hg hvar i;rw[this];simpa using h1
  ·cases hd
end Go.Proofs.YtfiodnlgiglhfaaGreatDoor
