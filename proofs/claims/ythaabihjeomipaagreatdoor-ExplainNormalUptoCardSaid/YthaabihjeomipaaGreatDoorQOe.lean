/- The other form of a query; its WHERE is a tree of. -/
import Derived.Test.YthaabihjeomipaaGreatDoorQMg
namespace Go.Proofs.YthaabihjeomipaaGreatDoor
set_option maxRecDepth 100000
set_option maxHeartbeats 16000000
open Go.RowKit Go.Deep
set_option linter.unusedVariables false
set_option linter.unusedSimpArgs false
noncomputable def rtsW (t:List Nd):List Nat:=if treeB t=true then conjs t else []
noncomputable def foldW (t:List Nd)(l:List Nat)(s:List Nd):List Nd:=l.foldl (fun a r=>cjn a (subT t r)) s
noncomputable def othW (t w0:List Nd):List Nd:=match rtsW t with | []=>w0 |r::rs=>foldW t ((r::rs).reverse) (subT t r)
noncomputable def otQ (q:Qy):Qy:={q with items:=otI q,wh:=othW (q.wh.map (rnW q)) q.wh,ret:=q.ret.map fun t=>t.map (rnW q)}
theorem cjF_ne (t:List Nd):∀(n r:Nat),cjF t n r≠ []
 |0,r=>by unfold cjF;simp
 |n+1,r=>by
  unfold cjF;split
  ·intro h;exact cjF_ne t n _ (List.append_eq_nil_iff.1 h).1
  ·simp
theorem ct_fold {t:List Nd}(h:treeB t=true):∀(l:List Nat)(s:List Nd)(L:List (List Nd)),(∀r∈l,r∈conjs t)→CT s L→CT (foldW t l s) (L++l.map (subT t))
 | [],s,L,_,hs=>by rw[List.map_nil,zT];exact hs
 |r::l,s,L,hl,hs=>by
  have h1:=ct_fold h l (cjn s (subT t r)) (L++[subT t r]) (fun x hx=>hl x (xU _ hx)) (ct_and hs (ct_one h (hl r xS)));rw[zR]at h1;exact h1
theorem ct_oth {t w0:List Nd}(h:treeB t=true):∃L,CT (othW t w0) L∧∀x,x∈L↔x∈(conjs t).map (subT t):=by
 unfold othW rtsW;rw[if_pos h];cases hc:conjs t with
 |nil=>exact absurd hc (cjF_ne _ _ _)
 |cons r rs=>
  have hr:r∈conjs t:=by rw[hc];exact xS
  refine⟨_,ct_fold h _ _ _ (fun x hx=>by rw[hc];exact List.mem_reverse.1 hx) (ct_one h hr),fun x=>?_⟩;rw[zM,xB,List.map_reverse,List.mem_reverse,List.map_cons,List.mem_cons];exact⟨fun e=>e.elim .inl id,.inr⟩
theorem mem_subT {t:List Nd}{r:Nat}{x:Nd}(h:x∈subT t r):∃b y,y∈t∧x=shiftN b y:=by
 unfold subT subL at h;obtain⟨y,hy,rfl⟩:=List.mem_map.1 h;exact⟨_,y,List.mem_of_mem_drop (List.mem_of_mem_take hy),rfl⟩
structure AllP (P:Nd→Prop):Prop where
 sh:∀b x,P x→P (shiftN b x)
 up:∀k x,P x→P (upN k x)
 an:∀m n,P (andN m n)
theorem AllP.cjn {P:Nd→Prop}(H:AllP P){a b:List Nd}(ha:∀x∈a,P x)(hb:∀x∈b,P x):∀x∈cjn a b,P x:=fun x hx=>by
 unfold Proofs.YthaabihjeomipaaGreatDoor.cjn at hx;rcases zM.1 hx with hx |hx
 ·rcases zM.1 hx with hx |hx
  ·exact ha x hx
  ·obtain⟨y,hy,rfl⟩:=List.mem_map.1 hx;exact H.up _ _ (hb y hy)
 ·rw[xB]at hx;subst hx;exact H.an _ _
theorem AllP.sub {P:Nd→Prop}(H:AllP P){t:List Nd}(h:∀x∈t,P x)(r:Nat):∀x∈subT t r,P x:=fun x hx=>by
 obtain⟨b,y,hy,rfl⟩:=mem_subT hx;exact H.sh _ _ (h y hy)
theorem AllP.fold {P:Nd→Prop}(H:AllP P){t:List Nd}(h:∀x∈t,P x):∀(l:List Nat)(s:List Nd),(∀x∈s,P x)→∀x∈foldW t l s,P x
 | [],s,hs=>hs
 |r::l,s,hs=>H.fold h l (Proofs.YthaabihjeomipaaGreatDoor.cjn s (subT t r)) (H.cjn hs (H.sub h r))
theorem AllP.oth {P:Nd→Prop}(H:AllP P){t w0:List Nd}(h:∀x∈t,P x)(h0:∀x∈w0,P x):∀x∈othW t w0,P x:=by
 unfold othW;cases rtsW t with
 |nil=>exact h0
 |cons r rs=>exact H.fold h _ _ (H.sub h r)
structure KT (t:List Nd):Prop where
 tr:treeB t=true
 kd:∀x∈t,kindsB t x=true
 rt:isTruthB t=true
def KidOk (t:List Nd)(a:Int):Prop:=a= -1∨∃j:Nat,a=(j:Int)∧j<t.length
theorem nd_ab {t:List Nd}(h:treeB t=true){x:Nd}(hx:x∈t):KidOk t x.a∧KidOk t x.b:=by
 obtain⟨_,ha,_⟩:=treeB_sp h;obtain⟨i,hi⟩:=List.mem_iff_getElem?.1 hx;obtain⟨b,hb⟩:=ha i (zC.1 hi).1;cases hb with
 |lf hy h1 h2 h3=>rw[hi]at hy;injection hy with hy;subst hy;exact⟨.inl h2,.inl h3⟩
 |un hy h1 h2 h3 hs=>rw[hi]at hy;injection hy with hy;subst hy;exact⟨.inr ⟨_,h2,hs.lt⟩,.inl h3⟩
 |bi hy h1 h2 h3 hs hs2=>rw[hi]at hy;injection hy with hy;subst hy;exact⟨.inr ⟨_,h2,hs.lt⟩,.inr ⟨_,h3,hs2.lt⟩⟩
theorem okK_emb {k:Nat}{t t':List Nd}(e:Emb k t t'){a:Int}(h:KidOk t a)(w:Bool):okK t' w (upI k a)=okK t w a:=by
 unfold okK;rcases h with rfl |⟨j,rfl,hj⟩
 ·rfl
 ·rw[upI_n (m:=j) rfl,Int.toNat_natCast,Int.toNat_natCast,e.op hj];congr 1
theorem kinds_emb {k:Nat}{t t':List Nd}(e:Emb k t t'){x y:Nd}(h:KidOk t x.a∧KidOk t x.b)(e1:y.op=x.op)(e2:y.a=upI k x.a)(e3:y.b=upI k x.b):kindsB t' y=kindsB t x:=by
 unfold kindsB;rw[e1,e2,e3,okK_emb e h.1,okK_emb e h.2]
theorem upI_zero (a:Int):upI 0 a=a:=by unfold upI;split<;>omega
theorem kt_and {a b:List Nd}(ha:KT a)(hb:KT b):KT (cjn a b):=by
 obtain⟨⟨n,hn,sa⟩,_,_⟩:=treeB_sp ha.tr;obtain⟨⟨m,hm,sb⟩,_,_⟩:=treeB_sp hb.tr;have hx:(cjn a b)[(m+a.length)+1]? =some (andN a.length b.length):=by
  unfold cjn;rw[zP (by simp;omega),show m+a.length+1- (a++b.map (upN a.length)).length=0 by rw[zH,xC];omega];rfl
 refine⟨and_tree ha.tr hb.tr,fun x hx=>?_,?_⟩
 ·unfold cjn at hx;rcases zM.1 hx with hx |hx
  ·rcases zM.1 hx with hx |hx
   ·rw[kinds_emb (emb_l a b) (x:=x) (nd_ab ha.tr hx) rfl (upI_zero _).symm (upI_zero _).symm];exact ha.kd x hx
   ·obtain⟨y,hy,rfl⟩:=List.mem_map.1 hx;rw[kinds_emb (emb_r a b) (x:=y) (y:=upN a.length y) (nd_ab hb.tr hy) rfl rfl rfl];exact hb.kd y hy
  ·rw[xB]at hx;subst hx;have r1:=ha.rt;have r2:=hb.rt;unfold isTruthB at r1 r2;rw[xK]at r1 r2;have o1:opAt (cjn a b) (a.length-1)=opAt a (a.length-1):=by
    have:=(emb_l a b).op (i:=a.length-1) oQ;rwa [Nat.add_zero]at this
   have o2:opAt (cjn a b) (a.length+b.length-1)=opAt b (b.length-1):=by
    have:=(emb_r a b).op (i:=b.length-1) oQ;rwa [show b.length-1+a.length=a.length+b.length-1 by omega]at this
   unfold kindsB okK;have w25:wantO (andN a.length b.length).op=true:=rfl;rw[w25,show(andN a.length b.length).a=(a.length:Int) -1 from rfl,show(andN a.length b.length).b=(a.length:Int)+b.length-1 from rfl,show((a.length:Int) -1).toNat=a.length-1 by omega,show((a.length:Int)+b.length-1).toNat=a.length+b.length-1 by omega,o1,o2,r1.2,r2.2];simp
 ·unfold isTruthB;rw[cjn_len,show a.length+b.length+1-1=m+a.length+1 by omega,opAt_of hx,zW oQ];rfl
theorem op_sub {t:List Nd}{b r j:Nat}(h1:b≤j)(h2:j≤r):opAt (subL t b r) (j-b)=opAt t j:=by
 unfold opAt subL;rw[zG,zZ,if_pos oQ,xT,show b+(j-b)=j by omega];cases t[j]? <;>rfl
theorem okK_sub {t:List Nd}{b r:Nat}{a:Int}(h:a= -1∨∃j:Nat,a=(j:Int)∧b≤j∧j≤r)(w:Bool):okK (subL t b r) w (if 0≤a then a-b else a)=okK t w a:=by
 unfold okK;rcases h with rfl |⟨j,rfl,h1,h2⟩
 ·rfl
 ·rw[if_pos oQ,show((j:Int) -b).toNat=j-b by omega,Int.toNat_natCast,op_sub h1 h2];congr 1;rw[zV oQ,zV oQ]
theorem cj_truth {t:List Nd}(hk:∀x∈t,kindsB t x=true){b r:Nat}(h:Sp t b r):∀{n i:Nat},r-b≤n→truthO (opAt t r)=true→i∈cjF t n r→truthO (opAt t i)=true:=by
 induction h with
 |lf hx h1 h2 h3=>
  rename_i i x;intro n i' _ hr hi;have ho:opAt t i≠25:=by rw[opAt_of hx];simp[isLf]at h1 ⊢;omega
  rw[cj_one ho,xB]at hi;rw[hi];exact hr
 |un hx h1 h2 h3 hs ih=>
  rename_i b j x;intro n i' _ hr hi;have ho:opAt t (j+1)≠25:=by rw[opAt_of hx];simp[isUn]at h1 ⊢;omega
  rw[cj_one ho,xB]at hi;rw[hi];exact hr
 |bi hx h1 h2 h3 hs1 hs2 ih1 ih2=>
  rename_i b m j x;intro n i' hn hr hi;have hle1:=hs1.le;have hle2:=hs2.le;by_cases ho:opAt t (j+1)=25
  ·have a1:kidA t (j+1)=m:=by unfold kidA;rw[hx];show x.a.toNat=m;omega
   have b1:kidB t (j+1)=j:=by unfold kidB;rw[hx];show x.b.toNat=j;omega
   have hkx:=hk x (zA hx);rw[opAt_of hx]at ho;unfold kindsB okK at hkx;rw[ho,h2,h3,Int.toNat_natCast,Int.toNat_natCast,show wantO 25=true from rfl,zV oQ,zV oQ,Bool.false_or,Bool.false_or,xK,beq_iff_eq,beq_iff_eq]at hkx;rw[cj_two (by rw[opAt_of hx];exact ho) a1 b1 hs1 hs2 hn]at hi;rcases zM.1 hi with hi |hi
   ·exact ih1 oQ hkx.1 hi
   ·exact ih2 oQ hkx.2 hi
  ·rw[cj_one ho,xB]at hi;rw[hi];exact hr
theorem kt_sub {t:List Nd}(h:KT t){r:Nat}(hr:r∈conjs t):KT (subT t r):=by
 obtain⟨b,hsp⟩:=conjs_sp h.tr hr;obtain⟨⟨n,hn,hs0⟩,hall,_⟩:=treeB_sp h.tr;have hct:=ct_one h.tr hr;rw[subT_sp hsp]at hct ⊢;have hle:=hsp.le;have hlt:=hsp.lt;have hlen:=subL_len hsp;refine⟨hct.tr,fun x hx=>?_,?_⟩
 ·obtain⟨i,hi⟩:=List.mem_iff_getElem?.1 hx;have hil:=(zC.1 hi).1;obtain⟨y,hy⟩:=getx (show b+i<t.length by omega);have e:(subL t b r)[i]? =some (shiftN b y):=by
   unfold subL;rw[zG,zZ,if_pos oQ,xT,hy];rfl
  rw[e]at hi;injection hi with hi
  subst hi;have hk:=h.kd y (zA hy);obtain⟨c,hc⟩:=hall (b+i) oQ;have hbc:=hsp.inner hc oQ oQ;have hab:(y.a= -1∨∃j:Nat,y.a=(j:Int)∧b≤j∧j≤r)∧(y.b= -1∨∃j:Nat,y.b=(j:Int)∧b≤j∧j≤r):=by
   generalize hbi:b+i=k at hy hc;cases hc with
   |lf hz h1 h2 h3=>rw[hy]at hz;injection hz with hz;subst hz;exact⟨.inl h2,.inl h3⟩
   |un hz h1 h2 h3 hs=>
    rw[hy]at hz;injection hz with hz;subst hz
    have:=hs.le;exact⟨.inr ⟨_,h2,oQ,oQ⟩,.inl h3⟩
   |bi hz h1 h2 h3 hs hs2=>
    rw[hy]at hz;injection hz with hz;subst hz
    have:=hs.le;have:=hs2.le;exact⟨.inr ⟨_,h2,oQ,oQ⟩,.inr ⟨_,h3,oQ,oQ⟩⟩
  unfold kindsB at hk ⊢;rw[←okK_sub hab.1,←okK_sub hab.2]at hk;exact hk
 ·unfold isTruthB;rw[hlen,show r+1-b-1=r-b by omega,op_sub hle (zD r),zW oQ,xE];have h2:=h.rt;unfold isTruthB at h2;rw[xK]at h2;unfold conjs at hr;rw[show t.length-1=n by omega]at hr h2;exact cj_truth h.kd hs0 oQ h2.2 hr
theorem kt_fold {t:List Nd}(h:KT t):∀(l:List Nat)(s:List Nd),(∀r∈l,r∈conjs t)→KT s→KT (foldW t l s)
 | [],s,_,hs=>hs
 |r::l,s,hl,hs=>kt_fold h l (cjn s (subT t r)) (fun x hx=>hl x (xU _ hx)) (kt_and hs (kt_sub h (hl r xS)))
theorem kt_oth {t w0:List Nd}(h:KT t):KT (othW t w0):=by
 unfold othW rtsW;rw[if_pos h.tr];cases hc:conjs t with
 |nil=>exact absurd hc (cjF_ne _ _ _)
 |cons r rs=>exact kt_fold h _ _ (fun x hx=>by rw[hc];exact List.mem_reverse.1 hx) (kt_sub h (by rw[hc];exact xS))
theorem nmW_isNm {i:Nat}(h:i<10):isNm (nmW i)=true:=by
 rw[nmW_at h];have hs:(⟨#[119,95,UInt8.ofNat (48+i)]⟩:ByteArray).size=3:=rfl;have hw:∀j (hj:j<(⟨#[119,95,UInt8.ofNat (48+i)]⟩:ByteArray).size),wordN (⟨#[119,95,UInt8.ofNat (48+i)]⟩:ByteArray)[j].toNat=true:=fun j hj=>by
  rw[hs]at hj;match j,hj with
  |0,_=>rfl
  |1,_=>rfl
  |2,_=>
   show wordN (UInt8.ofNat (48+i)).toNat=true
   rw[UInt8.toNat_ofNat',Nat.mod_eq_of_lt oQ];unfold wordN digN;rw[zW (show 48≤48+i by omega),zW (show 48+i≤57 by omega)];simp
 refine isNm_true ⟨oQ,oQ,hw,fun _=>rfl,fun j k hk e=>?_⟩;have hk':=zA hk;subst e;have hz:1<(upB (⟨#[119,95,UInt8.ofNat (48+i)]⟩:ByteArray)).size:=by
  show 1<(Array.map upU #[119,95,UInt8.ofNat (48+i)]).size
  rw[Array.size_map];exact(by decide:1<3)
 have hu:=(kwds_up _ hk' 1 hz).2;have e:(upB (⟨#[119,95,UInt8.ofNat (48+i)]⟩:ByteArray))[1]=upU 95:=by
  have hz':1<(Array.map upU #[119,95,UInt8.ofNat (48+i)]).size:=hz;exact(Array.getElem_map (f:=upU) (xs:=#[119,95,UInt8.ofNat (48+i)]) (i:=1) (hi:=hz')).trans rfl
 rw[e,up_toNat]at hu;revert hu;decide
theorem all_rot {α:Type}(l:List α)(f:α→Bool):(rot l).all f=l.all f:=by
 cases l with
 |nil=>rfl
 |cons a r=>unfold rot;rw[List.all_append,List.all_cons,List.all_cons,List.all_nil,Bool.and_true,Bool.and_comm]
theorem any_rot {α:Type}(l:List α)(f:α→Bool):(rot l).any f=l.any f:=by
 cases l with
 |nil=>rfl
 |cons a r=>unfold rot;rw[List.any_append,List.any_cons,List.any_cons,List.any_nil,Bool.or_false,Bool.or_comm]
theorem hasB_rot (l:List Td)(tys:List ByteArray)(a:ByteArray):hasB l (rot tys) a=hasB l tys a:=all_rot _ _
theorem nodup_rot {tys:List ByteArray}:(rot tys).Nodup↔tys.Nodup:=by
 cases tys with
 |nil=>exact Iff.rfl
 |cons a r=>exact(List.perm_append_singleton a r).nodup_iff
theorem mem_otI {q:Qy}{y:It}(h:y∈otI q):∃i:Nat,∃x:It,q.items[i]? =some x∧y={x with v:=nmW i,tys:=rot x.tys}:=by
 obtain⟨i,hi⟩:=List.mem_iff_getElem?.1 h;rw[otI_get]at hi;obtain⟨x,hx,rfl⟩:=xG.1 hi;exact⟨i,x,hx,rfl⟩
theorem all_otI {q:Qy}{f:It→Bool}(h:∀(i:Nat) x,q.items[i]? =some x→f {x with v:=nmW i,tys:=rot x.tys}=f x):(otI q).all f=q.items.all f:=by
 rw[Bool.eq_iff_iff,xP,xP];constructor
 ·intro H x hx;obtain⟨i,hi⟩:=List.mem_iff_getElem?.1 hx;rw[←h i x hi];exact H _ (zA (by rw[otI_get,hi];rfl))
 ·intro H y hy;obtain⟨i,x,hx,rfl⟩:=mem_otI hy;rw[h i x hx];exact H x (zA hx)
theorem itemB_ot {x:It}{i:Nat}(hi:i<10)(h:itemB x=true):itemB {x with v:=nmW i,tys:=rot x.tys}=true:=by
 unfold itemB at h ⊢;simp only[xK]at h ⊢;obtain⟨h1,h2,h3⟩:=h;exact⟨by rw[rot_len];exact h1,nmW_isNm hi,h3.1,h3.2.1,by rw[all_rot];exact h3.2.2.1,h3.2.2.2⟩
theorem itemC_ot (S:List Td)(x:It)(v:ByteArray):itemC S {x with v:=v,tys:=rot x.tys}=itemC S x:=by
 unfold itemC;simp only[any_rot,nodup_rot];rfl
theorem items_ot {S:List Td}{q p:Qy}(h:OtP q p)(hz:itemsC S q=0):itemsC S p=0:=by
 have hok:=items_ok hz;unfold itemsC at hz ⊢;rw[h.it,otI_len,if_neg oQ];rw[if_neg oQ,fz_app]at hz;refine fz_zero fun c hc=>?_
 rcases zM.1 hc with hc |hc
 ·obtain⟨i,y,hy,hc⟩:=mem_mapI hc;rw[otI_get]at hy;obtain⟨x,hx,rfl⟩:=xG.1 hy;rw[xB]at hc;rw[hc,itemC_ot,(hok.2 i x hx).1,if_neg (fun e=>e rfl)];show(if itemI p (nmW i)<((0+i:Nat):Int)then(64:Int)else 0)=0
  rw[itemI_ot h (zC.1 hx).1,if_neg oQ]
 ·rw[xB]at hc;rw[hc,all_otI (fun i x hx=>rfl)];split at hz
  ·rw[fz_one]at hz;exact hz
  ·rename_i hne;exact absurd hz hne
theorem ment_ot {S:List Td}{q p:Qy}(h:OtP q p){x:Nd}(hf:fieldsB x=true)(hb:isVar x.op=true→0≤itemI q x.v∧itemI q x.v<(q.items.length:Int))(res:Bool):mentC S p res (rnW q x)=mentC S q res x:=by
 by_cases hv:isVar x.op=true
 ·have e:=itemI_rn h hf hv (hb hv);have hx:itemAt p (rnW q x).v=(itemAt q x.v).map fun y=>{y with v:=nmW (itemI q x.v).toNat,tys:=rot y.tys}:=by
   unfold itemAt;rw[e];by_cases c:itemI q x.v<0
   ·rw[if_pos c,if_pos c];rfl
   ·rw[if_neg c,if_neg c,h.it,otI_get]
  unfold mentC;rw[rn_op,hx];by_cases c:bareO x.op=false∧aggO x.op=false
  ·rw[if_pos c,if_pos c]
  ·rw[if_neg c,if_neg c];cases itemAt q x.v with
   |none=>rfl
   |some y=>
    simp only[Option.map_some];rw[rn_at,hasB_rot];have hu:useBad (rnW q x) {y with v:=nmW (itemI q x.v).toNat,tys:=rot y.tys} res↔useBad x y res:=by
     unfold useBad manyB;rw[rn_op]
    simp only[hu]
 ·have hv':isVar x.op=false:=by simpa using hv
  rw[rn_no hf hv'];have c:bareO x.op=false∧aggO x.op=false:=by
   constructor
   ·cases hh:bareO x.op with
    |false=>rfl
    |true=>exact absurd (bare_var hh) hv
   ·cases hh:aggO x.op with
    |false=>rfl
    |true=>exact absurd (agg_var hh) hv
  unfold mentC;rw[if_pos c,if_pos c]
theorem fields_rn {q:Qy}{x:Nd}(hil:q.items.length≤10)(hf:fieldsB x=true)(hb:isVar x.op=true→0≤itemI q x.v∧itemI q x.v<(q.items.length:Int)):fieldsB (rnW q x)=true:=by
 by_cases hv:isVar x.op=true
 ·have hb':=hb hv;rw[rn_var hf hv hb'.1];unfold fieldsB at hf ⊢;simp only[xK]at hf ⊢;refine⟨⟨hf.1.1,?_⟩,hf.2⟩;rw[if_pos hv];exact nmW_isNm oQ
 ·rw[rn_no hf (by simpa using hv)];exact hf
theorem tree_rn {q:Qy}{t:List Nd}(hil:q.items.length≤10)(ht:treeB t=true)(hb:∀x∈t,isVar x.op=true→0≤itemI q x.v∧itemI q x.v<(q.items.length:Int)):treeB (t.map (rnW q))=true:=by
 obtain⟨⟨n,hn,hs⟩,_,hf⟩:=treeB_sp ht;have e:=(emb_map (rn_opab q) t).sp hs;refine treeB_of e (by rw[xC];exact hn) fun y hy=>?_
 obtain⟨x,hx,rfl⟩:=List.mem_map.1 hy;exact fields_rn hil (hf x hx) (hb x hx)
theorem ment_vars {S:List Td}{q:Qy}{x:Nd}{res:Bool}(h:mentC S q res x=0)(hv:isVar x.op=true):0≤itemI q x.v∧itemI q x.v<(q.items.length:Int):=by
 unfold mentC at h;rw[if_neg (fun e=>by rcases var_or hv with h2 |h2<;>simp[h2]at e)]at h;unfold itemAt at h;by_cases hn:itemI q x.v<0
 ·rw[if_pos hn]at h;simp at h
 ·exact⟨oQ,itemI_lt q x.v⟩
theorem walk_kd {S:List Td}{q:Qy}{t:List Nd}{res:Bool}(h:walkC S q t res=0):∀x∈t,kindsB t x=true:=fun x hx=>by
 have h1:=fz_inv h _ (xJ hx);unfold nodeC at h1;have h2:=fz_inv h1 (if kindsB t x=true then 0 else 75) sJ;by_cases c:kindsB t x=true
 ·exact c
 ·rw[if_neg c]at h2;omega
theorem walk_zero {S:List Td}{q:Qy}{t:List Nd}{res:Bool}(h1:∀x∈t,mentC S q res x=0)(h2:∀x∈t,kindsB t x=true):walkC S q t res=0:=by
 refine fz_zero fun c hc=>?_
 obtain⟨x,hx,rfl⟩:=List.mem_map.1 hc;refine fz_zero fun c hc=>?_
 rcases List.mem_cons.1 hc with rfl |hc
 ·exact h1 x hx
 ·rw[xB]at hc;rw[hc,if_pos (h2 x hx)]
theorem kinds_rn {q:Qy}{t:List Nd}(ht:treeB t=true){x:Nd}(hx:x∈t):kindsB (t.map (rnW q)) (rnW q x)=kindsB t x:=
 kinds_emb (emb_map (rn_opab q) t) (nd_ab ht hx) (rn_op q x) (by rw[rn_a,upI_zero]) (by rw[rn_b,upI_zero])
theorem truth_rn {q:Qy}{t:List Nd}:isTruthB (t.map (rnW q))=isTruthB t:=by
 unfold isTruthB;rw[xC];by_cases h:0<t.length
 ·have:=(emb_map (rn_opab q) t).op (i:=t.length-1) oQ;rw[Nat.add_zero]at this;rw[this]
 ·rw[zV h];rfl
theorem ment_all (S:List Td)(p:Qy):AllP fun x=>mentC S p false x=0:=⟨fun b x h=>h,fun k x h=>h,fun m n=>rfl⟩
theorem sub_len {t:List Nd}{b r:Nat}(h:Sp t b r):(subT t r).length=r+1-b:=by rw[subT_sp h,subL_len h]
theorem cj_sum {t:List Nd}{b r:Nat}(h:Sp t b r):∀{n:Nat},r-b≤n→((cjF t n r).map fun i=>(subT t i).length+1).sum≤2*(r+1-b):=by
 induction h with
 |lf hx h1 h2 h3=>
  rename_i i x;intro n _;have ho:opAt t i≠25:=by rw[opAt_of hx];simp[isLf]at h1 ⊢;omega
  rw[cj_one ho];have:=sub_len (Sp.lf hx h1 h2 h3);simp;omega
 |un hx h1 h2 h3 hs ih=>
  rename_i b j x;intro n _;have ho:opAt t (j+1)≠25:=by rw[opAt_of hx];simp[isUn]at h1 ⊢;omega
  rw[cj_one ho];have:=sub_len (Sp.un hx h1 h2 h3 hs);have:=hs.le;simp;omega
 |bi hx h1 h2 h3 hs1 hs2 ih1 ih2=>
  rename_i b m j x;intro n hn;have hle1:=hs1.le;have hle2:=hs2.le;by_cases ho:opAt t (j+1)=25
  ·have a1:kidA t (j+1)=m:=by unfold kidA;rw[hx];show x.a.toNat=m;omega
   have b1:kidB t (j+1)=j:=by unfold kidB;rw[hx];show x.b.toNat=j;omega
   rw[cj_two ho a1 b1 hs1 hs2 hn,xR,List.sum_append];have:=ih1 (n:=n) oQ;have:=ih2 (n:=n) oQ;omega
  ·rw[cj_one ho];have:=sub_len (Sp.bi hx h1 h2 h3 hs1 hs2);simp;omega
theorem foldW_len (t:List Nd):∀(l:List Nat)(s:List Nd),(foldW t l s).length=s.length+(l.map fun r=>(subT t r).length+1).sum
 | [],s=>by simp[foldW]
 |r::l,s=>by
  show(foldW t l (cjn s (subT t r))).length=_
  rw[foldW_len t l,cjn_len];simp;omega
theorem sum_rev {α:Type}(f:α→Nat)(l:List α):(l.reverse.map f).sum=(l.map f).sum:=by
 induction l with
 |nil=>rfl
 |cons a l ih=>rw[List.reverse_cons,xR,List.sum_append,ih];simp;omega
theorem sum_drop {α:Type}(f:α→Nat)(l:List α)(k:Nat):((l.drop k).map f).sum≤(l.map f).sum:=by
 have:(l.map f).sum=((l.take k).map f).sum+((l.drop k).map f).sum:=by rw[←List.sum_append,←xR,List.take_append_drop]
 omega
theorem conjs_sum {t:List Nd}(h:treeB t=true):((conjs t).map fun i=>(subT t i).length+1).sum≤2*t.length:=by
 obtain⟨⟨n,hn,hs⟩,_,_⟩:=treeB_sp h;have:=cj_sum hs (n:=t.length) oQ;unfold conjs;rw[show t.length-1=n by omega];omega
noncomputable def ptW (t:List Nd)(l:List Nat)(r k:Nat):List Nd:=foldW t ((l.drop k).reverse) (subT t r)
theorem sub_le {t:List Nd}(h:treeB t=true){r:Nat}(hr:r∈conjs t):(subT t r).length≤t.length:=by
 obtain⟨b,hs⟩:=conjs_sp h hr;have:=sub_len hs;have:=hs.lt;omega
theorem ptW_len {t:List Nd}(h:treeB t=true){r k:Nat}(hr:r∈conjs t):(ptW t (conjs t) r k).length≤3*t.length:=by
 have h1:=conjs_sum h;have h2:=sub_le h hr;have h3:=sum_drop (fun i=>(subT t i).length+1) (conjs t) k;unfold ptW;rw[foldW_len,sum_rev];omega
theorem ptW_end {t:List Nd}{l:List Nat}{r k:Nat}(h:l.length≤k):ptW t l r k=subT t r:=by
 unfold ptW;rw[List.drop_eq_nil_of_le h];rfl
theorem ptW_next {t:List Nd}{l:List Nat}{r k x:Nat}(h:l[k]? =some x):ptW t l r k=cjn (ptW t l r (k+1)) (subT t x):=by
 obtain⟨h1,h2⟩:=zC.1 h;unfold ptW;rw[List.drop_eq_getElem_cons h1,h2,List.reverse_cons];unfold foldW;rw[List.foldl_append];rfl
theorem oth_yes {t w0:List Nd}{r:Nat}{rs:List Nat}(h:treeB t=true)(hc:conjs t=r::rs):othW t w0=ptW t (conjs t) r 0:=by
 unfold othW rtsW ptW;rw[if_pos h,hc];rfl
theorem oth_no {t w0:List Nd}(h:treeB t=false):othW t w0=w0:=by
 unfold othW rtsW;rw[if_neg (by rw[h];simp)]
theorem oth_len {t w0:List Nd}(h0:w0.length=t.length):(othW t w0).length≤3*t.length:=by
 cases ht:treeB t with
 |false=>rw[oth_no ht];omega
 |true=>
  cases hc:conjs t with
  |nil=>exact absurd hc (cjF_ne _ _ _)
  |cons r rs=>
   rw[oth_yes ht hc];exact ptW_len ht (by rw[hc];exact xS)
theorem nmW_size {i:Nat}(h:i≤1048576):(nmW i).size≤23:=by
 have:=itoaB_size (i:Nat) oQ oQ;unfold nmW;rw[ByteArray.size_append];have h2:(⟨#[119,95]⟩:ByteArray).size=2:=rfl;omega
def SzNd (x:Nd):Prop:=x.v.size≤1048576∧x.at_.size≤1048576
theorem sz_rn {q:Qy}(hi:q.items.length≤1048576){x:Nd}(h:SzNd x):SzNd (rnW q x):=by
 unfold rnW;split
 ·rename_i c;refine⟨?_,h.2⟩;have:=itemI_lt q x.v;have:=nmW_size (i:=(itemI q x.v).toNat) oQ;show(nmW _).size≤_
  omega
 ·exact h
theorem sz_all:AllP SzNd:=⟨fun b x h=>h,fun k x h=>h,fun m n=>⟨zE _,zE _⟩⟩
theorem szN_rn {q:Qy}(hi:q.items.length≤1048576){t:List Nd}(h:SzN t):SzN (t.map (rnW q)):=by
 refine⟨by rw[xC];exact h.1,fun y hy=>?_⟩;obtain⟨x,hx,rfl⟩:=List.mem_map.1 hy;exact sz_rn hi (h.2 x hx)
theorem szS_rot {l:List ByteArray}(h:SzS l):SzS (rot l):=⟨by rw[rot_len];exact h.1,fun a ha=>h.2 a (mem_rot.1 ha)⟩
theorem szq_ot {q:Qy}(h:SzQ q)(h3:3*q.wh.length≤1048576):SzQ (otQ q):=by
 refine⟨by show(otI q).length≤_;rw[otI_len];exact h.il,fun y hy=>?_,⟨?_,?_⟩,h.by_,by show(q.ret.map _).length≤_;rw[xC];exact h.rl,fun y hy=>?_⟩
 ·obtain⟨i,x,hx,rfl⟩:=mem_otI hy;have hm:=h.it x (zA hx);have:=(zC.1 hx).1;have:=h.il;have:=nmW_size (i:=i) oQ;exact⟨szS_rot hm.1,by show(nmW i).size≤_;omega⟩
 ·have:=oth_len (t:=q.wh.map (rnW q)) (w0:=q.wh) (by rw[xC]);rw[xC]at this;show(othW _ _).length≤_
  omega
 ·exact sz_all.oth (fun y hy=>by obtain⟨x,hx,rfl⟩:=List.mem_map.1 hy;exact sz_rn h.il (h.wh.2 x hx)) h.wh.2
 ·obtain⟨t,ht,rfl⟩:=List.mem_map.1 hy;exact szN_rn h.il (h.re t ht)
theorem m_all:AllP fun x=>x.n≤9223372036854775807:=⟨fun b x h=>h,fun k x h=>h,fun m n=>by show(0:Int)≤_;omega⟩
theorem szM_rn {q:Qy}{t:List Nd}(h:SzM t):SzM (t.map (rnW q)):=fun y hy=>by
 obtain⟨x,hx,rfl⟩:=List.mem_map.1 hy;rw[rn_n];exact h x hx
theorem szm_ot {q:Qy}(h:SzM q.wh):SzM (otQ q).wh:=m_all.oth (szM_rn h) h
theorem szr_ot {q:Qy}(h:∀t∈q.ret,SzM t):∀t∈(otQ q).ret,SzM t:=fun y hy=>by
 obtain⟨t,ht,rfl⟩:=List.mem_map.1 hy;exact szM_rn (h t ht)
def rnK (q:Qy)(k:Nat)(x:Nd):Nd:=if x.v≠emp∧0≤placeI ((vrs q).drop k) x.v then {x with v:=nmW (k+(placeI ((vrs q).drop k) x.v).toNat)}else x
theorem rnK_0 (q:Qy)(x:Nd):rnK q 0 x=rnW q x:=by
 unfold rnK rnW itemI;rw[List.drop_zero,Nat.zero_add]
theorem rnK_end {q:Qy}{k:Nat}(x:Nd)(h:q.items.length≤k):rnK q k x=x:=by
 unfold rnK;rw[List.drop_eq_nil_of_le (by unfold vrs;rw[xC];exact h),if_neg fun c=>absurd c.2 (by show¬(0:Int)≤ -1;omega)]
theorem vrs_at {q:Qy}{k:Nat}{it:It}(h:q.items[k]? =some it):(vrs q)[k]? =some it.v:=by unfold vrs;rw[zG,h];rfl
theorem placeI_cons (y:ByteArray)(r:List ByteArray)(s:ByteArray):placeI (y::r) s=if y=s then 0 else if placeI r s<0 then -1 else 1+placeI r s:=by
 have h:=placeI_app [y] r s;have h1:placeI [y] s=if y=s then 0 else -1:=by
  unfold placeI;by_cases e:y=s
  ·rw[if_pos e];simp[e]
  ·rw[if_neg e];simp[e]
 rw[show [y]++r=y::r from rfl,h1]at h;rw[h];by_cases e:y=s
 ·rw[if_pos e,if_pos e,if_neg oQ]
 ·rw[if_neg e,if_neg e,if_pos oQ];rfl
theorem rnK_yes {q:Qy}{k:Nat}{it:It}{x:Nd}(h:q.items[k]? =some it)(h1:x.v≠emp)(h2:it.v=x.v):rnK q k x={x with v:=nmW k}:=by
 have hk:=vrs_at h;obtain⟨g1,g2⟩:=zC.1 hk;unfold rnK;rw[List.drop_eq_getElem_cons g1,g2,placeI_cons,if_pos h2,if_pos ⟨h1,oQ⟩];rfl
theorem rnK_no {q:Qy}{k:Nat}{it:It}{x:Nd}(h:q.items[k]? =some it)(h1:¬(x.v≠emp∧it.v=x.v)):rnK q k x=rnK q (k+1) x:=by
 have hk:=vrs_at h;obtain⟨g1,g2⟩:=zC.1 hk;unfold rnK;rw[List.drop_eq_getElem_cons g1,g2,placeI_cons];by_cases c:x.v≠emp
 ·have h2:¬it.v=x.v:=fun e=>h1 ⟨c,e⟩
  rw[if_neg h2];by_cases c2:placeI ((vrs q).drop (k+1)) x.v<0
  ·rw[if_pos c2,if_neg oQ,if_neg oQ]
  ·rw[if_neg c2,if_pos ⟨c,oQ⟩,if_pos ⟨c,oQ⟩];congr 2;omega
 ·rw[if_neg fun e=>c e.1,if_neg fun e=>c e.1]
theorem rnK_set (q:Qy)(k:Nat)(x:Nd)(s:ByteArray):{rnK q k x with v:=s}={x with v:=s}:=by
 unfold rnK;split<;>rfl
theorem nd_set2 {s:ByteArray}:∀{t:List Nd}{j:Nat}{x:Nd},t[j]? =some x→(t.flatMap ndD).set (j*6+2) (.v (.string s))=(t.set j {x with v:=s}).flatMap ndD:=by
 intro t;induction t with
 |nil=>intro j x h;simp at h
 |cons a t ih=>
  intro j x h;cases j with
  |zero=>
   simp only[zY,Option.some.injEq]at h;subst h;rfl
  |succ j=>
   rw[List.set_cons_succ,zK,zK,show(j+1)*6+2=(ndD a).length+(j*6+2) by show(j+1)*6+2=6+(j*6+2);omega,List.set_append_right _ _ oQ,show(ndD a).length+(j*6+2) - (ndD a).length=j*6+2 by omega,ih (by simpa using h)]
theorem flat_set {α:Type}{f:α→List D}{m c:Nat}{d:D}{y:α}(hf:∀x,(f x).length=m):∀{l:List α}{j:Nat}{x:α},l[j]? =some x→(f x).set c d=f y→c<m→(l.flatMap f).set (j*m+c) d=(l.set j y).flatMap f:=by
 intro l;induction l with
 |nil=>intro j x h;simp at h
 |cons a t ih=>
  intro j x h hy hc;cases j with
  |zero=>
   simp only[zY,Option.some.injEq]at h;subst h;rw[List.set_cons_zero,zK,zK,show 0*m+c=c by omega,List.set_append_left _ _ (by rw[hf];exact hc),hy]
  |succ j=>
   rw[List.set_cons_succ,zK,zK,show(j+1)*m+c=(f a).length+(j*m+c) by rw[hf,Nat.succ_mul];omega,List.set_append_right _ _ oQ,show(f a).length+(j*m+c) - (f a).length=j*m+c by omega,ih (by simpa using h) hy hc]
abbrev NoB:Nat→Prop:=fun _=>False
theorem ne_sym {v u:Value}(h:v.ownBlock=none∨v.ownBlock≠u.ownBlock):u.ownBlock=none∨u.ownBlock≠v.ownBlock:=by
 rcases h with h |h
 ·rw[h];cases hu:u.ownBlock with
  |none=>exact .inl rfl
  |some q=>exact .inr sJ
 ·exact .inr (fun e=>h e.symm)
structure RK (α:Type)where
 e:Nat
 size:Nat
 es:Nat
 ss:Nat
 f:α×Value→List D
 n:α→Nat
 ds:α→List D
structure RW {α:Type}(K:RK α)(w:World)(B:Nat)(v:Value)(l:List (α×Value)):Prop where
 kr:OL w B NoB K.e K.size v l.length (l.flatMap K.f)
 fr:∀p∈l,OL w B NoB K.es K.ss p.2 (K.n p.1) (K.ds p.1)
 ne:∀(i j:Nat)(p q:α×Value),l[i]? =some p→l[j]? =some q→i≠j→p.2.ownBlock=none∨p.2.ownBlock≠q.2.ownBlock
section
variable {α:Type}{K:RK α}{w:World}{B:Nat}{v:Value}{l:List (α×Value)}
theorem RW.nil (K:RK α)(w:World)(B:Nat):RW K w B (.slice none 0 0) []:=⟨.nil _ _ _ _ _,fun p hp=>by simp at hp,fun i j p q hp=>by simp at hp⟩
theorem RW.stay {w2:World}(h:RW K w B v l)(hb:Bw w w2):RW K w2 B v l:=⟨h.kr.stay hb,fun p hp=>(h.fr p hp).stay hb,h.ne⟩
theorem RW.far {p:Addr}{x:Value}(h:RW K w B v l)(hp:p.block<B):RW K (w.setCell p x) B v l:=
 ⟨h.kr.setCell (fun e=>by have:=(h.kr.lt _ e).1;omega) (fun h=>h) _,fun q hq=>(h.fr q hq).setCell (fun e=>by have:=((h.fr q hq).lt _ e).1;omega) (fun h=>h) _,h.ne⟩
theorem RW.base {B':Nat}(h:RW K w B v l)(hB:B'≤B):RW K w B' v l:=⟨h.kr.base hB,fun p hp=>(h.fr p hp).base hB,h.ne⟩
theorem RW.kept {w1:World}{row:Option Nat}(h:RW K w B v l)(hg:w.grownBy w1 row)(h1:v.ownBlock=none∨v.ownBlock≠row)(h2:∀p∈l,p.2.ownBlock=none∨p.2.ownBlock≠row):RW K w1 B v l:=
 ⟨h.kr.kept hg h1 (fun _ hb=>hb.elim),fun p hp=>(h.fr p hp).kept hg (h2 p hp) (fun _ hb=>hb.elim),h.ne⟩
theorem get_snoc {β:Type}{l:List β}{y:β}{a:Nat}{x:β}(hx:(l++[y])[a]? =some x):(a<l.length∧l[a]? =some x)∨(a=l.length∧x=y):=by
 by_cases ha:a<l.length
 ·rw[zS ha]at hx;exact .inl ⟨ha,hx⟩
 ·rw[zP oQ]at hx;have:=(zC.1 hx).1;simp at this;have e:a-l.length=0:=oQ;rw[e]at hx;exact .inr ⟨oQ,by simpa using hx.symm⟩
theorem RW.snoc {w1:World}{v' u:Value}{t:α}(hK:K.e≠K.es)(h:RW K w B v l)(hg:w.grownBy w1 v.ownBlock)(hv:OL w1 B NoB K.e K.size v' (l.length+1) (l.flatMap K.f++K.f (t,u)))
  (hu:OL w B NoB K.es K.ss u (K.n t) (K.ds t))(hne:∀p∈l,u.ownBlock=none∨u.ownBlock≠p.2.ownBlock):RW K w1 B v' (l++[(t,u)]):=by
 refine⟨by simpa using hv,fun p hp=>?_,?_⟩
 ·rcases zM.1 hp with hp |hp
  ·exact(h.fr p hp).kept hg ((h.fr p hp).ne h.kr (fun e=>hK e.symm)) (fun _ hb=>hb.elim)
  ·simp at hp;subst hp;exact hu.kept hg (hu.ne h.kr (fun e=>hK e.symm)) (fun _ hb=>hb.elim)
 ·intro a b x y hx hy hab;rcases get_snoc hx with⟨h1,h2⟩|⟨h1,rfl⟩
  ·rcases get_snoc hy with⟨h3,h4⟩|⟨h3,rfl⟩
   ·exact h.ne a b x y h2 h4 hab
   ·exact ne_sym (hne x (zA h2))
  ·rcases get_snoc hy with⟨h3,h4⟩|⟨h3,rfl⟩
   ·exact hne y (zA h4)
   ·omega
theorem RW.newer {u:Value}{b:Nat}(h:RW K w B v l)(hb:w.heap.size≤b)(hu:∀q,u.ownBlock=some q→b≤q):∀p∈l,u.ownBlock=none∨u.ownBlock≠p.2.ownBlock:=fun p hp=>by
 cases hq:u.ownBlock with
 |none=>exact .inl rfl
 |some q=>
  refine .inr fun he=>?_
  have h1:=hu q hq;have h2:=((h.fr p hp).lt q he.symm).2;omega
end
def icD (p:It×Value):List D:=[.v (.bool p.1.neg),.v p.2,.v (.string p.1.v),.v (.int .i64 p.1.lo),.v (.int .i64 p.1.hi)]
def rcD (p:List Nd×Value):List D:=[.v p.2]
def KI:RK It:=⟨53,5,9,1,icD,fun x=>x.tys.length,fun x=>x.tys.flatMap strD⟩
def KR:RK (List Nd):=⟨28,1,96,6,rcD,fun t=>t.length,fun t=>t.flatMap ndD⟩
theorem KI_ne:KI.e≠KI.es:=dQ
theorem KR_ne:KR.e≠KR.es:=dQ
theorem elIt:ElT Tryz.prog 25 53 5 64:=.of Tryz.underlying25 kQ oQ
theorem elRe:ElT Tryz.prog 29 28 1 24:=.of Tryz.underlying29 kQ oQ
theorem ic_rd (w:World)(G:Nat→Prop)(x:It)(A:Option Addr)(n c:Nat):RdL w G (itV x (.slice A n c)) (icD (x,.slice A n c)):=⟨.v _ rfl,.v _ rfl,.v _ rfl,.v _ rfl,.v _ rfl,trivial⟩
theorem rc_rd (w:World)(G:Nat→Prop)(t:List Nd)(A:Option Addr)(n c:Nat):RdL w G [.slice A n c] (rcD (t,.slice A n c)):=⟨.v _ rfl,trivial⟩
def quV (q:Qy)(v1 v2 v3:Value)(by_:ByteArray):List Value:=[v1,.int .i64 q.mode,.int .i64 q.after,v2,.int .i64 q.within,.string by_,v3]
def zqV:List Value:=[.slice none 0 0,.int .i64 0,.int .i64 0,.slice none 0 0,.int .i64 0,.string ⟨#[]⟩,.slice none 0 0]
theorem aggQu:AggT Tryz.prog 31 7:=⟨_,Tryz.underlying31,rfl,kQ⟩
structure OQ (w:World)(B:Nat)(v1 v2 v3:Value)(l:List (It×Value))(wh:List Nd)(rl:List (List Nd×Value)):Prop where
 i:RW KI w B v1 l
 wr:OL w B NoB 96 6 v2 wh.length (wh.flatMap ndD)
 r:RW KR w B v3 rl
 ne:∀p∈rl,v2.ownBlock=none∨v2.ownBlock≠p.2.ownBlock
theorem OQ.stay {w w2:World}{B:Nat}{v1 v2 v3:Value}{l:List (It×Value)}{wh:List Nd}{rl:List (List Nd×Value)}(h:OQ w B v1 v2 v3 l wh rl)(hb:Bw w w2):OQ w2 B v1 v2 v3 l wh rl:=⟨h.i.stay hb,h.wr.stay hb,h.r.stay hb,h.ne⟩
theorem OQ.base {w:World}{B B':Nat}{v1 v2 v3:Value}{l:List (It×Value)}{wh:List Nd}{rl:List (List Nd×Value)}(h:OQ w B v1 v2 v3 l wh rl)(hB:B'≤B):OQ w B' v1 v2 v3 l wh rl:=⟨h.i.base hB,h.wr.base hB,h.r.base hB,h.ne⟩
section
variable {α:Type}
theorem fl_get {f:α×Value→List D}{g:α→List D}{n:α→Nat}{ds:α→List D}{m:Nat}(hf:∀p,(f p).length=m)(hg:∀x,(g x).length=m)
  (hp:∀(p:α×Value)(k:Nat)(d:D),(g p.1)[k]? =some d→∃d',(f p)[k]? =some d'∧(d'=d∨(d'=.v p.2∧d=.sl (n p.1) (ds p.1)))):∀{l:List (α×Value)}{k:Nat}{d:D},((l.map (·.1)).flatMap g)[k]? =some d→∃d',(l.flatMap f)[k]? =some d'∧(d'=d∨∃p∈l,d'=.v p.2∧d=.sl (n p.1) (ds p.1)):=by
 intro l;induction l with
 |nil=>intro k d h;simp at h
 |cons a l ih=>
  intro k d h;rw[List.map_cons,zK]at h;rw[zK];by_cases hk:k<m
  ·rw[zS (by rw[hg];omega)]at h;rw[zS (by rw[hf];omega)];obtain⟨d',h1,h2⟩:=hp a k d h;refine⟨d',h1,?_⟩;rcases h2 with h2 |h2
   ·exact .inl h2
   ·exact .inr ⟨a,xS,h2⟩
  ·rw[zP (by rw[hg];omega),hg]at h;rw[zP (by rw[hf];omega),hf];obtain⟨d',h1,h2⟩:=ih h;refine⟨d',h1,?_⟩;rcases h2 with h2 |⟨p,hp,h3⟩
   ·exact .inl h2
   ·exact .inr ⟨p,xU _ hp,h3⟩
theorem RW.rd {K:RK α}{w:World}{B:Nat}{v:Value}{l:List (α×Value)}{G:Nat→Prop}{g:α→List D}(h:RW K w B v l)(hK:K.es≠K.e)(hf:∀p,(K.f p).length=K.size)(hg:∀x,(g x).length=K.size)
  (hp:∀(p:α×Value)(k:Nat)(d:D),(g p.1)[k]? =some d→∃d',(K.f p)[k]? =some d'∧(d'=d∨(d'=.v p.2∧d=.sl (K.n p.1) (K.ds p.1))))(hG:∀b,B≤b→b<w.heap.size→G b):Rd w G v (.sl l.length ((l.map (·.1)).flatMap g)):=by
 have hO:OL w B G K.e K.size v l.length ((l.map (·.1)).flatMap g):=by
  obtain⟨cells,h1,h2,h3⟩:=h.kr;refine⟨cells,h1,by rw[fml (f:=g) hg,xC,h1.1],fun k d hd=>?_⟩;obtain⟨d',hd',hor⟩:=fl_get hf hg hp hd;obtain⟨u,hu,hr⟩:=h3 k d' hd';refine⟨u,hu,?_⟩;rcases hor with rfl |⟨p,hp,rfl,rfl⟩
  ·exact hr.mono fun b hb _=>hb.1.elim
  ·have hv:=hr.v_inv;subst hv;refine(h.fr p hp).rd' (fun b hb _=>hb.elim) (fun b hb h1 h2=>⟨hG b h1 h2,fun e=>?_⟩);rcases(h.fr p hp).ne h.kr hK with e2 |e2
   ·rw[hb]at e2;cases e2
   ·exact e2 (by rw[hb,e])
 exact hO.rd (fun b hb _=>hb) hG
end
theorem OQ.qr {w:World}{B:Nat}{v1 v2 v3:Value}{l:List (It×Value)}{rl:List (List Nd×Value)}{q:Qy}{G:Nat→Prop}(h:OQ w B v1 v2 v3 l q.wh rl)(hl:l.map (·.1)=q.items)(hr:rl.map (·.1)=q.ret)(hG:∀b,B≤b→b<w.heap.size→G b)(hlt:∀b,G b→b<w.heap.size):
  ∃s,quV q v1 v2 v3 q.by_=qV q s∧QR w G q s:=by
 have e1:l.length=q.items.length:=by rw[←hl,xC]
 have e3:rl.length=q.ret.length:=by rw[←hr,xC]
 have r1:=h.i.rd (G:=G) (g:=itD) dQ (fun _=>rfl) (fun _=>rfl) (fun p k d hd=>by
  match k,hd with
  |0,hd=>exact⟨_,rfl,.inl (zq9 hd)⟩
  |1,hd=>exact⟨_,rfl,.inr ⟨rfl,(zq9 hd).symm⟩⟩
  |2,hd=>exact⟨_,rfl,.inl (zq9 hd)⟩
  |3,hd=>exact⟨_,rfl,.inl (zq9 hd)⟩
  |4,hd=>exact⟨_,rfl,.inl (zq9 hd)⟩
  |k+5,hd=>simp[itD]at hd) hG
 have r3:=h.r.rd (G:=G) (g:=reD) dQ (fun _=>rfl) (fun _=>rfl) (fun p k d hd=>by
  match k,hd with
  |0,hd=>exact⟨_,rfl,.inr ⟨rfl,(zq9 hd).symm⟩⟩
  |k+1,hd=>simp[reD]at hd) hG
 have r2:=h.wr.rd (G:=G) (fun b hb _=>hb.elim) hG;obtain⟨A1,c1,rfl⟩:=h.i.kr.form;obtain⟨A2,c2,rfl⟩:=h.wr.form;obtain⟨A3,c3,rfl⟩:=h.r.kr.form;rw[hl,e1]at r1;rw[hr,e3]at r3;exact⟨⟨A1,c1,A2,c2,A3,c3⟩,by rw[e1,e3];rfl,⟨r1,r2,r3,hlt⟩⟩
theorem QR.mono {W:World}{q:Qy}{s:Sl3}{F G:Nat→Prop}(h:QR W F q s)(hk:∀b,F b→b<W.heap.size→G b)(hG:∀b,G b→b<W.heap.size):QR W G q s:=⟨h.r1.mono hk,h.r2.mono hk,h.r3.mono hk,hG⟩
section
variable {q:Qy}{w w' W W2:World}{e:Ending}{Bg Eg g t:Nat}{cs:List Value}{s:Sl3}
theorem qu_cells {v1 v2 v3:Value}(h:Blk W g 31 (quV q v1 v2 v3 q.by_)):W.cell? ⟨g,0,none⟩=some v1∧W.cell? ⟨g,1,none⟩=some (.int .i64 q.mode)∧W.cell? ⟨g,2,none⟩=some (.int .i64 q.after)∧
  W.cell? ⟨g,3,none⟩=some v2∧W.cell? ⟨g,4,none⟩=some (.int .i64 q.within)∧W.cell? ⟨g,5,none⟩=some (.string q.by_)∧W.cell? ⟨g,6,none⟩=some v3:=
 ⟨h.cell 0,h.cell 1,h.cell 2,h.cell 3,h.cell 4,h.cell 5,h.cell 6⟩
theorem OQ.part {v1 v2 v3:Value}{l:List (It×Value)}{rl:List (List Nd×Value)}{lo:Nat}{P:Nat→Prop}(h:OQ W lo v1 v2 v3 l q.wh rl)(hl:l.map (·.1)=q.items)(hr:rl.map (·.1)=q.ret)(hW:Bw W W2)(hP:∀b,lo≤b→b<W.heap.size→P b)(hP2:∀b,P b→b<W2.heap.size):
  ∃s,quV q v1 v2 v3 q.by_=qV q s∧QR W2 P q s:=by
 obtain⟨s,e,R⟩:=h.qr (G:=fun b=>lo≤b∧b<W.heap.size) hl hr (fun b h1 h2=>⟨h1,h2⟩) (fun b h=>h.2);exact⟨s,e,(R.under hW).mono (fun b hb _=>hP b hb.1 hb.2) hP2⟩
end
end Go.Proofs.YthaabihjeomipaaGreatDoor
