/- Part of a proof. -/
import Derived.Test.YtkkjobdfheidkaaGreatDoorQ18
set_option maxRecDepth 100000
set_option maxHeartbeats 6400000
set_option linter.unusedVariables false
set_option linter.unusedSimpArgs false
open And renaming intro→zb
open Array renaming getElem?_eq_some_iff→Za
open Go renaming Value→Zc,World→Zb,bodyPost_ret→ZX,wpQuiet_nil→Ye,below_drewN→Zan,info_parts→YC,wpList_append_own→ZaV
open Go.IntKind renaming wrap_i64→Y5
open Go.Lib renaming hid→Zh
open Go.Proofs.Tryz renaming underlying22→ZaF,underlying27→Yn
open Go.RowKit renaming Below→Zm
open Go.RowKit.Below renaming refl→Zi
open Go.Value renaming int→ZT
open Go.World renaming size_alloc→ZG,cell?→zJ,block_lt_of_cell?→ZH,putObj_heap_other→zq
open List renaming length_cons→zK,getElem?_take_of_lt→ZW,getElem?_drop→YA,drop_eq_nil_iff→zf,getElem?_map→ZaT,getElem?_eq_some_iff→Zo,mem_of_getElem?→Yh,filterMap_cons→zQ,filterMap_nil→zW,getElem?_toArray→ZY,getElem?_cons_succ→ZO,getElem?_cons_zero→ZN
open Nat renaming le_refl→Zj,zero_le→Zt,lt_of_lt_of_le→Zl
open Option.some renaming inj→Z2
namespace Go.Proofs.Fit
open Go Go.RowKit
theorem wrap_small {x:Int}(h:0≤x∧x≤1000000):IntKind.i64.wrap x=x:=by
 rw[Y5];omega
def Ts (i:Nat)(d:Aw)(j:Nat):Key:=(i,(nth d.now 0,nth d.now 1,nth d.now 2),(if 0<j then(Aj d.Aa 0).left else 0),(if 1<j then(Aj d.Aa 1).left else 0),(if 2<j then(Aj d.Aa 2).left else 0))
theorem oS {l:List Ax}{i:Nat}(h:l.length≤i):Aj l i=nH:=by simp[Aj,h]
theorem oT {i:Nat}{d:Aw}{n:Nat}(h:d.Aa.length=n)(h3:n≤3):Ts i d n=Ms i d:=by
 have key:∀j,(if j<n then(Aj d.Aa j).left else 0)=(Aj d.Aa j).left:=fun j=>by
  split
  ·rfl
  ·rw[oS (by omega)];rfl
 unfold Ts Ms;rw[key 0,key 1,key 2]
theorem oU {i:Nat}{d:Aw}{j:Nat}(h:j<3):(EJ (Ts i d j)).setIfInBounds (4+j) (.int .i64 (Aj d.Aa j).left)=EJ (Ts i d (j+1)):=by
 have:j=0∨j=1∨j=2:=by omega
 rcases this with rfl|rfl|rfl<;>simp[EJ,Ts]
theorem tj {i:Nat}{d:Aw}{j:Nat}(h:j<3):(EJ (Ts i d j))[4+j]?=some (.int .i64 0):=by
 have:j=0∨j=1∨j=2:=by omega
 rcases this with rfl|rfl|rfl<;>rfl
theorem tk (i:Int)(b:List Int)(h1:1≤b.length)(h3:b.length≤3):(([.int .i64 i,.int .i64 0,.int .i64 0,.int .i64 0,.int .i64 0,.int .i64 0,.int .i64 0]:List Zc).take 1++(b.map (ZT .i64)++([.int .i64 i,.int .i64 0,.int .i64 0,.int .i64 0,.int .i64 0,.int .i64 0,.int .i64 0]:List Zc).drop (1+(b.map (ZT .i64)).length))).toArray=EJ (i,(nth b 0,nth b 1,nth b 2),0,0,0):=by
 match b,h1,h3 with
 | [x],_,_=>rfl
 | [x,y],_,_=>rfl
 | [x,y,z],_,_=>rfl
theorem agE {S:Nat→Prop}:nQ (Rl S):=fun _ _ _ h u hu=>by
 obtain⟨u',rfl,hs⟩:=h;obtain⟨a,c,rfl,_⟩:=hs.val;simp at hu;subst hu
 rfl
theorem tq {n0 mb:Nat}{w w':Zb}{cs:List Zc}{x:List Int}(h:Rl (LS n0 mb w) w cs x)(hk:Kept n0 mb w w'):Rl (LS n0 mb w') w' cs x:=by
 obtain⟨u,e,hs⟩:=h;exact⟨u,e,Sl.imp (SI.Au hs fun b hb _=>hk b hb) (fun b hb=>hb.Au hk) (fun _ _ x=>x)⟩
theorem gH {n0 mb base:Nat}{A:Zb}{v u0:Zc}{news:List Zc}{l:List Int}{pl:List (List Int)}(h:A.ownsRow base 22 1 v (1+pl.length) ([u0]++news))(h0:SI (LS n0 mb A) A u0 l)(hR:∀(i:Nat) (x:List Int),pl[i]?=some x→Rl (LS n0 mb A) A ((news.drop (i*1)).take 1) x):LL n0 mb A v (l::pl):=
 aaj (vals:=[u0]++news) (by rw[zK,Nat.add_comm];exact h) fun i x hx=>by
  cases i with
  |zero=>cases hx;exact⟨u0,rfl,h0⟩
  |succ i=>
   obtain⟨u,e,hs⟩:=hR i x (by simpa using hx);have h1:((news.drop (i*1)).take 1)[0]?=some u:=by rw[e];rfl
   rw[ZW (by omega),YA]at h1;exact⟨u,by simpa using h1,hs⟩
theorem FS.agF {n0 mb:Nat}{ab:Nat→Nat}{c:Aw}{fits:List (List (List Int))}{w wr:Zb}{vf:Zc}{g:Array Zc}{k:Key}(h:FS n0 mb ab c fits w vf g k wr)(hn:n0≤w.heap.size)(hm:mb<w.heap.size){bo:Nat}{a b e:Zc}(hb:wr.heap[bo]?=some (.cells #[a,b,e] 141 (0,0)))(hz:w.heap.size+1+1+1<bo)(v0 v1 v2:Zc):
  FS n0 mb ab c fits w vf g k (((wr.setCell ⟨bo,0,none⟩ v0).setCell ⟨bo,1,none⟩ v1).setCell ⟨bo,2,none⟩ v2)∧(((wr.setCell ⟨bo,0,none⟩ v0).setCell ⟨bo,1,none⟩ v1).setCell ⟨bo,2,none⟩ v2).heap[bo]?=some (.cells #[v0,v1,v2] 141 (0,0))∧Kept n0 mb wr (((wr.setCell ⟨bo,0,none⟩ v0).setCell ⟨bo,1,none⟩ v1).setCell ⟨bo,2,none⟩ v2):=by
 have h1:=A5 (i:=0) hb v0;have h2:=A5 (i:=1) h1 v1;have h3:=A5 (i:=2) h2 v2;exact⟨((h.set hn hm hb ⟨by decide,by decide⟩ hz).set hn hm h1 ⟨by decide,by decide⟩ hz).set hn hm h2 ⟨by decide,by decide⟩ hz,h3,((Kept.set hb ⟨by decide,by decide⟩ (by omega)).trans (Kept.set h1 ⟨by decide,by decide⟩ (by omega))).trans (Kept.set h2 ⟨by decide,by decide⟩ (by omega))⟩
theorem anp {n0 mb:Nat}{ab:Nat→Nat}{c:Aw}{fits:List (List (List Int))}{vf:Zc}(hv:E6 c)(Eh:ab=Ay c.Aa)(US:fits.length≤3)(xT:∀f∈fits,f.length≤1000∧∀l∈f,l.length=c.Aa.length)(kB:∀i,i<c.Aa.length→(Aj c.Aa i).over.length≤1000):
  ∀(k i:Nat) (d:Aw) (w:Zb) (v1 v2 v3 v4 v5:Zc) (T:Nat→Prop),i+k=fits.length→n0≤w.heap.size→mb<w.heap.size→jN c d→SF n0 mb w vf fits→RC T w v1 v2 v3 v4 v5 d→(∀b,T b→b<w.heap.size∧b≠mb)→Gj (Fu n0 mb ab c fits) mb w→
   Calls Lp 105 #[.agg #[vf,.map (some mb)],.agg #[v1,v2,v3,v4,v5,.int .u8 (ab 0),.int .u8 (ab 1),.int .u8 (ab 2)],.int .i64 i] w fun e w'=>∃v,e=.returned v∧Cf mb w w'∧KJ n0 mb w' v (Gi ab (fits.drop i) d)∧Gj (Fu n0 mb ab c fits) mb w':=by
 intro k
 induction k with
 |zero=>
  intro i d w v1 v2 v3 v4 v5 T su UC Gm hD hF hR hT hM;have hi:i=fits.length:=by omega
  subst hi;obtain⟨a1,c1,rfl,l1,m1⟩:=hR.base.val;obtain⟨a2,c2,rfl,l2,m2⟩:=hR.Ag.val;obtain⟨a3,c3,rfl,l3,m3⟩:=hR.hooks.val;obtain⟨a4,c4,rfl,l4,m4⟩:=hR.Aa.val;obtain⟨a5,c5,rfl,l5,m5⟩:=hR.now.val;obtain⟨af,gI,rfl,lf,mf⟩:=hF.val;have I3:=DN;clear Eh;go_enter Lp.func105,af8;go_wp2;refine ZX (v:=.agg #[.slice none 0 0,.int .i64 0,.bool true]) (by rw[A3 rfl];go_simp) rfl ?_;have e1:fits.drop fits.length=[]:=zf.2 (Zj _);have hB:Zm w.heap.size w (((w.alloc (.cells #[.slice af fits.length gI,.map (some mb)] 134)).alloc (.cells (Ba (.slice a1 d.base.length c1) (.slice a2 d.Ag.length c2) (.slice a3 d.hooks.length c3) (.slice a4 d.Aa.length c4) (.slice a5 d.now.length c5) ab) 112)).alloc (.cells #[.slice none 0 0,.int .i64 0,.bool true] 141)):=bA (bA (bA (Zi _ _)));exact⟨_,rfl,(Cf.refl mb w).below hB,by rw[e1];exact⟨_,rfl,none,0,rfl,Zj _,Zt _,fun i x hx=>by cases hx⟩,hM.Au (Kept.later hB) (hB.block _ Gm)⟩
 |succ k ih=>
  intro i d w v1 v2 v3 v4 v5 T su UC Gm hD hF hR hT hM;obtain⟨a1,c1,rfl,l1,m1⟩:=hR.base.val;obtain⟨a2,c2,rfl,l2,m2⟩:=hR.Ag.val;obtain⟨a3,c3,rfl,l3,m3⟩:=hR.hooks.val;obtain⟨a4,c4,rfl,l4,m4⟩:=hR.Aa.val;obtain⟨a5,c5,rfl,l5,m5⟩:=hR.now.val;obtain⟨af,gI,rfl,lf,mf⟩:=hF.val;have I3:=DN;have iV:i<fits.length:=by omega
  have avh:((i:Int)==(fits.length:Int))=false:=by simp;omega
  have vy:=Zh Eh;clear Eh;go_enter Lp.func105,af8;go_wp2;obtain⟨W,hW⟩:∃W:Zb,W=((((w.alloc (.cells #[.slice af fits.length gI,.map (some mb)] 134)).alloc (.cells (Ba (.slice a1 d.base.length c1) (.slice a2 d.Ag.length c2) (.slice a3 d.hooks.length c3) (.slice a4 d.Aa.length c4) (.slice a5 d.now.length c5) ab) 112)).alloc (.cells #[.slice none 0 0,.int .i64 0,.bool false] 141)).alloc (.cells (EJ (i,(0,0,0),0,0,0)) 213)):=⟨_,rfl⟩;change Code.wp _ _ _ _ ((((w.alloc (.cells #[.slice af fits.length gI,.map (some mb)] 134)).alloc (.cells (Ba (.slice a1 d.base.length c1) (.slice a2 d.Ag.length c2) (.slice a3 d.hooks.length c3) (.slice a4 d.Aa.length c4) (.slice a5 d.now.length c5) ab) 112)).alloc (.cells #[.slice none 0 0,.int .i64 0,.bool false] 141)).alloc (.cells (EJ (i,(0,0,0),0,0,0)) 213));rw[←hW];have hFS:FS n0 mb ab c fits w (.slice af fits.length gI) (Ba (.slice a1 d.base.length c1) (.slice a2 d.Ag.length c2) (.slice a3 d.hooks.length c3) (.slice a4 d.Aa.length c4) (.slice a5 d.now.length c5) ab) (i,(0,0,0),0,0,0) W:=by
   have hB:Zm w.heap.size w W:=by rw[hW];exact bA (bA (bA (bA (Zi _ _))))
   obtain⟨es,clk,hmm⟩:=hM.is;refine⟨(Cf.refl mb w).below hB,?_,?_,?_,?_,Kept.later hB,hM.Au (Kept.later hB) (hB.block _ Gm)⟩
   ·rw[hW];exact Bm (Bm (Bm (Bv _ _) _) _) _
   ·rw[hW];exact Bm (Bm (JL _ _ _) _) _
   ·rw[hW];exact Bm (by have:=JL (w.alloc (.cells #[.slice af fits.length gI,.map (some mb)] 134)) (.cells (Ba (.slice a1 d.base.length c1) (.slice a2 d.Ag.length c2) (.slice a3 d.hooks.length c3) (.slice a4 d.Aa.length c4) (.slice a5 d.now.length c5) ab) 112) (.cells #[.slice none 0 0,.int .i64 0,.bool false] 141);rwa[ZG]at this) _
   ·rw[hW]
    have:=JL ((w.alloc (.cells #[.slice af fits.length gI,.map (some mb)] 134)).alloc (.cells (Ba (.slice a1 d.base.length c1) (.slice a2 d.Ag.length c2) (.slice a3 d.hooks.length c3) (.slice a4 d.Aa.length c4) (.slice a5 d.now.length c5) ab) 112)) (.cells #[.slice none 0 0,.int .i64 0,.bool false] 141) (.cells (EJ (i,(0,0,0),0,0,0)) 213);rwa[ZG,ZG]at this
  clear hW;obtain⟨b5,o5,rfl,uE,hk5⟩:=hR.now.at_ (i:=0) (by rw[hD.now];exact hv.few.1);have hcn:W.cell? ⟨w.heap.size+1,4,none⟩=some (.slice (some ⟨b5,o5,none⟩) d.now.length c5):=ch hFS.Tp rfl;go_still_tail 5,(by kernel_rfl);change wpList _ _ _ _ _ W.drew;have HNL:=Zh (show d.now.length=c.Aa.length from hD.now);have hn3:d.now.length≤3:=by have:=HNL.out;have:=hv.few;omega
  have sH:1≤d.now.length:=by have:=HNL.out;have:=hv.few;omega
  have Jm:=hv.few;have HDL:=Zh hD.len;have kt:d.Aa.length≤3:=by have:=HDL.out;omega
  refine wpList_copy_own (P:=Lp) rfl (.tmp 28) (.tmp 31) 22 22 rfl 3 (CM ZaF) (by kernel_rfl) (w.heap.size+1+1+1) 1 3 3 ⟨b5,o5,none⟩ d.now.length c5 rfl rfl (EJ (i,(0,0,0),0,0,0)) 213 hFS.key (d.now.map (ZT .i64)) (by rw[List.length_map];exact(Nat.min_eq_left (by omega)).symm) (fun j v hj=>?_) (by simp[EJ];omega) (by intro v hv;obtain⟨x,_,rfl⟩:=List.mem_map.1 hv;rfl) ?_
  ·rw[ZaT]at hj
   cases hx:d.now[j]? with
   |none=>rw[hx]at hj;cases hj
   |some x=>
    rw[hx]at hj;cases hj;have Az:j<d.now.length:=(Zo.1 hx).1;obtain⟨b',o',e,GL,hc⟩:=hR.now.at_ Az;cases e;have lQ:nth d.now j=x:=by
     have:=Bo Az;rw[hx]at this;exact(Z2 this).symm
    rw[show(⟨b5,o5,none⟩:Addr).add j=⟨b5,o5+j,none⟩ by unfold Addr.add;split<;>simp_all, ←lQ];have:W.drew.cell? ⟨b5,o5+j,none⟩=w.cell? ⟨b5,o5+j,none⟩:=by
     unfold zJ;rw[show W.drew.heap[b5]?=w.heap[b5]? from hFS.Cd.block b5 (hT b5 uE).1 (hT b5 uE).2]
    rw[this];exact hc
  rw[show(EJ ((i:Int),(0,0,0),0,0,0)).toList=[.int .i64 i,.int .i64 0,.int .i64 0,.int .i64 0,.int .i64 0,.int .i64 0,.int .i64 0] from rfl,tk _ _ (by omega) (by omega)];obtain⟨W5,I6⟩:∃W5,W5=W.drew.setRow (w.heap.size+1+1+1) (EJ (Ts i d 0)):=⟨_,rfl⟩;have Tf:FS n0 mb ab c fits w (.slice af fits.length gI) (Ba (.slice a1 d.base.length c1) (.slice a2 d.Ag.length c2) (.slice a3 d.hooks.length c3) (.slice a4 d.Aa.length c4) (.slice (some ⟨b5,o5,none⟩) d.now.length c5) ab) (Ts i d 0) W5:=by
   have Io:=hFS.later Gm (Zi W.heap.size W).drew;rw[I6];refine Io.stage UC Gm ?_ (Kept.row Io.key ⟨by decide,by decide⟩ (by omega)) (setRow_heap _ _ _ _ _ _ Io.key);exact⟨rfl,rfl,rfl,by simp[World.setRow],fun k _ hk=>setRow_other _ _ _ _ (fun e=>hk (by omega))⟩
  change wpList _ _ _ _ _ (W.drew.setRow (w.heap.size+1+1+1) (EJ (Ts i d 0)));rw[←I6];clear I6 hFS hcn hk5;have g3:=ch (i:=3) Tf.Tp (v:=.slice a4 d.Aa.length c4) rfl;go_wp2;clear g3;go_loopg [37] d.Aa.length (fun g v wr=>∃j:Nat,j≤d.Aa.length∧g=d.Aa.length - j∧v=.int .i64 j∧FS n0 mb ab c fits w (.slice af fits.length gI) (Ba (.slice a1 d.base.length c1) (.slice a2 d.Ag.length c2) (.slice a3 d.hooks.length c3) (.slice a4 d.Aa.length c4) (.slice (some ⟨b5,o5,none⟩) d.now.length c5) ab) (Ts i d j) wr)
  case atStart=>exact⟨0,Zt _,rfl,rfl,Tf⟩
  case round=>
   obtain⟨j,hj,rfl,rfl,My⟩:=hrel;by_cases Az:j<d.Aa.length
   ·obtain⟨b,o,s2,s3,rfl,hb,x0,x1,x2,x3,x4,hp,ho⟩:=hR.Aa.at_ (i:=j) Az
    have FX:∀q v,w.cell? ⟨b,q,none⟩=some v→wr.cell? ⟨b,q,none⟩=some v:=fun q v h=>by
     unfold zJ at h⊢;rw[show wr.heap[b]?=w.heap[b]? from My.Cd.block b (hT b hb).1 (hT b hb).2];exact h
    replace x0:=FX _ _ x0;replace x1:=FX _ _ x1;replace x2:=FX _ _ x2;replace x3:=FX _ _ x3;replace x4:=FX _ _ x4;obtain⟨p2,q2,rfl,_⟩:=hp.val;obtain⟨p3,q3,rfl,_⟩:=ho.val;have kk:=ch (i:=4+j) My.key (v:=.int .i64 0) (tj (by omega));have ff:=cf (i:=4+j) My.key;have hj3:(j:Int)<3:=by omega
    have Tc:w.heap.size+1+1+1<wr.heap.size:=(Za.1 My.key).1;clear FX hp ho;go_wp2;go_roundg (d.Aa.length - (j+1))
    case rel=>
     refine⟨j+1,Az,rfl,by go_num,?_⟩;refine FS.later (My.stage UC Gm ((Am.refl _ _).set rfl) (Kept.set My.key ⟨by decide,by decide⟩ (show n0≤w.heap.size+1+1+1 by omega)) ?_) Gm (bA (Zi _ _));rw[←oU (show j<3 by omega)];exact A5 My.key _
    case measure=>omega
   ·have hjn:j=d.Aa.length:=by omega
    subst hjn;rw[oT rfl kt]at My;have bC:=My.key;have k0:=ch (i:=0) bC (v:=.int .i64 i) rfl;have k1:=ch (i:=1) bC (v:=.int .i64 (nth d.now 0)) rfl;have k2:=ch (i:=2) bC (v:=.int .i64 (nth d.now 1)) rfl;have k3:=ch (i:=3) bC (v:=.int .i64 (nth d.now 2)) rfl;have k4:=ch (i:=4) bC (v:=.int .i64 (Aj d.Aa 0).left) rfl;have k5:=ch (i:=5) bC (v:=.int .i64 (Aj d.Aa 1).left) rfl;have k6:=ch (i:=6) bC (v:=.int .i64 (Aj d.Aa 2).left) rfl;have m1':=ch (i:=1) My.vI (v:=.map (some mb)) rfl;have Tc:w.heap.size+1+1+1<wr.heap.size:=(Za.1 My.key).1;have EN:w.heap.size+1+1<wr.heap.size:=(Za.1 My.res).1;have r0:=ch (i:=0) My.res (v:=.slice none 0 0) rfl;have r1:=ch (i:=1) My.res (v:=.int .i64 0) rfl;have r2:=ch (i:=2) My.res (v:=.bool false) rfl;have rf0:=cf (i:=0) My.res;have rf1:=cf (i:=1) My.res;have rf2:=cf (i:=2) My.res;rcases sQ My.map (Ms i d) with h1|⟨v,h1,k',e,hg⟩
    ·have H1:=h1
     simp only[Dl,Ms]at H1;clear h1;obtain⟨bf,of_,uf,rfl,hbf,hcf,tu⟩:=hF.at_ iV;obtain⟨f,hf⟩:∃f,f=oH fits i:=⟨_,rfl⟩;rw[←hf]at tu;have HF:=Zh hf;obtain⟨af,cq,rfl,lq,mq⟩:=Sl.val tu;have kf:=My.kept.cell hbf hcf;have kh:=ch (i:=0) My.vI (v:=.slice (some ⟨bf,of_,none⟩) fits.length gI) rfl;have avl:(i:Int)<(fits.length:Int):=by omega
     have Fg:w.heap.size<wr.heap.size:=by omega
     have dI:w.heap.size<wr.heap.size+1:=by omega
     have hzb:bf<wr.heap.size:=ZH wr _ kf;have ant:bf<wr.heap.size+1:=by omega
     clear hcf hf;go_wp2;obtain⟨W,hW⟩:∃W:Zb,W=(wr.alloc (.cells #[.slice none 0 0,.int .i64 0,.bool false] 141)).alloc (.cells #[.slice none 0 0,.int .i64 0,.bool false] 141):=⟨_,rfl⟩;have hFW:FS n0 mb ab c fits w (.slice (some ⟨bf,of_,none⟩) fits.length gI) (Ba (.slice a1 d.base.length c1) (.slice a2 d.Ag.length c2) (.slice a3 d.hooks.length c3) (.slice a4 d.Aa.length c4) (.slice (some ⟨b5,o5,none⟩) d.now.length c5) ab) (Ms i d) W:=by rw[hW];exact My.later Gm (bA (bA (Zi _ _)))
     have hOut:W.heap[wr.heap.size+1]?=some (.cells #[.slice none 0 0,.int .i64 0,.bool false] 141 (0,0)):=by rw[hW];exact JL _ _ _
     have hLW:LL n0 mb W (.slice af f.length cq) f:=tu.Au (My.kept.trans (by rw[hW];exact Kept.later (bA (bA (Zi _ _)))));rw[←hW];obtain⟨bo,hbo⟩:∃bo,bo=wr.heap.size+1:=⟨_,rfl⟩;have hbz:w.heap.size+1+1+1<bo:=by omega
     rw[←hbo]at hOut⊢;clear hW hbo k0 k1 k2 k3 k4 k5 k6 bC m1' r0 r1 r2 rf0 rf1 rf2 kf kh Fg dI hzb ant EN Tc H1 My Tf hLW;have anu:f.length≤1000∧∀l∈f,l.length=c.Aa.length:=by rw[HF.out];exact xT _ (Yh (Sw iV))
     have HSF:=Zh (show f.foldl (Dx ab d (Gi ab (fits.drop (i+1)))) none=Gi ab (fits.drop i) d by rw[afW iV, ←HF.out];rfl);go_loopg [63] f.length (fun g v wx=>∃(j:Nat) (r:Option (List (List Int)×Int)) (u:Zc) (n:Int) (s:Bool),j≤f.length∧g=f.length - j∧v=.int .i64 j∧(f.drop j).foldl (Dx ab d (Gi ab (fits.drop (i+1)))) r=Gi ab (fits.drop i) d∧
      FS n0 mb ab c fits w (.slice (some ⟨bf,of_,none⟩) fits.length gI) (Ba (.slice a1 d.base.length c1) (.slice a2 d.Ag.length c2) (.slice a3 d.hooks.length c3) (.slice a4 d.Aa.length c4) (.slice (some ⟨b5,o5,none⟩) d.now.length c5) ab) (Ms i d) wx∧wx.heap[bo]?=some (.cells #[u,.int .i64 n,.bool s] 141 (0,0))∧KJ n0 mb wx (.agg #[u,.int .i64 n,.bool s]) r)
     case atStart=>exact⟨0,none,_,_,_,Zt _,rfl,rfl,HSF.out,hFW,hOut,rfl⟩
     case round=>
      obtain⟨j,r,u,n,s,hj,rfl,rfl,CO,UE,Hq,wa⟩:=hrel;have SD:=Zh CO;clear CO;by_cases Az:j<f.length
      ·obtain⟨x1,x2,x3,x4,x5,e,h5,h6,h7⟩:=wa.val
       have H5:=Zh h5;clear h5 h6 h7;cases e;have jT:LL n0 mb wr (.slice af f.length cq) f:=tu.Au UE.kept;obtain⟨b,o,ul,rfl,hb,hc,hu⟩:=SL.at_ jT Az;have V9:(CF f j).length=c.Aa.length:=anu.2 _ (Yh (DD Az));have HFD:=Zh (dN (g:=Dx ab d (Gi ab (fits.drop (i+1)))) (a:=r) Az);obtain⟨l,hl⟩:∃l,l=CF f j:=⟨_,rfl⟩;rw[←hl]at hu V9 HFD;have vY:=Zh V9;have QA:l.length≤3:=by omega
       clear hl V9;obtain⟨al,cl,rfl,ll1,ll2⟩:=hu.val;have haL:∀j,ab j<2^c.Aa.length:=by rw[vy.out];exact K3 hv.over
       have vx:∀j,j<3→ab j<8:=by rw[vy.out];exact VH hv.over
       obtain⟨t,ht⟩:∃t,t=CG ab d.now l:=⟨_,rfl⟩;have bp:t<2^c.Aa.length:=by rw[ht];exact Ju haL l 0 0 (by have:=vY.out;omega) (Nat.two_pow_pos _)
       have nS:t<8:=Zl bp (show 2^c.Aa.length≤2^3 from Nat.pow_le_pow_right (by decide) Jm.2);have aF:∀x,x∈AB t→0≤x∧x<d.Aa.length:=by rw[HDL.out];exact Nk bp
       have hRr:∀W,Zm wr.heap.size wr W→RC (fun b=>T b∨LS n0 mb W b) W (.slice a1 d.base.length c1) (.slice a2 d.Ag.length c2) (.slice a3 d.hooks.length c3) (.slice a4 d.Aa.length c4) (.slice (some ⟨b5,o5,none⟩) d.now.length c5) d:=fun W hB=>
        ((hR.Au fun b hb _=>UE.Cd.block b (hT b hb).1 (hT b hb).2).Au fun b hb hl=>hB.block b hl).imp fun b hb=>.inl hb
       have huW:∀W,Zm wr.heap.size wr W→SI (fun b=>T b∨LS n0 mb W b) W (.slice al l.length cl) l:=fun W hB=>Sl.imp (hu.Au (fun b hb hl=>hB.block b hl)) (fun b hb=>.inr (hb.Au (Kept.later hB))) (fun _ _ x=>x);have eM:∀W,Zm wr.heap.size wr W→∀b,T b∨LS n0 mb W b→b<W.heap.size:=fun W hB b hb=>by
        rcases hb with hb|hb
        ·have:=(hT b hb).1;have:=UE.Cd.size;have:=hB.size;omega
        ·exact hb.lt
       have anv:l.length≤d.now.length:=by have:=HNL.out;have:=vY.out;omega
       have Qd:=Zh (c90 (l:=l) (ab:=ab) (hRr wr (Zi _ _)) (huW wr (Zi _ _)) anv hn3 vx (by rw[←ht];exact aF) (eM wr (Zi _ _)));rw[←ht]at Qd;have kc:=hc;have g0:=ch (i:=0) UE.Tp (v:=.slice a1 d.base.length c1) rfl;have g1:=ch (i:=1) UE.Tp (v:=.slice a2 d.Ag.length c2) rfl;have g2:=ch (i:=2) UE.Tp (v:=.slice a3 d.hooks.length c3) rfl;have g3:=ch (i:=3) UE.Tp (v:=.slice a4 d.Aa.length c4) rfl;have g4:=ch (i:=4) UE.Tp (v:=.slice (some ⟨b5,o5,none⟩) d.now.length c5) rfl;have g5:=ch (i:=5) UE.Tp (v:=.int .u8 (ab 0)) rfl;have g6:=ch (i:=6) UE.Tp (v:=.int .u8 (ab 1)) rfl;have g7:=ch (i:=7) UE.Tp (v:=.int .u8 (ab 2)) rfl;have HT:=Zh ht;have avo:(j:Int)<(f.length:Int):=by omega
       cases iw:Lh d t with
       |some x=>
        rw[iw]at Qd;change Hid (Calls Lp 90 _ _ fun e w'=>e=.returned (.tuple #[.int .u8 0,.iface 121 (.agg #[.int .i64 x])])∧Zm wr.heap.size wr w') at Qd;have v_:=Zh (show Dx ab d (Gi ab (fits.drop (i+1))) r l=r by unfold Dx;rw[←HT.out,iw]);clear iw ht;go_wp2_with (go_at_call 90;refine Qd.out.mono ?_;rintro e w1 ⟨rfl,Bw⟩);go_roundg (f.length - (j+1))
        case rel=>
         exact⟨j+1,r,_,_,_,Az,rfl,by go_num,by rw[←SD.out,HFD.out,v_.out],UE.later Gm Bw,(Bw.block bo (Za.1 Hq).1).trans Hq,wa.Au (Kept.later Bw)⟩
        case measure=>omega
       |none=>
        rw[iw]at Qd;change Hid (Calls Lp 90 _ _ fun e w'=>e=.returned (.tuple #[.int .u8 t,.nilIface])∧Zm wr.heap.size wr w') at Qd;have HSW:=Zh iw;clear iw ht;go_wp2_with (go_at_call 90;refine Qd.out.mono ?_;rintro e w1 ⟨rfl,Bw⟩);have Wl:=UE.later Gm Bw;have s0:=fun p=>B_ (q:=mb) p (ch (i:=0) Wl.vI (v:=.slice (some ⟨bf,of_,none⟩) fits.length gI) rfl) (show w.heap.size≠mb by omega);have s1:=fun p=>B_ (q:=mb) p (ch (i:=1) Wl.vI (v:=.map (some mb)) rfl) (show w.heap.size≠mb by omega);have e0:=fun p=>B_ (q:=mb) p (ch (i:=0) Wl.Tp (v:=.slice a1 d.base.length c1) rfl) (show w.heap.size+1≠mb by omega);have e1:=fun p=>B_ (q:=mb) p (ch (i:=1) Wl.Tp (v:=.slice a2 d.Ag.length c2) rfl) (show w.heap.size+1≠mb by omega);have e2:=fun p=>B_ (q:=mb) p (ch (i:=2) Wl.Tp (v:=.slice a3 d.hooks.length c3) rfl) (show w.heap.size+1≠mb by omega);have e3:=fun p=>B_ (q:=mb) p (ch (i:=3) Wl.Tp (v:=.slice a4 d.Aa.length c4) rfl) (show w.heap.size+1≠mb by omega);have e4:=fun p=>B_ (q:=mb) p (ch (i:=4) Wl.Tp (v:=.slice (some ⟨b5,o5,none⟩) d.now.length c5) rfl) (show w.heap.size+1≠mb by omega);have e5:=fun p=>B_ (q:=mb) p (ch (i:=5) Wl.Tp (v:=.int .u8 (ab 0)) rfl) (show w.heap.size+1≠mb by omega);have e6:=fun p=>B_ (q:=mb) p (ch (i:=6) Wl.Tp (v:=.int .u8 (ab 1)) rfl) (show w.heap.size+1≠mb by omega);have e7:=fun p=>B_ (q:=mb) p (ch (i:=7) Wl.Tp (v:=.int .u8 (ab 2)) rfl) (show w.heap.size+1≠mb by omega);have Qi:mb<w1.heap.size:=by have:=Wl.Cd.size;omega
        clear g0 g1 g2 g3 g4 g5 g6 g7 kc hc;refine GU (S:=fun W=>∃p,W=R6 w1 mb p) [0,1,2,3,5,6] 4 #[true,true,true,true,false,true,true,false,false,false] (by kernel_rfl) (fun _ _ d _ _ h=>by cases d<;>exact h) (by kernel_rfl) (BG ((Cf.refl mb w1).below (Zi _ _).drew) Qi) ?_;refine Kz [0,1,2,3,5] [6] _ ?_;refine Bf _ _ (by kernel_rfl) ?_;simp only[zQ,zW,ZY,ZO,ZN]
        repeat (first|go_big_quiet_step (fail)|quiet_step (fail))
        refine Ye ?_;refine Cr (v:=.int .i64 ((i:Int)+1)) rfl rfl (fun w _=>by go_simp;exact wrap_small (by omega)) ?_;clear s0 s1 e0 e1 e2 e3 e4 e5 e6 e7;change Co _ _ _ _ _ _ _ _ _;have H92:∀W,Zm wr.heap.size wr W→Calls Lp 92 #[.agg #[.slice a1 d.base.length c1,.slice a2 d.Ag.length c2,.slice a3 d.hooks.length c3,.slice a4 d.Aa.length c4,.slice (some ⟨b5,o5,none⟩) d.now.length c5,.int .u8 (ab 0),.int .u8 (ab 1),.int .u8 (ab 2)],.slice al l.length cl,.int .u8 t] W (afB W (ab 0) (ab 1) (ab 2) (Ft d l t)):=fun W hB=>c92 (hRr W hB) (huW W hB) (eM W hB) nS aF (fun i hi=>by have:=hD.left i (by have:=HDL.out;omega);omega) (by rw[hD.base];have:=hv.E4;omega) (by rw[hD.Ag];have:=hv.E4;have:=hv.Ui;omega) (by rw[hD.hooks];have:=hv.E4;have:=hv.hooks;omega) (by omega) (by have:=HDL.out;omega) (by omega) (fun i hi=>by
         have Df:i<c.Aa.length:=by have:=HDL.out;omega
         obtain⟨q1,q2,_⟩:=hD.rest i Df;rw[q1,q2];have:=hv.Ak i Df;have:=kB i Df;omega) (by omega) (ab 0) (ab 1) (ab 2)
        have hDw:jN c (Ft d l t):=hD.y_ vY.out aF HSW.out;have v_:=Zh (show Dx ab d (Gi ab (fits.drop (i+1))) r l=(match Gi ab (fits.drop (i+1)) (Ft d l t) with
         |none=>r
         |some p=>if K7 ((AB t).length+p.2) r=true then some (l::p.1,(AB t).length+p.2) else r) by unfold Dx;rw[←HT.out,HSW.out];rfl)
        have SE:∀(W:Zb) (hB:Zm w1.heap.size w1 W) {u1 u2 u3 u4 u5:Zc},RC (Cy w1.heap.size W) W u1 u2 u3 u4 u5 (Ft d l t)→Calls Lp 105 #[.agg #[.slice (some ⟨bf,of_,none⟩) fits.length gI,.map (some mb)],.agg #[u1,u2,u3,u4,u5,.int .u8 (ab 0),.int .u8 (ab 1),.int .u8 (ab 2)],.int .i64 ((i+1:Nat):Int)] W (fun e w'=>∃v,e=.returned v∧Cf mb W w'∧KJ n0 mb w' v (Gi ab (fits.drop (i+1)) (Ft d l t))∧Gj (Fu n0 mb ab c fits) mb w'):=fun W hB u1 u2 u3 u4 u5 hR=>by
         have jZ:=Wl.later Gm hB;have h1:=jZ.Cd.size;exact ih (i+1) (Ft d l t) W _ _ _ _ _ (Cy w1.heap.size W) (by omega) (by omega) (by omega) hDw (hF.Au jZ.kept) hR (fun b hb=>⟨hb.2,by have h2:=hb.1;omega⟩) jZ.map
        have aaM:∀q,w1.heap.size≤q→q≠mb:=fun q h=>by omega
        have aqU:bo<w1.heap.size:=Zl (Za.1 Hq).1 Bw.size;have avq:w.heap.size+1+1+1<w1.heap.size:=by omega
        refine AJ [4,8] (by kernel_rfl) (by simp) (HN ?gA ?gB)
        case' gB=>
         have pL:Zm w1.heap.size w1 (w1.drew.alloc (.cells #[.slice none 0 0,.int .i64 0,.bool false] 141)):=bA (Zi _ _).drew;have VE:(w1.drew.alloc (.cells #[.slice none 0 0,.int .i64 0,.bool false] 141)).heap[w1.heap.size]?=some (.cells #[.slice none 0 0,.int .i64 0,.bool false] 141 (0,0)):=Bv w1.drew _;refine EI (v:=.pointer (some ⟨w1.heap.size,0,none⟩)) (w':=w1.drew.alloc (.cells #[.slice none 0 0,.int .i64 0,.bool false] 141)) rfl rfl (by go_simp) ?_;refine⟨BG ((Cf.refl mb w1).below pL) Qi,?_⟩;refine AJ [4] (by kernel_rfl) (by simp) (BB ?_);refine Dw (f:=92) (args:= #[.agg #[.slice a1 d.base.length c1,.slice a2 d.Ag.length c2,.slice a3 d.hooks.length c3,.slice a4 d.Aa.length c4,.slice (some ⟨b5,o5,none⟩) d.now.length c5,.int .u8 (ab 0),.int .u8 (ab 1),.int .u8 (ab 2)],.slice al l.length cl,.int .u8 t]) rfl rfl (by go_simp) ((H92 _ (Bw.trans (pL.mono Bw.size))).mono ?_);rintro e w2 ⟨z1,z2,z3,z4,z5,rfl,Bh,dX⟩;obtain⟨p1,t1,rfl,_⟩:=dX.base.val;obtain⟨p2,t2,rfl,_⟩:=dX.Ag.val;obtain⟨p3,t3,rfl,_⟩:=dX.hooks.val;obtain⟨p4,t4,rfl,_⟩:=dX.Aa.val;obtain⟨p5,t5,rfl,_⟩:=dX.now.val;have LB:Zm w1.heap.size w1 w2:=pL.trans (Bh.mono pL.size);refine .inl ⟨_,rfl,BG ((Cf.refl mb w1).below LB) Qi,?_⟩;refine AJ [7] (by kernel_rfl) (by simp) (BB ?_);have jZ:=Wl.later Gm LB;have te:RC (Cy w1.heap.size w2) w2 _ _ _ _ _ (Ft d l t):=(RC.imp dX (fun b (hb:Cy (w1.drew.alloc _).heap.size w2 b)=>Cy.mono (Zj _) (by simp) hb));refine Dw (f:=105) rfl rfl (by go_simp) ((SE w2 LB te).mono ?_);rintro e w3 ⟨v,rfl,J0,gJ,dj⟩;obtain⟨y1,y2,y3,y4,y5,rfl,wb,hy6,hy7⟩:=gJ.val;have VD:=jZ.step Gm J0 dj;have Qe:Cf mb w1 w3:=(Cf.refl mb w1).below LB|>.trans J0;have F1:Kept n0 mb wr w3:=(Kept.later (Bw.trans (LB.mono Bw.size))).trans (Kept.VS J0 jZ.map.is);have dY:w3.heap[bo]?=some (.cells #[.slice x1 x2 x3,.int .i64 n,.bool s] 141 (0,0)):=by
          have h1:=((Bw.trans (LB.mono Bw.size)).block bo (Za.1 Hq).1).trans Hq;exact(J0.block bo (Za.1 h1).1 (by omega)).trans h1
         refine .inl ⟨_,rfl,BG Qe Qi,?_⟩;have I7:w3.heap[w1.heap.size]?=some (.cells #[.slice none 0 0,.int .i64 0,.bool false] 141 (0,0)):=by
          have h1:=(Bh.block _ (Za.1 VE).1).trans VE;exact(J0.block _ (Za.1 h1).1 (aaM _ (Zj _))).trans h1
         obtain⟨q,hq⟩:∃q,q=w1.heap.size:=⟨_,rfl⟩;rw[←hq]at I7⊢;have aZ:w1.heap.size≤q:=by omega
         refine AJ [9] (by kernel_rfl) (by simp) (BB ?_);clear hq;have qf0:=cf (i:=0) I7;have qc0:=ch (i:=0) I7 (v:=.slice none 0 0) rfl;have qc1:=ch (i:=1) I7 (v:=.int .i64 0) rfl;have qc2:=ch (i:=2) I7 (v:=.bool false) rfl;have qf1:=cf (i:=1) I7;have qf2:=cf (i:=2) I7;obtain⟨W4,Et⟩:∃W4,W4=((w3.setCell ⟨q,0,none⟩ (.slice y1 y2 y3)).setCell ⟨q,1,none⟩ (.int .i64 y4)).setCell ⟨q,2,none⟩ (.bool y5):=⟨_,rfl⟩;refine Qz (w':=W4) rfl rfl (by rw[Et];go_simp) ?_;have Tj:Cf mb w1 W4:=by rw[Et];exact((Qe.DS aZ).DS aZ).DS aZ
         refine⟨BG Tj Qi,rfl,?_⟩;have PK:Kept n0 mb wr W4:=by
          have PF:=A5 (i:=0) I7 (.slice y1 y2 y3);have Ny:=A5 (i:=1) PF (.int .i64 y4);rw[Et];exact((F1.trans (Kept.set I7 ⟨by decide,by decide⟩ (by omega))).trans (Kept.set PF ⟨by decide,by decide⟩ (by omega))).trans (Kept.set Ny ⟨by decide,by decide⟩ (by omega))
         have Io:=((VD.set UC Gm (j:=0) (v:=.slice y1 y2 y3) I7 ⟨by decide,by decide⟩ (by omega)).set UC Gm (j:=1) (v:=.int .i64 y4) (A5 (i:=0) I7 _) ⟨by decide,by decide⟩ (by omega)).set UC Gm (j:=2) (v:=.bool y5) (A5 (i:=1) (A5 (i:=0) I7 _) _) ⟨by decide,by decide⟩ (by omega);rw[←Et]at Io;have a_:bo≠q:=by omega
         have OK:W4.heap[bo]?=some (.cells #[.slice x1 x2 x3,.int .i64 n,.bool s] 141 (0,0)):=by rw[Et];exact(AW a_ _).trans ((AW a_ _).trans ((AW a_ _).trans dY))
         have bd:W4.heap[q]?=some (.cells #[.slice y1 y2 y3,.int .i64 y4,.bool y5] 141 (0,0)):=by rw[Et];exact A5 (A5 (A5 I7 _) _) _
         have p9:=gJ.Au (show Kept n0 mb w3 W4 by
          have PF:=A5 (i:=0) I7 (.slice y1 y2 y3);have Ny:=A5 (i:=1) PF (.int .i64 y4);rw[Et];exact((Kept.set I7 ⟨by decide,by decide⟩ (by omega)).trans (Kept.set PF ⟨by decide,by decide⟩ (by omega))).trans (Kept.set Ny ⟨by decide,by decide⟩ (by omega)))
         clear qf0 qf1 qf2 qc0 qc1 qc2 I7 Tj
        case' gA=>
         have pL:Zm w1.heap.size w1 w1.drew:=(Zi _ _).drew;refine Dw (f:=92) (args:= #[.agg #[.slice a1 d.base.length c1,.slice a2 d.Ag.length c2,.slice a3 d.hooks.length c3,.slice a4 d.Aa.length c4,.slice (some ⟨b5,o5,none⟩) d.now.length c5,.int .u8 (ab 0),.int .u8 (ab 1),.int .u8 (ab 2)],.slice al l.length cl,.int .u8 t]) rfl rfl (by go_simp) ((H92 _ (Bw.trans (pL.mono Bw.size))).mono ?_);rintro e w2 ⟨z1,z2,z3,z4,z5,rfl,Bh,dX⟩;obtain⟨p1,t1,rfl,_⟩:=dX.base.val;obtain⟨p2,t2,rfl,_⟩:=dX.Ag.val;obtain⟨p3,t3,rfl,_⟩:=dX.hooks.val;obtain⟨p4,t4,rfl,_⟩:=dX.Aa.val;obtain⟨p5,t5,rfl,_⟩:=dX.now.val;have LB:Zm w1.heap.size w1 w2:=pL.trans (Bh.mono pL.size);refine .inl ⟨_,rfl,BG ((Cf.refl mb w1).below LB) Qi,?_⟩;refine AJ [7,8] (by kernel_rfl) (by simp) (HN ?hA ?hB)
         case' hB=>
          have ks:Zm w1.heap.size w1 (w2.alloc (.cells #[.slice none 0 0,.int .i64 0,.bool false] 141)):=bA LB;have VE:(w2.alloc (.cells #[.slice none 0 0,.int .i64 0,.bool false] 141)).heap[w2.heap.size]?=some (.cells #[.slice none 0 0,.int .i64 0,.bool false] 141 (0,0)):=Bv w2 _;refine EI (v:=.pointer (some ⟨w2.heap.size,0,none⟩)) (w':=w2.alloc (.cells #[.slice none 0 0,.int .i64 0,.bool false] 141)) rfl rfl (by go_simp) ?_;refine⟨BG ((Cf.refl mb w1).below ks) Qi,?_⟩;refine AJ [7] (by kernel_rfl) (by simp) (BB ?_);have jZ:=Wl.later Gm ks;have te:RC (Cy w1.heap.size (w2.alloc (.cells #[.slice none 0 0,.int .i64 0,.bool false] 141))) (w2.alloc (.cells #[.slice none 0 0,.int .i64 0,.bool false] 141)) _ _ _ _ _ (Ft d l t):=(RC.imp (dX.later (bA (Zi w2.heap.size w2))) (fun b (hb:Cy w1.heap.size w2 b)=>Cy.mono (by simp) (Zj _) hb));refine Dw (f:=105) rfl rfl (by go_simp) ((SE (w2.alloc (.cells #[.slice none 0 0,.int .i64 0,.bool false] 141)) ks te).mono ?_);rintro e w3 ⟨v,rfl,J0,gJ,dj⟩;obtain⟨y1,y2,y3,y4,y5,rfl,wb,hy6,hy7⟩:=gJ.val;have VD:=jZ.step Gm J0 dj;have Qe:Cf mb w1 w3:=(Cf.refl mb w1).below ks|>.trans J0;have F1:Kept n0 mb wr w3:=(Kept.later (Bw.trans (ks.mono Bw.size))).trans (Kept.VS J0 jZ.map.is);have dY:w3.heap[bo]?=some (.cells #[.slice x1 x2 x3,.int .i64 n,.bool s] 141 (0,0)):=by
           have h1:=((Bw.trans (ks.mono Bw.size)).block bo (Za.1 Hq).1).trans Hq;exact(J0.block bo (Za.1 h1).1 (by omega)).trans h1
          refine .inl ⟨_,rfl,BG Qe Qi,?_⟩;have I7:w3.heap[w2.heap.size]?=some (.cells #[.slice none 0 0,.int .i64 0,.bool false] 141 (0,0)):=(J0.block _ (Za.1 VE).1 (aaM _ LB.size)).trans VE;obtain⟨q,hq⟩:∃q,q=w2.heap.size:=⟨_,rfl⟩;rw[←hq]at I7⊢;have aZ:w1.heap.size≤q:=by rw[hq];exact LB.size
          refine AJ [9] (by kernel_rfl) (by simp) (BB ?_);clear hq;have qf0:=cf (i:=0) I7;have qc0:=ch (i:=0) I7 (v:=.slice none 0 0) rfl;have qc1:=ch (i:=1) I7 (v:=.int .i64 0) rfl;have qc2:=ch (i:=2) I7 (v:=.bool false) rfl;have qf1:=cf (i:=1) I7;have qf2:=cf (i:=2) I7;obtain⟨W4,Et⟩:∃W4,W4=((w3.setCell ⟨q,0,none⟩ (.slice y1 y2 y3)).setCell ⟨q,1,none⟩ (.int .i64 y4)).setCell ⟨q,2,none⟩ (.bool y5):=⟨_,rfl⟩;refine Qz (w':=W4) rfl rfl (by rw[Et];go_simp) ?_;have Tj:Cf mb w1 W4:=by rw[Et];exact((Qe.DS aZ).DS aZ).DS aZ
          refine⟨BG Tj Qi,rfl,?_⟩;have PK:Kept n0 mb wr W4:=by
           have PF:=A5 (i:=0) I7 (.slice y1 y2 y3);have Ny:=A5 (i:=1) PF (.int .i64 y4);rw[Et];exact((F1.trans (Kept.set I7 ⟨by decide,by decide⟩ (by omega))).trans (Kept.set PF ⟨by decide,by decide⟩ (by omega))).trans (Kept.set Ny ⟨by decide,by decide⟩ (by omega))
          have Io:=((VD.set UC Gm (j:=0) (v:=.slice y1 y2 y3) I7 ⟨by decide,by decide⟩ (by omega)).set UC Gm (j:=1) (v:=.int .i64 y4) (A5 (i:=0) I7 _) ⟨by decide,by decide⟩ (by omega)).set UC Gm (j:=2) (v:=.bool y5) (A5 (i:=1) (A5 (i:=0) I7 _) _) ⟨by decide,by decide⟩ (by omega);rw[←Et]at Io;have a_:bo≠q:=by omega
          have OK:W4.heap[bo]?=some (.cells #[.slice x1 x2 x3,.int .i64 n,.bool s] 141 (0,0)):=by rw[Et];exact(AW a_ _).trans ((AW a_ _).trans ((AW a_ _).trans dY))
          have bd:W4.heap[q]?=some (.cells #[.slice y1 y2 y3,.int .i64 y4,.bool y5] 141 (0,0)):=by rw[Et];exact A5 (A5 (A5 I7 _) _) _
          have p9:=gJ.Au (show Kept n0 mb w3 W4 by
           have PF:=A5 (i:=0) I7 (.slice y1 y2 y3);have Ny:=A5 (i:=1) PF (.int .i64 y4);rw[Et];exact((Kept.set I7 ⟨by decide,by decide⟩ (by omega)).trans (Kept.set PF ⟨by decide,by decide⟩ (by omega))).trans (Kept.set Ny ⟨by decide,by decide⟩ (by omega)))
          clear qf0 qf1 qf2 qc0 qc1 qc2 I7 Tj
         case' hA=>
          have jZ:=Wl.later Gm LB;have te:RC (Cy w1.heap.size w2) w2 _ _ _ _ _ (Ft d l t):=dX;refine Dw (f:=105) rfl rfl (by go_simp) ((SE w2 LB te).mono ?_);rintro e w3 ⟨v,rfl,J0,gJ,dj⟩;obtain⟨y1,y2,y3,y4,y5,rfl,wb,hy6,hy7⟩:=gJ.val;have VD:=jZ.step Gm J0 dj;have Qe:Cf mb w1 w3:=(Cf.refl mb w1).below LB|>.trans J0;have F1:Kept n0 mb wr w3:=(Kept.later (Bw.trans (LB.mono Bw.size))).trans (Kept.VS J0 jZ.map.is);have dY:w3.heap[bo]?=some (.cells #[.slice x1 x2 x3,.int .i64 n,.bool s] 141 (0,0)):=by
           have h1:=((Bw.trans (LB.mono Bw.size)).block bo (Za.1 Hq).1).trans Hq;exact(J0.block bo (Za.1 h1).1 (by omega)).trans h1
          refine .inl ⟨_,rfl,BG Qe Qi,?_⟩;refine AJ [8] (by kernel_rfl) (by simp) (BB ?_);refine EI (v:=.pointer (some ⟨w3.heap.size,0,none⟩)) (w':=w3.alloc (.cells #[.slice none 0 0,.int .i64 0,.bool false] 141)) rfl rfl (by go_simp) ?_;refine⟨BG (Qe.below (bA (Zi _ _))) Qi,?_⟩;refine AJ [9] (by kernel_rfl) (by simp) (BB ?_);refine Qz (w':=w3.alloc (.cells #[.slice y1 y2 y3,.int .i64 y4,.bool y5] 141)) rfl rfl (by go_simp) ?_;refine⟨BG (Qe.below (bA (Zi _ _))) Qi,rfl,?_⟩;obtain⟨W4,Et⟩:∃W4,W4=w3.alloc (.cells #[.slice y1 y2 y3,.int .i64 y4,.bool y5] 141):=⟨_,rfl⟩;obtain⟨q,hq⟩:∃q,q=w3.heap.size:=⟨_,rfl⟩;have hBW:Zm w3.heap.size w3 W4:=by rw[Et];exact bA (Zi _ _)
          have Io:=VD.later Gm hBW;have PK:Kept n0 mb wr W4:=F1.trans (Kept.later hBW);have OK:W4.heap[bo]?=some (.cells #[.slice x1 x2 x3,.int .i64 n,.bool s] 141 (0,0)):=(hBW.block bo (Za.1 dY).1).trans dY;have bd:W4.heap[q]?=some (.cells #[.slice y1 y2 y3,.int .i64 y4,.bool y5] 141 (0,0)):=by rw[Et,hq];exact Bv _ _
          have aZ:w1.heap.size≤q:=by rw[hq];exact Qe.size
          have a_:bo≠q:=by omega
          have p9:=gJ.Au (Kept.later hBW);rw[←Et, ←hq];clear hBW hq
        all_goals
         have tw:=wa.Au PK;have hu4:SI (LS n0 mb W4) W4 (.slice al l.length cl) l:=Sl.imp (SI.Au hu fun b hb _=>PK b hb) (fun b hb=>hb.Au PK) (fun _ _ x=>x);clear Et gJ Qe J0 dj VD jZ te F1 dY dX Bh PK SE H92 pL LB aaM
         go_simp
         have c0:=ch (i:=0) bd (v:=.slice y1 y2 y3) rfl;have c1':=ch (i:=1) bd (v:=.int .i64 y4) rfl;have c2':=ch (i:=2) bd (v:=.bool y5) rfl;have b0:=ch (i:=0) OK (v:=.slice x1 x2 x3) rfl;have b1:=ch (i:=1) OK (v:=.int .i64 n) rfl;have b2:=ch (i:=2) OK (v:=.bool s) rfl;have bf0:=cf (i:=0) OK;have bf1:=cf (i:=1) OK;have bf2:=cf (i:=2) OK;have tx:=Zh (fun W=>alK t nS W);obtain⟨nt,uh⟩:∃nt,nt=(AB t).length:=⟨_,rfl⟩;have avr:nt≤3:=by rw[uh];exact IY t 3
         have Tt:=Zh v_.out;rw[←uh]at tx Tt;clear uh v_;have gy:s=r.isSome:=H5.out;cases OP:Gi ab (fits.drop (i+1)) (Ft d l t) with
         |none=>
          rw[OP]at wb hy7 Tt;obtain⟨_,_,_,rfl⟩:=hy7 rfl;have aaN:y5=false:=wb;subst aaN;have j0:=Zh (show Dx ab d (Gi ab (fits.drop (i+1))) r l=r from Tt.out);clear OP Tt wb hy6 hy7 p9 gy;go_wp2;go_quiet ((go_at_call 136;refine Calls.quiet_of_same (tx.out _)));go_wp2;go_roundg (f.length - (j+1))
          case rel=>exact⟨j+1,r,_,_,_,Az,rfl,by go_num,by rw[←SD.out,HFD.out,j0.out],Io.later Gm (Zan (Zi _ _) nq),OK,tw⟩
          case measure=>omega
         |some p=>
          obtain⟨pl,pn⟩:=p;rw[OP]at wb hy6 Tt p9;obtain⟨hy4,hLp⟩:=hy6 (pl,pn) rfl;have anD:pn=y4:=hy4.symm;subst anD;have aaN:y5=true:=wb;subst aaN;obtain⟨hp0,lz,UY⟩:=Mq ab _ _ (pl,pn) OP;dsimp only at hp0 lz UY hLp Tt;rw[List.length_drop]at lz UY;have hp9:pn≤9:=by omega
          have Wt:pl.length≤3:=by omega
          have aaO:LL n0 mb W4 (.slice y1 y2 y3) pl:=by
           obtain⟨u,e,h⟩:=p9;cases e;exact h
          obtain⟨_,_,e,_⟩:=Sl.val aaO;cases e;have acJ:0≤(nt:Int)+pn∧(nt:Int)+pn≤1000000:=by omega
          clear OP wb hy6 hy7 p9 lz UY hLp;have hbr:(K7 (nt+pn) r=true∧(s=false∨(s=true∧(nt:Int)+pn<n)))∨(K7 (nt+pn) r=false∧s=true∧¬((nt:Int)+pn<n)):=by
           cases r with
           |none=>exact .inl ⟨rfl,.inl gy⟩
           |some p0=>
            obtain⟨u,e,_⟩:=tw;cases e;by_cases hc:(nt:Int)+pn<p0.2
            ·exact .inl ⟨by simpa[K7]using hc,.inr ⟨gy,hc⟩⟩
            ·exact .inr ⟨by simpa[K7]using hc,gy,hc⟩
          clear gy;rcases hbr with⟨FZ,hbr⟩|⟨FZ,hs,P3⟩
          ·have j0:=Zh (show Dx ab d (Gi ab (fits.drop (i+1))) r l=some (l::pl,nt+pn) by rw[Tt.out,if_pos FZ])
           clear Tt FZ tw;rcases hbr with hs|⟨hs,P3⟩
           all_goals
            subst hs;go_wp2;go_quiet ((go_at_call 136;refine Calls.quiet_of_same (tx.out _)));obtain⟨W5,I6⟩:∃W5,W5=W4.drewN nq:=⟨_,rfl⟩;have Ck:Zm W4.heap.size W4 W5:=by rw[I6];exact Zan (Zi _ _) nq
            have Tf:=Io.later Gm Ck;have VX:=(Ck.block bo (Za.1 OK).1).trans OK;have tz:=(Ck.block q (Za.1 bd).1).trans bd;have agK:=aaO.Au (Kept.later Ck);have pQ:SI (LS n0 mb W5) W5 (.slice al l.length cl) l:=Sl.imp (SI.Au hu4 fun b hb _=>Ck.block b hb.lt) (fun b hb=>hb.Au (Kept.later Ck)) (fun _ _ x=>x);rw[←I6];have jw:=(Za.1 tz).1;have anE:=(Za.1 VX).1;clear I6 Ck Io OK bd aaO hu4 c0 c1' c2' b0 b1 b2 bf0 bf1 bf2;have c0:=ch (i:=0) tz (v:=.slice y1 pl.length y3) rfl;have c1':=ch (i:=1) tz (v:=.int .i64 pn) rfl;have c2':=ch (i:=2) tz (v:=.bool true) rfl;have b0:=ch (i:=0) VX (v:=.slice x1 x2 x3) rfl;have bf0:=cf (i:=0) VX;have bf1:=cf (i:=1) VX;have bf2:=cf (i:=2) VX;have b1:=ch (i:=1) VX (v:=.int .i64 n) rfl;have b2:=ch (i:=2) VX rfl;obtain⟨i0,hi,Fg,El,EN⟩:=YC Jf;have anF:=CM Yn;have wc:(W5.alloc (.cells #[.slice al l.length cl] 22)).ownsRow W5.heap.size 22 1 (.slice (some ⟨W5.heap.size,0,none⟩) 1 1) 1 [.slice al l.length cl]:=World.ownsRow_lit W5 #[.slice al l.length cl] 1 (Zj _) (by decide) rfl;cases y1 with
            |none=>
             obtain rfl:pl=[]:=by
              cases pl with
              |nil=>rfl
              |cons x r=>obtain⟨_,_,_,e,_⟩:=SL.at_ agK (i:=0) (by simp);cases e
             obtain⟨My,Tu,pO⟩:=Tf.agF UC Gm VX hbz (.slice (some ⟨W5.heap.size,0,none⟩) 1 1) (.int .i64 (nt+pn)) (.bool true);have oV:=World.ownsRow_lit (((W5.setCell ⟨bo,0,none⟩ (.slice (some ⟨W5.heap.size,0,none⟩) 1 1)).setCell ⟨bo,1,none⟩ (.int .i64 (nt+pn))).setCell ⟨bo,2,none⟩ (.bool true)) (e:=22) (size:=1) (base:=W5.heap.size) #[.slice al l.length cl] 1 (by simp) (by decide) rfl;simp only[World.size_setCell]at oV;have hkX:=pO.trans (Kept.later (bA (o:=.cells #[.slice al l.length cl] 22) (Zi _ _)));have hFX:=My.later Gm (bA (o:=.cells #[.slice al l.length cl] 22) (Zi _ _));have hbX:=Bm Tu (.cells #[.slice al l.length cl] 22);have HH:=Zh (zb oV (zb hkX (zb hFX hbX)));clear oV hkX hFX hbX My Tu pO wc;go_wp2;go_roundg (f.length - (j+1))
             case rel=>
              obtain⟨q1,q2,q3,q4⟩:=HH.out;refine⟨j+1,some ([l],nt+pn),_,_,_,Az,rfl,by go_num,by rw[←SD.out,HFD.out,j0.out],q3,q4,_,rfl,?_⟩;exact gH (pl:=[]) (news:=[]) q1 (Sl.imp (SI.Au pQ fun b hb _=>q2 b hb) (fun b hb=>hb.Au q2) (fun _ _ x=>x)) (fun i x hx=>by cases hx)
             case measure=>omega
            |some ad=>
             obtain⟨news,hn,hR5,hc5⟩:=Sl.row agK (by decide) ad rfl;have HC5:=Zh hc5;have h1c:∀u∈news,u.oneCell'=true:=row_one (by decide) hn hR5 agE;go_wp2_with (at_builtin;refine ZaV _ rfl _ _ 27 rfl W5.heap.size 22 i0 (.slice none 0 0) 1 24 anF (D3 hi) Fg El EN rfl (by decide) _ 1 [.slice al l.length cl] rfl wc ad pl.length y3 news rfl hn (fun j u hj=>ca (HC5.out j u hj) _) h1c (by unfold maxLen;omega) (by omega) (by simp) ?_;intro v' w6 AY AG Fi;obtain⟨ga,gc,rfl,_,_,_⟩:=Jr AY;have DQ:Zm W5.heap.size W5 w6:=Br (bA (Zi _ _)) AG (fun k hk=>by cases hk;exact Zj _) (by simp);have Tu:=(DQ.block bo anE).trans VX;have d0:=ch (i:=0) Tu (v:=.slice x1 x2 x3) rfl;have d1:=ch (i:=1) Tu (v:=.int .i64 n) rfl;have d2:=ch (i:=2) Tu rfl;have df0:=cf (i:=0) Tu;have df1:=cf (i:=1) Tu;have df2:=cf (i:=2) Tu);have My:=Tf.later Gm DQ;have hk5:Kept n0 mb W5 w6:=Kept.later DQ;obtain⟨hF7,anG,hk7⟩:=My.agF UC Gm Tu hbz (.slice ga (1+pl.length) gc) (.int .i64 (nt+pn)) (.bool true);have hT7:Am (fun x=>x=bo) w6 (((w6.setCell ⟨bo,0,none⟩ (.slice ga (1+pl.length) gc)).setCell ⟨bo,1,none⟩ (.int .i64 (nt+pn))).setCell ⟨bo,2,none⟩ (.bool true)):=(Am.refl (fun x=>x=bo) w6).DG.DG.DG;have agL:=DF hT7 (fun b h1 h2=>by subst h2;omega) AY;go_roundg (f.length - (j+1))
             case rel=>
              refine⟨j+1,some (l::pl,nt+pn),_,_,_,Az,rfl,by go_num,by rw[←SD.out,HFD.out,j0.out],hF7,anG,_,rfl,?_⟩;have qQ:=hk5.trans hk7;exact gH agL (Sl.imp (SI.Au pQ fun b hb _=>qQ b hb) (fun b hb=>hb.Au qQ) (fun _ _ x=>x)) (fun i x hx=>tq (hR5 i x hx) qQ)
             case measure=>omega
          ·have j0:=Zh (show Dx ab d (Gi ab (fits.drop (i+1))) r l=r by rw[Tt.out,if_neg (by rw[FZ];exact Bool.false_ne_true)])
           clear Tt FZ;subst hs;go_wp2;go_quiet ((go_at_call 136;refine Calls.quiet_of_same (tx.out _)));go_wp2;go_roundg (f.length - (j+1))
           case rel=>exact⟨j+1,r,_,_,_,Az,rfl,by go_num,by rw[←SD.out,HFD.out,j0.out],Io.later Gm (Zan (Zi _ _) nq),OK,tw⟩
           case measure=>omega
      ·obtain⟨x1,x2,x3,x4,x5,e,h5,h6,h7⟩:=wa.val
       clear h5 h6 h7;cases e;have e1:r=Gi ab (fits.drop i) d:=by
        have h1:=SD.out;rw[zf.2 (show f.length≤j by omega)]at h1;exact h1
       rw[e1]at wa;clear e1;have hGK:∀wy,Kept n0 mb wr wy→Fu n0 mb ab c fits (Ms i d) (.agg #[.slice x1 x2 x3,.int .i64 n,.bool s]) wy:=fun wy hk=>Fu.of hD Jm.2 (wa.Au hk);obtain⟨es,clk,Bs,Uj⟩:=jQ (k:=Ms i d) (v:=.agg #[.slice x1 x2 x3,.int .i64 n,.bool s]) UE.map (fun es clk=>hGK _ (Kept.put UE.map.is)) (fun k' v' es clk h=>h.Au (Kept.put UE.map.is));simp only[Dl,Ms]at Bs;have hN:=UE.put Gm Uj;have bC:=UE.key;have k0:=ch (i:=0) bC (v:=.int .i64 i) rfl;have k1:=ch (i:=1) bC (v:=.int .i64 (nth d.now 0)) rfl;have k2:=ch (i:=2) bC (v:=.int .i64 (nth d.now 1)) rfl;have k3:=ch (i:=3) bC (v:=.int .i64 (nth d.now 2)) rfl;have k4:=ch (i:=4) bC (v:=.int .i64 (Aj d.Aa 0).left) rfl;have k5:=ch (i:=5) bC (v:=.int .i64 (Aj d.Aa 1).left) rfl;have k6:=ch (i:=6) bC (v:=.int .i64 (Aj d.Aa 2).left) rfl;have m1':=ch (i:=1) UE.vI (v:=.map (some mb)) rfl;have c0:=ch (i:=0) Hq (v:=.slice x1 x2 x3) rfl;have c1':=ch (i:=1) Hq (v:=.int .i64 n) rfl;have c2':=ch (i:=2) Hq (v:=.bool s) rfl;obtain⟨W2,QB⟩:∃W2,W2=wr.putObj mb (.map es clk):=⟨_,rfl⟩;rw[←QB]at Bs hN Uj;have ET:∀q,q≠mb→W2.heap[q]?=wr.heap[q]? :=fun q h=>by rw[QB];exact zq h
       have WK:=(ET _ (by omega)).trans UE.res;have VV:=(ET bo (by omega)).trans Hq;have r0:=ch (i:=0) WK (v:=.slice none 0 0) rfl;have r1:=ch (i:=1) WK (v:=.int .i64 0) rfl;have r2:=ch (i:=2) WK (v:=.bool false) rfl;have rf0:=cf (i:=0) WK;have rf1:=cf (i:=1) WK;have rf2:=cf (i:=2) WK;have d0:=ch (i:=0) VV (v:=.slice x1 x2 x3) rfl;have d1:=ch (i:=1) VV (v:=.int .i64 n) rfl;have d2:=ch (i:=2) VV (v:=.bool s) rfl;have X:=Zh wa;clear QB hGK SD ET wa Uj;go_wp2;refine ZX (v:=.agg #[.slice x1 x2 x3,.int .i64 n,.bool s]) (by rw[A3 rfl];go_simp) rfl ?_;have vv:=((hN.set (j:=0) (v:=.slice x1 x2 x3) UC Gm).set (j:=1) (v:=.int .i64 n) UC Gm).set (j:=2) (v:=.bool s) UC Gm;exact⟨_,rfl,vv.Cd,X.out.Au vv.kept,vv.map⟩
    ·have Wb:=hg i d (by omega) hD e.symm
     obtain⟨x1,x2,x3,x4,x5,rfl,x6,x7,x8⟩:=Wb.val;have H1:=h1;simp only[Dl,Ms]at H1;clear h1;have X:=Zh Wb;clear x6 x7 x8 Wb hg e;go_wp2;refine ZX (v:=.agg #[.slice x1 x2 x3,.int .i64 x4,.bool x5]) (by rw[A3 rfl];go_simp) rfl ?_;have hN:=(((My.fn.set (j:=0) (v:=.slice x1 x2 x3) UC Gm).set (j:=1) (v:=.int .i64 x4) UC Gm).set (j:=2) (v:=.bool x5) UC Gm).alloc (.cells #[.slice x1 x2 x3,.int .i64 x4,.bool x5] 141);exact⟨_,rfl,hN.Cd,X.out.Au hN.kept,hN.map⟩
end Go.Proofs.Fit
