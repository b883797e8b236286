/- Part of a proof. -/
import Derived.Test.YtkkjobdfheidkaaGreatDoorQ10
set_option maxRecDepth 100000
set_option maxHeartbeats 6400000
noncomputable section
set_option linter.all false
open And renaming intro->ZX
open Array renaming getElem?_eq_some_iff->Za,replicate->YD,getElem?_eq_getElem->ZC,getElem?_setIfInBounds_self_of_lt->Z5,getElem?_setIfInBounds_ne->Zk
open Bool renaming and_eq_true->ZI
open Go renaming Value->Ze,World->Zc,bodyPost_ret->ZU,wpQuiet_nil->zD,below_drewN->zl,info_parts->zq,wpList_append_own->Yj,Program->Zp,FuncId->ZaV,execOp->ZbE,wp_append_own->Zam,ownsRow_succ->ZbD
open Go.Act renaming put->Zcp
open Go.Addr renaming add->Zcz
open Go.Calls renaming quiet_of_same->Zay
open Go.Instr renaming makeSlice->Zdp
open Go.IntKind renaming wrap_i64->Yp,i64->J
open Go.Lib renaming hid->Zb
open Go.Obj renaming cells->ZbM
open Go.Oper renaming wp->ZbG,upon_enter->Zdf
open Go.Proofs.Tryz renaming underlying22->Yg,underlying27->zY
open Go.Region renaming Mode->YU,noSelect->YM,ready->zw
open Go.RowKit renaming Below->YS
open Go.RowKit.Below renaming refl->Zg
open Go.Value renaming int->ZS,slice->ZA,oneCell'->Yv,slice->U,int->I
open Go.World renaming size_alloc->ZG,cell?->zG,block_lt_of_cell?->Zy,ownsRow_lit->Zcr,putObj_heap_other->zP,ownsRow_nil->zh
open List renaming length_cons->zp,getElem?_take_of_lt->ZV,getElem?_drop->Yi,drop_eq_nil_iff->Zz,length_map->Zbz,mem_map->Zby,getElem?_map->zU,getElem?_eq_some_iff->Zl,mem_of_getElem?->Z8,filterMap_cons->zr,filterMap_nil->zL,getElem?_toArray->Z1,getElem?_cons_succ->ZQ,getElem?_cons_zero->ZP,getElem?_eq_getElem->ZE,mem_cons_of_mem->Z9,mem_cons_self->zo,take_add_one->ZbN,getElem?_append_left->Z4,length_append->ZF,length_nil->Yt,getElem?_append_right->zx,take_of_length_le->ZaQ,drop_eq_getElem_cons->Zu
open Nat renaming le_refl->Zj,zero_le->Zn,two_pow_pos->ZdA,lt_of_lt_of_le->Zm,pow_le_pow_right->Zbm,le_trans->Zt,lt_or_ge->Zaw,zero_add->zK,reduceAdd->ZaC
open Ne renaming symm->Zbq
open Option.some renaming inj->ZK
open True renaming intro->YI
namespace Go.Proofs.Fit
open Go Go.RowKit
def wrap_small {x:Int}(h:0<=x/\x<=1000000):IntKind.i64.wrap x=x:=by
 rw[Yp];omega
def Vg (i:Nat)(d:A4)(j:Nat):Key:=(i,(nth d.now 0,nth d.now 1,nth d.now 2),(if 0<j then(Ah d.Aa 0).left else 0),(if 1<j then(Ah d.Aa 1).left else 0),(if 2<j then(Ah d.Aa 2).left else 0))
variable {i n j n0 mb:Nat}
def tG {l:List Aq}(h:l.length<=i):Ah l i=rX:=by simp[Ah,h]
variable {d c:A4}
def tH (h:d.Aa.length=n)(h3:n<=3):Vg i d n=Nx i d:=by
 have key:∀j,(if j<n then(Ah d.Aa j).left else 0)=(Ah d.Aa j).left:=fun j=>by
  split
  .rfl
  .rw[tG (by omega)];rfl
 unfold Vg Nx;rw[key 0,key 1,key 2]
def tI (h:j<3):(Fg (Vg i d j)).setIfInBounds (4+j) (.int J (Ah d.Aa j).left)=Fg (Vg i d (j+1)):=by
 have:j=0\/j=1\/j=2:=by omega
 rcases this with rfl|rfl|rfl<;>simp[Fg,Vg]
def yd (h:j<3):(Fg (Vg i d j))[4+j]?=some (.int J 0):=by
 have:j=0\/j=1\/j=2:=by omega
 rcases this with rfl|rfl|rfl<;>rfl
def ye (i:Int)(b:List Int)(h1:1<=b.length)(h3:b.length<=3):(([.int J i,.int J 0,.int J 0,.int J 0,.int J 0,.int J 0,.int J 0]:List Ze).take 1++(b.map (ZS J)++([.int J i,.int J 0,.int J 0,.int J 0,.int J 0,.int J 0,.int J 0]:List Ze).drop (1+(b.map (ZS J)).length))).toArray=Fg (i,(nth b 0,nth b 1,nth b 2),0,0,0):=by
 match b,h1,h3 with
 | [x],_,_=>rfl
 | [x,y],_,_=>rfl
 | [x,y,z],_,_=>rfl
variable {S:Nat->Prop}
def akl:sh (Rl S):=fun _ _ _ h u hu=>by
 obtain⟨u',rfl,hs⟩:=h;obtain⟨a,c,rfl,_⟩:=hs.val;simp at hu;subst hu
 rfl
variable {w A B X:Zc}
def yf {w':Zc}{cs:List Ze}{x:List Int}(h:Rl (LS n0 mb w) w cs x)(hk:Kept n0 mb w w'):Rl (LS n0 mb w') w' cs x:=by
 obtain⟨u,e,hs⟩:=h;exact⟨u,e,Sl.imp (SI.Aw hs fun b hb _=>hk b hb) (fun b hb=>hb.Aw hk) (fun _ _ x=>x)⟩
variable {v vf u v1 v2 v3 v4 v5:Ze}
variable {l a b:List Int}
def ll {base:Nat}{u0:Ze}{news:List Ze}{pl:List (List Int)}(h:A.ownsRow base 22 1 v (1+pl.length) ([u0]++news))(h0:SI (LS n0 mb A) A u0 l)(hR:∀(i:Nat) (x:List Int),pl[i]?=some x->Rl (LS n0 mb A) A ((news.drop (i*1)).take 1) x):LL n0 mb A v (l::pl):=
 adT (vals:=[u0]++news) (by rw[zp,Nat.add_comm];exact h) fun i x hx=>by
  cases i with
  |zero=>cases hx;exact⟨u0,rfl,h0⟩
  |succ i=>
   obtain⟨u,e,hs⟩:=hR i x (by simpa using hx);have h1:((news.drop (i*1)).take 1)[0]?=some u:=by rw[e];rfl
   rw[ZV (by omega),Yi]at h1;exact⟨u,by simpa using h1,hs⟩
variable {ab:Nat->Nat}
variable {fits:List (List (List Int))}
def FS.akm {wr:Zc}{g:Array Ze}{k:Key}(h:FS n0 mb ab c fits w vf g k wr)(hn:n0<=w.heap.size)(hm:mb<w.heap.size){bo:Nat}{a b e:Ze}(hb:wr.heap[bo]?=some (.cells #[a,b,e] 141 (0,0)))(hz:w.heap.size+1+1+1<bo)(v0 v1 v2:Ze):
  FS n0 mb ab c fits w vf g k (((wr.setCell ⟨bo,0,none⟩ v0).setCell ⟨bo,1,none⟩ v1).setCell ⟨bo,2,none⟩ v2)/\(((wr.setCell ⟨bo,0,none⟩ v0).setCell ⟨bo,1,none⟩ v1).setCell ⟨bo,2,none⟩ v2).heap[bo]?=some (.cells #[v0,v1,v2] 141 (0,0))/\Kept n0 mb wr (((wr.setCell ⟨bo,0,none⟩ v0).setCell ⟨bo,1,none⟩ v1).setCell ⟨bo,2,none⟩ v2):=by
 have h1:=A8 (i:=0) hb v0;have h2:=A8 (i:=1) h1 v1;have h3:=A8 (i:=2) h2 v2;exact⟨((h.set hn hm hb ⟨by decide,by decide⟩ hz).set hn hm h1 ⟨by decide,by decide⟩ hz).set hn hm h2 ⟨by decide,by decide⟩ hz,h3,((Kept.set hb ⟨by decide,by decide⟩ (by omega)).trans (Kept.set h1 ⟨by decide,by decide⟩ (by omega))).trans (Kept.set h2 ⟨by decide,by decide⟩ (by omega))⟩
def arN (hv:FB c)(EC:ab=Au c.Aa)(WL:fits.length<=3)(hfs:∀f∈fits,f.length<=1000/\∀l∈f,l.length=c.Aa.length)(UE:∀i,i<c.Aa.length->(Ah c.Aa i).over.length<=1000):
  ∀(k i:Nat) (d:A4) (w:Zc) (v1 v2 v3 v4 v5:Ze) (T:Nat->Prop),i+k=fits.length->n0<=w.heap.size->mb<w.heap.size->oc c d->SF n0 mb w vf fits->RC T w v1 v2 v3 v4 v5 d->(∀b,T b->b<w.heap.size/\b≠mb)->GJ (FX n0 mb ab c fits) mb w->
   Calls Lp 105 #[.agg #[vf,.map (some mb)],.agg #[v1,v2,v3,v4,v5,I .u8 (ab 0),I .u8 (ab 1),I .u8 (ab 2)],.int J i] w fun e w'=>∃v,e=.returned v/\Cj mb w w'/\LM n0 mb w' v (GI ab (fits.drop i) d)/\GJ (FX n0 mb ab c fits) mb w':=by
 intro k
 induction k with
 |zero=>
  intro i d w v1 v2 v3 v4 v5 T xx NG GN hD hF hR hT hM;have hi:i=fits.length:=by omega
  subst hi;obtain⟨a1,c1,rfl,l1,m1⟩:=hR.base.val;obtain⟨a2,c2,rfl,l2,m2⟩:=hR.Af.val;obtain⟨a3,c3,rfl,l3,m3⟩:=hR.hooks.val;obtain⟨a4,c4,rfl,l4,m4⟩:=hR.Aa.val;obtain⟨a5,c5,rfl,l5,m5⟩:=hR.now.val;obtain⟨af,lp,rfl,lf,mf⟩:=hF.val;have Gx:=CI;clear EC;go_enter Lp.func105,aiW;go_wp2;refine ZU (v:=.agg #[U none 0 0,.int J 0,.bool true]) (by rw[A6 rfl];go_simp) rfl ?_;have e1:fits.drop fits.length=[]:=Zz.2 (Zj _);have hB:Bl w (((w.alloc (.cells #[U af fits.length lp,.map (some mb)] 134)).alloc (.cells (Bj (U a1 d.base.length c1) (U a2 d.Af.length c2) (U a3 d.hooks.length c3) (U a4 d.Aa.length c4) (U a5 d.now.length c5) ab) 112)).alloc (.cells #[U none 0 0,.int J 0,.bool true] 141)):=bA (bA (bA (Zg _ _)));exact⟨_,rfl,(Cj.refl mb w).below hB,by rw[e1];exact⟨_,rfl,none,0,rfl,Zj _,Zn _,fun i x hx=>by cases hx⟩,hM.Aw (Kept.later hB) (hB.block _ GN)⟩
 |succ k ih=>
  intro i d w v1 v2 v3 v4 v5 T xx NG GN hD hF hR hT hM;obtain⟨a1,c1,rfl,l1,m1⟩:=hR.base.val;obtain⟨a2,c2,rfl,l2,m2⟩:=hR.Af.val;obtain⟨a3,c3,rfl,l3,m3⟩:=hR.hooks.val;obtain⟨a4,c4,rfl,l4,m4⟩:=hR.Aa.val;obtain⟨a5,c5,rfl,l5,m5⟩:=hR.now.val;obtain⟨af,lp,rfl,lf,mf⟩:=hF.val;have Gx:=CI;have m_:i<fits.length:=by omega
  have aAI:((i:Int)==(fits.length:Int))=false:=by simp;omega
  have HAB:=Zb EC;clear EC;go_enter Lp.func105,aiW;go_wp2;obtain⟨W,hW⟩:∃W:Zc,W=((((w.alloc (.cells #[U af fits.length lp,.map (some mb)] 134)).alloc (.cells (Bj (U a1 d.base.length c1) (U a2 d.Af.length c2) (U a3 d.hooks.length c3) (U a4 d.Aa.length c4) (U a5 d.now.length c5) ab) 112)).alloc (.cells #[U none 0 0,.int J 0,.bool false] 141)).alloc (.cells (Fg (i,(0,0,0),0,0,0)) 213)):=⟨_,rfl⟩;change Code.wp _ _ _ _ ((((w.alloc (.cells #[U af fits.length lp,.map (some mb)] 134)).alloc (.cells (Bj (U a1 d.base.length c1) (U a2 d.Af.length c2) (U a3 d.hooks.length c3) (U a4 d.Aa.length c4) (U a5 d.now.length c5) ab) 112)).alloc (.cells #[U none 0 0,.int J 0,.bool false] 141)).alloc (.cells (Fg (i,(0,0,0),0,0,0)) 213));rw[<-hW];have hFS:FS n0 mb ab c fits w (U af fits.length lp) (Bj (U a1 d.base.length c1) (U a2 d.Af.length c2) (U a3 d.hooks.length c3) (U a4 d.Aa.length c4) (U a5 d.now.length c5) ab) (i,(0,0,0),0,0,0) W:=by
   have hB:Bl w W:=by rw[hW];exact bA (bA (bA (bA (Zg _ _))))
   obtain⟨es,clk,hmm⟩:=hM.is;refine⟨(Cj.refl mb w).below hB,?_,?_,?_,?_,Kept.later hB,hM.Aw (Kept.later hB) (hB.block _ GN)⟩
   .rw[hW];exact Bo (Bo (Bo (Bt _ _) _) _) _
   .rw[hW];exact Bo (Bo (IJ _ _ _) _) _
   .rw[hW];exact Bo (by have:=IJ (w.alloc (.cells #[U af fits.length lp,.map (some mb)] 134)) (.cells (Bj (U a1 d.base.length c1) (U a2 d.Af.length c2) (U a3 d.hooks.length c3) (U a4 d.Aa.length c4) (U a5 d.now.length c5) ab) 112) (.cells #[U none 0 0,.int J 0,.bool false] 141);rwa[ZG]at this) _
   .rw[hW]
    have:=IJ ((w.alloc (.cells #[U af fits.length lp,.map (some mb)] 134)).alloc (.cells (Bj (U a1 d.base.length c1) (U a2 d.Af.length c2) (U a3 d.hooks.length c3) (U a4 d.Aa.length c4) (U a5 d.now.length c5) ab) 112)) (.cells #[U none 0 0,.int J 0,.bool false] 141) (.cells (Fg (i,(0,0,0),0,0,0)) 213);rwa[ZG,ZG]at this
  clear hW;obtain⟨b5,o5,rfl,wD,hk5⟩:=hR.now.at_ (i:=0) (by rw[hD.now];exact hv.few.1);have hcn:W.cell? ⟨w.heap.size+1,4,none⟩=some (U (some ⟨b5,o5,none⟩) d.now.length c5):=ch hFS.Vd rfl;go_still_tail 5,(by kernel_rfl);change wpList _ _ _ _ _ W.drew;have HNL:=Zb (show d.now.length=c.Aa.length from hD.now);have hn3:d.now.length<=3:=by have:=HNL.out;have:=hv.few;omega
  have oa:1<=d.now.length:=by have:=HNL.out;have:=hv.few;omega
  have I9:=hv.few;have HDL:=Zb hD.len;have po:d.Aa.length<=3:=by have:=HDL.out;omega
  refine wpList_copy_own (P:=Lp) rfl (.tmp 28) (.tmp 31) 22 22 rfl 3 (CG Yg) (by kernel_rfl) (w.heap.size+1+1+1) 1 3 3 ⟨b5,o5,none⟩ d.now.length c5 rfl rfl (Fg (i,(0,0,0),0,0,0)) 213 hFS.key (d.now.map (ZS J)) (by rw[Zbz];exact(Nat.min_eq_left (by omega)).symm) (fun j v hj=>?_) (by simp[Fg];omega) (by intro v hv;obtain⟨x,_,rfl⟩:=Zby.1 hv;rfl) ?_
  .rw[zU]at hj
   cases hx:d.now[j]? with
   |none=>rw[hx]at hj;cases hj
   |some x=>
    rw[hx]at hj;cases hj;have AA:j<d.now.length:=(Zl.1 hx).1;obtain⟨b',o',e,GZ,hc⟩:=hR.now.at_ AA;cases e;have jP:nth d.now j=x:=by
     have:=A_ AA;rw[hx]at this;exact(ZK this).symm
    rw[show(⟨b5,o5,none⟩:Addr).add j=⟨b5,o5+j,none⟩ by unfold Zcz;split<;>simp_all, <-jP];have:W.drew.cell? ⟨b5,o5+j,none⟩=w.cell? ⟨b5,o5+j,none⟩:=by
     unfold zG;rw[show W.drew.heap[b5]?=w.heap[b5]? from hFS.Cg.block b5 (hT b5 wD).1 (hT b5 wD).2]
    rw[this];exact hc
  rw[show(Fg ((i:Int),(0,0,0),0,0,0)).toList=[.int J i,.int J 0,.int J 0,.int J 0,.int J 0,.int J 0,.int J 0] from rfl,ye _ _ (by omega) (by omega)];obtain⟨W5,JO⟩:∃W5,W5=W.drew.setRow (w.heap.size+1+1+1) (Fg (Vg i d 0)):=⟨_,rfl⟩;have U6:FS n0 mb ab c fits w (U af fits.length lp) (Bj (U a1 d.base.length c1) (U a2 d.Af.length c2) (U a3 d.hooks.length c3) (U a4 d.Aa.length c4) (U (some ⟨b5,o5,none⟩) d.now.length c5) ab) (Vg i d 0) W5:=by
   have Jd:=hFS.later GN (Zg W.heap.size W).drew;rw[JO];refine Jd.stage NG GN ?_ (Kept.row Jd.key ⟨by decide,by decide⟩ (by omega)) (setRow_heap _ _ _ _ _ _ Jd.key);exact⟨rfl,rfl,rfl,by simp[World.setRow],fun k _ hk=>setRow_other _ _ _ _ (fun e=>hk (by omega))⟩
  change wpList _ _ _ _ _ (W.drew.setRow (w.heap.size+1+1+1) (Fg (Vg i d 0)));rw[<-JO];clear JO hFS hcn hk5;have g3:=ch (i:=3) U6.Vd (v:=.slice a4 d.Aa.length c4) rfl;go_wp2;clear g3;go_loopg [37] d.Aa.length (fun g v wr=>∃j:Nat,j<=d.Aa.length/\g=d.Aa.length - j/\v=.int J j/\FS n0 mb ab c fits w (U af fits.length lp) (Bj (U a1 d.base.length c1) (U a2 d.Af.length c2) (U a3 d.hooks.length c3) (U a4 d.Aa.length c4) (U (some ⟨b5,o5,none⟩) d.now.length c5) ab) (Vg i d j) wr)
  case atStart=>exact⟨0,Zn _,rfl,rfl,U6⟩
  case round=>
   obtain⟨j,hj,rfl,rfl,NH⟩:=hrel;by_cases AA:j<d.Aa.length
   .obtain⟨b,o,s2,s3,rfl,hb,x0,x1,x2,x3,x4,hp,ho⟩:=hR.Aa.at_ (i:=j) AA
    have Gj:∀q v,w.cell? ⟨b,q,none⟩=some v->wr.cell? ⟨b,q,none⟩=some v:=fun q v h=>by
     unfold zG at h⊢;rw[show wr.heap[b]?=w.heap[b]? from NH.Cg.block b (hT b hb).1 (hT b hb).2];exact h
    replace x0:=Gj _ _ x0;replace x1:=Gj _ _ x1;replace x2:=Gj _ _ x2;replace x3:=Gj _ _ x3;replace x4:=Gj _ _ x4;obtain⟨p2,q2,rfl,_⟩:=hp.val;obtain⟨p3,q3,rfl,_⟩:=ho.val;have kk:=ch (i:=4+j) NH.key (v:=.int J 0) (yd (by omega));have ff:=cf (i:=4+j) NH.key;have hj3:(j:Int)<3:=by omega
    have Sa:w.heap.size+1+1+1<wr.heap.size:=(Za.1 NH.key).1;clear Gj hp ho;go_wp2;go_roundg (d.Aa.length - (j+1))
    case rel=>
     refine⟨j+1,AA,rfl,by go_num,?_⟩;refine FS.later (NH.stage NG GN ((Am.refl _ _).set rfl) (Kept.set NH.key ⟨by decide,by decide⟩ (show n0<=w.heap.size+1+1+1 by omega)) ?_) GN (bA (Zg _ _));rw[<-tI (show j<3 by omega)];exact A8 NH.key _
    case measure=>omega
   .have hjn:j=d.Aa.length:=by omega
    subst hjn;rw[tH rfl po]at NH;have eR:=NH.key;have k0:=ch (i:=0) eR (v:=.int J i) rfl;have k1:=ch (i:=1) eR (v:=.int J (nth d.now 0)) rfl;have k2:=ch (i:=2) eR (v:=.int J (nth d.now 1)) rfl;have k3:=ch (i:=3) eR (v:=.int J (nth d.now 2)) rfl;have k4:=ch (i:=4) eR (v:=.int J (Ah d.Aa 0).left) rfl;have k5:=ch (i:=5) eR (v:=.int J (Ah d.Aa 1).left) rfl;have k6:=ch (i:=6) eR (v:=.int J (Ah d.Aa 2).left) rfl;have m1':=ch (i:=1) NH.sea (v:=.map (some mb)) rfl;have Sa:w.heap.size+1+1+1<wr.heap.size:=(Za.1 NH.key).1;have EI:w.heap.size+1+1<wr.heap.size:=(Za.1 NH.res).1;have r0:=ch (i:=0) NH.res (v:=.slice none 0 0) rfl;have r1:=ch (i:=1) NH.res (v:=.int J 0) rfl;have r2:=ch (i:=2) NH.res (v:=.bool false) rfl;have rf0:=cf (i:=0) NH.res;have rf1:=cf (i:=1) NH.res;have rf2:=cf (i:=2) NH.res;rcases xN NH.map (Nx i d) with h1|⟨v,h1,k',e,hg⟩
    .have H1:=h1
     simp only[DI,Nx]at H1;clear h1;obtain⟨bf,of_,uf,rfl,hbf,hcf,yg⟩:=hF.at_ m_;obtain⟨f,hf⟩:∃f,f=tq fits i:=⟨_,rfl⟩;rw[<-hf]at yg;have HF:=Zb hf;obtain⟨af,cq,rfl,lq,mq⟩:=Sl.val yg;have kf:=NH.kept.cell hbf hcf;have kh:=ch (i:=0) NH.sea (v:=.slice (some ⟨bf,of_,none⟩) fits.length lp) rfl;have aAL:(i:Int)<(fits.length:Int):=by omega
     have Fo:w.heap.size<wr.heap.size:=by omega
     have iu:w.heap.size<wr.heap.size+1:=by omega
     have hzb:bf<wr.heap.size:=Zy wr _ kf;have arS:bf<wr.heap.size+1:=by omega
     clear hcf hf;go_wp2;obtain⟨W,hW⟩:∃W:Zc,W=(wr.alloc (.cells #[U none 0 0,.int J 0,.bool false] 141)).alloc (.cells #[U none 0 0,.int J 0,.bool false] 141):=⟨_,rfl⟩;have hFW:FS n0 mb ab c fits w (U (some ⟨bf,of_,none⟩) fits.length lp) (Bj (U a1 d.base.length c1) (U a2 d.Af.length c2) (U a3 d.hooks.length c3) (U a4 d.Aa.length c4) (U (some ⟨b5,o5,none⟩) d.now.length c5) ab) (Nx i d) W:=by rw[hW];exact NH.later GN (bA (bA (Zg _ _)))
     have hOut:W.heap[wr.heap.size+1]?=some (.cells #[U none 0 0,.int J 0,.bool false] 141 (0,0)):=by rw[hW];exact IJ _ _ _
     have hLW:LL n0 mb W (U af f.length cq) f:=yg.Aw (NH.kept.trans (by rw[hW];exact Kept.later (bA (bA (Zg _ _)))));rw[<-hW];obtain⟨bo,hbo⟩:∃bo,bo=wr.heap.size+1:=⟨_,rfl⟩;have hbz:w.heap.size+1+1+1<bo:=by omega
     rw[<-hbo]at hOut⊢;clear hW hbo k0 k1 k2 k3 k4 k5 k6 eR m1' r0 r1 r2 rf0 rf1 rf2 kf kh Fo iu hzb arS EI Sa H1 NH U6 hLW;have arT:f.length<=1000/\∀l∈f,l.length=c.Aa.length:=by rw[HF.out];exact hfs _ (Z8 (Ud m_))
     have HSF:=Zb (show f.foldl (DT ab d (GI ab (fits.drop (i+1)))) none=GI ab (fits.drop i) d by rw[ajI m_, <-HF.out];rfl);go_loopg [63] f.length (fun g v wx=>∃(j:Nat) (r:Option (List (List Int)×Int)) (u:Ze) (n:Int) (s:Bool),j<=f.length/\g=f.length - j/\v=.int J j/\(f.drop j).foldl (DT ab d (GI ab (fits.drop (i+1)))) r=GI ab (fits.drop i) d/\
      FS n0 mb ab c fits w (U (some ⟨bf,of_,none⟩) fits.length lp) (Bj (U a1 d.base.length c1) (U a2 d.Af.length c2) (U a3 d.hooks.length c3) (U a4 d.Aa.length c4) (U (some ⟨b5,o5,none⟩) d.now.length c5) ab) (Nx i d) wx/\wx.heap[bo]?=some (.cells #[u,.int J n,.bool s] 141 (0,0))/\LM n0 mb wx (.agg #[u,.int J n,.bool s]) r)
     case atStart=>exact⟨0,none,_,_,_,Zn _,rfl,rfl,HSF.out,hFW,hOut,rfl⟩
     case round=>
      obtain⟨j,r,u,n,s,hj,rfl,rfl,Cn,Wo,Il,hrx⟩:=hrel;have Uj:=Zb Cn;clear Cn;by_cases AA:j<f.length
      .obtain⟨x1,x2,x3,x4,x5,e,h5,h6,h7⟩:=hrx.val
       have H5:=Zb h5;clear h5 h6 h7;cases e;have ot:LL n0 mb wr (U af f.length cq) f:=yg.Aw Wo.kept;obtain⟨b,o,ul,rfl,hb,hc,hu⟩:=SL.at_ ot AA;have Rx:(Cu f j).length=c.Aa.length:=arT.2 _ (Z8 (C2 AA));have HFD:=Zb (iJ (g:=DT ab d (GI ab (fits.drop (i+1)))) (a:=r) AA);obtain⟨l,hl⟩:∃l,l=Cu f j:=⟨_,rfl⟩;rw[<-hl]at hu Rx HFD;have lj:=Zb Rx;have Nn:l.length<=3:=by omega
       clear hl Rx;obtain⟨al,cl,rfl,ll1,ll2⟩:=hu.val;have haL:∀j,ab j<2^c.Aa.length:=by rw[HAB.out];exact Mf hv.over
       have ha8:∀j,j<3->ab j<8:=by rw[HAB.out];exact PQ hv.over
       obtain⟨t,ht⟩:∃t,t=Cb ab d.now l:=⟨_,rfl⟩;have O2:t<2^c.Aa.length:=by rw[ht];exact Kb haL l 0 0 (by have:=lj.out;omega) (ZdA _)
       have eL:t<8:=Zm O2 (show 2^c.Aa.length<=2^3 from Zbm (by decide) I9.2);have TZ:∀x,x∈Av t->0<=x/\x<d.Aa.length:=by rw[HDL.out];exact OH O2
       have hRr:∀W,Bl wr W->RC (fun b=>T b\/LS n0 mb W b) W (U a1 d.base.length c1) (U a2 d.Af.length c2) (U a3 d.hooks.length c3) (U a4 d.Aa.length c4) (U (some ⟨b5,o5,none⟩) d.now.length c5) d:=fun W hB=>
        ((hR.Aw fun b hb _=>Wo.Cg.block b (hT b hb).1 (hT b hb).2).Aw fun b hb hl=>hB.block b hl).imp fun b hb=>.inl hb
       have huW:∀W,Bl wr W->SI (fun b=>T b\/LS n0 mb W b) W (U al l.length cl) l:=fun W hB=>Sl.imp (hu.Aw (fun b hb hl=>hB.block b hl)) (fun b hb=>.inr (hb.Aw (Kept.later hB))) (fun _ _ x=>x);have jS:∀W,Bl wr W->∀b,T b\/LS n0 mb W b->b<W.heap.size:=fun W hB b hb=>by
        rcases hb with hb|hb
        .have:=(hT b hb).1;have:=Wo.Cg.size;have:=hB.size;omega
        .exact hb.lt
       have arU:l.length<=d.now.length:=by have:=HNL.out;have:=lj.out;omega
       have Rj:=Zb (c90 (l:=l) (ab:=ab) (hRr wr (Zg _ _)) (huW wr (Zg _ _)) arU hn3 ha8 (by rw[<-ht];exact TZ) (jS wr (Zg _ _)));rw[<-ht]at Rj;have kc:=hc;have g0:=ch (i:=0) Wo.Vd (v:=.slice a1 d.base.length c1) rfl;have g1:=ch (i:=1) Wo.Vd (v:=.slice a2 d.Af.length c2) rfl;have g2:=ch (i:=2) Wo.Vd (v:=.slice a3 d.hooks.length c3) rfl;have g3:=ch (i:=3) Wo.Vd (v:=.slice a4 d.Aa.length c4) rfl;have g4:=ch (i:=4) Wo.Vd (v:=.slice (some ⟨b5,o5,none⟩) d.now.length c5) rfl;have g5:=ch (i:=5) Wo.Vd (v:=.int .u8 (ab 0)) rfl;have g6:=ch (i:=6) Wo.Vd (v:=.int .u8 (ab 1)) rfl;have g7:=ch (i:=7) Wo.Vd (v:=.int .u8 (ab 2)) rfl;have HT:=Zb ht;have aAO:(j:Int)<(f.length:Int):=by omega
       cases mA:J_ d t with
       |some x=>
        rw[mA]at Rj;change Hid (Calls Lp 90 _ _ fun e w'=>e=.returned (.tuple #[I .u8 0,.iface 121 (.agg #[.int J x])])/\Bl wr w') at Rj;have vg:=Zb (show DT ab d (GI ab (fits.drop (i+1))) r l=r by unfold DT;rw[<-HT.out,mA]);clear mA ht;go_wp2_with (go_at_call 90;refine Rj.out.mono ?_;rintro e w1 ⟨rfl,Bb⟩);go_roundg (f.length - (j+1))
        case rel=>
         exact⟨j+1,r,_,_,_,AA,rfl,by go_num,by rw[<-Uj.out,HFD.out,vg.out],Wo.later GN Bb,(Bb.block bo (Za.1 Il).1).trans Il,hrx.Aw (Kept.later Bb)⟩
        case measure=>omega
       |none=>
        rw[mA]at Rj;change Hid (Calls Lp 90 _ _ fun e w'=>e=.returned (.tuple #[I .u8 t,.nilIface])/\Bl wr w') at Rj;have HSW:=Zb mA;clear mA ht;go_wp2_with (go_at_call 90;refine Rj.out.mono ?_;rintro e w1 ⟨rfl,Bb⟩);have Wa:=Wo.later GN Bb;have s0:=fun p=>Cm (q:=mb) p (ch (i:=0) Wa.sea (v:=.slice (some ⟨bf,of_,none⟩) fits.length lp) rfl) (show w.heap.size≠mb by omega);have s1:=fun p=>Cm (q:=mb) p (ch (i:=1) Wa.sea (v:=.map (some mb)) rfl) (show w.heap.size≠mb by omega);have e0:=fun p=>Cm (q:=mb) p (ch (i:=0) Wa.Vd (v:=.slice a1 d.base.length c1) rfl) (show w.heap.size+1≠mb by omega);have e1:=fun p=>Cm (q:=mb) p (ch (i:=1) Wa.Vd (v:=.slice a2 d.Af.length c2) rfl) (show w.heap.size+1≠mb by omega);have e2:=fun p=>Cm (q:=mb) p (ch (i:=2) Wa.Vd (v:=.slice a3 d.hooks.length c3) rfl) (show w.heap.size+1≠mb by omega);have e3:=fun p=>Cm (q:=mb) p (ch (i:=3) Wa.Vd (v:=.slice a4 d.Aa.length c4) rfl) (show w.heap.size+1≠mb by omega);have e4:=fun p=>Cm (q:=mb) p (ch (i:=4) Wa.Vd (v:=.slice (some ⟨b5,o5,none⟩) d.now.length c5) rfl) (show w.heap.size+1≠mb by omega);have e5:=fun p=>Cm (q:=mb) p (ch (i:=5) Wa.Vd (v:=.int .u8 (ab 0)) rfl) (show w.heap.size+1≠mb by omega);have e6:=fun p=>Cm (q:=mb) p (ch (i:=6) Wa.Vd (v:=.int .u8 (ab 1)) rfl) (show w.heap.size+1≠mb by omega);have e7:=fun p=>Cm (q:=mb) p (ch (i:=7) Wa.Vd (v:=.int .u8 (ab 2)) rfl) (show w.heap.size+1≠mb by omega);have Rq:mb<w1.heap.size:=by have:=Wa.Cg.size;omega
        clear g0 g1 g2 g3 g4 g5 g6 g7 kc hc;refine Hh (S:=fun W=>∃p,W=TR w1 mb p) [0,1,2,3,5,6] 4 #[true,true,true,true,false,true,true,false,false,false] (by kernel_rfl) (fun _ _ d _ _ h=>by cases d<;>exact h) (by kernel_rfl) (BO ((Cj.refl mb w1).below (Zg _ _).drew) Rq) ?_;refine Lz [0,1,2,3,5] [6] _ ?_;refine Br _ _ (by kernel_rfl) ?_;simp only[zr,zL,Z1,ZQ,ZP]
        repeat (first|go_big_quiet_step (fail)|quiet_step (fail))
        refine zD ?_;refine CJ (v:=.int J ((i:Int)+1)) rfl rfl (fun w _=>by go_simp;exact wrap_small (by omega)) ?_;clear s0 s1 e0 e1 e2 e3 e4 e5 e6 e7;change CH _ _ _ _ _ _ _ _ _;have sM:∀W,Bl wr W->Calls Lp 92 #[.agg #[U a1 d.base.length c1,U a2 d.Af.length c2,U a3 d.hooks.length c3,U a4 d.Aa.length c4,U (some ⟨b5,o5,none⟩) d.now.length c5,I .u8 (ab 0),I .u8 (ab 1),I .u8 (ab 2)],U al l.length cl,I .u8 t] W (ajq W (ab 0) (ab 1) (ab 2) (Ea d l t)):=fun W hB=>c92 (hRr W hB) (huW W hB) (jS W hB) eL TZ (fun i hi=>by have:=hD.left i (by have:=HDL.out;omega);omega) (by rw[hD.base];have:=hv.EG;omega) (by rw[hD.Af];have:=hv.EG;have:=hv.QG;omega) (by rw[hD.hooks];have:=hv.EG;have:=hv.hooks;omega) (by omega) (by have:=HDL.out;omega) (by omega) (fun i hi=>by
         have Da:i<c.Aa.length:=by have:=HDL.out;omega
         obtain⟨q1,q2,_⟩:=hD.rest i Da;rw[q1,q2];have:=hv.Ak i Da;have:=UE i Da;omega) (by omega) (ab 0) (ab 1) (ab 2)
        have hDw:oc c (Ea d l t):=hD.adI lj.out TZ HSW.out;have vg:=Zb (show DT ab d (GI ab (fits.drop (i+1))) r l=(match GI ab (fits.drop (i+1)) (Ea d l t) with
         |none=>r
         |some p=>if Mj ((Av t).length+p.2) r=true then some (l::p.1,(Av t).length+p.2) else r) by unfold DT;rw[<-HT.out,HSW.out];rfl)
        have Uk:∀(W:Zc) (hB:Bl w1 W) {u1 u2 u3 u4 u5:Ze},RC (Cf w1.heap.size W) W u1 u2 u3 u4 u5 (Ea d l t)->Calls Lp 105 #[.agg #[U (some ⟨bf,of_,none⟩) fits.length lp,.map (some mb)],.agg #[u1,u2,u3,u4,u5,I .u8 (ab 0),I .u8 (ab 1),I .u8 (ab 2)],.int J ((i+1:Nat):Int)] W (fun e w'=>∃v,e=.returned v/\Cj mb W w'/\LM n0 mb w' v (GI ab (fits.drop (i+1)) (Ea d l t))/\GJ (FX n0 mb ab c fits) mb w'):=fun W hB u1 u2 u3 u4 u5 hR=>by
         have oD:=Wa.later GN hB;have h1:=oD.Cg.size;exact ih (i+1) (Ea d l t) W _ _ _ _ _ (Cf w1.heap.size W) (by omega) (by omega) (by omega) hDw (hF.Aw oD.kept) hR (fun b hb=>⟨hb.2,by have h2:=hb.1;omega⟩) oD.map
        have ael:∀q,w1.heap.size<=q->q≠mb:=fun q h=>by omega
        have awb:bo<w1.heap.size:=Zm (Za.1 Il).1 Bb.size;have aAQ:w.heap.size+1+1+1<w1.heap.size:=by omega
        refine AM [4,8] (by kernel_rfl) (by simp) (II ?gA ?gB)
        case' gB=>
         have uH:Bl w1 (w1.drew.alloc (.cells #[U none 0 0,.int J 0,.bool false] 141)):=bA (Zg _ _).drew;have XL:(w1.drew.alloc (.cells #[U none 0 0,.int J 0,.bool false] 141)).heap[w1.heap.size]?=some (.cells #[U none 0 0,.int J 0,.bool false] 141 (0,0)):=Bt w1.drew _;refine Fe (v:=.pointer (some ⟨w1.heap.size,0,none⟩)) (w':=w1.drew.alloc (.cells #[U none 0 0,.int J 0,.bool false] 141)) rfl rfl (by go_simp) ?_;refine⟨BO ((Cj.refl mb w1).below uH) Rq,?_⟩;refine AM [4] (by kernel_rfl) (by simp) (BL ?_);refine DS (f:=92) (args:= #[.agg #[U a1 d.base.length c1,U a2 d.Af.length c2,U a3 d.hooks.length c3,U a4 d.Aa.length c4,U (some ⟨b5,o5,none⟩) d.now.length c5,I .u8 (ab 0),I .u8 (ab 1),I .u8 (ab 2)],U al l.length cl,I .u8 t]) rfl rfl (by go_simp) ((sM _ (Bb.trans (uH.mono Bb.size))).mono ?_);rintro e w2 ⟨z1,z2,z3,z4,z5,rfl,AW,iV⟩;obtain⟨p1,t1,rfl,_⟩:=iV.base.val;obtain⟨p2,t2,rfl,_⟩:=iV.Af.val;obtain⟨p3,t3,rfl,_⟩:=iV.hooks.val;obtain⟨p4,t4,rfl,_⟩:=iV.Aa.val;obtain⟨p5,t5,rfl,_⟩:=iV.now.val;have MK:Bl w1 w2:=uH.trans (AW.mono uH.size);refine .inl ⟨_,rfl,BO ((Cj.refl mb w1).below MK) Rq,?_⟩;refine AM [7] (by kernel_rfl) (by simp) (BL ?_);have oD:=Wa.later GN MK;have xU:RC (Cf w1.heap.size w2) w2 _ _ _ _ _ (Ea d l t):=(RC.imp iV (fun b (hb:Cf (w1.drew.alloc _).heap.size w2 b)=>Cf.mono (Zj _) (by simp) hb));refine DS (f:=105) rfl rfl (by go_simp) ((Uk w2 MK xU).mono ?_);rintro e w3 ⟨v,rfl,Ho,dS,g8⟩;obtain⟨y1,y2,y3,y4,y5,rfl,hy5,hy6,hy7⟩:=dS.val;have TQ:=oD.step GN Ho g8;have Rm:Cj mb w1 w3:=(Cj.refl mb w1).below MK|>.trans Ho;have Ep:Kept n0 mb wr w3:=(Kept.later (Bb.trans (MK.mono Bb.size))).trans (Kept.X_ Ho oD.map.is);have iW:w3.heap[bo]?=some (.cells #[U x1 x2 x3,.int J n,.bool s] 141 (0,0)):=by
          have h1:=((Bb.trans (MK.mono Bb.size)).block bo (Za.1 Il).1).trans Il;exact(Ho.block bo (Za.1 h1).1 (by omega)).trans h1
         refine .inl ⟨_,rfl,BO Rm Rq,?_⟩;have JH:w3.heap[w1.heap.size]?=some (.cells #[U none 0 0,.int J 0,.bool false] 141 (0,0)):=by
          have h1:=(AW.block _ (Za.1 XL).1).trans XL;exact(Ho.block _ (Za.1 h1).1 (ael _ (Zj _))).trans h1
         obtain⟨q,hq⟩:∃q,q=w1.heap.size:=⟨_,rfl⟩;rw[<-hq]at JH⊢;have dT:w1.heap.size<=q:=by omega
         refine AM [9] (by kernel_rfl) (by simp) (BL ?_);clear hq;have qf0:=cf (i:=0) JH;have qc0:=ch (i:=0) JH (v:=.slice none 0 0) rfl;have qc1:=ch (i:=1) JH (v:=.int J 0) rfl;have qc2:=ch (i:=2) JH (v:=.bool false) rfl;have qf1:=cf (i:=1) JH;have qf2:=cf (i:=2) JH;obtain⟨W4,ER⟩:∃W4,W4=((w3.setCell ⟨q,0,none⟩ (U y1 y2 y3)).setCell ⟨q,1,none⟩ (.int J y4)).setCell ⟨q,2,none⟩ (.bool y5):=⟨_,rfl⟩;refine Se (w':=W4) rfl rfl (by rw[ER];go_simp) ?_;have U_:Cj mb w1 W4:=by rw[ER];exact((Rm.Ed dT).Ed dT).Ed dT
         refine⟨BO U_ Rq,rfl,?_⟩;have Kz:Kept n0 mb wr W4:=by
          have QD:=A8 (i:=0) JH (U y1 y2 y3);have O3:=A8 (i:=1) QD (.int J y4);rw[ER];exact((Ep.trans (Kept.set JH ⟨by decide,by decide⟩ (by omega))).trans (Kept.set QD ⟨by decide,by decide⟩ (by omega))).trans (Kept.set O3 ⟨by decide,by decide⟩ (by omega))
         have Jd:=((TQ.set NG GN (j:=0) (v:=.slice y1 y2 y3) JH ⟨by decide,by decide⟩ (by omega)).set NG GN (j:=1) (v:=.int J y4) (A8 (i:=0) JH _) ⟨by decide,by decide⟩ (by omega)).set NG GN (j:=2) (v:=.bool y5) (A8 (i:=1) (A8 (i:=0) JH _) _) ⟨by decide,by decide⟩ (by omega);rw[<-ER]at Jd;have dU:bo≠q:=by omega
         have P6:W4.heap[bo]?=some (.cells #[U x1 x2 x3,.int J n,.bool s] 141 (0,0)):=by rw[ER];exact(AY dU _).trans ((AY dU _).trans ((AY dU _).trans iW))
         have dV:W4.heap[q]?=some (.cells #[U y1 y2 y3,.int J y4,.bool y5] 141 (0,0)):=by rw[ER];exact A8 (A8 (A8 JH _) _) _
         have Wp:=dS.Aw (show Kept n0 mb w3 W4 by
          have QD:=A8 (i:=0) JH (U y1 y2 y3);have O3:=A8 (i:=1) QD (.int J y4);rw[ER];exact((Kept.set JH ⟨by decide,by decide⟩ (by omega)).trans (Kept.set QD ⟨by decide,by decide⟩ (by omega))).trans (Kept.set O3 ⟨by decide,by decide⟩ (by omega)))
         clear qf0 qf1 qf2 qc0 qc1 qc2 JH U_
        case' gA=>
         have uH:Bl w1 w1.drew:=(Zg _ _).drew;refine DS (f:=92) (args:= #[.agg #[U a1 d.base.length c1,U a2 d.Af.length c2,U a3 d.hooks.length c3,U a4 d.Aa.length c4,U (some ⟨b5,o5,none⟩) d.now.length c5,I .u8 (ab 0),I .u8 (ab 1),I .u8 (ab 2)],U al l.length cl,I .u8 t]) rfl rfl (by go_simp) ((sM _ (Bb.trans (uH.mono Bb.size))).mono ?_);rintro e w2 ⟨z1,z2,z3,z4,z5,rfl,AW,iV⟩;obtain⟨p1,t1,rfl,_⟩:=iV.base.val;obtain⟨p2,t2,rfl,_⟩:=iV.Af.val;obtain⟨p3,t3,rfl,_⟩:=iV.hooks.val;obtain⟨p4,t4,rfl,_⟩:=iV.Aa.val;obtain⟨p5,t5,rfl,_⟩:=iV.now.val;have MK:Bl w1 w2:=uH.trans (AW.mono uH.size);refine .inl ⟨_,rfl,BO ((Cj.refl mb w1).below MK) Rq,?_⟩;refine AM [7,8] (by kernel_rfl) (by simp) (II ?hA ?hB)
         case' hB=>
          have pk:Bl w1 (w2.alloc (.cells #[U none 0 0,.int J 0,.bool false] 141)):=bA MK;have XL:(w2.alloc (.cells #[U none 0 0,.int J 0,.bool false] 141)).heap[w2.heap.size]?=some (.cells #[U none 0 0,.int J 0,.bool false] 141 (0,0)):=Bt w2 _;refine Fe (v:=.pointer (some ⟨w2.heap.size,0,none⟩)) (w':=w2.alloc (.cells #[U none 0 0,.int J 0,.bool false] 141)) rfl rfl (by go_simp) ?_;refine⟨BO ((Cj.refl mb w1).below pk) Rq,?_⟩;refine AM [7] (by kernel_rfl) (by simp) (BL ?_);have oD:=Wa.later GN pk;have xU:RC (Cf w1.heap.size (w2.alloc (.cells #[U none 0 0,.int J 0,.bool false] 141))) (w2.alloc (.cells #[U none 0 0,.int J 0,.bool false] 141)) _ _ _ _ _ (Ea d l t):=(RC.imp (iV.later (bA (Zg w2.heap.size w2))) (fun b (hb:Cf w1.heap.size w2 b)=>Cf.mono (by simp) (Zj _) hb));refine DS (f:=105) rfl rfl (by go_simp) ((Uk (w2.alloc (.cells #[U none 0 0,.int J 0,.bool false] 141)) pk xU).mono ?_);rintro e w3 ⟨v,rfl,Ho,dS,g8⟩;obtain⟨y1,y2,y3,y4,y5,rfl,hy5,hy6,hy7⟩:=dS.val;have TQ:=oD.step GN Ho g8;have Rm:Cj mb w1 w3:=(Cj.refl mb w1).below pk|>.trans Ho;have Ep:Kept n0 mb wr w3:=(Kept.later (Bb.trans (pk.mono Bb.size))).trans (Kept.X_ Ho oD.map.is);have iW:w3.heap[bo]?=some (.cells #[U x1 x2 x3,.int J n,.bool s] 141 (0,0)):=by
           have h1:=((Bb.trans (pk.mono Bb.size)).block bo (Za.1 Il).1).trans Il;exact(Ho.block bo (Za.1 h1).1 (by omega)).trans h1
          refine .inl ⟨_,rfl,BO Rm Rq,?_⟩;have JH:w3.heap[w2.heap.size]?=some (.cells #[U none 0 0,.int J 0,.bool false] 141 (0,0)):=(Ho.block _ (Za.1 XL).1 (ael _ MK.size)).trans XL;obtain⟨q,hq⟩:∃q,q=w2.heap.size:=⟨_,rfl⟩;rw[<-hq]at JH⊢;have dT:w1.heap.size<=q:=by rw[hq];exact MK.size
          refine AM [9] (by kernel_rfl) (by simp) (BL ?_);clear hq;have qf0:=cf (i:=0) JH;have qc0:=ch (i:=0) JH (v:=.slice none 0 0) rfl;have qc1:=ch (i:=1) JH (v:=.int J 0) rfl;have qc2:=ch (i:=2) JH (v:=.bool false) rfl;have qf1:=cf (i:=1) JH;have qf2:=cf (i:=2) JH;obtain⟨W4,ER⟩:∃W4,W4=((w3.setCell ⟨q,0,none⟩ (U y1 y2 y3)).setCell ⟨q,1,none⟩ (.int J y4)).setCell ⟨q,2,none⟩ (.bool y5):=⟨_,rfl⟩;refine Se (w':=W4) rfl rfl (by rw[ER];go_simp) ?_;have U_:Cj mb w1 W4:=by rw[ER];exact((Rm.Ed dT).Ed dT).Ed dT
          refine⟨BO U_ Rq,rfl,?_⟩;have Kz:Kept n0 mb wr W4:=by
           have QD:=A8 (i:=0) JH (U y1 y2 y3);have O3:=A8 (i:=1) QD (.int J y4);rw[ER];exact((Ep.trans (Kept.set JH ⟨by decide,by decide⟩ (by omega))).trans (Kept.set QD ⟨by decide,by decide⟩ (by omega))).trans (Kept.set O3 ⟨by decide,by decide⟩ (by omega))
          have Jd:=((TQ.set NG GN (j:=0) (v:=.slice y1 y2 y3) JH ⟨by decide,by decide⟩ (by omega)).set NG GN (j:=1) (v:=.int J y4) (A8 (i:=0) JH _) ⟨by decide,by decide⟩ (by omega)).set NG GN (j:=2) (v:=.bool y5) (A8 (i:=1) (A8 (i:=0) JH _) _) ⟨by decide,by decide⟩ (by omega);rw[<-ER]at Jd;have dU:bo≠q:=by omega
          have P6:W4.heap[bo]?=some (.cells #[U x1 x2 x3,.int J n,.bool s] 141 (0,0)):=by rw[ER];exact(AY dU _).trans ((AY dU _).trans ((AY dU _).trans iW))
          have dV:W4.heap[q]?=some (.cells #[U y1 y2 y3,.int J y4,.bool y5] 141 (0,0)):=by rw[ER];exact A8 (A8 (A8 JH _) _) _
          have Wp:=dS.Aw (show Kept n0 mb w3 W4 by
           have QD:=A8 (i:=0) JH (U y1 y2 y3);have O3:=A8 (i:=1) QD (.int J y4);rw[ER];exact((Kept.set JH ⟨by decide,by decide⟩ (by omega)).trans (Kept.set QD ⟨by decide,by decide⟩ (by omega))).trans (Kept.set O3 ⟨by decide,by decide⟩ (by omega)))
          clear qf0 qf1 qf2 qc0 qc1 qc2 JH U_
         case' hA=>
          have oD:=Wa.later GN MK;have xU:RC (Cf w1.heap.size w2) w2 _ _ _ _ _ (Ea d l t):=iV;refine DS (f:=105) rfl rfl (by go_simp) ((Uk w2 MK xU).mono ?_);rintro e w3 ⟨v,rfl,Ho,dS,g8⟩;obtain⟨y1,y2,y3,y4,y5,rfl,hy5,hy6,hy7⟩:=dS.val;have TQ:=oD.step GN Ho g8;have Rm:Cj mb w1 w3:=(Cj.refl mb w1).below MK|>.trans Ho;have Ep:Kept n0 mb wr w3:=(Kept.later (Bb.trans (MK.mono Bb.size))).trans (Kept.X_ Ho oD.map.is);have iW:w3.heap[bo]?=some (.cells #[U x1 x2 x3,.int J n,.bool s] 141 (0,0)):=by
           have h1:=((Bb.trans (MK.mono Bb.size)).block bo (Za.1 Il).1).trans Il;exact(Ho.block bo (Za.1 h1).1 (by omega)).trans h1
          refine .inl ⟨_,rfl,BO Rm Rq,?_⟩;refine AM [8] (by kernel_rfl) (by simp) (BL ?_);refine Fe (v:=.pointer (some ⟨w3.heap.size,0,none⟩)) (w':=w3.alloc (.cells #[U none 0 0,.int J 0,.bool false] 141)) rfl rfl (by go_simp) ?_;refine⟨BO (Rm.below (bA (Zg _ _))) Rq,?_⟩;refine AM [9] (by kernel_rfl) (by simp) (BL ?_);refine Se (w':=w3.alloc (.cells #[U y1 y2 y3,.int J y4,.bool y5] 141)) rfl rfl (by go_simp) ?_;refine⟨BO (Rm.below (bA (Zg _ _))) Rq,rfl,?_⟩;obtain⟨W4,ER⟩:∃W4,W4=w3.alloc (.cells #[U y1 y2 y3,.int J y4,.bool y5] 141):=⟨_,rfl⟩;obtain⟨q,hq⟩:∃q,q=w3.heap.size:=⟨_,rfl⟩;have hBW:Bl w3 W4:=by rw[ER];exact bA (Zg _ _)
          have Jd:=TQ.later GN hBW;have Kz:Kept n0 mb wr W4:=Ep.trans (Kept.later hBW);have P6:W4.heap[bo]?=some (.cells #[U x1 x2 x3,.int J n,.bool s] 141 (0,0)):=(hBW.block bo (Za.1 iW).1).trans iW;have dV:W4.heap[q]?=some (.cells #[U y1 y2 y3,.int J y4,.bool y5] 141 (0,0)):=by rw[ER,hq];exact Bt _ _
          have dT:w1.heap.size<=q:=by rw[hq];exact Rm.size
          have dU:bo≠q:=by omega
          have Wp:=dS.Aw (Kept.later hBW);rw[<-ER, <-hq];clear hBW hq
        all_goals
         have yh:=hrx.Aw Kz;have hu4:SI (LS n0 mb W4) W4 (U al l.length cl) l:=Sl.imp (SI.Aw hu fun b hb _=>Kz b hb) (fun b hb=>hb.Aw Kz) (fun _ _ x=>x);clear ER dS Rm Ho g8 TQ oD xU Ep iW iV AW Kz Uk sM uH MK ael
         go_simp
         have c0:=ch (i:=0) dV (v:=.slice y1 y2 y3) rfl;have c1':=ch (i:=1) dV (v:=.int J y4) rfl;have c2':=ch (i:=2) dV (v:=.bool y5) rfl;have b0:=ch (i:=0) P6 (v:=.slice x1 x2 x3) rfl;have b1:=ch (i:=1) P6 (v:=.int J n) rfl;have b2:=ch (i:=2) P6 (v:=.bool s) rfl;have bf0:=cf (i:=0) P6;have bf1:=cf (i:=1) P6;have bf2:=cf (i:=2) P6;have yi:=Zb (fun W=>aq9 t eL W);obtain⟨nt,hnt⟩:∃nt,nt=(Av t).length:=⟨_,rfl⟩;have aAR:nt<=3:=by rw[hnt];exact JG t 3
         have Vh:=Zb vg.out;rw[<-hnt]at yi Vh;clear hnt vg;have kW:s=r.isSome:=H5.out;cases Qg:GI ab (fits.drop (i+1)) (Ea d l t) with
         |none=>
          rw[Qg]at hy5 hy7 Vh;obtain⟨_,_,_,rfl⟩:=hy7 rfl;have aem:y5=false:=hy5;subst aem;have oE:=Zb (show DT ab d (GI ab (fits.drop (i+1))) r l=r from Vh.out);clear Qg Vh hy5 hy6 hy7 Wp kW;go_wp2;go_quiet ((go_at_call 136;refine Zay (yi.out _)));go_wp2;go_roundg (f.length - (j+1))
          case rel=>exact⟨j+1,r,_,_,_,AA,rfl,by go_num,by rw[<-Uj.out,HFD.out,oE.out],Jd.later GN (zl (Zg _ _) nq),P6,yh⟩
          case measure=>omega
         |some p=>
          obtain⟨pl,pn⟩:=p;rw[Qg]at hy5 hy6 Vh Wp;obtain⟨hy4,hLp⟩:=hy6 (pl,pn) rfl;have as1:pn=y4:=hy4.symm;subst as1;have aem:y5=true:=hy5;subst aem;obtain⟨hp0,qf,WS⟩:=Nv ab _ _ (pl,pn) Qg;dsimp only at hp0 qf WS hLp Vh;rw[List.length_drop]at qf WS;have hp9:pn<=9:=by omega
          have aT:pl.length<=3:=by omega
          have aen:LL n0 mb W4 (U y1 y2 y3) pl:=by
           obtain⟨u,e,h⟩:=Wp;cases e;exact h
          obtain⟨_,_,e,_⟩:=Sl.val aen;cases e;have agA:0<=(nt:Int)+pn/\(nt:Int)+pn<=1000000:=by omega
          clear Qg hy5 hy6 hy7 Wp qf WS hLp;have hbr:(Mj (nt+pn) r=true/\(s=false\/(s=true/\(nt:Int)+pn<n)))\/(Mj (nt+pn) r=false/\s=true/\¬((nt:Int)+pn<n)):=by
           cases r with
           |none=>exact .inl ⟨rfl,.inl kW⟩
           |some p0=>
            obtain⟨u,e,_⟩:=yh;cases e;by_cases hc:(nt:Int)+pn<p0.2
            .exact .inl ⟨by simpa[Mj]using hc,.inr ⟨kW,hc⟩⟩
            .exact .inr ⟨by simpa[Mj]using hc,kW,hc⟩
          clear kW;rcases hbr with⟨EJ,hbr⟩|⟨EJ,hs,O4⟩
          .have oE:=Zb (show DT ab d (GI ab (fits.drop (i+1))) r l=some (l::pl,nt+pn) by rw[Vh.out,if_pos EJ])
           clear Vh EJ yh;rcases hbr with hs|⟨hs,O4⟩
           all_goals
            subst hs;go_wp2;go_quiet ((go_at_call 136;refine Zay (yi.out _)));obtain⟨W5,JO⟩:∃W5,W5=W4.drewN nq:=⟨_,rfl⟩;have BS:Bl W4 W5:=by rw[JO];exact zl (Zg _ _) nq
            have U6:=Jd.later GN BS;have ag:=(BS.block bo (Za.1 P6).1).trans P6;have yj:=(BS.block q (Za.1 dV).1).trans dV;have akr:=aen.Aw (Kept.later BS);have uM:SI (LS n0 mb W5) W5 (U al l.length cl) l:=Sl.imp (SI.Aw hu4 fun b hb _=>BS.block b hb.lt) (fun b hb=>hb.Aw (Kept.later BS)) (fun _ _ x=>x);rw[<-JO];have nP:=(Za.1 yj).1;have as2:=(Za.1 ag).1;clear JO BS Jd P6 dV aen hu4 c0 c1' c2' b0 b1 b2 bf0 bf1 bf2;have c0:=ch (i:=0) yj (v:=.slice y1 pl.length y3) rfl;have c1':=ch (i:=1) yj (v:=.int J pn) rfl;have c2':=ch (i:=2) yj (v:=.bool true) rfl;have b0:=ch (i:=0) ag (v:=.slice x1 x2 x3) rfl;have bf0:=cf (i:=0) ag;have bf1:=cf (i:=1) ag;have bf2:=cf (i:=2) ag;have b1:=ch (i:=1) ag (v:=.int J n) rfl;have b2:=ch (i:=2) ag rfl;obtain⟨i0,hi,Fo,DX,EI⟩:=zq G3;have as3:=CG zY;have abt:(W5.alloc (.cells #[U al l.length cl] 22)).ownsRow W5.heap.size 22 1 (U (some ⟨W5.heap.size,0,none⟩) 1 1) 1 [U al l.length cl]:=Zcr W5 #[U al l.length cl] 1 (Zj _) (by decide) rfl;cases y1 with
            |none=>
             obtain rfl:pl=[]:=by
              cases pl with
              |nil=>rfl
              |cons x r=>obtain⟨_,_,_,e,_⟩:=SL.at_ akr (i:=0) (by simp);cases e
             obtain⟨NH,Vi,uK⟩:=U6.akm NG GN ag hbz (U (some ⟨W5.heap.size,0,none⟩) 1 1) (.int J (nt+pn)) (.bool true);have tJ:=Zcr (((W5.setCell ⟨bo,0,none⟩ (U (some ⟨W5.heap.size,0,none⟩) 1 1)).setCell ⟨bo,1,none⟩ (.int J (nt+pn))).setCell ⟨bo,2,none⟩ (.bool true)) (e:=22) (size:=1) (base:=W5.heap.size) #[U al l.length cl] 1 (by simp) (by decide) rfl;simp only[World.size_setCell]at tJ;have hkX:=uK.trans (Kept.later (bA (o:=.cells #[U al l.length cl] 22) (Zg _ _)));have hFX:=NH.later GN (bA (o:=.cells #[U al l.length cl] 22) (Zg _ _));have hbX:=Bo Vi (.cells #[U al l.length cl] 22);have HH:=Zb (ZX tJ (ZX hkX (ZX hFX hbX)));clear tJ hkX hFX hbX NH Vi uK abt;go_wp2;go_roundg (f.length - (j+1))
             case rel=>
              obtain⟨q1,q2,q3,q4⟩:=HH.out;refine⟨j+1,some ([l],nt+pn),_,_,_,AA,rfl,by go_num,by rw[<-Uj.out,HFD.out,oE.out],q3,q4,_,rfl,?_⟩;exact ll (pl:=[]) (news:=[]) q1 (Sl.imp (SI.Aw uM fun b hb _=>q2 b hb) (fun b hb=>hb.Aw q2) (fun _ _ x=>x)) (fun i x hx=>by cases hx)
             case measure=>omega
            |some ad=>
             obtain⟨news,hn,hR5,hc5⟩:=Sl.row akr (by decide) ad rfl;have HC5:=Zb hc5;have h1c:∀u∈news,u.oneCell'=true:=row_one (by decide) hn hR5 akl;go_wp2_with (at_builtin;refine Yj _ rfl _ _ 27 rfl W5.heap.size 22 i0 (U none 0 0) 1 24 as3 (DC hi) Fo DX EI rfl (by decide) _ 1 [U al l.length cl] rfl abt ad pl.length y3 news rfl hn (fun j u hj=>ca (HC5.out j u hj) _) h1c (by unfold maxLen;omega) (by omega) (by simp) ?_;intro v' w6 A3 AJ FI;obtain⟨ga,gc,rfl,_,_,_⟩:=J9 A3;have Dv:Bl W5 w6:=Ba (bA (Zg _ _)) AJ (fun k hk=>by cases hk;exact Zj _) (by simp);have Vi:=(Dv.block bo as2).trans ag;have d0:=ch (i:=0) Vi (v:=.slice x1 x2 x3) rfl;have d1:=ch (i:=1) Vi (v:=.int J n) rfl;have d2:=ch (i:=2) Vi rfl;have df0:=cf (i:=0) Vi;have df1:=cf (i:=1) Vi;have df2:=cf (i:=2) Vi);have NH:=U6.later GN Dv;have hk5:Kept n0 mb W5 w6:=Kept.later Dv;obtain⟨hF7,as4,hk7⟩:=NH.akm NG GN Vi hbz (U ga (1+pl.length) gc) (.int J (nt+pn)) (.bool true);have hT7:Am (fun x=>x=bo) w6 (((w6.setCell ⟨bo,0,none⟩ (U ga (1+pl.length) gc)).setCell ⟨bo,1,none⟩ (.int J (nt+pn))).setCell ⟨bo,2,none⟩ (.bool true)):=(Am.refl (fun x=>x=bo) w6).DJ.DJ.DJ;have aks:=D2 hT7 (fun b h1 h2=>by subst h2;omega) A3;go_roundg (f.length - (j+1))
             case rel=>
              refine⟨j+1,some (l::pl,nt+pn),_,_,_,AA,rfl,by go_num,by rw[<-Uj.out,HFD.out,oE.out],hF7,as4,_,rfl,?_⟩;have vV:=hk5.trans hk7;exact ll aks (Sl.imp (SI.Aw uM fun b hb _=>vV b hb) (fun b hb=>hb.Aw vV) (fun _ _ x=>x)) (fun i x hx=>yf (hR5 i x hx) vV)
             case measure=>omega
          .have oE:=Zb (show DT ab d (GI ab (fits.drop (i+1))) r l=r by rw[Vh.out,if_neg (by rw[EJ];exact Bool.false_ne_true)])
           clear Vh EJ;subst hs;go_wp2;go_quiet ((go_at_call 136;refine Zay (yi.out _)));go_wp2;go_roundg (f.length - (j+1))
           case rel=>exact⟨j+1,r,_,_,_,AA,rfl,by go_num,by rw[<-Uj.out,HFD.out,oE.out],Jd.later GN (zl (Zg _ _) nq),P6,yh⟩
           case measure=>omega
      .obtain⟨x1,x2,x3,x4,x5,e,h5,h6,h7⟩:=hrx.val
       clear h5 h6 h7;cases e;have e1:r=GI ab (fits.drop i) d:=by
        have h1:=Uj.out;rw[Zz.2 (show f.length<=j by omega)]at h1;exact h1
       rw[e1]at hrx;clear e1;have hGK:∀wy,Kept n0 mb wr wy->FX n0 mb ab c fits (Nx i d) (.agg #[U x1 x2 x3,.int J n,.bool s]) wy:=fun wy hk=>FX.of hD I9.2 (hrx.Aw hk);obtain⟨es,clk,BD,UF⟩:=oh (k:=Nx i d) (v:=.agg #[U x1 x2 x3,.int J n,.bool s]) Wo.map (fun es clk=>hGK _ (Kept.put Wo.map.is)) (fun k' v' es clk h=>h.Aw (Kept.put Wo.map.is));simp only[DI,Nx]at BD;have hN:=Wo.put GN UF;have eR:=Wo.key;have k0:=ch (i:=0) eR (v:=.int J i) rfl;have k1:=ch (i:=1) eR (v:=.int J (nth d.now 0)) rfl;have k2:=ch (i:=2) eR (v:=.int J (nth d.now 1)) rfl;have k3:=ch (i:=3) eR (v:=.int J (nth d.now 2)) rfl;have k4:=ch (i:=4) eR (v:=.int J (Ah d.Aa 0).left) rfl;have k5:=ch (i:=5) eR (v:=.int J (Ah d.Aa 1).left) rfl;have k6:=ch (i:=6) eR (v:=.int J (Ah d.Aa 2).left) rfl;have m1':=ch (i:=1) Wo.sea (v:=.map (some mb)) rfl;have c0:=ch (i:=0) Il (v:=.slice x1 x2 x3) rfl;have c1':=ch (i:=1) Il (v:=.int J n) rfl;have c2':=ch (i:=2) Il (v:=.bool s) rfl;obtain⟨W2,Sg⟩:∃W2,W2=wr.putObj mb (.map es clk):=⟨_,rfl⟩;rw[<-Sg]at BD hN UF;have EA:∀q,q≠mb->W2.heap[q]?=wr.heap[q]? :=fun q h=>by rw[Sg];exact zP h
       have bq:=(EA _ (by omega)).trans Wo.res;have X':=(EA bo (by omega)).trans Il;have r0:=ch (i:=0) bq (v:=.slice none 0 0) rfl;have r1:=ch (i:=1) bq (v:=.int J 0) rfl;have r2:=ch (i:=2) bq (v:=.bool false) rfl;have rf0:=cf (i:=0) bq;have rf1:=cf (i:=1) bq;have rf2:=cf (i:=2) bq;have d0:=ch (i:=0) X' (v:=.slice x1 x2 x3) rfl;have d1:=ch (i:=1) X' (v:=.int J n) rfl;have d2:=ch (i:=2) X' (v:=.bool s) rfl;have X:=Zb hrx;clear Sg hGK Uj EA hrx UF;go_wp2;refine ZU (v:=.agg #[U x1 x2 x3,.int J n,.bool s]) (by rw[A6 rfl];go_simp) rfl ?_;have hN3:=((hN.set (j:=0) (v:=.slice x1 x2 x3) NG GN).set (j:=1) (v:=.int J n) NG GN).set (j:=2) (v:=.bool s) NG GN;exact⟨_,rfl,hN3.Cg,X.out.Aw hN3.kept,hN3.map⟩
    .have aD:=hg i d (by omega) hD e.symm
     obtain⟨x1,x2,x3,x4,x5,rfl,x6,x7,x8⟩:=aD.val;have H1:=h1;simp only[DI,Nx]at H1;clear h1;have X:=Zb aD;clear x6 x7 x8 aD hg e;go_wp2;refine ZU (v:=.agg #[U x1 x2 x3,.int J x4,.bool x5]) (by rw[A6 rfl];go_simp) rfl ?_;have hN:=(((NH.fn.set (j:=0) (v:=.slice x1 x2 x3) NG GN).set (j:=1) (v:=.int J x4) NG GN).set (j:=2) (v:=.bool x5) NG GN).alloc (.cells #[U x1 x2 x3,.int J x4,.bool x5] 141);exact⟨_,rfl,hN.Cg,X.out.Aw hN.kept,hN.map⟩
def akt (w:Zc)(a b c:Obj):(((w.alloc a).alloc b).alloc c).heap[w.heap.size+1+1]?=some c:=by
 have:=Bt ((w.alloc a).alloc b) c;rwa[ZG,ZG]at this
section
variable {P:Zp}{ops:Array Oper}{Q:Exit->Act->Zc->Prop}{T:Nat->Zc->Prop}
def tK {r:List (Bool×Nat)}{o:Oper}{f:ZaV}{args:Array Ze}{a:Act}(ho:ops[i]?=some o)(hg:o.guard=none)(hr:(ZbE a.eval o).run P w=.ok (.enter f args) w)
 (hc:Calls P f args w fun e w'=>(∃v,e=.returned v/\T i w'/\Ec P ops Q T r (a.put o.dst v) w')\/∃x,e=.panicked x/\Q (.panic x) a w'):Ec P ops Q T ((false,i)::r) a w:=by
 refine QN ho hg ?_;unfold ZbG;rw[hr,Zdf];refine hc.mono fun e w' h=>?_;rcases h with⟨v,rfl,h⟩|⟨x,rfl,h⟩
 .exact h
 .exact h
end
def aeo:(Tryz.prog.info? 27).map (fun i=>(i.zero,i.size,i.bytes))=some (some (U none 0 0),1,24):=by kernel_rfl
def tL (n:Nat)(hn:n<=1000)(w:Zc):(Zdp 27 (.int J n) (.int J n)).run Lp w=.ok (U (some ⟨w.heap.size,0,none⟩) n n) (w.alloc (.cells (List.replicate n (ZA none 0 0)).toArray 22)):=by
 obtain⟨i0,hi,Fo,DX,EI⟩:=zq G3;have h:=run_make (P:=Lp) w 27 22 i0 (U none 0 0) (CG zY) (DC hi) Fo J J n n (by omega) (Int.le_refl _) (by rw[EI];omega) (by omega);rw[h,DX];simp only[Int.toNat_natCast]
 congr 3
 apply Array.ext
 .simp[madeCells]
 .intro i h1 h2
  simp[madeCells,Value.cells,Nat.mod_one]
def Rsp (S:Nat->Prop)(w:Zc)(cs:List Ze)(x:List (Int×Int)):Prop:=∃u,cs=[u]/\SP S w u x
abbrev SSP (S:Nat->Prop):=Sl S (Rsp S) 1
abbrev oF (l:List (List (Int×Int)))(i:Nat):List (Int×Int):=l.getD i []
def OQ {l:List (List (Int×Int))}(h:i<l.length):l[i]?=some (oF l i):=by simp[oF,h]
def SSP.at_ {a:Option Addr}{c:Nat}{l:List (List (Int×Int))}(h:SSP S w (U a l.length c) l)(hi:i<l.length):∃b o u,a=some ⟨b,o,none⟩/\S b/\w.cell? ⟨b,o+i,none⟩=some u/\SP S w u (oF l i):=by
 obtain⟨a',c',h1,_,_,h4⟩:=h;cases h1;obtain⟨b,o,cs,g1,g2,g3,g4,u,rfl,hu⟩:=h4 i _ (OQ hi);exact⟨b,o,u,g1,g2,by simpa using g4 0 _ rfl,hu⟩
def JK (c:A4)(s:List (Int×Int)):List (List Int):=(LJ c).filter fun l=>D1 c l s
def tM (c:A4)(ss:List (List (Int×Int))):Option (List (List Int)×Int):=GI (Au c.Aa) (ss.map (JK c)) c
def tN (c:A4)(ss:List (List (Int×Int))):List (List Int):=match tM c ss with|none=> []|some p=>p.1
def tO (c:A4)(ss:List (List (Int×Int))):Int:=match tM c ss with|none=>0|some p=>p.2
def tP (c:A4)(ss:List (List (Int×Int))):Int:=match tM c ss with|none=>11|some _=>0
def yl (w:Zc)(c:A4)(ss:List (List (Int×Int)))(e:Ending)(w':Zc):Prop:=Bl w w'/\((∃v,e=.returned (.tuple #[v,.int J (tO c ss),.int J (tP c ss)])/\SL (Cf w.heap.size w') w' v (tN c ss))\/∃x,e=.panicked x/\PX x w')
def ZZ (Z:Nat->Prop)(n:Nat)(w:Zc)(b:Nat):Prop:=Z b\/O8 22 n w b
def slz {Z T:Nat->Prop}{f:List (List Int)}(h:SL (ZZ Z n A) A u f)(hT:Am T A B)(hx:∀b,ZZ Z n A b->¬T b):SL (ZZ Z n B) B u f:=by
 have hz:∀b,b<A.heap.size->ZZ Z n A b->ZZ Z n B b:=fun b hl hb=>by
  rcases hb with GZ|⟨GZ,cs,hc⟩
  .exact .inl GZ
  .exact .inr ⟨⟨GZ.1,Zm GZ.2 hT.size⟩,cs,(hT.block b GZ.2 (hx b (.inr ⟨GZ,cs,hc⟩))).trans hc⟩
 have hk:∀ {R:Zc->List Ze->List Int->Prop} {k:Nat},True:=fun {_ _}=>trivial;clear hk;obtain⟨a,c,h1,h2,h3,h4⟩:=h;refine⟨a,c,h1,h2,h3,fun i x hi=>?_⟩;obtain⟨b,o,cs,g1,g2,g3,g4,u',e,hs⟩:=h4 i x hi;subst e;have hl:b<A.heap.size:=Zy A _ (g4 0 u' rfl);refine⟨b,o,[u'],g1,hz b hl g2,g3,fun j y hy=>(hT.same (S:=ZZ Z n A) hx).cell (p:=⟨b,o+i*1+j,none⟩) g2 (g4 j y hy),u',rfl,?_⟩;obtain⟨a',c',e1,e2,e3,e4⟩:=hs;refine⟨a',c',e1,e2,e3,fun i' x' Da=>?_⟩;obtain⟨b',o',cs',f1,f2,f3,f4,f5⟩:=e4 i' x' Da;have hcs:cs'.length=1:=f3;have Kt:b'<A.heap.size:=Zy A _ (f4 0 _ (ZE (by omega)));exact⟨b',o',cs',f1,hz b' Kt f2,f3,fun j y hy=>(hT.same (S:=ZZ Z n A) hx).cell (p:=⟨b',o'+i'*1+j,none⟩) f2 (f4 j y hy),f5⟩
structure CS (Z:Nat->Prop)(w5:Zc)(q mb:Nat)(c:A4)(ss:List (List (Int×Int)))(k:Nat)(v:Ze)(wx:Zc):Prop where
 CX:Am (fun x=>x=q\/w5.heap.size<=x) w5 wx
 box:wx.heap[q]?=some (.cells #[v,.map (some mb)] 134 (0,0))
 row:∃vals,wx.ownsRow w5.heap.size 27 1 v k vals/\∀(i:Nat) (f:List (List Int)),((ss.map (JK c)).take k)[i]?=some f->∃u,vals[i]?=some u/\SL (ZZ Z w5.heap.size wx) wx u f
def dW (ab:Nat->Nat)(Q:List Int->Prop):∀(fs:List (List (List Int))) (d:A4) (p:List (List Int)×Int),(∀f∈fs,∀l∈f,Q l)->GI ab fs d=some p->∀l∈p.1,Q l
 | [],_,p,_,h=>by cases h;simp
 |f::r,d,p,hq,h=>by
  have key:∀(l:List (List Int)) (o:Option (List (List Int)×Int)),(∀x∈l,Q x)->(∀q,o=some q->∀x∈q.1,Q x)->∀q,l.foldl (DT ab d (GI ab r)) o=some q->∀x∈q.1,Q x:=by
   intro l
   induction l with
   |nil=>intro o _ ho q hq;exact ho q hq
   |cons x l ih=>
    intro o hl ho q Q7;refine ih _ (fun y hy=>hl y (Z9 _ hy)) (fun q' Q7=>?_) q Q7;unfold DT at Q7;split at Q7
    .exact ho q' Q7
    .split at Q7
     .exact ho q' Q7
     .next p' Xd=>
      split at Q7
      .cases Q7
       intro y hy;rcases List.mem_cons.1 hy with rfl|hy
       .exact hl _ (zo ..)
       .exact dW ab Q r _ p' (fun f hf=>hq f (Z9 _ hf)) Xd y hy
      .exact ho q' Q7
  exact key f none (fun x hx=>hq f (zo ..) x hx) (fun q hq=>by cases hq) p h
structure CL (w6:Zc)(L:List (List Int))(bx:Array Ze)(k:Nat)(cur:Array Ze)(wx:Zc):Prop where
 below:Bl w6 wx
 box:wx.heap[w6.heap.size]?=some (.cells bx 141 (0,0))
 out:wx.heap[w6.heap.size+1]?=some (.cells cur 22 (0,0))
 size:cur.size=L.length
 at_:∀i,i<k->∃u,cur[i]?=some u/\SI (O8 3 w6.heap.size wx) wx u (Cu L i)
def c41 {v6:Ze}{ss:List (List (Int×Int))}(h:RC S w v1 v2 v3 v4 v5 c)(hs:SSP S w v6 ss)(hS:∀b,S b->b<w.heap.size)(Kd:B_ c=0)(h1:1<=ss.length/\ss.length<=3)(hss:∀s∈ss,Ib c.base.length s=0)(UE:∀i,i<c.Aa.length->(Ah c.Aa i).over.length<=1000):
  Calls Lp 41 #[.agg #[v1,v2,v3,v4,v5],v6] w (yl w c ss):=by
 obtain⟨a1,c1,rfl,l1,m1⟩:=h.base.val;obtain⟨a2,c2,rfl,l2,m2⟩:=h.Af.val;obtain⟨a3,c3,rfl,l3,m3⟩:=h.hooks.val;obtain⟨a4,c4,rfl,l4,m4⟩:=h.Aa.val;obtain⟨a5,c5,rfl,l5,m5⟩:=h.now.val;obtain⟨a6,c6,rfl,l6,m6⟩:=hs.val;have Gx:=CI;have hv:=EU Kd;have Bb:Bl w (w.alloc (.cells #[U a1 c.base.length c1,U a2 c.Af.length c2,U a3 c.hooks.length c3,U a4 c.Aa.length c4,U a5 c.now.length c5] 26)):=bA (Zg _ _);have uJ:=Zb (fun W hB=>rZ (w:=W) (h.later hB) (AE hS hB) Kd);have akw:=Zb (show∀W,Calls Lp 100 #[.int J ss.length,.int J 3] W fun e w'=>e=.returned (.int J 0)/\w'=W from fun W=>by
  have:=xe (ss.length:Int) 3 W;rwa[OL (by omega)]at this)
 go_enter Lp.func41,n41;go_wp2_with (first|(go_at_call 88;refine(uJ.out _ Bb).mono ?_;rintro e w1 ⟨rfl,AW⟩;have Bg:=Bb.trans (AW.mono Bb.size))|(go_at_call 100;refine(akw.out _).mono ?_;rintro e w2 ⟨rfl,hw⟩;obtain rfl:=hw.symm));obtain⟨W2,Sg⟩:∃W2,W2=w1.alloc (.cells (Bj (U a1 c.base.length c1) (U a2 c.Af.length c2) (U a3 c.hooks.length c3) (U a4 c.Aa.length c4) (U a5 c.now.length c5) (Au c.Aa)) 112):=⟨_,rfl⟩;have MK:Bl w1 W2:=by rw[Sg];exact bA (Zg _ _)
 have U3:W2.heap[w1.heap.size]?=some (.cells (Bj (U a1 c.base.length c1) (U a2 c.Af.length c2) (U a3 c.hooks.length c3) (U a4 c.Aa.length c4) (U a5 c.now.length c5) (Au c.Aa)) 112 (0,0)):=by rw[Sg];exact Bt _ _
 have CU:=Bg.trans (MK.mono Bg.size);change Code.wp _ _ _ _ (w1.alloc (.cells (Bj (U a1 c.base.length c1) (U a2 c.Af.length c2) (U a3 c.hooks.length c3) (U a4 c.Aa.length c4) (U a5 c.now.length c5) (Au c.Aa)) 112));rw[<-Sg];clear Sg MK AW uJ akw;obtain⟨ab,EC⟩:∃ab,ab=Au c.Aa:=⟨_,rfl⟩;rw[<-EC]at U3;have HAB:=Zb EC;clear EC;have nL:=Zb (fun W (hB:Bl w W) u s (hu:SP S w u s) (hz:Ib c.base.length s=0)=>show Calls Lp 101 #[.agg #[U a1 c.base.length c1,U a2 c.Af.length c2,U a3 c.hooks.length c3,U a4 c.Aa.length c4,U a5 c.now.length c5,I .u8 (ab 0),I .u8 (ab 1),I .u8 (ab 2)],u] W fun e w'=>e=.returned (.int J 0)/\Bl W w' from by
  have:=ajc (w:=W) (h.later hB) (hu.later hB) (AE hS hB) (ab 0) (ab 1) (ab 2);rwa[hz]at this)
 go_loopg [37] ss.length (fun g i wr=>∃k:Nat,k<=ss.length/\g=ss.length - k/\i=.int J k/\Bl W2 wr)
 case atStart=>exact⟨0,Zn _,rfl,rfl,Zg _ _⟩
 case round=>
  obtain⟨k,hk,rfl,rfl,LC⟩:=hrel;have BS:=CU.trans (LC.mono CU.size);have kP:=(LC.block _ (Za.1 U3).1).trans U3;have k0:=ch (i:=0) kP (v:=.slice a1 c.base.length c1) rfl;have k1:=ch (i:=1) kP (v:=.slice a2 c.Af.length c2) rfl;have k2:=ch (i:=2) kP (v:=.slice a3 c.hooks.length c3) rfl;have k3:=ch (i:=3) kP (v:=.slice a4 c.Aa.length c4) rfl;have k4:=ch (i:=4) kP (v:=.slice a5 c.now.length c5) rfl;have k5:=ch (i:=5) kP (v:=.int .u8 (ab 0)) rfl;have k6:=ch (i:=6) kP (v:=.int .u8 (ab 1)) rfl;have k7:=ch (i:=7) kP (v:=.int .u8 (ab 2)) rfl;by_cases AA:k<ss.length
  .obtain⟨b,o,u,rfl,hb,hc,hu⟩:=hs.at_ AA
   rw[<-BS.cell (p:=⟨b,o+k,none⟩) (hS b hb)]at hc;have hz:=hss _ (Z8 (OQ AA));obtain⟨s0,Fp⟩:∃s0,s0=oF ss k:=⟨_,rfl⟩;rw[<-Fp]at hu hz;clear Fp;obtain⟨a7,c7,rfl,l7,m7⟩:=hu.val;have HZ:=Zb hz;clear hz;go_wp2_with (go_at_call 101;refine(nL.out _ BS _ _ hu HZ.out).mono ?_;rintro e w3 ⟨rfl,Dv⟩;have Oy:=LC.trans (Dv.mono LC.size));go_roundg (ss.length - (k+1))
   case rel=>exact⟨k+1,by omega,rfl,by go_num,Oy⟩
   case measure=>omega
  .have hgz:w1.heap.size<wr.heap.size:=(Za.1 kP).1
   have I9:=hv.few;have B5:∀i,i<c.Aa.length->-2<=(Ah c.Aa i).low/\(Ah c.Aa i).high<=2:=fun i hi=>by have:=hv.step i hi;omega
   have hmm:= @run_makeMap Lp;have WL:(LJ c).length<=125:=Zt (Ua c.Aa B5) (Zbm (by decide) I9.2);go_wp2_with (first|(go_at_call 103;refine(aqU (Bj (U a1 c.base.length c1) (U a2 c.Af.length c2) (U a3 c.hooks.length c3) (U a4 c.Aa.length c4) (U a5 c.now.length c5) ab) rfl (by simp[Bj,Yv]) _).mono ?_;rintro e w4 ⟨rfl,hw4⟩;(have XT:Bl wr w4:=by rw[hw4];exact bA (bA (bA (Zg _ _))));(have hMb:w4.heap[wr.heap.size]?=some (.map #[] 0):=by rw[hw4];exact Bo (Bo (Bt _ _) _) _);(have hFb:w4.heap[wr.heap.size+1]?=some (.cells #[U none 0 0,.map (some wr.heap.size)] 134 (0,0)):=by rw[hw4];exact Bo (IJ _ _ _) _);(have hGb:w4.heap[wr.heap.size+1+1]?=some (.cells (Bj (U a1 c.base.length c1) (U a2 c.Af.length c2) (U a3 c.hooks.length c3) (U a4 c.Aa.length c4) (U a5 c.now.length c5) ab) 112 (0,0)):=by rw[hw4];exact akt _ _ _ _);clear hw4)|(go_at_call 102;refine(aqW hGb (h.later (BS.trans (XT.mono BS.size))) (AE hS (BS.trans (XT.mono BS.size))) I9.2 B5).mono ?_;rintro e w5 ⟨va,rfl,oG,Eb⟩;obtain⟨aa,cc,rfl,_⟩:=Sl.val Eb));obtain⟨q,PZ⟩:∃q,q=wr.heap.size+1:=⟨_,rfl⟩;have hz4:wr.heap.size+1+1<w4.heap.size:=(Za.1 hGb).1;have sL:=oG.size;have Fo:=BS.size;have hG5:=(oG.block _ (by omega)).trans ((XT.block _ hgz).trans kP);have hM5:=(oG.block _ (by omega)).trans hMb;have U6:=(oG.block _ (by omega)).trans hFb;have tQ:=(BS.trans (XT.mono BS.size)).trans (oG.mono (BS.trans (XT.mono BS.size)).size);obtain⟨mb,akx⟩:∃mb,mb=wr.heap.size:=⟨_,rfl⟩;rw[<-PZ]at U6⊢;rw[<-akx]at U6 hM5 PZ⊢;obtain⟨Z,ym⟩:∃Z:Nat->Prop,Z=fun b=>b<w5.heap.size/\b≠q/\b≠mb:=⟨_,rfl⟩;have tR:∀b,Z b->b<w5.heap.size:=fun b hb=>by rw[ym]at hb;exact hb.1
   have hZq:∀b,Z b->b≠q:=fun b hb=>by rw[ym]at hb;exact hb.2.1
   have hZm:∀b,Z b->b≠mb:=fun b hb=>by rw[ym]at hb;exact hb.2.2
   have hZS:∀b,S b->Z b:=fun b hb=>by rw[ym];have:=hS b hb;exact⟨by omega,by omega,by omega⟩
   have aky:SL Z w5 (U aa (LJ c).length cc) (LJ c):=Sl.imp Eb (fun b hb=>by rw[ym];have:=hb.1;have:=hb.2;exact⟨by omega,by omega,by omega⟩) (fun _ _ ⟨u,e,hs⟩=>⟨u,e,Sl.imp hs (fun b hb=>by rw[ym];have:=hb.1;have:=hb.2;exact⟨by omega,by omega,by omega⟩) fun _ _ x=>x⟩);have akz:RC Z w5 (U a1 c.base.length c1) (U a2 c.Af.length c2) (U a3 c.hooks.length c3) (U a4 c.Aa.length c4) (U a5 c.now.length c5) c:=(h.later tQ).imp hZS;have hs5:SSP Z w5 (U a6 ss.length c6) ss:=Sl.imp (Sl.Aw (w':=w5) hs (fun b hb hl=>tQ.block b hl) fun _ _ ⟨u,e,hp⟩=>⟨u,e,hp.later tQ⟩) hZS fun _ _ ⟨u,e,hp⟩=>⟨u,e,Sl.imp hp hZS fun _ _ x=>x⟩;have Sf:w1.heap.size<w5.heap.size:=by omega
   have hgq:w1.heap.size≠q:=by omega
   have hqw:q<w5.heap.size:=by omega
   have sI:mb≠q:=by omega
   have hm5:mb<w5.heap.size:=by omega
   have aAY:w.heap.size<=q:=by omega
   have ox:w.heap.size<=mb:=by omega
   have HC0:CS Z w5 q mb c ss 0 (U none 0 0) w5:=⟨Am.refl _ _,U6,[],zh _ _ _ _,fun i f hf=>by cases hf⟩;clear Eb oG XT hMb hFb hGb kP PZ akx U6 ym k0 k1 k2 k3 k4 k5 k6 k7;go_loopg [55] ss.length (fun g i wx=>∃(k:Nat) (v:Ze),k<=ss.length/\g=ss.length - k/\i=.int J k/\CS Z w5 q mb c ss k v wx)
   case atStart=>exact⟨0,_,Zn _,rfl,rfl,HC0⟩
   case round=>
    obtain⟨k,v,hk,rfl,rfl,hC⟩:=hrel;have hT:=hC.CX;have hnK:∀x,x<w5.heap.size->x≠q->¬(x=q\/w5.heap.size<=x):=fun x h1 h2 h3=>by omega
    have hSZ:CC Z w5 wr:=hT.same fun x hx=>hnK x (tR x hx) (hZq x hx);have TY:=(hT.block _ Sf (hnK _ Sf hgq)).trans hG5;obtain⟨vals,A3,Ha⟩:=hC.row;obtain⟨fY,vh,rfl,_⟩:=J9 A3;have hxz:=hT.size;have k0:=ch (i:=0) TY (v:=.slice a1 c.base.length c1) rfl;have k1:=ch (i:=1) TY (v:=.slice a2 c.Af.length c2) rfl;have k2:=ch (i:=2) TY (v:=.slice a3 c.hooks.length c3) rfl;have k3:=ch (i:=3) TY (v:=.slice a4 c.Aa.length c4) rfl;have k4:=ch (i:=4) TY (v:=.slice a5 c.now.length c5) rfl;have k5:=ch (i:=5) TY (v:=.int .u8 (ab 0)) rfl;have k6:=ch (i:=6) TY (v:=.int .u8 (ab 1)) rfl;have k7:=ch (i:=7) TY (v:=.int .u8 (ab 2)) rfl;by_cases AA:k<ss.length
    .obtain⟨b,o,u,rfl,hb,hc,hu⟩:=hs5.at_ AA
     have Pl:=hSZ.cell (p:=⟨b,o+k,none⟩) hb hc;have O':=SP.Aw hu hSZ;have hz:=hss _ (Z8 (OQ AA));have HTK:=Zb (show(ss.map (JK c)).take (k+1)=(ss.map (JK c)).take k++ [JK c (oF ss k)] by rw[ZbN,zU,OQ AA];rfl);obtain⟨s0,Fp⟩:∃s0,s0=oF ss k:=⟨_,rfl⟩;rw[<-Fp]at O' hz HTK;clear Fp hu hc;obtain⟨a7,c7,rfl,l7,m7⟩:=O'.val;obtain⟨hsn,kI⟩:=Wd hz;have HSN:=Zb hsn;have HSB:=Zb kI;clear hz hsn kI;obtain⟨K,Ml⟩:∃K:Nat->Prop,K=fun x=>w5.heap.size<=x:=⟨_,rfl⟩;have kt:∀x,w5.heap.size<=x->K x:=fun x hx=>by rw[Ml];exact hx
     have tS:∀x,x<w5.heap.size->¬K x:=fun x hx=>by rw[Ml];intro y;omega
     clear Ml;have z0:=fun p:Tw K wr=>p.cell (ch (i:=0) hC.box (v:=.slice fY k vh) rfl) (tS _ hqw);have g0:=fun p:Tw K wr=>p.cell k0 (tS _ Sf);have g1:=fun p:Tw K wr=>p.cell k1 (tS _ Sf);have g2:=fun p:Tw K wr=>p.cell k2 (tS _ Sf);have g3:=fun p:Tw K wr=>p.cell k3 (tS _ Sf);have g4:=fun p:Tw K wr=>p.cell k4 (tS _ Sf);have g5:=fun p:Tw K wr=>p.cell k5 (tS _ Sf);have g6:=fun p:Tw K wr=>p.cell k6 (tS _ Sf);have g7:=fun p:Tw K wr=>p.cell k7 (tS _ Sf);have Rh:(k:Int)<(ss.length:Int):=by omega
     clear k0 k1 k2 k3 k4 k5 k6 k7;go_wp2;clear Pl;refine Dm (S:=fun W=>∃p:Tw K wr,W=p.v) [9] [(false,5),(false,6),(false,7),(false,8),(false,9)] [0,1,2,3,4] (by kernel_rfl) (fun _ _ d _ _ h=>by cases d<;>exact h) (by kernel_rfl) (BU (Am.later (Zg _ _).drew)) ?_;refine Br _ _ (by kernel_rfl) ?_;simp only[zr,zL,Z1,ZQ,ZP]
     repeat (first|go_big_quiet_step (fail)|quiet_step (fail))
     refine zD ?_;clear z0 g0 g1 g2 g3 g4 g5 g6 g7;change Ec _ _ _ _ _ _ _;have hBd:Bl wr wr.drew:=(Zg _ _).drew;have hSd:CC Z wr wr.drew:=fun x _ hx=>hBd.block x hx;have ym:∀x,Z x->x<wr.drew.heap.size:=fun x hx=>Zm (tR x hx) hxz;refine tK (f:=104) (args:= #[.agg #[U a1 c.base.length c1,U a2 c.Af.length c2,U a3 c.hooks.length c3,U a4 c.Aa.length c4,U a5 c.now.length c5,I .u8 (ab 0),I .u8 (ab 1),I .u8 (ab 2)],U aa (LJ c).length cc,U a7 s0.length c7]) rfl rfl (by go_simp) ((ajK (S:=Z) ((akz.Aw hSZ).Aw hSd) hv (SL.Aw (SL.Aw aky hSZ) hSd) (SP.Aw O' hSd) (fun i hi=>?_) (by have:=HSN.out;omega) HSB.out (by omega) ym (ab 0) (ab 1) (ab 2)).mono ?_)
     .have hm:(Cu (LJ c) i).length=c.Aa.length/\∀j,j<(Cu (LJ c) i).length->(Ah c.Aa j).low<=nth (Cu (LJ c) i) j/\nth (Cu (LJ c) i) j<=(Ah c.Aa j).high:=T_ c.Aa _ (Z8 (C2 hi))
      refine⟨by rw[hm.1];exact Zj _,fun j hj=>?_⟩;have h1:=hm.2 j hj;have h2:=B5 j (by rw[<-hm.1];exact hj);omega
     rintro e W1 ⟨dM,⟨akB,rfl,KI⟩|⟨x',rfl,PG⟩⟩
     .have yn:=hBd.trans (dM.mono (Zj _))
      have Mr:Am K wr W1:=Am.later yn;refine .inl ⟨akB,rfl,.inr (BU Mr),?_⟩;have aer:SL (ZZ Z w5.heap.size W1) W1 akB (JK c s0):=Sl.imp KI (fun b hb=>by
       rcases hb with hb|hb
       .exact .inl hb
       .exact .inr ⟨⟨Zt hxz hb.1.1,hb.1.2⟩,hb.2⟩) (fun _ _ ⟨u,e,hs⟩=>⟨u,e,Sl.imp hs (fun b hb=>by
       rcases hb with hb|hb
       .exact .inl hb
       .exact .inr ⟨⟨Zt hxz hb.1.1,hb.1.2⟩,hb.2⟩) fun _ _ x=>x⟩)
      obtain⟨fa,fc,rfl,_⟩:=Sl.val aer;obtain⟨W1a,yp⟩:∃W1a,W1a=W1.alloc (.cells #[U fa (JK c s0).length fc] 27):=⟨_,rfl⟩;have eP:Bl W1 W1a:=by rw[yp];exact bA (Zg _ _)
      have LC:=yn.trans (eP.mono yn.size);have iN:Am K wr W1a:=Am.later LC;refine Kg (v:=.slice (some ⟨W1.heap.size,0,none⟩) 1 1) (w':=W1a) rfl rfl (by rw[yp];go_simp) (.inr (BU iN)) ?_;have abv:=Ey A3 LC;obtain⟨i0,hi,iu,xP,ae0⟩:=zq aeo;have as9:=CG Tryz.underlying38;refine QN rfl rfl ?_;refine Zam _ _ _ 38 rfl w5.heap.size 27 i0 (U none 0 0) 1 24 as9 (DC hi) iu xP ae0 rfl (by decide) _ k vals rfl abv ⟨W1.heap.size,0,none⟩ 1 1 [U fa (JK c s0).length fc] rfl rfl (by rw[yp];exact BR _ _ _) (by simp[Yv]) (by unfold maxLen;omega) (by omega) (by have:=LC.size;omega) ?_;intro v' W2' CQ AJ FI;have Fq:∀g,(ZA fY k vh).ownBlock=some g->w5.heap.size<=g/\∃cs,wr.heap[g]?=some (.cells cs 27 (0,0)):=fun g hg=>by
       rcases A3.2 with⟨e,_⟩|⟨g',cap,cur,e,h3,h4,_⟩
       .cases e;cases hg
       .cases e;cases hg;exact⟨h3,cur,h4⟩
      have JJ:Am (fun x=>(ZA fY k vh).ownBlock=some x) W1a W2':=Am.grown AJ fun g hg=>hg;have Ff:Am K wr W2':=iN.trans (Am.grown AJ fun g hg=>kt g (Fq g hg).1);refine⟨.inr (BU Ff),?_⟩;obtain⟨g',GR,rfl⟩:=ZbD CQ;have nN:q<wr.heap.size:=by omega
      have Nk:=(Ff.block q nN (tS _ hqw)).trans hC.box;have f0:=cf (i:=0) Nk;have e0:=ch (i:=0) Nk (v:=.slice fY k vh) rfl;refine FC (v:=.pointer (some ⟨q,0,none⟩)) rfl rfl (by go_simp) (.inr (BU Ff)) ?_;refine Ly (w':=W2'.setCell ⟨q,0,none⟩ (U (some ⟨g',0,none⟩) (k+1) GR)) rfl rfl (by go_simp) (.inl rfl) ?_;have dy:CS Z w5 q mb c ss (k+1) (U (some ⟨g',0,none⟩) (k+1) GR) (W2'.setCell ⟨q,0,none⟩ (U (some ⟨g',0,none⟩) (k+1) GR)):=by
       have Ro:Am (fun x=>x=q) W2' (W2'.setCell ⟨q,0,none⟩ (U (some ⟨g',0,none⟩) (k+1) GR)):=(Am.refl (fun x=>x=q) W2').DJ;have hzq:∀ {A:Zc} x,ZZ Z w5.heap.size A x->¬x=q:=fun x hx e=>by
        rcases hx with hx|hx
        .exact hZq x hx e
        .have:=hx.1.1;omega
       have hzg:∀ {A:Zc} (hA:∀g cs,wr.heap[g]?=some (ZbM cs 27 (0,0))->A.heap[g]?=some (ZbM cs 27 (0,0))) x,ZZ Z w5.heap.size A x->¬(ZA fY k vh).ownBlock=some x:=fun hA x hx e=>by
        obtain⟨h1,cs,h2⟩:=Fq x e;rcases hx with hx|⟨_,cs',hx⟩
        .have:=tR x hx;omega
        .rw[hA x cs h2]at hx;cases hx
       have hTw:Am (fun x=>(ZA fY k vh).ownBlock=some x) wr W2':=((Am.later LC).mono fun _ x=>x).trans JJ;have NG:=hzg (A:=wr) (fun g cs h=>h);have uz:=hzg (A:=W1a) (fun g cs h=>(LC.block g (Za.1 h).1).trans h);refine⟨(hT.trans (Ff.mono fun x hx=>.inr ?_)).trans (Ro.mono fun x hx=>.inl hx),A8 Nk _,vals++ [U fa (JK c s0).length fc],D2 Ro (fun b h1 h2=>by omega) CQ,fun i f hf=>?_⟩
       .rcases Zaw x w5.heap.size with h|h
        .exact absurd hx (tS x h)
        .exact h
       rw[HTK.out]at hf;have hvl:vals.length=k:=by have:=A3.1;omega
       have O2:((ss.map (JK c)).take k).length=k:=by simp;omega
       by_cases xx:i<k
       .rw[Z4 (by omega)]at hf
        obtain⟨u,h1,h2⟩:=Ha i f hf;exact⟨u,by rw[Z4 (by omega)];exact h1,slz (slz h2 hTw NG) Ro hzq⟩
       .have m_:=(Zl.1 hf).1
        rw[ZF,zp,Yt,O2]at m_;obtain rfl:i=k:=by omega
        rw[zx (by omega),O2,Nat.sub_self]at hf;cases hf;exact⟨U fa (JK c s0).length fc,by rw[zx (by omega),hvl,Nat.sub_self];rfl,slz (slz (slz aer (T:=fun _=>False) ((Am.later eP).mono fun _ x=>x) fun _ _ x=>x) JJ uz) Ro hzq⟩
      have HC2:=Zb dy;clear dy hC Ff JJ iN Mr LC eP yp dM yn KI aer A3 CQ abv Ha AJ FI Fq f0 e0 Nk hT hSZ hSd TY O';unfold Ec
      go_simp
      go_wp2;go_roundg (ss.length - (k+1))
      case rel=>exact⟨k+1,_,AA,rfl,by go_num,HC2.out⟩
      case measure=>omega
     .refine .inr ⟨x',rfl,?_⟩
      have EV:Bl w W1:=((tQ.trans (hT.below (fun x hx=>by rcases hx with h|h<;>omega) (by omega))).trans (hBd.mono (by omega))).trans (dM.mono (show w.heap.size<=wr.drew.heap.size from by show w.heap.size<=wr.heap.size;omega));exact⟨rfl,EV,.inr ⟨_,rfl,PG⟩⟩
    .have aI:k=ss.length:=by omega
     subst aI;have yq:(ss.map (JK c)).length=ss.length:=by simp
     obtain⟨fits,lr⟩:∃fits,fits=ss.map (JK c):=⟨_,rfl⟩;rw[<-lr]at Ha yq;rw[ZaQ (by omega)]at Ha;have hfs:∀f∈fits,f.length<=1000/\∀l∈f,l.length=c.Aa.length:=by
      intro f hf;rw[lr]at hf;obtain⟨s,_,rfl⟩:=Zby.1 hf;exact⟨Zt (List.length_filter_le _ _) (by omega),fun l hl=>(T_ c.Aa l (List.mem_filter.1 hl).1).1⟩
     have akD:wr.heap[mb]?=some (.map #[] 0):=(hT.block mb (by omega) (hnK mb (by omega) sI)).trans hM5;have hZL:∀b,ZZ Z w5.heap.size wr b->LS wr.heap.size mb wr b:=fun b hb=>by
      rcases hb with hb|hb
      .have:=tR b hb;exact .inl ⟨by omega,hZm b hb,by omega⟩
      .have h1:=hb.1.1;have h2:=hb.1.2;exact .inl ⟨h2,by omega,h2⟩
     have hSF:SF wr.heap.size mb wr (U fY ss.length vh) fits:=by
      have h0:Sl (Cf w5.heap.size wr) (Rll wr.heap.size mb) 1 wr (U fY ss.length vh) fits:=PL (l:=fits) (by decide) (by rw[yq];exact A3) (fun i f hf=>by
       obtain⟨u,hu,hsu⟩:=Ha i f hf;refine⟨u,?_,Sl.imp hsu hZL fun _ _ ⟨u',e,D5⟩=>⟨u',e,Sl.imp D5 hZL fun _ _ x=>x⟩⟩;obtain⟨Da,e⟩:=Zl.1 hu;rw[Nat.mul_one,Zu Da,e]
       rfl)
      exact Sl.imp h0 (fun b hb=>.inl ⟨hb.2,by have:=hb.1;omega,hb.2⟩) (fun _ _ x=>x)
     have akE:oc c c:=⟨rfl,rfl,rfl,rfl,hv.xr,fun i hi=>hv.left i hi,fun i hi=>⟨rfl,rfl,rfl,rfl⟩⟩;have hM:GJ (FX wr.heap.size mb ab c fits) mb wr:=⟨#[],0,akD,fun e he=>by simp at he⟩;have akF:=akz.Aw hSZ;have Uk:Calls Lp 105 #[.agg #[U fY ss.length vh,.map (some mb)],.agg #[U a1 c.base.length c1,U a2 c.Af.length c2,U a3 c.hooks.length c3,U a4 c.Aa.length c4,U a5 c.now.length c5,I .u8 (ab 0),I .u8 (ab 1),I .u8 (ab 2)],.int J 0] wr (fun e w'=>∃v,e=.returned v/\Cj mb wr w'/\LM wr.heap.size mb w' v (GI ab fits c)/\GJ (FX wr.heap.size mb ab c fits) mb w'):=
      arN hv HAB.out (by omega) hfs UE fits.length 0 c wr _ _ _ _ _ Z (by omega) (Zj _) (by omega) akE hSF akF (fun b hb=>⟨by have:=tR b hb;omega,hZm b hb⟩) hM
     have HR:=Zb (show tM c ss=GI ab fits c by rw[HAB.out,lr];rfl);have QF:Bl w wr:=tQ.trans (hT.below (fun x hx=>by rcases hx with h|h<;>omega) (by omega));have hmw:mb<wr.heap.size:=by omega
     have m0:=ch (i:=0) hC.box (v:=.slice fY ss.length vh) rfl;have m1':=ch (i:=1) hC.box (v:=.map (some mb)) rfl;have Uu:Kept wr.heap.size mb wr wr:=Kept.refl _ _ _;have HFL:=Zb yq;have HBT:∀W,Cj mb wr W->Bl w W:=fun W hU=>QF.trans ((hU.CX (K:=fun x=>x=mb) rfl).below (fun x hx=>by have:x=mb:=hx;omega) (by omega));clear hSF hM akE akF akD hZL Ha A3 lr yq Uu hT hSZ TY hC;cases hr:GI ab fits c with
     |none=>
      rw[hr]at Uk HR;have H5:=Zb (Uk.mono (R':=fun e w'=>e=.returned (.agg #[U none 0 0,.int J 0,.bool false])/\Cj mb wr w') fun e w' ⟨v,he,hU,Vm,_⟩=>⟨by rw[he,show v=_ from Vm],hU⟩);clear Uk hr;go_wp2_with (go_at_call 105;refine H5.out.mono ?_;rintro e W6 ⟨rfl,kY⟩);refine ZU (Er rfl _ _ _) rfl ?_;refine⟨bA (HBT _ kY),.inl ⟨_,by unfold tO tP;rw[HR.out];rfl,?_⟩⟩;unfold tN;rw[HR.out];exact⟨none,0,rfl,Zj _,Zn _,fun i x hx=>by cases hx⟩
     |some p=>
      obtain⟨pl,pn⟩:=p;rw[hr]at Uk HR;obtain⟨_,_,aT⟩:=Nv ab _ _ _ hr;have aB2:pl.length<=3:=by have:=HFL.out;simp only at aT;omega
      have H5:=Zb (Uk.mono (R':=fun e w'=>∃ya yc,e=.returned (.agg #[U ya pl.length yc,.int J pn,.bool true])/\Cj mb wr w'/\LL wr.heap.size mb w' (U ya pl.length yc) pl) fun e w' ⟨v,he,hU,⟨u,Vm,hl⟩,_⟩=>by
       obtain⟨ya,yc,rfl,_⟩:=Sl.val hl;exact⟨ya,yc,by rw[he,Vm],hU,hl⟩)
      have Xg:∀l∈pl,l.length<=1000:=by
       have asb:∀f∈fits,∀l∈f,l.length<=1000:=fun f hf l hl=>by rw[(hfs f hf).2 l hl];omega
       exact dW ab (fun l=>l.length<=1000) fits c (pl,pn) asb hr
      have hmk:=fun W=>tL pl.length (by omega) W;clear Uk hr aT hfs;go_wp2_with (go_at_call 105;refine H5.out.mono ?_;rintro e W6 ⟨ya,yc,rfl,kY,hL6⟩);obtain⟨W7,hW7⟩:∃W7,W7=(W6.alloc (.cells #[U ya pl.length yc,.int J pn,.bool true] 141)).alloc (.cells (YD pl.length (ZA none 0 0)) 22):=⟨_,rfl⟩;have hC7:CL W6 pl #[U ya pl.length yc,.int J pn,.bool true] 0 (YD pl.length (ZA none 0 0)) W7:=by
       rw[hW7];exact⟨bA (bA (Zg _ _)),Bo (Bt _ _) _,IJ _ _ _,by simp,fun i hi=>absurd hi (by omega)⟩
      have asc:SL (fun b=>b<W6.heap.size) W6 (U ya pl.length yc) pl:=Sl.imp hL6 (fun b hb=>hb.lt) fun _ _ ⟨u,e,hs⟩=>⟨u,e,Sl.imp hs (fun b hb=>hb.lt) fun _ _ x=>x⟩;have Dv:=HBT _ kY;rw[<-hW7];clear hW7 hL6 kY;go_loopg [82] pl.length (fun g i wx=>∃(k:Nat) (cur:Array Ze),k<=pl.length/\g=pl.length - k/\i=.int J k/\CL W6 pl #[U ya pl.length yc,.int J pn,.bool true] k cur wx)
      case atStart=>exact⟨0,_,Zn _,rfl,rfl,hC7⟩
      case round=>
       obtain⟨k,cur,hk,rfl,rfl,hC⟩:=hrel;have bx0:=ch (i:=0) hC.box (v:=.slice ya pl.length yc) rfl;have bx1:=ch (i:=1) hC.box (v:=.int J pn) rfl;have hzr:W6.heap.size+1<wr.heap.size:=(Za.1 hC.out).1;by_cases AA:k<pl.length
       .obtain⟨b,o,u,rfl,hb,hc,hu⟩:=SL.at_ asc AA
        have Pl:=(hC.below.cell (p:=⟨b,o+k,none⟩) hb).trans hc;have O':=SI.Aw hu (fun x hx _=>hC.below.block x hx);obtain⟨l,hl⟩:∃l,l=Cu pl k:=⟨_,rfl⟩;have tT:=Xg l (by rw[hl];exact Z8 (C2 AA));rw[<-hl]at O';have HLK:=Zb hl;clear hl hu hc;obtain⟨a7,c7,rfl,l7,m7⟩:=O'.val;have Rh:(k:Int)<(pl.length:Int):=by omega
        have hkc:k<cur.size:=by rw[hC.size];exact AA
        obtain⟨x0,Ll⟩:∃x0,cur[k]?=some x0:=⟨_,ZC hkc⟩;have HLM:=Zb tT;clear tT;go_wp2_with (go_at_call 106;refine(ab4 O' HLM.out).mono ?_;rintro e W8 ⟨u8,rfl,JF,hu8⟩;obtain⟨p8,d8,rfl,_⟩:=Sl.val hu8;(have hO8:=(JF.block _ hzr).trans hC.out);have ce:=ch hO8 Ll;have fe:=cf (i:=k) hO8);have dy:CL W6 pl #[U (some ⟨b,o,none⟩) pl.length yc,.int J pn,.bool true] (k+1) (cur.setIfInBounds k (U p8 l.length d8)) (W8.setCell ⟨W6.heap.size+1,k,none⟩ (U p8 l.length d8)):=by
         have Ro:=(Am.refl (fun x=>x=W6.heap.size+1) W8).DJ (i:=k) (v:=.slice p8 l.length d8);have hty:∀ {n:Nat} x,O8 3 n W8 x->¬x=W6.heap.size+1:=fun x hx e=>by
          obtain⟨_,cs,h2⟩:=hx;rw[e,hO8]at h2;cases h2
         have akH:=hC.below.trans (JF.mono hC.below.size);refine⟨akH.trans (Ro.below (fun x hx=>by have:x=_:=hx;omega) akH.size),(AY (by omega) _).trans ((JF.block _ (by omega)).trans hC.box),A8 hO8 _,by simp[hC.size],fun i hi=>?_⟩;by_cases xx:i=k
         .subst xx
          refine⟨U p8 l.length d8,Z5 hkc,?_⟩;rw[<-HLK.out];exact JI Ro hty (Sl.imp hu8 (fun b hb=>⟨⟨by have:=hb.1.1;omega,hb.1.2⟩,hb.2⟩) fun _ _ x=>x)
         .obtain⟨u,h1,h2⟩:=hC.at_ i (by omega)
          exact⟨u,(Zk (Zbq xx)).trans h1,JI Ro hty (JI (T:=fun _=>False) ((Am.later JF).mono fun _ x=>x) (fun _ _ x=>x) h2)⟩
        have HC2:=Zb dy;clear dy hC;go_roundg (pl.length - (k+1))
        case rel=>exact⟨k+1,_,AA,rfl,by go_num,HC2.out⟩
        case measure=>omega
       .have aI:k=pl.length:=by omega
        subst aI;go_wp2;go_quiet (fail);go_wp2;refine ZU (Er rfl _ _ _) rfl ?_;have aB5:=Dv.size;refine⟨bN (Dv.trans (hC.below.mono Dv.size)),.inl ⟨_,by unfold tO tP;rw[HR.out];rfl,?_⟩⟩;unfold tN;rw[HR.out];refine⟨some ⟨W6.heap.size+1,0,none⟩,pl.length,rfl,Zj _,by unfold maxLen;omega,fun i x hx=>?_⟩;have hi:=(Zl.1 hx).1;obtain⟨u,h1,h2⟩:=hC.at_ i hi;rw[show Cu pl i=x by have:=C2 hi;rw[hx]at this;exact(ZK this).symm]at h2;refine⟨W6.heap.size+1,0,[u],rfl,⟨by omega,hzr⟩,rfl,fun j y hy=>?_,u,rfl,Sl.imp (SI.Aw h2 (w':=wr.drewN _) fun b hb _=>rfl) (fun b hb=>⟨by have:=hb.1.1;omega,hb.1.2⟩) fun _ _ x=>x⟩;cases j with
        |zero=>
         cases hy;rw[show 0+i*1+0=i by omega];exact ch hC.out h1
        |succ j=>cases hy
section
variable {P:Zp}{ops:Array Oper}{Q:Exit->Act->Zc->Prop}{md:YU}{S:Zc->Prop}
def dX {ls:List Nat}{listed:Array Bool}{a:Act}(hB:(YM ops&&ltB md ops [] (fun L=>(zw md ops L).isEmpty) ls listed)=true)(hQ:∀c a d v w,Q (.panic c) (Zcp a d v) w->Q (.panic c) a w)(hS:S w)(h:Nl P ops S (fun a'=>Q .normal a' w) ls a):CH P md ops Q (fun _=>S) ls.length listed a w:=by
 rw[ZI]at hB;have hT:(FV [] S:Nat->Zc->Prop)=fun _=>S:=by
  funext i w
  simp[FV]
 have:=Md (P:=P) (lates:=[]) (g:=0) (K:=fun a'=>Q .normal a' w) hB.1 hQ hS (fun listed a h1 h2=>by
  rw[hT];exact⟨by simpa using h1,h2⟩) ls listed a hB.2 h
 rw[hT,zK]at this;exact this
end
abbrev Lt (W:Zc):Nat->Prop:=fun b=>b<W.heap.size
section
variable {n:Nat}{w1 X:Zc}{v1 v2 v3 v4 v5:Ze}{c:A4}
def Wq (hR:RC (Cf n w1) w1 v1 v2 v3 v4 v5 c){W:Zc}(hB:Bl w1 W):RC (Lt W) W v1 v2 v3 v4 v5 c:=(hR.later hB).imp fun b hb=>Zm hb.2 hB.size
def Ih (l:List Int)(hl:l.length<=1000):SI (Lt (X.alloc (.cells (l.map (ZS J)).toArray 3))) (X.alloc (.cells (l.map (ZS J)).toArray 3)) (U (some ⟨X.heap.size,0,none⟩) l.length l.length) l:=
 Ns l (Bt _ _) (show X.heap.size<_ by simp) (by unfold maxLen;omega)
def ase (hR:RC (Cf n w1) w1 v1 v2 v3 v4 v5 c)(hB:Bl w1 X)(l:List Int)(hl:l.length<=1000):Calls Lp 45 #[.agg #[v1,v2,v3,v4,v5],U (some ⟨X.heap.size,0,none⟩) l.length l.length] (X.alloc (.cells (l.map (ZS J)).toArray 3)) (kL (X.alloc (.cells (l.map (ZS J)).toArray 3)) (FD c l) (Ca c l)):=
 c45 (Wq hR (hB.trans (bA (Zg _ _)|>.mono hB.size))) (Ih l hl) fun b hb=>hb
def asf (hR:RC (Cf n w1) w1 v1 v2 v3 v4 v5 c)(hB:Bl w1 X)(l:List Int)(hl:l.length<=1000)(hgo:Bx c l=0->∃L,PR c l=some L):Calls Lp 54 #[.agg #[v1,v2,v3,v4,v5],U (some ⟨X.heap.size,0,none⟩) l.length l.length] (X.alloc (.cells (l.map (ZS J)).toArray 3)) (kL (X.alloc (.cells (l.map (ZS J)).toArray 3)) (I' c l) (Bx c l)):=
 c54 (Wq hR (hB.trans (bA (Zg _ _)|>.mono hB.size))) (Ih l hl) (fun b hb=>hb) hgo
def asg (hR:RC (Cf n w1) w1 v1 v2 v3 v4 v5 c)(hB:Bl w1 X)(l:List Int)(hl:l.length<=1000):Calls Lp 69 #[.agg #[v1,v2,v3,v4,v5],U (some ⟨X.heap.size,0,none⟩) l.length l.length] (X.alloc (.cells (l.map (ZS J)).toArray 3)) fun e w'=>e=.returned (.tuple #[.string ⟨(Nt c l).toArray⟩,.int J (Ca c l)])/\YS (X.alloc (.cells (l.map (ZS J)).toArray 3)).heap.size (X.alloc (.cells (l.map (ZS J)).toArray 3)) w':=
 c69 (Wq hR (hB.trans (bA (Zg _ _)|>.mono hB.size))) (Ih l hl) fun b hb=>hb
end
def g_asked:Ca (FF 2 2 1) [1,-1,1]=0:=by decide+kernel
def g_girths:FD (FF 2 2 1) [1,-1,1]=[43,28]:=by decide+kernel
def g_fitsE:TX (FF 2 2 1) [0,0,0] [(38,40),(25,30)]=0:=by decide+kernel
def g_fitsV:QK (FF 2 2 1) [0,0,0] [(38,40),(25,30)]=true:=by decide+kernel
def g_ready:Bx (FF 2 2 1) [1,-1,1]=0:=by decide+kernel
def g_order:PR (FF 2 2 1) [1,-1,1]=some [1,0,2]:=by decide+kernel
def g_orderV:I' (FF 2 2 1) [1,-1,1]=[1,0,2]:=by decide+kernel
def g_begin:B_ (FF 2 2 1)=0:=by decide+kernel
def g_sing:∀s∈ [[((46:Int),(46:Int)),(30,30)],[(36,36),(30,30)]],Ib (FF 2 2 1).base.length s=0:=by decide+kernel
def g_sea:tM (FF 2 2 1) [[(46,46),(30,30)],[(36,36),(30,30)]]=some ([[2,0,1],[-2,0,1]],3):=by decide+kernel
def g_write:Nt (FF 2 2 1) [2,-1,0]=[97,43,50,98,45,49]:=by decide+kernel
def g_asked2:Ca (FF 2 2 1) [2,-1,0]=0:=by decide+kernel
def g_lastsV:EH (FF 2 2 1) [[0,1,0],[0,2,0],[0,0,0]]=(2,0):=by decide+kernel
def g_lastsE:Gb (FF 2 2 1) [[0,1,0],[0,2,0],[0,0,0]]=0:=by decide+kernel
def g_over:∀i,i<(FF 2 2 1).Aa.length->(Ah (FF 2 2 1).Aa i).over.length<=1000:=by
 intro i hi;have:i=0\/i=1\/i=2:=by have:(FF 2 2 1).Aa.length=3:=rfl;omega
 rcases this with rfl|rfl|rfl<;>decide
def bT (h:Bl w A)(k:Bl A B):Bl w B:=h.trans (k.mono h.size)
def Jc (h:SI (Lt A) A v l)(hB:Bl A B):SI (Lt B) B v l:=Sl.imp (h.later hB) (fun b hb=>Zm hb hB.size) fun _ _ x=>x
def OT {l:List (List Int)}(h:SL (Cf n A) A v l)(hB:Bl A B):SL (Cf n B) B v l:=
 Sl.imp (SL.Aw h (w':=B) fun b _ hl=>hB.block b hl) (fun b hb=>⟨hb.1,Zm hb.2 hB.size⟩) fun _ _ ⟨u,e,hs⟩=>⟨u,e,Sl.imp hs (fun b hb=>⟨hb.1,Zm hb.2 hB.size⟩) fun _ _ x=>x⟩
def yr {a b:List (Int×Int)}(hu:SP (Lt A) A u a)(hv:SP (Lt A) A v b):SSP (Lt (A.alloc (.cells #[u,v] 23))) (A.alloc (.cells #[u,v] 23)) (U (some ⟨A.heap.size,0,none⟩) 2 2) [a,b]:=by
 have hB:Bl A (A.alloc (.cells #[u,v] 23)):=bA (Zg _ _);have h2:∀ {x:Ze} {l:List (Int×Int)},SP (Lt A) A x l->SP (Lt (A.alloc (.cells #[u,v] 23))) (A.alloc (.cells #[u,v] 23)) x l:=fun h=>Sl.imp (h.later hB) (fun b hb=>Zm hb hB.size) fun _ _ x=>x;refine⟨some ⟨A.heap.size,0,none⟩,2,rfl,Zj _,by decide,fun i x hx=>?_⟩
 match i,hx with
 |0,hx=>
  cases hx;refine⟨A.heap.size,0,[u],rfl,by simp[Lt],rfl,fun j y hy=>?_,u,rfl,h2 hu⟩;cases j with
  |zero=>cases hy;exact cn A #[u,v] 23 rfl
  |succ j=>cases hy
 |1,hx=>
  cases hx;refine⟨A.heap.size,0,[v],rfl,by simp[Lt],rfl,fun j y hy=>?_,v,rfl,h2 hv⟩;cases j with
  |zero=>cases hy;exact cn A #[u,v] 23 rfl
  |succ j=>cases hy
def Gn (h:SI (Cf n A) A v l)(hB:Bl A B):SI (Cf n B) B v l:=Sl.imp (h.later hB) (fun b hb=>⟨hb.1,Zm hb.2 hB.size⟩) fun _ _ x=>x
def tU {x:Ze}{c:List Int}(hu:SI (Lt A) A u a)(hv:SI (Lt A) A v b)(hx:SI (Lt A) A x c):SL (Lt (A.alloc (.cells #[u,v,x] 22))) (A.alloc (.cells #[u,v,x] 22)) (U (some ⟨A.heap.size,0,none⟩) 3 3) [a,b,c]:=by
 have hB:Bl A (A.alloc (.cells #[u,v,x] 22)):=bA (Zg _ _);refine⟨some ⟨A.heap.size,0,none⟩,3,rfl,Zj _,by decide,fun i y hy=>?_⟩
 match i,hy with
 |0,hy=>
  cases hy;refine⟨A.heap.size,0,[u],rfl,by simp[Lt],rfl,fun j z hz=>?_,u,rfl,Jc hu hB⟩;cases j with
  |zero=>cases hz;exact cn A #[u,v,x] 22 rfl
  |succ j=>cases hz
 |1,hy=>
  cases hy;refine⟨A.heap.size,0,[v],rfl,by simp[Lt],rfl,fun j z hz=>?_,v,rfl,Jc hv hB⟩;cases j with
  |zero=>cases hz;exact cn A #[u,v,x] 22 rfl
  |succ j=>cases hz
 |2,hy=>
  cases hy;refine⟨A.heap.size,0,[x],rfl,by simp[Lt],rfl,fun j z hz=>?_,x,rfl,Jc hx hB⟩;cases j with
  |zero=>cases hz;exact cn A #[u,v,x] 22 rfl
  |succ j=>cases hz
def aet (hu:SI (Lt A) A u a)(hv:SI (Lt A) A v b):SL (Lt (A.alloc (.cells #[u,v] 22))) (A.alloc (.cells #[u,v] 22)) (U (some ⟨A.heap.size,0,none⟩) 2 2) [a,b]:=by
 have hB:Bl A (A.alloc (.cells #[u,v] 22)):=bA (Zg _ _);refine⟨some ⟨A.heap.size,0,none⟩,2,rfl,Zj _,by decide,fun i y hy=>?_⟩
 match i,hy with
 |0,hy=>
  cases hy;refine⟨A.heap.size,0,[u],rfl,by simp[Lt],rfl,fun j z hz=>?_,u,rfl,Jc hu hB⟩;cases j with
  |zero=>cases hz;exact cn A #[u,v] 22 rfl
  |succ j=>cases hz
 |1,hy=>
  cases hy;refine⟨A.heap.size,0,[v],rfl,by simp[Lt],rfl,fun j z hz=>?_,v,rfl,Jc hv hB⟩;cases j with
  |zero=>cases hz;exact cn A #[u,v] 22 rfl
  |succ j=>cases hz
def ash {w1 V:Zc}(hR:RC (Cf n w1) w1 v1 v2 v3 v4 v5 c)(hB:Bl w1 V)(hG:Iv V)(UE:∀i,i<c.Aa.length->(Ah c.Aa i).over.length<=1000):
  Calls Lp 34 #[.agg #[v1,v2,v3,v4,v5],U (some ⟨V.heap.size+1+1+1,0,none⟩) 3 3] ((((V.alloc (.cells #[.int J 0,.int J 1,.int J 0] 3)).alloc (.cells #[.int J 0,.int J 2,.int J 0] 3)).alloc (.cells #[.int J 0,.int J 0,.int J 0] 3)).alloc (.cells #[U (some ⟨V.heap.size,0,none⟩) 3 3,U (some ⟨V.heap.size+1,0,none⟩) 3 3,U (some ⟨V.heap.size+1+1,0,none⟩) 3 3] 22))
   (Two ((((V.alloc (.cells #[.int J 0,.int J 1,.int J 0] 3)).alloc (.cells #[.int J 0,.int J 2,.int J 0] 3)).alloc (.cells #[.int J 0,.int J 0,.int J 0] 3)).alloc (.cells #[U (some ⟨V.heap.size,0,none⟩) 3 3,U (some ⟨V.heap.size+1,0,none⟩) 3 3,U (some ⟨V.heap.size+1+1,0,none⟩) 3 3] 22)) (.tuple #[.int J (EH c [[0,1,0],[0,2,0],[0,0,0]]).1,.int J (EH c [[0,1,0],[0,2,0],[0,0,0]]).2,.int J (Gb c [[0,1,0],[0,2,0],[0,0,0]])])):=by
 have h1:SI (Lt (V.alloc (.cells #[.int J 0,.int J 1,.int J 0] 3))) _ _ [0,1,0]:=Ih (X:=V) [0,1,0] (by decide);have h2:SI (Lt ((V.alloc (.cells #[.int J 0,.int J 1,.int J 0] 3)).alloc (.cells #[.int J 0,.int J 2,.int J 0] 3))) _ _ [0,2,0]:=Ih (X:=V.alloc (.cells #[.int J 0,.int J 1,.int J 0] 3)) [0,2,0] (by decide);have h3:SI (Lt (((V.alloc (.cells #[.int J 0,.int J 1,.int J 0] 3)).alloc (.cells #[.int J 0,.int J 2,.int J 0] 3)).alloc (.cells #[.int J 0,.int J 0,.int J 0] 3))) _ _ [0,0,0]:=Ih (X:=(V.alloc (.cells #[.int J 0,.int J 1,.int J 0] 3)).alloc (.cells #[.int J 0,.int J 2,.int J 0] 3)) [0,0,0] (by decide);have hs:=tU (Jc (Jc h1 (bA (Zg _ _))) (bA (Zg _ _))) (Jc h2 (bA (Zg _ _))) h3;simp only[ZG,zp,Yt,zK,ZaC]at hs;have CU:=bA (o:=.cells #[U (some ⟨V.heap.size,0,none⟩) 3 3,U (some ⟨V.heap.size+1,0,none⟩) 3 3,U (some ⟨V.heap.size+1+1,0,none⟩) 3 3] 22) (bA (o:=.cells #[.int J 0,.int J 0,.int J 0] 3) (bA (o:=.cells #[.int J 0,.int J 2,.int J 0] 3) (bA (o:=.cells #[.int J 0,.int J 1,.int J 0] 3) (Zg V.heap.size V))));exact c34 (Wq hR (bT hB CU)) hs (fun b hb=>hb) (hG.later CU) UE
def akI (hv:SI (Cf n X) X v a)(l:List Int)(hl:l.length<=1000):Calls Lp 46 #[v,U (some ⟨X.heap.size,0,none⟩) l.length l.length] (X.alloc (.cells (l.map (ZS J)).toArray 3)) fun e w'=>e=.returned (.bool (IM a l))/\Bl X w':=
 (uP (Gn hv (bA (Zg _ _))) (Ih l hl) (fun b hb=>hb.2) fun b hb=>hb).mono fun e w' ⟨h1,h2⟩=>⟨h1,bT (bA (Zg _ _)) h2⟩
def asi {a:List (List Int)}(hv:SL (Cf n X) X v a):
  Calls Lp 37 #[v,U (some ⟨X.heap.size+1+1,0,none⟩) 2 2] (((X.alloc (.cells #[.int J 2,.int J 0,.int J 1] 3)).alloc (.cells #[.int J (-2),.int J 0,.int J 1] 3)).alloc (.cells #[U (some ⟨X.heap.size,0,none⟩) 3 3,U (some ⟨X.heap.size+1,0,none⟩) 3 3] 22)) fun e w'=>e=.returned (.bool (PU a [[2,0,1],[-2,0,1]]))/\Bl X w':=by
 have h1:SI (Lt (X.alloc (.cells #[.int J 2,.int J 0,.int J 1] 3))) _ _ [2,0,1]:=Ih (X:=X) [2,0,1] (by decide);have h2:SI (Lt ((X.alloc (.cells #[.int J 2,.int J 0,.int J 1] 3)).alloc (.cells #[.int J (-2),.int J 0,.int J 1] 3))) _ _ [-2,0,1]:=Ih (X:=X.alloc (.cells #[.int J 2,.int J 0,.int J 1] 3)) [-2,0,1] (by decide);have hs:=aet (Jc h1 (bA (Zg _ _))) h2;simp only[ZG,zp,Yt,zK,ZaC]at hs;have CU:=bA (o:=.cells #[U (some ⟨X.heap.size,0,none⟩) 3 3,U (some ⟨X.heap.size+1,0,none⟩) 3 3] 22) (bA (o:=.cells #[.int J (-2),.int J 0,.int J 1] 3) (bA (o:=.cells #[.int J 2,.int J 0,.int J 1] 3) (Zg X.heap.size X)));exact(c37 (OT hv CU) hs (fun b hb=>hb.2) fun b hb=>hb).mono fun e w' ⟨h1,h2⟩=>⟨h1,bT CU h2⟩
def aeu:IM [43,28] [43,28]=true:=by decide
def aev:IM [1,0,2] [1,0,2]=true:=by decide
def aew:PU [[2,0,1],[-2,0,1]] [[2,0,1],[-2,0,1]]=true:=by decide
variable {p:Option Addr}
def akJ {d:Nat}(hv:SI (Cf n X) X (U p 2 d) [43,28]):Calls Lp 46 #[U p 2 d,U (some ⟨X.heap.size,0,none⟩) 2 2] (X.alloc (.cells #[.int J 43,.int J 28] 3)) fun e w'=>e=.returned (.bool true)/\Bl X w':=by
 have h:=akI hv [43,28] (by decide);rw[aeu]at h;exact h
def akK {d:Nat}(hv:SI (Cf n X) X (U p 3 d) [1,0,2]):Calls Lp 46 #[U p 3 d,U (some ⟨X.heap.size,0,none⟩) 3 3] (X.alloc (.cells #[.int J 1,.int J 0,.int J 2] 3)) fun e w'=>e=.returned (.bool true)/\Bl X w':=by
 have h:=akI hv [1,0,2] (by decide);rw[aev]at h;exact h
def akL {d:Nat}(hv:SL (Cf n X) X (U p 2 d) [[2,0,1],[-2,0,1]]):
  Calls Lp 37 #[U p 2 d,U (some ⟨X.heap.size+1+1,0,none⟩) 2 2] (((X.alloc (.cells #[.int J 2,.int J 0,.int J 1] 3)).alloc (.cells #[.int J (-2),.int J 0,.int J 1] 3)).alloc (.cells #[U (some ⟨X.heap.size,0,none⟩) 3 3,U (some ⟨X.heap.size+1,0,none⟩) 3 3] 22)) fun e w'=>e=.returned (.bool true)/\Bl X w':=by
 have h:=asi hv;rw[aew]at h;exact h
def c26 (w:Zc)(hG:Iv w):Calls Lp 26 #[] w (Two w (.bool true)):=by
 obtain⟨C,hC⟩:∃C,C=FF 2 2 1:=⟨_,rfl⟩;have fa:=g_asked;have fg:=g_girths;have fr:=g_ready;have fo:=g_order;have fv:=g_orderV;have e1:=g_fitsE;have e2:=g_fitsV;have e3:=g_begin;have e4:=g_sing;have e5:=g_sea;have e6:=g_write;have e7:=g_asked2;have e8:=g_lastsV;have e9:=g_lastsE;have e0:=g_over;have H84:=Zb (c84 2 2 1 w);rw[<-hC]at fa fg fr fo fv e0 e1 e2 e3 e4 e5 e6 e7 e8 e9 H84;clear hC;have F45:=Zb (ZX fa fg);have F54:=Zb (ZX fr (ZX fo fv));have F62:=Zb (ZX e1 e2);have F41:=Zb (ZX e3 (ZX e4 (ZX e5 e0)));have F69:=Zb (ZX e6 e7);have F34:=Zb (show EH C [[0,1,0],[0,2,0],[0,0,0]]=(2,0)/\Gb C [[0,1,0],[0,2,0],[0,0,0]]=0/\∀i,i<C.Aa.length->(Ah C.Aa i).over.length<=1000 from⟨e8,e9,e0⟩);clear fa fg fr fo fv e0 e1 e2 e3 e4 e5 e6 e7 e8 e9;have m1:=YI;go_enter Lp.func26,n26;go_wp2_with (go_at_call 84;refine H84.out.mono ?_;rintro e w1 ⟨u1,u2,u3,u4,u5,rfl,Bb,hR⟩;obtain⟨a1,c1,rfl,_⟩:=hR.base.val;obtain⟨a2,c2,rfl,_⟩:=hR.Af.val;obtain⟨a3,c3,rfl,_⟩:=hR.hooks.val;obtain⟨a4,c4,rfl,_⟩:=hR.Aa.val;obtain⟨a5,c5,rfl,_⟩:=hR.now.val);obtain⟨X,hX⟩:∃X,X=w1.alloc (.cells #[U a1 C.base.length c1,U a2 C.Af.length c2,U a3 C.hooks.length c3,U a4 C.Aa.length c4,U a5 C.now.length c5] 26):=⟨_,rfl⟩;have hz:w1.heap.size+1=X.heap.size:=by rw[hX];simp
 have Io:Bl w1 X:=by rw[hX];exact bA (Zg _ _)
 have hK:X.heap[w1.heap.size]?=some (.cells #[U a1 C.base.length c1,U a2 C.Af.length c2,U a3 C.hooks.length c3,U a4 C.Aa.length c4,U a5 C.now.length c5] 26 (0,0)):=by rw[hX];exact Bt _ _
 rw[hz, <-hX];clear hX;refine(ase hR Io [1,-1,1] (by decide)).mono ?_;rintro e w3 ⟨v3,rfl,Bg,dS⟩;rw[F45.out.1];rw[F45.out.2]at dS;obtain⟨p3,d3,rfl,_⟩:=dS.val;have aex:=bT (bA (Zg X.heap.size X)) Bg;have aey:=bT Io aex;have Ep:w3.heap[w1.heap.size]?=some (.cells #[U a1 C.base.length c1,U a2 C.Af.length c2,U a3 C.hooks.length c3,U a4 C.Aa.length c4,U a5 C.now.length c5] 26 (0,0)):=(aex.block _ (by omega)).trans hK;have hg3:=dS;clear Bg dS aex hK;have z0:=fun p=>Al p (ch (i:=0) Ep (v:=.slice a1 C.base.length c1) rfl);have z1:=fun p=>Al p (ch (i:=1) Ep (v:=.slice a2 C.Af.length c2) rfl);have z2:=fun p=>Al p (ch (i:=2) Ep (v:=.slice a3 C.hooks.length c3) rfl);have z3:=fun p=>Al p (ch (i:=3) Ep (v:=.slice a4 C.Aa.length c4) rfl);have z4:=fun p=>Al p (ch (i:=4) Ep (v:=.slice a5 C.now.length c5) rfl);dsimp only;go_wp2;refine Hh (S:=fun W=>∃p,W=calm w3 p) [0] 8 #[true,false,false,false,false,false,false,false,false] (by kernel_rfl) (fun _ _ d _ _ h=>by cases d<;>exact h) (by kernel_rfl) (AO (Zg _ _).drew) ?_;refine Br _ _ (by kernel_rfl) ?_;simp only[zr,zL,Z1,ZQ,ZP]
 repeat (first|go_big_quiet_step (fail)|quiet_step (fail))
 refine zD ?_;clear z0 z1 z2 z3 z4;change CH _ _ _ _ _ _ _ _ _;obtain⟨V,hV⟩:∃V,V=w3.drew:=⟨_,rfl⟩;have hX:Bl w3 V:=by rw[hV];exact(Zg _ _).drew
 rw[<-hV];clear hV;refine AM [1,2] (by kernel_rfl) (by simp) (II ?gA ?gB)
 case' gA=>
  refine Fe (v:=.slice (some ⟨V.heap.size,0,none⟩) 3 3) (w':=V.alloc (.cells #[.int J 0,.int J 0,.int J 0] 3)) rfl rfl (by go_simp) ?_;have nS:=Ih (X:=V) [0,0,0] (by decide);obtain⟨V2,jU⟩:∃V2,V2=V.alloc (.cells #[.int J 0,.int J 0,.int J 0] 3):=⟨_,rfl⟩;replace nS:SI (Lt V2) V2 (U (some ⟨V.heap.size,0,none⟩) 3 3) [0,0,0]:=by rw[jU];exact nS
  have MK:Bl V V2:=by rw[jU];exact bA (Zg _ _)
  rw[<-jU];clear jU;replace hX:=bT hX MK;obtain⟨n1,oa⟩:∃n1,n1=V.heap.size:=⟨_,rfl⟩;rw[<-oa]at nS⊢;clear oa MK;refine⟨AO hX,?_⟩;refine AM [2] (by kernel_rfl) (by simp) (BL ?_);refine DS (f:=85) (args:= #[.int J 38,.int J 40,.int J 25,.int J 30]) rfl rfl (by go_simp) ((c85 38 40 25 30 V2).mono ?_);rintro e V4 ⟨rfl,oH,hP⟩;obtain⟨n2,eM⟩:∃n2,n2=V2.heap.size:=⟨_,rfl⟩;rw[<-eM]at hP⊢;clear eM;replace hX:=bT hX oH;refine .inl ⟨_,rfl,AO hX,?_⟩;replace nS:=Jc nS oH;replace hP:=Sl.imp hP (fun b hb=>show b<V4.heap.size from hb.2) (fun _ _ x=>x);clear oH
 case' gB=>
  refine DS (f:=85) (args:= #[.int J 38,.int J 40,.int J 25,.int J 30]) rfl rfl (by go_simp) ((c85 38 40 25 30 V).mono ?_);rintro e V2 ⟨rfl,oH,hP⟩;obtain⟨n2,eM⟩:∃n2,n2=V.heap.size:=⟨_,rfl⟩;rw[<-eM]at hP⊢;clear eM;replace hX:=bT hX oH;refine .inl ⟨_,rfl,AO hX,?_⟩;refine AM [1] (by kernel_rfl) (by simp) (BL ?_);refine Fe (v:=.slice (some ⟨V2.heap.size,0,none⟩) 3 3) (w':=V2.alloc (.cells #[.int J 0,.int J 0,.int J 0] 3)) rfl rfl (by go_simp) ?_;have nS:=Ih (X:=V2) [0,0,0] (by decide);obtain⟨V4,XH⟩:∃V4,V4=V2.alloc (.cells #[.int J 0,.int J 0,.int J 0] 3):=⟨_,rfl⟩;replace nS:SI (Lt V4) V4 (U (some ⟨V2.heap.size,0,none⟩) 3 3) [0,0,0]:=by rw[XH];exact nS
  have Mg:Bl V2 V4:=by rw[XH];exact bA (Zg _ _)
  rw[<-XH];clear XH;replace hX:=bT hX Mg;replace hP:=Sl.imp (hP.later Mg) (fun b hb=>show b<V4.heap.size from Zm hb.2 Mg.size) (fun _ _ x=>x);obtain⟨n1,oa⟩:∃n1,n1=V2.heap.size:=⟨_,rfl⟩;rw[<-oa]at nS⊢;clear oa Mg oH;refine⟨AO hX,?_⟩
 all_goals
  refine AM [3] (by kernel_rfl) (by simp) (BL ?_);refine DS (f:=62) (args:= #[.agg #[U a1 C.base.length c1,U a2 C.Af.length c2,U a3 C.hooks.length c3,U a4 C.Aa.length c4,U a5 C.now.length c5],U (some ⟨n1,0,none⟩) 3 3,U (some ⟨n2,0,none⟩) 2 2]) rfl rfl (by go_simp) ((c62 (Wq hR (bT aey hX)) nS hP (fun b hb=>hb)).mono ?_);rintro e V5 ⟨rfl,akN⟩;rw[F62.out.1,F62.out.2];replace hX:=bT hX akN;refine .inl ⟨_,rfl,AO hX,?_⟩;refine dX (ls:=[4,5,6,7,8]) (by kernel_rfl) (fun _ _ d _ _ h=>by cases d<;>exact h) (AO hX) ?_;refine CJ (v:=.tuple #[.bool true,.int J 0]) rfl rfl (fun w _=>by go_simp) ?_;refine CJ (v:=.bool true) rfl rfl (fun w _=>by go_simp) ?_;refine CJ (v:=.int J 0) rfl rfl (fun w _=>by go_simp) ?_;refine CJ (v:=.bool true) rfl rfl (fun w _=>by go_simp) ?_;refine CJ (v:=.int J 0) rfl rfl (fun w _=>by go_simp) ?_;have iX:=(hX.block _ (Za.1 Ep).1).trans Ep;have Uf:=bT aey hX;have hg5:=Gn hg3 hX;clear hX akN nS hP Ep aey hg3;unfold Nl
  go_simp
  have k0:=ch (i:=0) iX (v:=.slice a1 C.base.length c1) rfl;have k1:=ch (i:=1) iX (v:=.slice a2 C.Af.length c2) rfl;have k2:=ch (i:=2) iX (v:=.slice a3 C.hooks.length c3) rfl;have k3:=ch (i:=3) iX (v:=.slice a4 C.Aa.length c4) rfl;have k4:=ch (i:=4) iX (v:=.slice a5 C.now.length c5) rfl;go_wp2;refine(asf hR Uf [1,-1,1] (by decide) (fun _=>⟨_,F54.out.2.1⟩)).mono ?_;rintro e w6 ⟨v6,rfl,Dv,fX⟩;rw[F54.out.1];rw[F54.out.2.2]at fX;obtain⟨p6,d6,rfl,_⟩:=fX.val;have Wh:=bT (bA (Zg V5.heap.size V5)) Dv;have Rn:=bT Uf Wh;have Jb:w6.heap[w1.heap.size]?=some (.cells #[U a1 C.base.length c1,U a2 C.Af.length c2,U a3 C.hooks.length c3,U a4 C.Aa.length c4,U a5 C.now.length c5] 26 (0,0)):=(Wh.block _ (Za.1 iX).1).trans iX;have hg6:=Gn hg5 Wh;have ho6:=fX;clear Dv fX Wh iX Uf hg5 k0 k1 k2 k3 k4;have z0:=fun p=>Al p (ch (i:=0) Jb (v:=.slice a1 C.base.length c1) rfl);have z1:=fun p=>Al p (ch (i:=1) Jb (v:=.slice a2 C.Af.length c2) rfl);have z2:=fun p=>Al p (ch (i:=2) Jb (v:=.slice a3 C.hooks.length c3) rfl);have z3:=fun p=>Al p (ch (i:=3) Jb (v:=.slice a4 C.Aa.length c4) rfl);have z4:=fun p=>Al p (ch (i:=4) Jb (v:=.slice a5 C.now.length c5) rfl);dsimp only;go_wp2;refine Hh (S:=fun W=>∃p,W=calm w6 p) [0] 11 #[true,false,false,false,false,false,false,false,false,false,false,false] (by kernel_rfl) (fun _ _ d _ _ h=>by cases d<;>exact h) (by kernel_rfl) (AO (Zg _ _).drew) ?_;refine Br _ _ (by kernel_rfl) ?_;simp only[zr,zL,Z1,ZQ,ZP]
  repeat (first|go_big_quiet_step (fail)|quiet_step (fail))
  refine zD ?_;clear z0 z1 z2 z3 z4;change CH _ _ _ _ _ _ _ _ _;obtain⟨V,hV⟩:∃V,V=w6.drew:=⟨_,rfl⟩;have hX:Bl w6 V:=by rw[hV];exact(Zg _ _).drew
  rw[<-hV];clear hV;refine AM [1] (by kernel_rfl) (by simp) (BL ?_);refine DS (f:=85) (args:= #[.int J 46,.int J 46,.int J 30,.int J 30]) rfl rfl (by go_simp) ((c85 46 46 30 30 V).mono ?_);rintro e V2 ⟨rfl,AW,hP⟩;obtain⟨na,uz⟩:∃na,na=V.heap.size:=⟨_,rfl⟩;rw[<-uz]at hP⊢;clear uz;replace hX:=bT hX AW;refine .inl ⟨_,rfl,AO hX,?_⟩;refine AM [2] (by kernel_rfl) (by simp) (BL ?_);refine DS (f:=85) (args:= #[.int J 36,.int J 36,.int J 30,.int J 30]) rfl rfl (by go_simp) ((c85 36 36 30 30 V2).mono ?_);rintro e V3 ⟨rfl,Bg,hP2⟩;obtain⟨nb,hnb⟩:∃nb,nb=V2.heap.size:=⟨_,rfl⟩;rw[<-hnb]at hP2⊢;clear hnb;replace hX:=bT hX Bg;refine .inl ⟨_,rfl,AO hX,?_⟩;replace hP:SP (Lt V3) V3 (U (some ⟨na,0,none⟩) 2 2) [(46,46),(30,30)]:=Sl.imp (hP.later Bg) (fun b hb=>Zm hb.2 Bg.size) (fun _ _ x=>x);replace hP2:SP (Lt V3) V3 (U (some ⟨nb,0,none⟩) 2 2) [(36,36),(30,30)]:=Sl.imp hP2 (fun b hb=>hb.2) (fun _ _ x=>x);have hss:=yr hP hP2;refine AM [3] (by kernel_rfl) (by simp) (BL ?_);refine Fe (v:=.slice (some ⟨V3.heap.size,0,none⟩) 2 2) (w':=V3.alloc (.cells #[U (some ⟨na,0,none⟩) 2 2,U (some ⟨nb,0,none⟩) 2 2] 23)) rfl rfl (by go_simp) ?_;obtain⟨V4,XH⟩:∃V4,V4=V3.alloc (.cells #[U (some ⟨na,0,none⟩) 2 2,U (some ⟨nb,0,none⟩) 2 2] 23):=⟨_,rfl⟩;have Mg:Bl V3 V4:=by rw[XH];exact bA (Zg _ _)
  rw[<-XH]at hss⊢;clear XH;obtain⟨nc,hnc⟩:∃nc,nc=V3.heap.size:=⟨_,rfl⟩;rw[<-hnc]at hss⊢;replace hX:=bT hX Mg;clear hnc Mg AW Bg hP hP2;refine⟨AO hX,?_⟩;refine AM [4] (by kernel_rfl) (by simp) (BL ?_);refine DS (f:=41) (args:= #[.agg #[U a1 C.base.length c1,U a2 C.Af.length c2,U a3 C.hooks.length c3,U a4 C.Aa.length c4,U a5 C.now.length c5],U (some ⟨nc,0,none⟩) 2 2]) rfl rfl (by go_simp) ((c41 (Wq hR (bT Rn hX)) hss (fun b hb=>hb) F41.out.1 (by decide) F41.out.2.1 F41.out.2.2.2).mono ?_);rintro e V5 ⟨BS,⟨v5,rfl,KI⟩|⟨x,rfl,PG⟩⟩
  .have hN:tO C [[((46:Int),(46:Int)),(30,30)],[(36,36),(30,30)]]=3:=by unfold tO;rw[F41.out.2.2.1]
   have hE:tP C [[((46:Int),(46:Int)),(30,30)],[(36,36),(30,30)]]=0:=by unfold tP;rw[F41.out.2.2.1]
   have hL:tN C [[((46:Int),(46:Int)),(30,30)],[(36,36),(30,30)]]=[[2,0,1],[-2,0,1]]:=by unfold tN;rw[F41.out.2.2.1]
   rw[hN,hE];rw[hL]at KI;clear hN hE hL;obtain⟨p8,d8,rfl,_⟩:=Sl.val KI;replace hX:=bT hX BS;refine .inl ⟨_,rfl,AO hX,?_⟩;refine dX (ls:=[5,6,7,8,9,10,11]) (by kernel_rfl) (fun _ _ d _ _ h=>by cases d<;>exact h) (AO hX) ?_;refine CJ (v:=.tuple #[U p8 2 d8,.int J 3,.int J 0]) rfl rfl (fun w _=>by go_simp) ?_;refine CJ (v:=.slice p8 2 d8) rfl rfl (fun w _=>by go_simp) ?_;refine CJ (v:=.int J 3) rfl rfl (fun w _=>by go_simp) ?_;refine CJ (v:=.int J 0) rfl rfl (fun w _=>by go_simp) ?_;refine CJ (v:=.slice p8 2 d8) rfl rfl (fun w _=>by go_simp) ?_;refine CJ (v:=.int J 3) rfl rfl (fun w _=>by go_simp) ?_;refine CJ (v:=.int J 0) rfl rfl (fun w _=>by go_simp) ?_;have U7:=(hX.block _ (Za.1 Jb).1).trans Jb;have aez:=bT Rn hX;have hg7:=Gn hg6 hX;have ho7:=Gn ho6 hX;clear hX BS hss Jb Rn hg6 ho6;unfold Nl
   go_simp
   have k0:=ch (i:=0) U7 (v:=.slice a1 C.base.length c1) rfl;have k1:=ch (i:=1) U7 (v:=.slice a2 C.Af.length c2) rfl;have k2:=ch (i:=2) U7 (v:=.slice a3 C.hooks.length c3) rfl;have k3:=ch (i:=3) U7 (v:=.slice a4 C.Aa.length c4) rfl;have k4:=ch (i:=4) U7 (v:=.slice a5 C.now.length c5) rfl;go_wp2;refine(asg hR aez [2,-1,0] (by decide)).mono ?_;rintro e w8 ⟨rfl,JF⟩;rw[F69.out.1,F69.out.2];have hX8:=bT (bA (Zg V5.heap.size V5)) JF;have yu:=bT aez hX8;have uO:w8.heap[w1.heap.size]?=some (.cells #[U a1 C.base.length c1,U a2 C.Af.length c2,U a3 C.hooks.length c3,U a4 C.Aa.length c4,U a5 C.now.length c5] 26 (0,0)):=(hX8.block _ (Za.1 U7).1).trans U7;have hg8:=Gn hg7 hX8;have ho8:=Gn ho7 hX8;have hs8:=OT KI hX8;clear JF hX8 U7 aez hg7 ho7 KI k0 k1 k2 k3 k4;have k0:=ch (i:=0) uO (v:=.slice a1 C.base.length c1) rfl;have k1:=ch (i:=1) uO (v:=.slice a2 C.Af.length c2) rfl;have k2:=ch (i:=2) uO (v:=.slice a3 C.hooks.length c3) rfl;have k3:=ch (i:=3) uO (v:=.slice a4 C.Aa.length c4) rfl;have k4:=ch (i:=4) uO (v:=.slice a5 C.now.length c5) rfl;dsimp only;go_wp2;refine(ash hR yu (hG.later (bT Bb yu)) F34.out.2.2).mono ?_;rintro e w9 ⟨H_,rfl|⟨x,rfl,PG⟩⟩
   .rw[F34.out.1,F34.out.2.1]
    have hX9:=bT (bA (bA (bA (bA (Zg w8.heap.size w8))))) H_;have asm:=bT Bb (bT yu hX9);have hg9:=Gn hg8 hX9;have ho9:=Gn ho8 hX9;have hs9:=OT hs8 hX9;clear H_ hX9 uO hg8 ho8 hs8 k0 k1 k2 k3 k4;dsimp only;have m1:=YI;go_wp2_with (first|(go_at_call 46;clear m1;refine(akJ hg9).mono ?_;rintro e w10 ⟨rfl,PI⟩;have akQ:=Gn ho9 PI;have akR:=OT hs9 PI;have akS:=bT asm PI;clear hg9 ho9 hs9 PI)|(go_at_call 46;refine(akK akQ).mono ?_;rintro e w11 ⟨rfl,U9⟩;have akT:=OT akR U9;have kO:=bT akS U9;clear akQ akR U9)|(go_at_call 37;refine(akL akT).mono ?_;rintro e w12 ⟨rfl,du⟩;have akU:=bT kO du;clear akT du));go_ret;exact⟨akU,.inl rfl⟩
   .exact⟨rfl,bT Bb (bT yu (bT (bA (bA (bA (bA (Zg w8.heap.size w8))))) H_)),.inr ⟨_,rfl,PG⟩⟩
  .refine .inr ⟨x,rfl,?_⟩
   exact⟨rfl,bT Bb (bT (bT Rn hX) BS),.inr ⟨_,rfl,PG⟩⟩
end Go.Proofs.Fit
