/- Part of a proof. -/
import Derived.Test.YtdhgoldgnnpnmaaGreatDoorQ10
set_option maxRecDepth 100000
set_option maxHeartbeats 6400000
noncomputable section
set_option linter.all false
open And renaming intro->ZY
open Array renaming getElem?_eq_some_iff->Za,replicate->Yu,getElem?_eq_getElem->Zx,getElem?_setIfInBounds_self_of_lt->ZV,getElem?_setIfInBounds_ne->Zk
open Bool renaming and_eq_true->ZF
open Go renaming Value->Zf,World->Zb,bodyPost_ret->ZN,wpQuiet_nil->Z4,below_drewN->Y5,info_parts->zp,wpList_append_own->Yc,Program->Zo,FuncId->ZaQ,execOp->Zby,wp_append_own->Zak,ownsRow_succ->Zay
open Go.Act renaming put->Zck
open Go.Addr renaming add->Zcu
open Go.Calls renaming quiet_of_same->Zb5
open Go.Instr renaming makeSlice->Zdp
open Go.IntKind renaming wrap_i64->zE,i64->J
open Go.Lib renaming hid->Zd
open Go.Obj renaming cells->Zbi
open Go.Oper renaming wp->ZbA,upon_enter->Zdj
open Go.Proofs.Tryz renaming underlying22->YE,underlying33->zW
open Go.Region renaming Mode->YO,noSelect->YF,ready->zs
open Go.RowKit renaming Below->YH
open Go.RowKit.Below renaming refl->Zh
open Go.Value renaming int->ZL,slice->Zy,oneCell'->YT,slice->U,int->I
open Go.World renaming size_alloc->ZB,cell?->zy,block_lt_of_cell?->ZH,putObj_heap_other->zG,ownsRow_nil->zq
open List renaming length_cons->zb,getElem?_take_of_lt->Z2,getElem?_drop->Yl,drop_eq_nil_iff->Z7,getElem?_map->YL,getElem?_eq_some_iff->Zm,mem_of_getElem?->Z3,filterMap_cons->Z6,filterMap_nil->zd,getElem?_toArray->ZG,getElem?_cons_succ->ZD,getElem?_cons_zero->ZC,getElem?_eq_getElem->zf,mem_cons_of_mem->zm,mem_cons_self->zC,take_add_one->ZbH,getElem?_append_left->zl,length_append->ZA,length_nil->zR,getElem?_append_right->Zbr,take_of_length_le->Zb3,length_filter_le->Zac,drop_eq_getElem_cons->ZO
open Nat renaming le_refl->Zj,zero_le->Zp,two_pow_pos->Zdz,lt_of_lt_of_le->Zl,pow_le_pow_right->YX,le_trans->Zr,lt_or_ge->Zar,zero_add->zN,reduceAdd->ZaF
open Ne renaming symm->Za0
open Option.some renaming inj->ZW
open True renaming intro->Yz
namespace Go.Proofs.Fit
open Go Go.RowKit
def wrap_small {x:Int}(h:0<=x/\x<=1000000):IntKind.i64.wrap x=x:=by
 rw[zE];omega
def Uk (i:Nat)(d:A_)(j:Nat):Key:=(i,(nth d.now 0,nth d.now 1,nth d.now 2),(if 0<j then(Aj d.Aa 0).left else 0),(if 1<j then(Aj d.Aa 1).left else 0),(if 2<j then(Aj d.Aa 2).left else 0))
variable {i n j n0 mb:Nat}
def qP {l:List Ay}(h:l.length<=i):Aj l i=pD:=by simp[Aj,h]
variable {d c:A_}
def qQ (h:d.Aa.length=n)(h3:n<=3):Uk i d n=M5 i d:=by
 have key:∀j,(if j<n then(Aj d.Aa j).left else 0)=(Aj d.Aa j).left:=fun j=>by
  split
  .rfl
  rw[qP (by omega)];rfl
 unfold Uk M5;rw[key 0,key 1,key 2]
def qR (h:j<3):(E0 (Uk i d j)).setIfInBounds (4+j) (.int J (Aj d.Aa j).left)=E0 (Uk i d (j+1)):=by
 have:j=0\/j=1\/j=2:=by omega
 rcases this with rfl|rfl|rfl<;>simp[E0,Uk]
def vg (h:j<3):(E0 (Uk i d j))[4+j]?=some (.int J 0):=by
 have:j=0\/j=1\/j=2:=by omega
 rcases this with rfl|rfl|rfl<;>rfl
def vh (i:Int)(b:List Int)(h1:1<=b.length)(h3:b.length<=3):(([.int J i,.int J 0,.int J 0,.int J 0,.int J 0,.int J 0,.int J 0]:List Zf).take 1++(b.map (ZL J)++([.int J i,.int J 0,.int J 0,.int J 0,.int J 0,.int J 0,.int J 0]:List Zf).drop (1+(b.map (ZL J)).length))).toArray=E0 (i,(nth b 0,nth b 1,nth b 2),0,0,0):=by
 match b,h1,h3 with
 | [x],_,_=>rfl
 | [x,y],_,_=>rfl
 | [x,y,z],_,_=>rfl
variable {S:Nat->Prop}
def aic:pI (Rl S):=fun _ _ _ h u hu=>by
 obtain⟨u',rfl,hs⟩:=h;obtain⟨a,c,rfl,_⟩:=hs.val;simp at hu;subst hu
 rfl
variable {w A B X:Zb}
def vj {w':Zb}{cs:List Zf}{x:List Int}(h:Rl (LS n0 mb w) w cs x)(hk:Kept n0 mb w w'):Rl (LS n0 mb w') w' cs x:=by
 obtain⟨u,e,hs⟩:=h;exact⟨u,e,Sl.imp (SI.Ar hs fun b hb _=>hk b hb) (fun b hb=>hb.Ar hk) (fun _ _ x=>x)⟩
variable {v vf u v1 v2 v3 v4 v5:Zf}
variable {l a b:List Int}
def iQ {base:Nat}{u0:Zf}{news:List Zf}{pl:List (List Int)}(h:A.ownsRow base 22 1 v (1+pl.length) ([u0]++news))(h0:SI (LS n0 mb A) A u0 l)(hR:∀(i:Nat) (x:List Int),pl[i]?=some x->Rl (LS n0 mb A) A ((news.drop (i*1)).take 1) x):LL n0 mb A v (l::pl):=
 abM (vals:=[u0]++news) (by rw[zb,Nat.add_comm];exact h) fun i x hx=>by
  cases i with
  |zero=>cases hx;exact⟨u0,rfl,h0⟩
  |succ i=>
   obtain⟨u,e,hs⟩:=hR i x (by simpa using hx);have h1:((news.drop (i*1)).take 1)[0]?=some u:=by rw[e];rfl
   rw[Z2 (by omega),Yl]at h1;exact⟨u,by simpa using h1,hs⟩
variable {ab:Nat->Nat}
variable {fits:List (List (List Int))}
def FS.aid {wr:Zb}{g:Array Zf}{k:Key}(h:FS n0 mb ab c fits w vf g k wr)(hn:n0<=w.heap.size)(hm:mb<w.heap.size){bo:Nat}{a b e:Zf}(hb:wr.heap[bo]?=some (.cells #[a,b,e] 77 (0,0)))(hz:w.heap.size+1+1+1<bo)(v0 v1 v2:Zf):
  FS n0 mb ab c fits w vf g k (((wr.setCell ⟨bo,0,none⟩ v0).setCell ⟨bo,1,none⟩ v1).setCell ⟨bo,2,none⟩ v2)/\(((wr.setCell ⟨bo,0,none⟩ v0).setCell ⟨bo,1,none⟩ v1).setCell ⟨bo,2,none⟩ v2).heap[bo]?=some (.cells #[v0,v1,v2] 77 (0,0))/\Kept n0 mb wr (((wr.setCell ⟨bo,0,none⟩ v0).setCell ⟨bo,1,none⟩ v1).setCell ⟨bo,2,none⟩ v2):=by
 have h1:=Ba (i:=0) hb v0;have h2:=Ba (i:=1) h1 v1;have h3:=Ba (i:=2) h2 v2;exact⟨((h.set hn hm hb ⟨by decide,by decide⟩ hz).set hn hm h1 ⟨by decide,by decide⟩ hz).set hn hm h2 ⟨by decide,by decide⟩ hz,h3,((Kept.set hb ⟨by decide,by decide⟩ (by omega)).trans (Kept.set h1 ⟨by decide,by decide⟩ (by omega))).trans (Kept.set h2 ⟨by decide,by decide⟩ (by omega))⟩
def apx (hv:Fq c)(DU:ab=Ax c.Aa)(Tq:fits.length<=3)(hfs:∀f∈fits,f.length<=1000/\∀l∈f,l.length=c.Aa.length)(mA:∀i,i<c.Aa.length->(Aj c.Aa i).over.length<=1000):
  ∀(k i:Nat) (d:A_) (w:Zb) (v1 v2 v3 v4 v5:Zf) (T:Nat->Prop),i+k=fits.length->n0<=w.heap.size->mb<w.heap.size->kU c d->SF n0 mb w vf fits->RC T w v1 v2 v3 v4 v5 d->(∀b,T b->b<w.heap.size/\b≠mb)->Gy (FI n0 mb ab c fits) mb w->
   Calls Lp 26 #[.agg #[vf,.map (some mb)],.agg #[v1,v2,v3,v4,v5,I .u8 (ab 0),I .u8 (ab 1),I .u8 (ab 2)],.int J i] w fun e w'=>∃v,e=.returned v/\B3 mb w w'/\Lh n0 mb w' v (Gx ab (fits.drop i) d)/\Gy (FI n0 mb ab c fits) mb w':=by
 intro k
 induction k with
 |zero=>
  intro i d w v1 v2 v3 v4 v5 T uB Vo Gv hD hF hR hT hM;have hi:i=fits.length:=by omega
  subst hi;obtain⟨a1,c1,rfl,l1,m1⟩:=hR.base.val;obtain⟨a2,c2,rfl,l2,m2⟩:=hR.Af.val;obtain⟨a3,c3,rfl,l3,m3⟩:=hR.hooks.val;obtain⟨a4,c4,rfl,l4,m4⟩:=hR.Aa.val;obtain⟨a5,c5,rfl,l5,m5⟩:=hR.now.val;obtain⟨af,iR,rfl,lf,mf⟩:=hF.val;have IX:=DJ;clear DU;go_enter Lp.func105,agQ;go_wp2;refine ZN (v:=.agg #[U none 0 0,.int J 0,.bool true]) (by rw[A8 rfl];go_simp) rfl ?_;have e1:fits.drop fits.length=[]:=Z7.2 (Zj _);have hB:Bl w (((w.alloc (.cells #[U af fits.length iR,.map (some mb)] 70)).alloc (.cells (AW (U a1 d.base.length c1) (U a2 d.Af.length c2) (U a3 d.hooks.length c3) (U a4 d.Aa.length c4) (U a5 d.now.length c5) ab) 62)).alloc (.cells #[U none 0 0,.int J 0,.bool true] 77)):=bA (bA (bA (Zh _ _)));exact⟨_,rfl,(B3.refl mb w).below hB,by rw[e1];exact⟨_,rfl,none,0,rfl,Zj _,Zp _,fun i x hx=>by cases hx⟩,hM.Ar (Kept.later hB) (hB.block _ Gv)⟩
 |succ k ih=>
  intro i d w v1 v2 v3 v4 v5 T uB Vo Gv hD hF hR hT hM;obtain⟨a1,c1,rfl,l1,m1⟩:=hR.base.val;obtain⟨a2,c2,rfl,l2,m2⟩:=hR.Af.val;obtain⟨a3,c3,rfl,l3,m3⟩:=hR.hooks.val;obtain⟨a4,c4,rfl,l4,m4⟩:=hR.Aa.val;obtain⟨a5,c5,rfl,l5,m5⟩:=hR.now.val;obtain⟨af,iR,rfl,lf,mf⟩:=hF.val;have IX:=DJ;have aX:i<fits.length:=by omega
  have axL:((i:Int)==(fits.length:Int))=false:=by simp;omega
  have mG:=Zd DU;clear DU;go_enter Lp.func105,agQ;go_wp2;obtain⟨W,hW⟩:∃W:Zb,W=((((w.alloc (.cells #[U af fits.length iR,.map (some mb)] 70)).alloc (.cells (AW (U a1 d.base.length c1) (U a2 d.Af.length c2) (U a3 d.hooks.length c3) (U a4 d.Aa.length c4) (U a5 d.now.length c5) ab) 62)).alloc (.cells #[U none 0 0,.int J 0,.bool false] 77)).alloc (.cells (E0 (i,(0,0,0),0,0,0)) 134)):=⟨_,rfl⟩;change Code.wp _ _ _ _ ((((w.alloc (.cells #[U af fits.length iR,.map (some mb)] 70)).alloc (.cells (AW (U a1 d.base.length c1) (U a2 d.Af.length c2) (U a3 d.hooks.length c3) (U a4 d.Aa.length c4) (U a5 d.now.length c5) ab) 62)).alloc (.cells #[U none 0 0,.int J 0,.bool false] 77)).alloc (.cells (E0 (i,(0,0,0),0,0,0)) 134));rw[<-hW];have hFS:FS n0 mb ab c fits w (U af fits.length iR) (AW (U a1 d.base.length c1) (U a2 d.Af.length c2) (U a3 d.hooks.length c3) (U a4 d.Aa.length c4) (U a5 d.now.length c5) ab) (i,(0,0,0),0,0,0) W:=by
   have hB:Bl w W:=by rw[hW];exact bA (bA (bA (bA (Zh _ _))))
   obtain⟨es,clk,hmm⟩:=hM.is;refine⟨(B3.refl mb w).below hB,?_,?_,?_,?_,Kept.later hB,hM.Ar (Kept.later hB) (hB.block _ Gv)⟩
   .rw[hW];exact Bf (Bf (Bf (Bp _ _) _) _) _
   .rw[hW];exact Bf (Bf (Jq _ _ _) _) _
   .rw[hW];exact Bf (by have:=Jq (w.alloc (.cells #[U af fits.length iR,.map (some mb)] 70)) (.cells (AW (U a1 d.base.length c1) (U a2 d.Af.length c2) (U a3 d.hooks.length c3) (U a4 d.Aa.length c4) (U a5 d.now.length c5) ab) 62) (.cells #[U none 0 0,.int J 0,.bool false] 77);rwa[ZB]at this) _
   rw[hW];have:=Jq ((w.alloc (.cells #[U af fits.length iR,.map (some mb)] 70)).alloc (.cells (AW (U a1 d.base.length c1) (U a2 d.Af.length c2) (U a3 d.hooks.length c3) (U a4 d.Aa.length c4) (U a5 d.now.length c5) ab) 62)) (.cells #[U none 0 0,.int J 0,.bool false] 77) (.cells (E0 (i,(0,0,0),0,0,0)) 134);rwa[ZB,ZB]at this
  clear hW;obtain⟨b5,o5,rfl,wN,hk5⟩:=hR.now.at_ (i:=0) (by rw[hD.now];exact hv.few.1);have hcn:W.cell? ⟨w.heap.size+1,4,none⟩=some (U (some ⟨b5,o5,none⟩) d.now.length c5):=ch hFS.Uf rfl;go_still_tail 5,(by kernel_rfl);change wpList _ _ _ _ _ W.drew;have HNL:=Zd (show d.now.length=c.Aa.length from hD.now);have hn3:d.now.length<=3:=by have:=HNL.out;have:=hv.few;omega
  have Vl:1<=d.now.length:=by have:=HNL.out;have:=hv.few;omega
  have Jm:=hv.few;have HDL:=Zd hD.len;have et:d.Aa.length<=3:=by have:=HDL.out;omega
  refine wpList_copy_own (P:=Lp) rfl (.tmp 28) (.tmp 31) 22 22 rfl 3 (Cz YE) (by kernel_rfl) (w.heap.size+1+1+1) 1 3 3 ⟨b5,o5,none⟩ d.now.length c5 rfl rfl (E0 (i,(0,0,0),0,0,0)) 134 hFS.key (d.now.map (ZL J)) (by rw[List.length_map];exact(Nat.min_eq_left (by omega)).symm) (fun j v hj=>?_) (by simp[E0];omega) (by intro v hv;obtain⟨x,_,rfl⟩:=List.mem_map.1 hv;rfl) ?_
  .rw[YL]at hj
   cases hx:d.now[j]? with
   |none=>rw[hx]at hj;cases hj
   |some x=>
    rw[hx]at hj;cases hj;have Az:j<d.now.length:=(Zm.1 hx).1;obtain⟨b',o',e,G1,hc⟩:=hR.now.at_ Az;cases e;have n6:nth d.now j=x:=by
     have:=Bn Az;rw[hx]at this;exact(ZW this).symm
    rw[show(⟨b5,o5,none⟩:Addr).add j=⟨b5,o5+j,none⟩ by unfold Zcu;split<;>simp_all, <-n6];have:W.drew.cell? ⟨b5,o5+j,none⟩=w.cell? ⟨b5,o5+j,none⟩:=by
     unfold zy;rw[show W.drew.heap[b5]?=w.heap[b5]? from hFS.Cn.block b5 (hT b5 wN).1 (hT b5 wN).2]
    rw[this];exact hc
  rw[show(E0 ((i:Int),(0,0,0),0,0,0)).toList=[.int J i,.int J 0,.int J 0,.int J 0,.int J 0,.int J 0,.int J 0] from rfl,vh _ _ (by omega) (by omega)];obtain⟨W5,Jy⟩:∃W5,W5=W.drew.setRow (w.heap.size+1+1+1) (E0 (Uk i d 0)):=⟨_,rfl⟩;have T7:FS n0 mb ab c fits w (U af fits.length iR) (AW (U a1 d.base.length c1) (U a2 d.Af.length c2) (U a3 d.hooks.length c3) (U a4 d.Aa.length c4) (U (some ⟨b5,o5,none⟩) d.now.length c5) ab) (Uk i d 0) W5:=by
   have IY:=hFS.later Gv (Zh W.heap.size W).drew;rw[Jy];refine IY.stage Vo Gv ?_ (Kept.row IY.key ⟨by decide,by decide⟩ (by omega)) (setRow_heap _ _ _ _ _ _ IY.key);exact⟨rfl,rfl,rfl,by simp[World.setRow],fun k _ hk=>setRow_other _ _ _ _ (fun e=>hk (by omega))⟩
  change wpList _ _ _ _ _ (W.drew.setRow (w.heap.size+1+1+1) (E0 (Uk i d 0)));rw[<-Jy];clear Jy hFS hcn hk5;have g3:=ch (i:=3) T7.Uf (v:=.slice a4 d.Aa.length c4) rfl;go_wp2;clear g3;go_loopg [37] d.Aa.length (fun g v wr=>∃j:Nat,j<=d.Aa.length/\g=d.Aa.length - j/\v=.int J j/\FS n0 mb ab c fits w (U af fits.length iR) (AW (U a1 d.base.length c1) (U a2 d.Af.length c2) (U a3 d.hooks.length c3) (U a4 d.Aa.length c4) (U (some ⟨b5,o5,none⟩) d.now.length c5) ab) (Uk i d j) wr)
  case atStart=>exact⟨0,Zp _,rfl,rfl,T7⟩
  obtain⟨j,hj,rfl,rfl,Nb⟩:=hrel;by_cases Az:j<d.Aa.length
  .obtain⟨b,o,s2,s3,rfl,hb,x0,x1,x2,x3,x4,hp,ho⟩:=hR.Aa.at_ (i:=j) Az
   have Ga:∀q v,w.cell? ⟨b,q,none⟩=some v->wr.cell? ⟨b,q,none⟩=some v:=fun q v h=>by
    unfold zy at h⊢;rw[show wr.heap[b]?=w.heap[b]? from Nb.Cn.block b (hT b hb).1 (hT b hb).2];exact h
   replace x0:=Ga _ _ x0;replace x1:=Ga _ _ x1;replace x2:=Ga _ _ x2;replace x3:=Ga _ _ x3;replace x4:=Ga _ _ x4;obtain⟨p2,q2,rfl,_⟩:=hp.val;obtain⟨p3,q3,rfl,_⟩:=ho.val;have kk:=ch (i:=4+j) Nb.key (v:=.int J 0) (vg (by omega));have ff:=cf (i:=4+j) Nb.key;have hj3:(j:Int)<3:=by omega
   have Rb:w.heap.size+1+1+1<wr.heap.size:=(Za.1 Nb.key).1;clear Ga hp ho;go_wp2;go_roundg (d.Aa.length - (j+1))
   case rel=>
    refine⟨j+1,Az,rfl,by go_num,?_⟩;refine FS.later (Nb.stage Vo Gv ((Ak.refl _ _).set rfl) (Kept.set Nb.key ⟨by decide,by decide⟩ (show n0<=w.heap.size+1+1+1 by omega)) ?_) Gv (bA (Zh _ _));rw[<-qR (show j<3 by omega)];exact Ba Nb.key _
   omega
  have hjn:j=d.Aa.length:=by omega
  subst hjn;rw[qQ rfl et]at Nb;have cO:=Nb.key;have k0:=ch (i:=0) cO (v:=.int J i) rfl;have k1:=ch (i:=1) cO (v:=.int J (nth d.now 0)) rfl;have k2:=ch (i:=2) cO (v:=.int J (nth d.now 1)) rfl;have k3:=ch (i:=3) cO (v:=.int J (nth d.now 2)) rfl;have k4:=ch (i:=4) cO (v:=.int J (Aj d.Aa 0).left) rfl;have k5:=ch (i:=5) cO (v:=.int J (Aj d.Aa 1).left) rfl;have k6:=ch (i:=6) cO (v:=.int J (Aj d.Aa 2).left) rfl;have m1':=ch (i:=1) Nb.xN (v:=.map (some mb)) rfl;have Rb:w.heap.size+1+1+1<wr.heap.size:=(Za.1 Nb.key).1;have EB:w.heap.size+1+1<wr.heap.size:=(Za.1 Nb.res).1;have r0:=ch (i:=0) Nb.res (v:=.slice none 0 0) rfl;have r1:=ch (i:=1) Nb.res (v:=.int J 0) rfl;have r2:=ch (i:=2) Nb.res (v:=.bool false) rfl;have rf0:=cf (i:=0) Nb.res;have rf1:=cf (i:=1) Nb.res;have rf2:=cf (i:=2) Nb.res;rcases uP Nb.map (M5 i d) with h1|⟨v,h1,k',e,hg⟩
  .have H1:=h1
   simp only[Dy,M5]at H1;clear h1;obtain⟨bf,of_,uf,rfl,hbf,hcf,hLL⟩:=hF.at_ aX;obtain⟨f,hf⟩:∃f,f=qD fits i:=⟨_,rfl⟩;rw[<-hf]at hLL;have HF:=Zd hf;obtain⟨af,cq,rfl,lq,mq⟩:=Sl.val hLL;have kf:=Nb.kept.cell hbf hcf;have kh:=ch (i:=0) Nb.xN (v:=.slice (some ⟨bf,of_,none⟩) fits.length iR) rfl;have axN:(i:Int)<(fits.length:Int):=by omega
   have Fl:w.heap.size<wr.heap.size:=by omega
   have eL:w.heap.size<wr.heap.size+1:=by omega
   have hzb:bf<wr.heap.size:=ZH wr _ kf;have apB:bf<wr.heap.size+1:=by omega
   clear hcf hf;go_wp2;obtain⟨W,hW⟩:∃W:Zb,W=(wr.alloc (.cells #[U none 0 0,.int J 0,.bool false] 77)).alloc (.cells #[U none 0 0,.int J 0,.bool false] 77):=⟨_,rfl⟩;have hFW:FS n0 mb ab c fits w (U (some ⟨bf,of_,none⟩) fits.length iR) (AW (U a1 d.base.length c1) (U a2 d.Af.length c2) (U a3 d.hooks.length c3) (U a4 d.Aa.length c4) (U (some ⟨b5,o5,none⟩) d.now.length c5) ab) (M5 i d) W:=by rw[hW];exact Nb.later Gv (bA (bA (Zh _ _)))
   have hOut:W.heap[wr.heap.size+1]?=some (.cells #[U none 0 0,.int J 0,.bool false] 77 (0,0)):=by rw[hW];exact Jq _ _ _
   have hLW:LL n0 mb W (U af f.length cq) f:=hLL.Ar (Nb.kept.trans (by rw[hW];exact Kept.later (bA (bA (Zh _ _)))));rw[<-hW];obtain⟨bo,hbo⟩:∃bo,bo=wr.heap.size+1:=⟨_,rfl⟩;have hbz:w.heap.size+1+1+1<bo:=by omega
   rw[<-hbo]at hOut⊢;clear hW hbo k0 k1 k2 k3 k4 k5 k6 cO m1' r0 r1 r2 rf0 rf1 rf2 kf kh Fl eL hzb apB EB Rb H1 Nb T7 hLW;have apC:f.length<=1000/\∀l∈f,l.length=c.Aa.length:=by rw[HF.out];exact hfs _ (Z3 (Te aX))
   have HSF:=Zd (show f.foldl (DL ab d (Gx ab (fits.drop (i+1)))) none=Gx ab (fits.drop i) d by rw[ahF aX, <-HF.out];rfl);go_loopg [63] f.length (fun g v wx=>∃(j:Nat) (r:Option (List (List Int)×Int)) (u:Zf) (n:Int) (s:Bool),j<=f.length/\g=f.length - j/\v=.int J j/\(f.drop j).foldl (DL ab d (Gx ab (fits.drop (i+1)))) r=Gx ab (fits.drop i) d/\
    FS n0 mb ab c fits w (U (some ⟨bf,of_,none⟩) fits.length iR) (AW (U a1 d.base.length c1) (U a2 d.Af.length c2) (U a3 d.hooks.length c3) (U a4 d.Aa.length c4) (U (some ⟨b5,o5,none⟩) d.now.length c5) ab) (M5 i d) wx/\wx.heap[bo]?=some (.cells #[u,.int J n,.bool s] 77 (0,0))/\Lh n0 mb wx (.agg #[u,.int J n,.bool s]) r)
   case atStart=>exact⟨0,none,_,_,_,Zp _,rfl,rfl,HSF.out,hFW,hOut,rfl⟩
   obtain⟨j,r,u,n,s,hj,rfl,rfl,CP,Vq,H_,yh⟩:=hrel;have Tl:=Zd CP;clear CP;by_cases Az:j<f.length
   .obtain⟨x1,x2,x3,x4,x5,e,h5,h6,h7⟩:=yh.val
    have H5:=Zd h5;clear h5 h6 h7;cases e;have kZ:LL n0 mb wr (U af f.length cq) f:=hLL.Ar Vq.kept;obtain⟨b,o,ul,rfl,hb,hc,hu⟩:=SL.at_ kZ Az;have Xc:(BM f j).length=c.Aa.length:=apC.2 _ (Z3 (BJ Az));have iT:=Zd (eW (g:=DL ab d (Gx ab (fits.drop (i+1)))) (a:=r) Az);obtain⟨l,hl⟩:∃l,l=BM f j:=⟨_,rfl⟩;rw[<-hl]at hu Xc iT;have yg:=Zd Xc;have Qm:l.length<=3:=by omega
    clear hl Xc;obtain⟨al,cl,rfl,ll1,ll2⟩:=hu.val;have haL:∀j,ab j<2^c.Aa.length:=by rw[mG.out];exact LH hv.over
    have pT:∀j,j<3->ab j<8:=by rw[mG.out];exact S3 hv.over
    obtain⟨t,ht⟩:∃t,t=Cx ab d.now l:=⟨_,rfl⟩;have cI:t<2^c.Aa.length:=by rw[ht];exact JW haL l 0 0 (by have:=yg.out;omega) (Zdz _)
    have pK:t<8:=Zl cI (show 2^c.Aa.length<=2^3 from YX (by decide) Jm.2);have bP:∀x,x∈AB t->0<=x/\x<d.Aa.length:=by rw[HDL.out];exact N_ cI
    have hRr:∀W,Bl wr W->RC (fun b=>T b\/LS n0 mb W b) W (U a1 d.base.length c1) (U a2 d.Af.length c2) (U a3 d.hooks.length c3) (U a4 d.Aa.length c4) (U (some ⟨b5,o5,none⟩) d.now.length c5) d:=fun W hB=>
     ((hR.Ar fun b hb _=>Vq.Cn.block b (hT b hb).1 (hT b hb).2).Ar fun b hb hl=>hB.block b hl).imp fun b hb=>.inl hb
    have huW:∀W,Bl wr W->SI (fun b=>T b\/LS n0 mb W b) W (U al l.length cl) l:=fun W hB=>Sl.imp (hu.Ar (fun b hb hl=>hB.block b hl)) (fun b hb=>.inr (hb.Ar (Kept.later hB))) (fun _ _ x=>x);have gD:∀W,Bl wr W->∀b,T b\/LS n0 mb W b->b<W.heap.size:=fun W hB b hb=>by
     rcases hb with hb|hb
     .have:=(hT b hb).1;have:=Vq.Cn.size;have:=hB.size;omega
     exact hb.lt
    have aij:l.length<=d.now.length:=by have:=HNL.out;have:=yg.out;omega
    have M_:=Zd (c90 (l:=l) (ab:=ab) (hRr wr (Zh _ _)) (huW wr (Zh _ _)) aij hn3 pT (by rw[<-ht];exact bP) (gD wr (Zh _ _)));rw[<-ht]at M_;have kc:=hc;have g0:=ch (i:=0) Vq.Uf (v:=.slice a1 d.base.length c1) rfl;have g1:=ch (i:=1) Vq.Uf (v:=.slice a2 d.Af.length c2) rfl;have g2:=ch (i:=2) Vq.Uf (v:=.slice a3 d.hooks.length c3) rfl;have g3:=ch (i:=3) Vq.Uf (v:=.slice a4 d.Aa.length c4) rfl;have g4:=ch (i:=4) Vq.Uf (v:=.slice (some ⟨b5,o5,none⟩) d.now.length c5) rfl;have g5:=ch (i:=5) Vq.Uf (v:=.int .u8 (ab 0)) rfl;have g6:=ch (i:=6) Vq.Uf (v:=.int .u8 (ab 1)) rfl;have g7:=ch (i:=7) Vq.Uf (v:=.int .u8 (ab 2)) rfl;have HT:=Zd ht;have axQ:(j:Int)<(f.length:Int):=by omega
    cases jG:JU d t with
    |some x=>
     rw[jG]at M_;change Hid (Calls Lp 62 _ _ fun e w'=>e=.returned (.tuple #[I .u8 0,.iface 152 (.agg #[.int J x])])/\Bl wr w') at M_;have qO:=Zd (show DL ab d (Gx ab (fits.drop (i+1))) r l=r by unfold DL;rw[<-HT.out,jG]);clear jG ht;go_wp2_with (go_at_call 62;refine M_.out.mono ?_;rintro e w1 ⟨rfl,Bg⟩);go_roundg (f.length - (j+1))
     case rel=>
      exact⟨j+1,r,_,_,_,Az,rfl,by go_num,by rw[<-Tl.out,iT.out,qO.out],Vq.later Gv Bg,(Bg.block bo (Za.1 H_).1).trans H_,yh.Ar (Kept.later Bg)⟩
     case measure=>omega
    |none=>
     rw[jG]at M_;change Hid (Calls Lp 62 _ _ fun e w'=>e=.returned (.tuple #[I .u8 t,.nilIface])/\Bl wr w') at M_;have HSW:=Zd jG;clear jG ht;go_wp2_with (go_at_call 62;refine M_.out.mono ?_;rintro e w1 ⟨rfl,Bg⟩);have Xn:=Vq.later Gv Bg;have s0:=fun p=>Cg (q:=mb) p (ch (i:=0) Xn.xN (v:=.slice (some ⟨bf,of_,none⟩) fits.length iR) rfl) (show w.heap.size≠mb by omega);have s1:=fun p=>Cg (q:=mb) p (ch (i:=1) Xn.xN (v:=.map (some mb)) rfl) (show w.heap.size≠mb by omega);have e0:=fun p=>Cg (q:=mb) p (ch (i:=0) Xn.Uf (v:=.slice a1 d.base.length c1) rfl) (show w.heap.size+1≠mb by omega);have e1:=fun p=>Cg (q:=mb) p (ch (i:=1) Xn.Uf (v:=.slice a2 d.Af.length c2) rfl) (show w.heap.size+1≠mb by omega);have e2:=fun p=>Cg (q:=mb) p (ch (i:=2) Xn.Uf (v:=.slice a3 d.hooks.length c3) rfl) (show w.heap.size+1≠mb by omega);have e3:=fun p=>Cg (q:=mb) p (ch (i:=3) Xn.Uf (v:=.slice a4 d.Aa.length c4) rfl) (show w.heap.size+1≠mb by omega);have e4:=fun p=>Cg (q:=mb) p (ch (i:=4) Xn.Uf (v:=.slice (some ⟨b5,o5,none⟩) d.now.length c5) rfl) (show w.heap.size+1≠mb by omega);have e5:=fun p=>Cg (q:=mb) p (ch (i:=5) Xn.Uf (v:=.int .u8 (ab 0)) rfl) (show w.heap.size+1≠mb by omega);have e6:=fun p=>Cg (q:=mb) p (ch (i:=6) Xn.Uf (v:=.int .u8 (ab 1)) rfl) (show w.heap.size+1≠mb by omega);have e7:=fun p=>Cg (q:=mb) p (ch (i:=7) Xn.Uf (v:=.int .u8 (ab 2)) rfl) (show w.heap.size+1≠mb by omega);have Qq:mb<w1.heap.size:=by have:=Xn.Cn.size;omega
     clear g0 g1 g2 g3 g4 g5 g6 g7 kc hc;refine G6 (S:=fun W=>∃p,W=SY w1 mb p) [0,1,2,3,5,6] 4 #[true,true,true,true,false,true,true,false,false,false] (by kernel_rfl) (fun _ _ d _ _ h=>by cases d<;>exact h) (by kernel_rfl) (BI ((B3.refl mb w1).below (Zh _ _).drew) Qq) ?_;refine K9 [0,1,2,3,5] [6] _ ?_;refine A4 _ _ (by kernel_rfl) ?_;simp only[Z6,zd,ZG,ZD,ZC]
     repeat (first|go_big_quiet_step (fail)|quiet_step (fail))
     refine Z4 ?_;refine CB (v:=.int J ((i:Int)+1)) rfl rfl (fun w _=>by go_simp;exact wrap_small (by omega)) ?_;clear s0 s1 e0 e1 e2 e3 e4 e5 e6 e7;change Cy _ _ _ _ _ _ _ _ _;have H92:∀W,Bl wr W->Calls Lp 63 #[.agg #[U a1 d.base.length c1,U a2 d.Af.length c2,U a3 d.hooks.length c3,U a4 d.Aa.length c4,U (some ⟨b5,o5,none⟩) d.now.length c5,I .u8 (ab 0),I .u8 (ab 1),I .u8 (ab 2)],U al l.length cl,I .u8 t] W (ahm W (ab 0) (ab 1) (ab 2) (FH d l t)):=fun W hB=>c92 (hRr W hB) (huW W hB) (gD W hB) pK bP (fun i hi=>by have:=hD.left i (by have:=HDL.out;omega);omega) (by rw[hD.base];have:=hv.Fp;omega) (by rw[hD.Af];have:=hv.Fp;have:=hv.PN;omega) (by rw[hD.hooks];have:=hv.Fp;have:=hv.hooks;omega) (by omega) (by have:=HDL.out;omega) (by omega) (fun i hi=>by
      have DN:i<c.Aa.length:=by have:=HDL.out;omega
      obtain⟨q1,q2,_⟩:=hD.rest i DN;rw[q1,q2];have:=hv.Ap i DN;have:=mA i DN;omega) (by omega) (ab 0) (ab 1) (ab 2)
     have hDw:kU c (FH d l t):=hD.abw yg.out bP HSW.out;have qO:=Zd (show DL ab d (Gx ab (fits.drop (i+1))) r l=(match Gx ab (fits.drop (i+1)) (FH d l t) with
      |none=>r
      |some p=>if LJ ((AB t).length+p.2) r=true then some (l::p.1,(AB t).length+p.2) else r) by unfold DL;rw[<-HT.out,HSW.out];rfl)
     have Tm:∀(W:Zb) (hB:Bl w1 W) {u1 u2 u3 u4 u5:Zf},RC (Cb w1.heap.size W) W u1 u2 u3 u4 u5 (FH d l t)->Calls Lp 26 #[.agg #[U (some ⟨bf,of_,none⟩) fits.length iR,.map (some mb)],.agg #[u1,u2,u3,u4,u5,I .u8 (ab 0),I .u8 (ab 1),I .u8 (ab 2)],.int J ((i+1:Nat):Int)] W (fun e w'=>∃v,e=.returned v/\B3 mb W w'/\Lh n0 mb w' v (Gx ab (fits.drop (i+1)) (FH d l t))/\Gy (FI n0 mb ab c fits) mb w'):=fun W hB u1 u2 u3 u4 u5 hR=>by
      have lx:=Xn.later Gv hB;have h1:=lx.Cn.size;exact ih (i+1) (FH d l t) W _ _ _ _ _ (Cb w1.heap.size W) (by omega) (by omega) (by omega) hDw (hF.Ar lx.kept) hR (fun b hb=>⟨hb.2,by have h2:=hb.1;omega⟩) lx.map
     have ack:∀q,w1.heap.size<=q->q≠mb:=fun q h=>by omega
     have atB:bo<w1.heap.size:=Zl (Za.1 H_).1 Bg.size;have axS:w.heap.size+1+1+1<w1.heap.size:=by omega
     refine AK [4,8] (by kernel_rfl) (by simp) (Ix ?gA ?gB)
     case' gB=>
      have rR:Bl w1 (w1.drew.alloc (.cells #[U none 0 0,.int J 0,.bool false] 77)):=bA (Zh _ _).drew;have T6:(w1.drew.alloc (.cells #[U none 0 0,.int J 0,.bool false] 77)).heap[w1.heap.size]?=some (.cells #[U none 0 0,.int J 0,.bool false] 77 (0,0)):=Bp w1.drew _;refine EX (v:=.pointer (some ⟨w1.heap.size,0,none⟩)) (w':=w1.drew.alloc (.cells #[U none 0 0,.int J 0,.bool false] 77)) rfl rfl (by go_simp) ?_;refine⟨BI ((B3.refl mb w1).below rR) Qq,?_⟩;refine AK [4] (by kernel_rfl) (by simp) (BF ?_);refine DK (f:=63) (args:= #[.agg #[U a1 d.base.length c1,U a2 d.Af.length c2,U a3 d.hooks.length c3,U a4 d.Aa.length c4,U (some ⟨b5,o5,none⟩) d.now.length c5,I .u8 (ab 0),I .u8 (ab 1),I .u8 (ab 2)],U al l.length cl,I .u8 t]) rfl rfl (by go_simp) ((H92 _ (Bg.trans (rR.mono Bg.size))).mono ?_);rintro e w2 ⟨z1,z2,z3,z4,z5,rfl,Bb,fE⟩;obtain⟨p1,t1,rfl,_⟩:=fE.base.val;obtain⟨p2,t2,rfl,_⟩:=fE.Af.val;obtain⟨p3,t3,rfl,_⟩:=fE.hooks.val;obtain⟨p4,t4,rfl,_⟩:=fE.Aa.val;obtain⟨p5,t5,rfl,_⟩:=fE.now.val;have Ia:Bl w1 w2:=rR.trans (Bb.mono rR.size);refine .inl ⟨_,rfl,BI ((B3.refl mb w1).below Ia) Qq,?_⟩;refine AK [7] (by kernel_rfl) (by simp) (BF ?_);have lx:=Xn.later Gv Ia;have uV:RC (Cb w1.heap.size w2) w2 _ _ _ _ _ (FH d l t):=(RC.imp fE (fun b (hb:Cb (w1.drew.alloc _).heap.size w2 b)=>Cb.mono (Zj _) (by simp) hb));refine DK (f:=26) rfl rfl (by go_simp) ((Tm w2 Ia uV).mono ?_);rintro e w3 ⟨v,rfl,H4,Vr,eB⟩;obtain⟨y1,y2,y3,y4,y5,rfl,yi,hy6,hy7⟩:=Vr.val;have Ww:=lx.step Gv H4 eB;have Na:B3 mb w1 w3:=(B3.refl mb w1).below Ia|>.trans H4;have F1:Kept n0 mb wr w3:=(Kept.later (Bg.trans (Ia.mono Bg.size))).trans (Kept.WN H4 lx.map.is);have fF:w3.heap[bo]?=some (.cells #[U x1 x2 x3,.int J n,.bool s] 77 (0,0)):=by
       have h1:=((Bg.trans (Ia.mono Bg.size)).block bo (Za.1 H_).1).trans H_;exact(H4.block bo (Za.1 h1).1 (by omega)).trans h1
      refine .inl ⟨_,rfl,BI Na Qq,?_⟩;have JA:w3.heap[w1.heap.size]?=some (.cells #[U none 0 0,.int J 0,.bool false] 77 (0,0)):=by
       have h1:=(Bb.block _ (Za.1 T6).1).trans T6;exact(H4.block _ (Za.1 h1).1 (ack _ (Zj _))).trans h1
      obtain⟨q,hq⟩:∃q,q=w1.heap.size:=⟨_,rfl⟩;rw[<-hq]at JA⊢;have cB:w1.heap.size<=q:=by omega
      refine AK [9] (by kernel_rfl) (by simp) (BF ?_);clear hq;have qf0:=cf (i:=0) JA;have qc0:=ch (i:=0) JA (v:=.slice none 0 0) rfl;have qc1:=ch (i:=1) JA (v:=.int J 0) rfl;have qc2:=ch (i:=2) JA (v:=.bool false) rfl;have qf1:=cf (i:=1) JA;have qf2:=cf (i:=2) JA;obtain⟨W4,ED⟩:∃W4,W4=((w3.setCell ⟨q,0,none⟩ (U y1 y2 y3)).setCell ⟨q,1,none⟩ (.int J y4)).setCell ⟨q,2,none⟩ (.bool y5):=⟨_,rfl⟩;refine Rj (w':=W4) rfl rfl (by rw[ED];go_simp) ?_;have S5:B3 mb w1 W4:=by rw[ED];exact((Na.D4 cB).D4 cB).D4 cB
      refine⟨BI S5 Qq,rfl,?_⟩;have Qn:Kept n0 mb wr W4:=by
       have MM:=Ba (i:=0) JA (U y1 y2 y3);have LO:=Ba (i:=1) MM (.int J y4);rw[ED];exact((F1.trans (Kept.set JA ⟨by decide,by decide⟩ (by omega))).trans (Kept.set MM ⟨by decide,by decide⟩ (by omega))).trans (Kept.set LO ⟨by decide,by decide⟩ (by omega))
      have IY:=((Ww.set Vo Gv (j:=0) (v:=.slice y1 y2 y3) JA ⟨by decide,by decide⟩ (by omega)).set Vo Gv (j:=1) (v:=.int J y4) (Ba (i:=0) JA _) ⟨by decide,by decide⟩ (by omega)).set Vo Gv (j:=2) (v:=.bool y5) (Ba (i:=1) (Ba (i:=0) JA _) _) ⟨by decide,by decide⟩ (by omega);rw[<-ED]at IY;have cC:bo≠q:=by omega
      have Pj:W4.heap[bo]?=some (.cells #[U x1 x2 x3,.int J n,.bool s] 77 (0,0)):=by rw[ED];exact(AZ cC _).trans ((AZ cC _).trans ((AZ cC _).trans fF))
      have cD:W4.heap[q]?=some (.cells #[U y1 y2 y3,.int J y4,.bool y5] 77 (0,0)):=by rw[ED];exact Ba (Ba (Ba JA _) _) _
      have hv4:=Vr.Ar (show Kept n0 mb w3 W4 by
       have MM:=Ba (i:=0) JA (U y1 y2 y3);have LO:=Ba (i:=1) MM (.int J y4);rw[ED];exact((Kept.set JA ⟨by decide,by decide⟩ (by omega)).trans (Kept.set MM ⟨by decide,by decide⟩ (by omega))).trans (Kept.set LO ⟨by decide,by decide⟩ (by omega)))
      clear qf0 qf1 qf2 qc0 qc1 qc2 JA S5
     case' gA=>
      have rR:Bl w1 w1.drew:=(Zh _ _).drew;refine DK (f:=63) (args:= #[.agg #[U a1 d.base.length c1,U a2 d.Af.length c2,U a3 d.hooks.length c3,U a4 d.Aa.length c4,U (some ⟨b5,o5,none⟩) d.now.length c5,I .u8 (ab 0),I .u8 (ab 1),I .u8 (ab 2)],U al l.length cl,I .u8 t]) rfl rfl (by go_simp) ((H92 _ (Bg.trans (rR.mono Bg.size))).mono ?_);rintro e w2 ⟨z1,z2,z3,z4,z5,rfl,Bb,fE⟩;obtain⟨p1,t1,rfl,_⟩:=fE.base.val;obtain⟨p2,t2,rfl,_⟩:=fE.Af.val;obtain⟨p3,t3,rfl,_⟩:=fE.hooks.val;obtain⟨p4,t4,rfl,_⟩:=fE.Aa.val;obtain⟨p5,t5,rfl,_⟩:=fE.now.val;have Ia:Bl w1 w2:=rR.trans (Bb.mono rR.size);refine .inl ⟨_,rfl,BI ((B3.refl mb w1).below Ia) Qq,?_⟩;refine AK [7,8] (by kernel_rfl) (by simp) (Ix ?hA ?hB)
      case' hB=>
       have mg:Bl w1 (w2.alloc (.cells #[U none 0 0,.int J 0,.bool false] 77)):=bA Ia;have T6:(w2.alloc (.cells #[U none 0 0,.int J 0,.bool false] 77)).heap[w2.heap.size]?=some (.cells #[U none 0 0,.int J 0,.bool false] 77 (0,0)):=Bp w2 _;refine EX (v:=.pointer (some ⟨w2.heap.size,0,none⟩)) (w':=w2.alloc (.cells #[U none 0 0,.int J 0,.bool false] 77)) rfl rfl (by go_simp) ?_;refine⟨BI ((B3.refl mb w1).below mg) Qq,?_⟩;refine AK [7] (by kernel_rfl) (by simp) (BF ?_);have lx:=Xn.later Gv mg;have uV:RC (Cb w1.heap.size (w2.alloc (.cells #[U none 0 0,.int J 0,.bool false] 77))) (w2.alloc (.cells #[U none 0 0,.int J 0,.bool false] 77)) _ _ _ _ _ (FH d l t):=(RC.imp (fE.later (bA (Zh w2.heap.size w2))) (fun b (hb:Cb w1.heap.size w2 b)=>Cb.mono (by simp) (Zj _) hb));refine DK (f:=26) rfl rfl (by go_simp) ((Tm (w2.alloc (.cells #[U none 0 0,.int J 0,.bool false] 77)) mg uV).mono ?_);rintro e w3 ⟨v,rfl,H4,Vr,eB⟩;obtain⟨y1,y2,y3,y4,y5,rfl,yi,hy6,hy7⟩:=Vr.val;have Ww:=lx.step Gv H4 eB;have Na:B3 mb w1 w3:=(B3.refl mb w1).below mg|>.trans H4;have F1:Kept n0 mb wr w3:=(Kept.later (Bg.trans (mg.mono Bg.size))).trans (Kept.WN H4 lx.map.is);have fF:w3.heap[bo]?=some (.cells #[U x1 x2 x3,.int J n,.bool s] 77 (0,0)):=by
        have h1:=((Bg.trans (mg.mono Bg.size)).block bo (Za.1 H_).1).trans H_;exact(H4.block bo (Za.1 h1).1 (by omega)).trans h1
       refine .inl ⟨_,rfl,BI Na Qq,?_⟩;have JA:w3.heap[w2.heap.size]?=some (.cells #[U none 0 0,.int J 0,.bool false] 77 (0,0)):=(H4.block _ (Za.1 T6).1 (ack _ Ia.size)).trans T6;obtain⟨q,hq⟩:∃q,q=w2.heap.size:=⟨_,rfl⟩;rw[<-hq]at JA⊢;have cB:w1.heap.size<=q:=by rw[hq];exact Ia.size
       refine AK [9] (by kernel_rfl) (by simp) (BF ?_);clear hq;have qf0:=cf (i:=0) JA;have qc0:=ch (i:=0) JA (v:=.slice none 0 0) rfl;have qc1:=ch (i:=1) JA (v:=.int J 0) rfl;have qc2:=ch (i:=2) JA (v:=.bool false) rfl;have qf1:=cf (i:=1) JA;have qf2:=cf (i:=2) JA;obtain⟨W4,ED⟩:∃W4,W4=((w3.setCell ⟨q,0,none⟩ (U y1 y2 y3)).setCell ⟨q,1,none⟩ (.int J y4)).setCell ⟨q,2,none⟩ (.bool y5):=⟨_,rfl⟩;refine Rj (w':=W4) rfl rfl (by rw[ED];go_simp) ?_;have S5:B3 mb w1 W4:=by rw[ED];exact((Na.D4 cB).D4 cB).D4 cB
       refine⟨BI S5 Qq,rfl,?_⟩;have Qn:Kept n0 mb wr W4:=by
        have MM:=Ba (i:=0) JA (U y1 y2 y3);have LO:=Ba (i:=1) MM (.int J y4);rw[ED];exact((F1.trans (Kept.set JA ⟨by decide,by decide⟩ (by omega))).trans (Kept.set MM ⟨by decide,by decide⟩ (by omega))).trans (Kept.set LO ⟨by decide,by decide⟩ (by omega))
       have IY:=((Ww.set Vo Gv (j:=0) (v:=.slice y1 y2 y3) JA ⟨by decide,by decide⟩ (by omega)).set Vo Gv (j:=1) (v:=.int J y4) (Ba (i:=0) JA _) ⟨by decide,by decide⟩ (by omega)).set Vo Gv (j:=2) (v:=.bool y5) (Ba (i:=1) (Ba (i:=0) JA _) _) ⟨by decide,by decide⟩ (by omega);rw[<-ED]at IY;have cC:bo≠q:=by omega
       have Pj:W4.heap[bo]?=some (.cells #[U x1 x2 x3,.int J n,.bool s] 77 (0,0)):=by rw[ED];exact(AZ cC _).trans ((AZ cC _).trans ((AZ cC _).trans fF))
       have cD:W4.heap[q]?=some (.cells #[U y1 y2 y3,.int J y4,.bool y5] 77 (0,0)):=by rw[ED];exact Ba (Ba (Ba JA _) _) _
       have hv4:=Vr.Ar (show Kept n0 mb w3 W4 by
        have MM:=Ba (i:=0) JA (U y1 y2 y3);have LO:=Ba (i:=1) MM (.int J y4);rw[ED];exact((Kept.set JA ⟨by decide,by decide⟩ (by omega)).trans (Kept.set MM ⟨by decide,by decide⟩ (by omega))).trans (Kept.set LO ⟨by decide,by decide⟩ (by omega)))
       clear qf0 qf1 qf2 qc0 qc1 qc2 JA S5
      case' hA=>
       have lx:=Xn.later Gv Ia;have uV:RC (Cb w1.heap.size w2) w2 _ _ _ _ _ (FH d l t):=fE;refine DK (f:=26) rfl rfl (by go_simp) ((Tm w2 Ia uV).mono ?_);rintro e w3 ⟨v,rfl,H4,Vr,eB⟩;obtain⟨y1,y2,y3,y4,y5,rfl,yi,hy6,hy7⟩:=Vr.val;have Ww:=lx.step Gv H4 eB;have Na:B3 mb w1 w3:=(B3.refl mb w1).below Ia|>.trans H4;have F1:Kept n0 mb wr w3:=(Kept.later (Bg.trans (Ia.mono Bg.size))).trans (Kept.WN H4 lx.map.is);have fF:w3.heap[bo]?=some (.cells #[U x1 x2 x3,.int J n,.bool s] 77 (0,0)):=by
        have h1:=((Bg.trans (Ia.mono Bg.size)).block bo (Za.1 H_).1).trans H_;exact(H4.block bo (Za.1 h1).1 (by omega)).trans h1
       refine .inl ⟨_,rfl,BI Na Qq,?_⟩;refine AK [8] (by kernel_rfl) (by simp) (BF ?_);refine EX (v:=.pointer (some ⟨w3.heap.size,0,none⟩)) (w':=w3.alloc (.cells #[U none 0 0,.int J 0,.bool false] 77)) rfl rfl (by go_simp) ?_;refine⟨BI (Na.below (bA (Zh _ _))) Qq,?_⟩;refine AK [9] (by kernel_rfl) (by simp) (BF ?_);refine Rj (w':=w3.alloc (.cells #[U y1 y2 y3,.int J y4,.bool y5] 77)) rfl rfl (by go_simp) ?_;refine⟨BI (Na.below (bA (Zh _ _))) Qq,rfl,?_⟩;obtain⟨W4,ED⟩:∃W4,W4=w3.alloc (.cells #[U y1 y2 y3,.int J y4,.bool y5] 77):=⟨_,rfl⟩;obtain⟨q,hq⟩:∃q,q=w3.heap.size:=⟨_,rfl⟩;have hBW:Bl w3 W4:=by rw[ED];exact bA (Zh _ _)
       have IY:=Ww.later Gv hBW;have Qn:Kept n0 mb wr W4:=F1.trans (Kept.later hBW);have Pj:W4.heap[bo]?=some (.cells #[U x1 x2 x3,.int J n,.bool s] 77 (0,0)):=(hBW.block bo (Za.1 fF).1).trans fF;have cD:W4.heap[q]?=some (.cells #[U y1 y2 y3,.int J y4,.bool y5] 77 (0,0)):=by rw[ED,hq];exact Bp _ _
       have cB:w1.heap.size<=q:=by rw[hq];exact Na.size
       have cC:bo≠q:=by omega
       have hv4:=Vr.Ar (Kept.later hBW);rw[<-ED, <-hq];clear hBW hq
     all_goals
      have vk:=yh.Ar Qn;have hu4:SI (LS n0 mb W4) W4 (U al l.length cl) l:=Sl.imp (SI.Ar hu fun b hb _=>Qn b hb) (fun b hb=>hb.Ar Qn) (fun _ _ x=>x);clear ED Vr Na H4 eB Ww lx uV F1 fF fE Bb Qn Tm H92 rR Ia ack
      go_simp
      have c0:=ch (i:=0) cD (v:=.slice y1 y2 y3) rfl;have c1':=ch (i:=1) cD (v:=.int J y4) rfl;have c2':=ch (i:=2) cD (v:=.bool y5) rfl;have b0:=ch (i:=0) Pj (v:=.slice x1 x2 x3) rfl;have b1:=ch (i:=1) Pj (v:=.int J n) rfl;have b2:=ch (i:=2) Pj (v:=.bool s) rfl;have bf0:=cf (i:=0) Pj;have bf1:=cf (i:=1) Pj;have bf2:=cf (i:=2) Pj;have vl:=Zd (fun W=>anS t pK W);obtain⟨nt,wi⟩:∃nt,nt=(AB t).length:=⟨_,rfl⟩;have axT:nt<=3:=by rw[wi];exact Jo t 3
      have Ul:=Zd qO.out;rw[<-wi]at vl Ul;clear wi qO;have iK:s=r.isSome:=H5.out;cases Pn:Gx ab (fits.drop (i+1)) (FH d l t) with
      |none=>
       rw[Pn]at yi hy7 Ul;obtain⟨_,_,_,rfl⟩:=hy7 rfl;have acn:y5=false:=yi;subst acn;have ly:=Zd (show DL ab d (Gx ab (fits.drop (i+1))) r l=r from Ul.out);clear Pn Ul yi hy6 hy7 hv4 iK;go_wp2;go_quiet ((go_at_call 32;refine Zb5 (vl.out _)));go_wp2;go_roundg (f.length - (j+1))
       case rel=>exact⟨j+1,r,_,_,_,Az,rfl,by go_num,by rw[<-Tl.out,iT.out,ly.out],IY.later Gv (Y5 (Zh _ _) nq),Pj,vk⟩
       case measure=>omega
      |some p=>
       obtain⟨pl,pn⟩:=p;rw[Pn]at yi hy6 Ul hv4;obtain⟨hy4,hLp⟩:=hy6 (pl,pn) rfl;have apJ:pn=y4:=hy4.symm;subst apJ;have acn:y5=true:=yi;subst acn;obtain⟨hp0,lO,VK⟩:=M4 ab _ _ (pl,pn) Pn;dsimp only at hp0 lO VK hLp Ul;rw[List.length_drop]at lO VK;have hp9:pn<=9:=by omega
       have Xa:pl.length<=3:=by omega
       have aco:LL n0 mb W4 (U y1 y2 y3) pl:=by
        obtain⟨u,e,h⟩:=hv4;cases e;exact h
       obtain⟨_,_,e,_⟩:=Sl.val aco;cases e;have aeu:0<=(nt:Int)+pn/\(nt:Int)+pn<=1000000:=by omega
       clear Pn yi hy6 hy7 hv4 lO VK hLp;have hbr:(LJ (nt+pn) r=true/\(s=false\/(s=true/\(nt:Int)+pn<n)))\/(LJ (nt+pn) r=false/\s=true/\¬((nt:Int)+pn<n)):=by
        cases r with
        |none=>exact .inl ⟨rfl,.inl iK⟩
        |some p0=>
         obtain⟨u,e,_⟩:=vk;cases e;by_cases hc:(nt:Int)+pn<p0.2
         .exact .inl ⟨by simpa[LJ]using hc,.inr ⟨iK,hc⟩⟩
         exact .inr ⟨by simpa[LJ]using hc,iK,hc⟩
       clear iK;rcases hbr with⟨FD,hbr⟩|⟨FD,hs,Qa⟩
       .have ly:=Zd (show DL ab d (Gx ab (fits.drop (i+1))) r l=some (l::pl,nt+pn) by rw[Ul.out,if_pos FD])
        clear Ul FD vk;rcases hbr with hs|⟨hs,Qa⟩
        all_goals
         subst hs;go_wp2;go_quiet ((go_at_call 32;refine Zb5 (vl.out _)));obtain⟨W5,Jy⟩:∃W5,W5=W4.drewN nq:=⟨_,rfl⟩;have Cj:Bl W4 W5:=by rw[Jy];exact Y5 (Zh _ _) nq
         have T7:=IY.later Gv Cj;have WT:=(Cj.block bo (Za.1 Pj).1).trans Pj;have vm:=(Cj.block q (Za.1 cD).1).trans cD;have aik:=aco.Ar (Kept.later Cj);have rS:SI (LS n0 mb W5) W5 (U al l.length cl) l:=Sl.imp (SI.Ar hu4 fun b hb _=>Cj.block b hb.lt) (fun b hb=>hb.Ar (Kept.later Cj)) (fun _ _ x=>x);rw[<-Jy];have kE:=(Za.1 vm).1;have apK:=(Za.1 WT).1;clear Jy Cj IY Pj cD aco hu4 c0 c1' c2' b0 b1 b2 bf0 bf1 bf2;have c0:=ch (i:=0) vm (v:=.slice y1 pl.length y3) rfl;have c1':=ch (i:=1) vm (v:=.int J pn) rfl;have c2':=ch (i:=2) vm (v:=.bool true) rfl;have b0:=ch (i:=0) WT (v:=.slice x1 x2 x3) rfl;have bf0:=cf (i:=0) WT;have bf1:=cf (i:=1) WT;have bf2:=cf (i:=2) WT;have b1:=ch (i:=1) WT (v:=.int J n) rfl;have b2:=ch (i:=2) WT rfl;obtain⟨i0,hi,Fl,DR,EB⟩:=zp Hw;have apL:=Cz zW;have yj:(W5.alloc (.cells #[U al l.length cl] 22)).ownsRow W5.heap.size 22 1 (U (some ⟨W5.heap.size,0,none⟩) 1 1) 1 [U al l.length cl]:=World.ownsRow_lit W5 #[U al l.length cl] 1 (Zj _) (by decide) rfl;cases y1 with
         |none=>
          obtain rfl:pl=[]:=by
           cases pl with
           |nil=>rfl
           |cons x r=>obtain⟨_,_,_,e,_⟩:=SL.at_ aik (i:=0) (by simp);cases e
          obtain⟨Nb,Um,xu⟩:=T7.aid Vo Gv WT hbz (U (some ⟨W5.heap.size,0,none⟩) 1 1) (.int J (nt+pn)) (.bool true);have qS:=World.ownsRow_lit (((W5.setCell ⟨bo,0,none⟩ (U (some ⟨W5.heap.size,0,none⟩) 1 1)).setCell ⟨bo,1,none⟩ (.int J (nt+pn))).setCell ⟨bo,2,none⟩ (.bool true)) (e:=22) (size:=1) (base:=W5.heap.size) #[U al l.length cl] 1 (by simp) (by decide) rfl;simp only[World.size_setCell]at qS;have hkX:=xu.trans (Kept.later (bA (o:=.cells #[U al l.length cl] 22) (Zh _ _)));have hFX:=Nb.later Gv (bA (o:=.cells #[U al l.length cl] 22) (Zh _ _));have hbX:=Bf Um (.cells #[U al l.length cl] 22);have HH:=Zd (ZY qS (ZY hkX (ZY hFX hbX)));clear qS hkX hFX hbX Nb Um xu yj;go_wp2;go_roundg (f.length - (j+1))
          case rel=>
           obtain⟨q1,q2,q3,q4⟩:=HH.out;refine⟨j+1,some ([l],nt+pn),_,_,_,Az,rfl,by go_num,by rw[<-Tl.out,iT.out,ly.out],q3,q4,_,rfl,?_⟩;exact iQ (pl:=[]) (news:=[]) q1 (Sl.imp (SI.Ar rS fun b hb _=>q2 b hb) (fun b hb=>hb.Ar q2) (fun _ _ x=>x)) (fun i x hx=>by cases hx)
          case measure=>omega
         |some ad=>
          obtain⟨news,hn,hR5,hc5⟩:=Sl.row aik (by decide) ad rfl;have HC5:=Zd hc5;have h1c:∀u∈news,u.oneCell'=true:=row_one (by decide) hn hR5 aic;go_wp2_with (at_builtin;refine Yc _ rfl _ _ 33 rfl W5.heap.size 22 i0 (U none 0 0) 1 24 apL (Dz hi) Fl DR EB rfl (by decide) _ 1 [U al l.length cl] rfl yj ad pl.length y3 news rfl hn (fun j u hj=>ca (HC5.out j u hj) _) h1c (by unfold maxLen;omega) (by omega) (by simp) ?_;intro v' w6 AX AG Gc;obtain⟨ga,gc,rfl,_,_,_⟩:=JS AX;have DM:Bl W5 w6:=Bm (bA (Zh _ _)) AG (fun k hk=>by cases hk;exact Zj _) (by simp);have Um:=(DM.block bo apK).trans WT;have d0:=ch (i:=0) Um (v:=.slice x1 x2 x3) rfl;have d1:=ch (i:=1) Um (v:=.int J n) rfl;have d2:=ch (i:=2) Um rfl;have df0:=cf (i:=0) Um;have df1:=cf (i:=1) Um;have df2:=cf (i:=2) Um);have Nb:=T7.later Gv DM;have hk5:Kept n0 mb W5 w6:=Kept.later DM;obtain⟨hF7,apM,hk7⟩:=Nb.aid Vo Gv Um hbz (U ga (1+pl.length) gc) (.int J (nt+pn)) (.bool true);have hT7:Ak (fun x=>x=bo) w6 (((w6.setCell ⟨bo,0,none⟩ (U ga (1+pl.length) gc)).setCell ⟨bo,1,none⟩ (.int J (nt+pn))).setCell ⟨bo,2,none⟩ (.bool true)):=(Ak.refl (fun x=>x=bo) w6).DT.DT.DT;have ail:=CO hT7 (fun b h1 h2=>by subst h2;omega) AX;go_roundg (f.length - (j+1))
          case rel=>
           refine⟨j+1,some (l::pl,nt+pn),_,_,_,Az,rfl,by go_num,by rw[<-Tl.out,iT.out,ly.out],hF7,apM,_,rfl,?_⟩;have sZ:=hk5.trans hk7;exact iQ ail (Sl.imp (SI.Ar rS fun b hb _=>sZ b hb) (fun b hb=>hb.Ar sZ) (fun _ _ x=>x)) (fun i x hx=>vj (hR5 i x hx) sZ)
          omega
       have ly:=Zd (show DL ab d (Gx ab (fits.drop (i+1))) r l=r by rw[Ul.out,if_neg (by rw[FD];exact Bool.false_ne_true)]);clear Ul FD;subst hs;go_wp2;go_quiet ((go_at_call 32;refine Zb5 (vl.out _)));go_wp2;go_roundg (f.length - (j+1))
       case rel=>exact⟨j+1,r,_,_,_,Az,rfl,by go_num,by rw[<-Tl.out,iT.out,ly.out],IY.later Gv (Y5 (Zh _ _) nq),Pj,vk⟩
       omega
   obtain⟨x1,x2,x3,x4,x5,e,h5,h6,h7⟩:=yh.val;clear h5 h6 h7;cases e;have e1:r=Gx ab (fits.drop i) d:=by
    have h1:=Tl.out;rw[Z7.2 (show f.length<=j by omega)]at h1;exact h1
   rw[e1]at yh;clear e1;have hGK:∀wy,Kept n0 mb wr wy->FI n0 mb ab c fits (M5 i d) (.agg #[U x1 x2 x3,.int J n,.bool s]) wy:=fun wy hk=>FI.of hD Jm.2 (yh.Ar hk);obtain⟨es,clk,By,U6⟩:=kW (k:=M5 i d) (v:=.agg #[U x1 x2 x3,.int J n,.bool s]) Vq.map (fun es clk=>hGK _ (Kept.put Vq.map.is)) (fun k' v' es clk h=>h.Ar (Kept.put Vq.map.is));simp only[Dy,M5]at By;have hN:=Vq.put Gv U6;have cO:=Vq.key;have k0:=ch (i:=0) cO (v:=.int J i) rfl;have k1:=ch (i:=1) cO (v:=.int J (nth d.now 0)) rfl;have k2:=ch (i:=2) cO (v:=.int J (nth d.now 1)) rfl;have k3:=ch (i:=3) cO (v:=.int J (nth d.now 2)) rfl;have k4:=ch (i:=4) cO (v:=.int J (Aj d.Aa 0).left) rfl;have k5:=ch (i:=5) cO (v:=.int J (Aj d.Aa 1).left) rfl;have k6:=ch (i:=6) cO (v:=.int J (Aj d.Aa 2).left) rfl;have m1':=ch (i:=1) Vq.xN (v:=.map (some mb)) rfl;have c0:=ch (i:=0) H_ (v:=.slice x1 x2 x3) rfl;have c1':=ch (i:=1) H_ (v:=.int J n) rfl;have c2':=ch (i:=2) H_ (v:=.bool s) rfl;obtain⟨W2,MX⟩:∃W2,W2=wr.putObj mb (.map es clk):=⟨_,rfl⟩;rw[<-MX]at By hN U6;have EC:∀q,q≠mb->W2.heap[q]?=wr.heap[q]? :=fun q h=>by rw[MX];exact zG h
   have XM:=(EC _ (by omega)).trans Vq.res;have WS:=(EC bo (by omega)).trans H_;have r0:=ch (i:=0) XM (v:=.slice none 0 0) rfl;have r1:=ch (i:=1) XM (v:=.int J 0) rfl;have r2:=ch (i:=2) XM (v:=.bool false) rfl;have rf0:=cf (i:=0) XM;have rf1:=cf (i:=1) XM;have rf2:=cf (i:=2) XM;have d0:=ch (i:=0) WS (v:=.slice x1 x2 x3) rfl;have d1:=ch (i:=1) WS (v:=.int J n) rfl;have d2:=ch (i:=2) WS (v:=.bool s) rfl;have X:=Zd yh;clear MX hGK Tl EC yh U6;go_wp2;refine ZN (v:=.agg #[U x1 x2 x3,.int J n,.bool s]) (by rw[A8 rfl];go_simp) rfl ?_;have xC:=((hN.set (j:=0) (v:=.slice x1 x2 x3) Vo Gv).set (j:=1) (v:=.int J n) Vo Gv).set (j:=2) (v:=.bool s) Vo Gv;exact⟨_,rfl,xC.Cn,X.out.Ar xC.kept,xC.map⟩
  have Xf:=hg i d (by omega) hD e.symm;obtain⟨x1,x2,x3,x4,x5,rfl,x6,x7,x8⟩:=Xf.val;have H1:=h1;simp only[Dy,M5]at H1;clear h1;have X:=Zd Xf;clear x6 x7 x8 Xf hg e;go_wp2;refine ZN (v:=.agg #[U x1 x2 x3,.int J x4,.bool x5]) (by rw[A8 rfl];go_simp) rfl ?_;have hN:=(((Nb.fn.set (j:=0) (v:=.slice x1 x2 x3) Vo Gv).set (j:=1) (v:=.int J x4) Vo Gv).set (j:=2) (v:=.bool x5) Vo Gv).alloc (.cells #[U x1 x2 x3,.int J x4,.bool x5] 77);exact⟨_,rfl,hN.Cn,X.out.Ar hN.kept,hN.map⟩
def aim (w:Zb)(a b c:Obj):(((w.alloc a).alloc b).alloc c).heap[w.heap.size+1+1]?=some c:=by
 have:=Bp ((w.alloc a).alloc b) c;rwa[ZB,ZB]at this
section
variable {P:Zo}{ops:Array Oper}{Q:Exit->Act->Zb->Prop}{T:Nat->Zb->Prop}
def cE {r:List (Bool×Nat)}{o:Oper}{f:ZaQ}{args:Array Zf}{a:Act}(ho:ops[i]?=some o)(hg:o.guard=none)(hr:(Zby a.eval o).run P w=.ok (.enter f args) w)
 (hc:Calls P f args w fun e w'=>(∃v,e=.returned v/\T i w'/\Dl P ops Q T r (a.put o.dst v) w')\/∃x,e=.panicked x/\Q (.panic x) a w'):Dl P ops Q T ((false,i)::r) a w:=by
 refine PW ho hg ?_;unfold ZbA;rw[hr,Zdj];refine hc.mono fun e w' h=>?_;rcases h with⟨v,rfl,h⟩|⟨x,rfl,h⟩
 .exact h
 exact h
end
def acp:(Tryz.prog.info? 33).map (fun i=>(i.zero,i.size,i.bytes))=some (some (U none 0 0),1,24):=by kernel_rfl
def qT (n:Nat)(hn:n<=1000)(w:Zb):(Zdp 33 (.int J n) (.int J n)).run Lp w=.ok (U (some ⟨w.heap.size,0,none⟩) n n) (w.alloc (.cells (List.replicate n (Zy none 0 0)).toArray 22)):=by
 obtain⟨i0,hi,Fl,DR,EB⟩:=zp Hw;have h:=run_make (P:=Lp) w 33 22 i0 (U none 0 0) (Cz zW) (Dz hi) Fl J J n n (by omega) (Int.le_refl _) (by rw[EB];omega) (by omega);rw[h,DR];simp only[Int.toNat_natCast]
 congr 3
 apply Array.ext
 .simp[madeCells]
 intro i h1 h2;simp[madeCells,Value.cells,Nat.mod_one]
def Rsp (S:Nat->Prop)(w:Zb)(cs:List Zf)(x:List (Int×Int)):Prop:=∃u,cs=[u]/\SP S w u x
abbrev SSP (S:Nat->Prop):=Sl S (Rsp S) 1
abbrev lz (l:List (List (Int×Int)))(i:Nat):List (Int×Int):=l.getD i []
def Oj {l:List (List (Int×Int))}(h:i<l.length):l[i]?=some (lz l i):=by simp[lz,h]
def SSP.at_ {a:Option Addr}{c:Nat}{l:List (List (Int×Int))}(h:SSP S w (U a l.length c) l)(hi:i<l.length):∃b o u,a=some ⟨b,o,none⟩/\S b/\w.cell? ⟨b,o+i,none⟩=some u/\SP S w u (lz l i):=by
 obtain⟨a',c',h1,_,_,h4⟩:=h;cases h1;obtain⟨b,o,cs,g1,g2,g3,g4,u,rfl,hu⟩:=h4 i _ (Oj hi);exact⟨b,o,u,g1,g2,by simpa using g4 0 _ rfl,hu⟩
def Jt (c:A_)(s:List (Int×Int)):List (List Int):=(EH c).filter fun l=>BZ c l s
def qU (c:A_)(ss:List (List (Int×Int))):Option (List (List Int)×Int):=Gx (Ax c.Aa) (ss.map (Jt c)) c
def qV (c:A_)(ss:List (List (Int×Int))):List (List Int):=match qU c ss with|none=> []|some p=>p.1
def qW (c:A_)(ss:List (List (Int×Int))):Int:=match qU c ss with|none=>0|some p=>p.2
def qX (c:A_)(ss:List (List (Int×Int))):Int:=match qU c ss with|none=>11|some _=>0
def vo (w:Zb)(c:A_)(ss:List (List (Int×Int)))(e:Ending)(w':Zb):Prop:=Bl w w'/\((∃v,e=.returned (.tuple #[v,.int J (qW c ss),.int J (qX c ss)])/\SL (Cb w.heap.size w') w' v (qV c ss))\/∃x,e=.panicked x/\PX x w')
def ZZ (Z:Nat->Prop)(n:Nat)(w:Zb)(b:Nat):Prop:=Z b\/J1 22 n w b
def slz {Z T:Nat->Prop}{f:List (List Int)}(h:SL (ZZ Z n A) A u f)(hT:Ak T A B)(hx:∀b,ZZ Z n A b->¬T b):SL (ZZ Z n B) B u f:=by
 have hz:∀b,b<A.heap.size->ZZ Z n A b->ZZ Z n B b:=fun b hl hb=>by
  rcases hb with G1|⟨G1,cs,hc⟩
  .exact .inl G1
  exact .inr ⟨⟨G1.1,Zl G1.2 hT.size⟩,cs,(hT.block b G1.2 (hx b (.inr ⟨G1,cs,hc⟩))).trans hc⟩
 have hk:∀ {R:Zb->List Zf->List Int->Prop} {k:Nat},True:=fun {_ _}=>trivial;clear hk;obtain⟨a,c,h1,h2,h3,h4⟩:=h;refine⟨a,c,h1,h2,h3,fun i x hi=>?_⟩;obtain⟨b,o,cs,g1,g2,g3,g4,u',e,hs⟩:=h4 i x hi;subst e;have hl:b<A.heap.size:=ZH A _ (g4 0 u' rfl);refine⟨b,o,[u'],g1,hz b hl g2,g3,fun j y hy=>(hT.same (S:=ZZ Z n A) hx).cell (p:=⟨b,o+i*1+j,none⟩) g2 (g4 j y hy),u',rfl,?_⟩;obtain⟨a',c',e1,e2,e3,e4⟩:=hs;refine⟨a',c',e1,e2,e3,fun i' x' DN=>?_⟩;obtain⟨b',o',cs',f1,f2,f3,f4,f5⟩:=e4 i' x' DN;have hcs:cs'.length=1:=f3;have Ka:b'<A.heap.size:=ZH A _ (f4 0 _ (zf (by omega)));exact⟨b',o',cs',f1,hz b' Ka f2,f3,fun j y hy=>(hT.same (S:=ZZ Z n A) hx).cell (p:=⟨b',o'+i'*1+j,none⟩) f2 (f4 j y hy),f5⟩
structure CS (Z:Nat->Prop)(w5:Zb)(q mb:Nat)(c:A_)(ss:List (List (Int×Int)))(k:Nat)(v:Zf)(wx:Zb):Prop where
 CN:Ak (fun x=>x=q\/w5.heap.size<=x) w5 wx
 box:wx.heap[q]?=some (.cells #[v,.map (some mb)] 70 (0,0))
 row:∃vals,wx.ownsRow w5.heap.size 33 1 v k vals/\∀(i:Nat) (f:List (List Int)),((ss.map (Jt c)).take k)[i]?=some f->∃u,vals[i]?=some u/\SL (ZZ Z w5.heap.size wx) wx u f
def cF (ab:Nat->Nat)(Q:List Int->Prop):∀(fs:List (List (List Int))) (d:A_) (p:List (List Int)×Int),(∀f∈fs,∀l∈f,Q l)->Gx ab fs d=some p->∀l∈p.1,Q l
 | [],_,p,_,h=>by cases h;simp
 |f::r,d,p,hq,h=>by
  have key:∀(l:List (List Int)) (o:Option (List (List Int)×Int)),(∀x∈l,Q x)->(∀q,o=some q->∀x∈q.1,Q x)->∀q,l.foldl (DL ab d (Gx ab r)) o=some q->∀x∈q.1,Q x:=by
   intro l
   induction l with
   |nil=>intro o _ ho q hq;exact ho q hq
   |cons x l ih=>
    intro o hl ho q P_;refine ih _ (fun y hy=>hl y (zm _ hy)) (fun q' P_=>?_) q P_;unfold DL at P_;split at P_
    .exact ho q' P_
    split at P_
    .exact ho q' P_
    next p' lR=>
    split at P_
    .cases P_
     intro y hy;rcases List.mem_cons.1 hy with rfl|hy
     .exact hl _ (zC ..)
     exact cF ab Q r _ p' (fun f hf=>hq f (zm _ hf)) lR y hy
    exact ho q' P_
  exact key f none (fun x hx=>hq f (zC ..) x hx) (fun q hq=>by cases hq) p h
structure CL (w6:Zb)(L:List (List Int))(bx:Array Zf)(k:Nat)(cur:Array Zf)(wx:Zb):Prop where
 below:Bl w6 wx
 box:wx.heap[w6.heap.size]?=some (.cells bx 77 (0,0))
 out:wx.heap[w6.heap.size+1]?=some (.cells cur 22 (0,0))
 size:cur.size=L.length
 at_:∀i,i<k->∃u,cur[i]?=some u/\SI (J1 3 w6.heap.size wx) wx u (BM L i)
def c41 {v6:Zf}{ss:List (List (Int×Int))}(h:RC S w v1 v2 v3 v4 v5 c)(hs:SSP S w v6 ss)(hS:∀b,S b->b<w.heap.size)(Jz:BN c=0)(h1:1<=ss.length/\ss.length<=3)(hss:∀s∈ss,Fs c.base.length s=0)(mA:∀i,i<c.Aa.length->(Aj c.Aa i).over.length<=1000):
  Calls Lp 8 #[.agg #[v1,v2,v3,v4,v5],v6] w (vo w c ss):=by
 obtain⟨a1,c1,rfl,l1,m1⟩:=h.base.val;obtain⟨a2,c2,rfl,l2,m2⟩:=h.Af.val;obtain⟨a3,c3,rfl,l3,m3⟩:=h.hooks.val;obtain⟨a4,c4,rfl,l4,m4⟩:=h.Aa.val;obtain⟨a5,c5,rfl,l5,m5⟩:=h.now.val;obtain⟨a6,c6,rfl,l6,m6⟩:=hs.val;have IX:=DJ;have hv:=EG Jz;have Bg:Bl w (w.alloc (.cells #[U a1 c.base.length c1,U a2 c.Af.length c2,U a3 c.hooks.length c3,U a4 c.Aa.length c4,U a5 c.now.length c5] 28)):=bA (Zh _ _);have ez:=Zd (fun W hB=>Wt (w:=W) (h.later hB) (A3 hS hB) Jz);have aip:=Zd (show∀W,Calls Lp 21 #[.int J ss.length,.int J 3] W fun e w'=>e=.returned (.int J 0)/\w'=W from fun W=>by
  have:=uk (ss.length:Int) 3 W;rwa[Oe (by omega)]at this)
 go_enter Lp.func41,n41;go_wp2_with (first|(go_at_call 20;refine(ez.out _ Bg).mono ?_;rintro e w1 ⟨rfl,Bb⟩;have Bv:=Bg.trans (Bb.mono Bg.size))|(go_at_call 21;refine(aip.out _).mono ?_;rintro e w2 ⟨rfl,hw⟩;obtain rfl:=hw.symm));obtain⟨W2,MX⟩:∃W2,W2=w1.alloc (.cells (AW (U a1 c.base.length c1) (U a2 c.Af.length c2) (U a3 c.hooks.length c3) (U a4 c.Aa.length c4) (U a5 c.now.length c5) (Ax c.Aa)) 62):=⟨_,rfl⟩;have Ia:Bl w1 W2:=by rw[MX];exact bA (Zh _ _)
 have T3:W2.heap[w1.heap.size]?=some (.cells (AW (U a1 c.base.length c1) (U a2 c.Af.length c2) (U a3 c.hooks.length c3) (U a4 c.Aa.length c4) (U a5 c.now.length c5) (Ax c.Aa)) 62 (0,0)):=by rw[MX];exact Bp _ _
 have De:=Bv.trans (Ia.mono Bv.size);change Code.wp _ _ _ _ (w1.alloc (.cells (AW (U a1 c.base.length c1) (U a2 c.Af.length c2) (U a3 c.hooks.length c3) (U a4 c.Aa.length c4) (U a5 c.now.length c5) (Ax c.Aa)) 62));rw[<-MX];clear MX Ia Bb ez aip;obtain⟨ab,DU⟩:∃ab,ab=Ax c.Aa:=⟨_,rfl⟩;rw[<-DU]at T3;have mG:=Zd DU;clear DU;have T8:=Zd (fun W (hB:Bl w W) u s (hu:SP S w u s) (hz:Fs c.base.length s=0)=>show Calls Lp 22 #[.agg #[U a1 c.base.length c1,U a2 c.Af.length c2,U a3 c.hooks.length c3,U a4 c.Aa.length c4,U a5 c.now.length c5,I .u8 (ab 0),I .u8 (ab 1),I .u8 (ab 2)],u] W fun e w'=>e=.returned (.int J 0)/\Bl W w' from by
  have:=abe (w:=W) (h.later hB) (hu.later hB) (A3 hS hB) (ab 0) (ab 1) (ab 2);rwa[hz]at this)
 go_loopg [37] ss.length (fun g i wr=>∃k:Nat,k<=ss.length/\g=ss.length - k/\i=.int J k/\Bl W2 wr)
 case atStart=>exact⟨0,Zp _,rfl,rfl,Zh _ _⟩
 obtain⟨k,hk,rfl,rfl,Jp⟩:=hrel;have Cj:=De.trans (Jp.mono De.size);have iE:=(Jp.block _ (Za.1 T3).1).trans T3;have k0:=ch (i:=0) iE (v:=.slice a1 c.base.length c1) rfl;have k1:=ch (i:=1) iE (v:=.slice a2 c.Af.length c2) rfl;have k2:=ch (i:=2) iE (v:=.slice a3 c.hooks.length c3) rfl;have k3:=ch (i:=3) iE (v:=.slice a4 c.Aa.length c4) rfl;have k4:=ch (i:=4) iE (v:=.slice a5 c.now.length c5) rfl;have k5:=ch (i:=5) iE (v:=.int .u8 (ab 0)) rfl;have k6:=ch (i:=6) iE (v:=.int .u8 (ab 1)) rfl;have k7:=ch (i:=7) iE (v:=.int .u8 (ab 2)) rfl;by_cases Az:k<ss.length
 .obtain⟨b,o,u,rfl,hb,hc,hu⟩:=hs.at_ Az
  rw[<-Cj.cell (p:=⟨b,o+k,none⟩) (hS b hb)]at hc;have hz:=hss _ (Z3 (Oj Az));obtain⟨s0,ER⟩:∃s0,s0=lz ss k:=⟨_,rfl⟩;rw[<-ER]at hu hz;clear ER;obtain⟨a7,c7,rfl,l7,m7⟩:=hu.val;have HZ:=Zd hz;clear hz;go_wp2_with (go_at_call 22;refine(T8.out _ Cj _ _ hu HZ.out).mono ?_;rintro e w3 ⟨rfl,DM⟩;have NU:=Jp.trans (DM.mono Jp.size));go_roundg (ss.length - (k+1))
  case rel=>exact⟨k+1,by omega,rfl,by go_num,NU⟩
  omega
 have hgz:w1.heap.size<wr.heap.size:=(Za.1 iE).1;have Jm:=hv.few;have B_:∀i,i<c.Aa.length->-2<=(Aj c.Aa i).low/\(Aj c.Aa i).high<=2:=fun i hi=>by have:=hv.step i hi;omega
 have hmm:= @run_makeMap Lp;have Tq:(EH c).length<=125:=Zr (H7 c.Aa B_) (YX (by decide) Jm.2);go_wp2_with (first|(go_at_call 24;refine(ahC (AW (U a1 c.base.length c1) (U a2 c.Af.length c2) (U a3 c.hooks.length c3) (U a4 c.Aa.length c4) (U a5 c.now.length c5) ab) rfl (by simp[AW,YT]) _).mono ?_;rintro e w4 ⟨rfl,xX⟩;(have WH:Bl wr w4:=by rw[xX];exact bA (bA (bA (Zh _ _))));(have hMb:w4.heap[wr.heap.size]?=some (.map #[] 0):=by rw[xX];exact Bf (Bf (Bp _ _) _) _);(have hFb:w4.heap[wr.heap.size+1]?=some (.cells #[U none 0 0,.map (some wr.heap.size)] 70 (0,0)):=by rw[xX];exact Bf (Jq _ _ _) _);(have hGb:w4.heap[wr.heap.size+1+1]?=some (.cells (AW (U a1 c.base.length c1) (U a2 c.Af.length c2) (U a3 c.hooks.length c3) (U a4 c.Aa.length c4) (U a5 c.now.length c5) ab) 62 (0,0)):=by rw[xX];exact aim _ _ _ _);clear xX)|(go_at_call 23;refine(aoH hGb (h.later (Cj.trans (WH.mono Cj.size))) (A3 hS (Cj.trans (WH.mono Cj.size))) Jm.2 B_).mono ?_;rintro e w5 ⟨va,rfl,lA,FJ⟩;obtain⟨aa,cc,rfl,_⟩:=Sl.val FJ));obtain⟨q,Pd⟩:∃q,q=wr.heap.size+1:=⟨_,rfl⟩;have hz4:wr.heap.size+1+1<w4.heap.size:=(Za.1 hGb).1;have p9:=lA.size;have Fl:=Cj.size;have hG5:=(lA.block _ (by omega)).trans ((WH.block _ hgz).trans iE);have hM5:=(lA.block _ (by omega)).trans hMb;have T7:=(lA.block _ (by omega)).trans hFb;have qY:=(Cj.trans (WH.mono Cj.size)).trans (lA.mono (Cj.trans (WH.mono Cj.size)).size);obtain⟨mb,aiq⟩:∃mb,mb=wr.heap.size:=⟨_,rfl⟩;rw[<-Pd]at T7⊢;rw[<-aiq]at T7 hM5 Pd⊢;obtain⟨Z,vp⟩:∃Z:Nat->Prop,Z=fun b=>b<w5.heap.size/\b≠q/\b≠mb:=⟨_,rfl⟩;have qZ:∀b,Z b->b<w5.heap.size:=fun b hb=>by rw[vp]at hb;exact hb.1
 have hZq:∀b,Z b->b≠q:=fun b hb=>by rw[vp]at hb;exact hb.2.1
 have hZm:∀b,Z b->b≠mb:=fun b hb=>by rw[vp]at hb;exact hb.2.2
 have hZS:∀b,S b->Z b:=fun b hb=>by rw[vp];have:=hS b hb;exact⟨by omega,by omega,by omega⟩
 have air:SL Z w5 (U aa (EH c).length cc) (EH c):=Sl.imp FJ (fun b hb=>by rw[vp];have:=hb.1;have:=hb.2;exact⟨by omega,by omega,by omega⟩) (fun _ _ ⟨u,e,hs⟩=>⟨u,e,Sl.imp hs (fun b hb=>by rw[vp];have:=hb.1;have:=hb.2;exact⟨by omega,by omega,by omega⟩) fun _ _ x=>x⟩);have ais:RC Z w5 (U a1 c.base.length c1) (U a2 c.Af.length c2) (U a3 c.hooks.length c3) (U a4 c.Aa.length c4) (U a5 c.now.length c5) c:=(h.later qY).imp hZS;have hs5:SSP Z w5 (U a6 ss.length c6) ss:=Sl.imp (Sl.Ar (w':=w5) hs (fun b hb hl=>qY.block b hl) fun _ _ ⟨u,e,hp⟩=>⟨u,e,hp.later qY⟩) hZS fun _ _ ⟨u,e,hp⟩=>⟨u,e,Sl.imp hp hZS fun _ _ x=>x⟩;have Rk:w1.heap.size<w5.heap.size:=by omega
 have hgq:w1.heap.size≠q:=by omega
 have hqw:q<w5.heap.size:=by omega
 have pW:mb≠q:=by omega
 have hm5:mb<w5.heap.size:=by omega
 have ay3:w.heap.size<=q:=by omega
 have mM:w.heap.size<=mb:=by omega
 have HC0:CS Z w5 q mb c ss 0 (U none 0 0) w5:=⟨Ak.refl _ _,T7,[],zq _ _ _ _,fun i f hf=>by cases hf⟩;clear FJ lA WH hMb hFb hGb iE Pd aiq T7 vp k0 k1 k2 k3 k4 k5 k6 k7;go_loopg [55] ss.length (fun g i wx=>∃(k:Nat) (v:Zf),k<=ss.length/\g=ss.length - k/\i=.int J k/\CS Z w5 q mb c ss k v wx)
 case atStart=>exact⟨0,_,Zp _,rfl,rfl,HC0⟩
 obtain⟨k,v,hk,rfl,rfl,hC⟩:=hrel;have hT:=hC.CN;have hnK:∀x,x<w5.heap.size->x≠q->¬(x=q\/w5.heap.size<=x):=fun x h1 h2 h3=>by omega
 have hSZ:CE Z w5 wr:=hT.same fun x hx=>hnK x (qZ x hx) (hZq x hx);have S6:=(hT.block _ Rk (hnK _ Rk hgq)).trans hG5;obtain⟨vals,AX,DF⟩:=hC.row;obtain⟨dE,rZ,rfl,_⟩:=JS AX;have hxz:=hT.size;have k0:=ch (i:=0) S6 (v:=.slice a1 c.base.length c1) rfl;have k1:=ch (i:=1) S6 (v:=.slice a2 c.Af.length c2) rfl;have k2:=ch (i:=2) S6 (v:=.slice a3 c.hooks.length c3) rfl;have k3:=ch (i:=3) S6 (v:=.slice a4 c.Aa.length c4) rfl;have k4:=ch (i:=4) S6 (v:=.slice a5 c.now.length c5) rfl;have k5:=ch (i:=5) S6 (v:=.int .u8 (ab 0)) rfl;have k6:=ch (i:=6) S6 (v:=.int .u8 (ab 1)) rfl;have k7:=ch (i:=7) S6 (v:=.int .u8 (ab 2)) rfl;by_cases Az:k<ss.length
 .obtain⟨b,o,u,rfl,hb,hc,hu⟩:=hs5.at_ Az
  have OJ:=hSZ.cell (p:=⟨b,o+k,none⟩) hb hc;have lM:=SP.Ar hu hSZ;have hz:=hss _ (Z3 (Oj Az));have HTK:=Zd (show(ss.map (Jt c)).take (k+1)=(ss.map (Jt c)).take k++ [Jt c (lz ss k)] by rw[ZbH,YL,Oj Az];rfl);obtain⟨s0,ER⟩:∃s0,s0=lz ss k:=⟨_,rfl⟩;rw[<-ER]at lM hz HTK;clear ER hu hc;obtain⟨a7,c7,rfl,l7,m7⟩:=lM.val;obtain⟨hsn,il⟩:=Ha hz;have HSN:=Zd hsn;have HSB:=Zd il;clear hz hsn il;obtain⟨K,Ig⟩:∃K:Nat->Prop,K=fun x=>w5.heap.size<=x:=⟨_,rfl⟩;have LP:∀x,w5.heap.size<=x->K x:=fun x hx=>by rw[Ig];exact hx
  have q9:∀x,x<w5.heap.size->¬K x:=fun x hx=>by rw[Ig];intro y;omega
  clear Ig;have z0:=fun p:Tw K wr=>p.cell (ch (i:=0) hC.box (v:=.slice dE k rZ) rfl) (q9 _ hqw);have g0:=fun p:Tw K wr=>p.cell k0 (q9 _ Rk);have g1:=fun p:Tw K wr=>p.cell k1 (q9 _ Rk);have g2:=fun p:Tw K wr=>p.cell k2 (q9 _ Rk);have g3:=fun p:Tw K wr=>p.cell k3 (q9 _ Rk);have g4:=fun p:Tw K wr=>p.cell k4 (q9 _ Rk);have g5:=fun p:Tw K wr=>p.cell k5 (q9 _ Rk);have g6:=fun p:Tw K wr=>p.cell k6 (q9 _ Rk);have g7:=fun p:Tw K wr=>p.cell k7 (q9 _ Rk);have TB:(k:Int)<(ss.length:Int):=by omega
  clear k0 k1 k2 k3 k4 k5 k6 k7;go_wp2;clear OJ;refine B0 (S:=fun W=>∃p:Tw K wr,W=p.v) [9] [(false,5),(false,6),(false,7),(false,8),(false,9)] [0,1,2,3,4] (by kernel_rfl) (fun _ _ d _ _ h=>by cases d<;>exact h) (by kernel_rfl) (A5 (Ak.later (Zh _ _).drew)) ?_;refine A4 _ _ (by kernel_rfl) ?_;simp only[Z6,zd,ZG,ZD,ZC]
  repeat (first|go_big_quiet_step (fail)|quiet_step (fail))
  refine Z4 ?_;clear z0 g0 g1 g2 g3 g4 g5 g6 g7;change Dl _ _ _ _ _ _ _;have Uh:Bl wr wr.drew:=(Zh _ _).drew;have hSd:CE Z wr wr.drew:=fun x _ hx=>Uh.block x hx;have vp:∀x,Z x->x<wr.drew.heap.size:=fun x hx=>Zl (qZ x hx) hxz;refine cE (f:=25) (args:= #[.agg #[U a1 c.base.length c1,U a2 c.Af.length c2,U a3 c.hooks.length c3,U a4 c.Aa.length c4,U a5 c.now.length c5,I .u8 (ab 0),I .u8 (ab 1),I .u8 (ab 2)],U aa (EH c).length cc,U a7 s0.length c7]) rfl rfl (by go_simp) ((xO (S:=Z) ((ais.Ar hSZ).Ar hSd) hv (SL.Ar (SL.Ar air hSZ) hSd) (SP.Ar lM hSd) (fun i hi=>?_) (by have:=HSN.out;omega) HSB.out (by omega) vp (ab 0) (ab 1) (ab 2)).mono ?_)
  .have hm:(BM (EH c) i).length=c.Aa.length/\∀j,j<(BM (EH c) i).length->(Aj c.Aa j).low<=nth (BM (EH c) i) j/\nth (BM (EH c) i) j<=(Aj c.Aa j).high:=Lf c.Aa _ (Z3 (BJ hi))
   refine⟨by rw[hm.1];exact Zj _,fun j hj=>?_⟩;have h1:=hm.2 j hj;have h2:=B_ j (by rw[<-hm.1];exact hj);omega
  rintro e W1 ⟨cu,⟨ait,rfl,NK⟩|⟨x',rfl,Ss⟩⟩
  .have vq:=Uh.trans (cu.mono (Zj _))
   have Kd:Ak K wr W1:=Ak.later vq;refine .inl ⟨ait,rfl,.inr (A5 Kd),?_⟩;have acu:SL (ZZ Z w5.heap.size W1) W1 ait (Jt c s0):=Sl.imp NK (fun b hb=>by
    rcases hb with hb|hb
    .exact .inl hb
    .exact .inr ⟨⟨Zr hxz hb.1.1,hb.1.2⟩,hb.2⟩) (fun _ _ ⟨u,e,hs⟩=>⟨u,e,Sl.imp hs (fun b hb=>by
    rcases hb with hb|hb
    .exact .inl hb
    exact .inr ⟨⟨Zr hxz hb.1.1,hb.1.2⟩,hb.2⟩) fun _ _ x=>x⟩)
   obtain⟨fa,fc,rfl,_⟩:=Sl.val acu;obtain⟨W1a,vr⟩:∃W1a,W1a=W1.alloc (.cells #[U fa (Jt c s0).length fc] 33):=⟨_,rfl⟩;have Vn:Bl W1 W1a:=by rw[vr];exact bA (Zh _ _)
   have Jp:=vq.trans (Vn.mono vq.size);have WQ:Ak K wr W1a:=Ak.later Jp;refine JZ (v:=.slice (some ⟨W1.heap.size,0,none⟩) 1 1) (w':=W1a) rfl rfl (by rw[vr];go_simp) (.inr (A5 WQ)) ?_;have yl:=Fu AX Jp;obtain⟨i0,hi,eL,k9,abT⟩:=zp acp;have apR:=Cz Tryz.underlying68;refine PW rfl rfl ?_;refine Zak _ _ _ 68 rfl w5.heap.size 33 i0 (U none 0 0) 1 24 apR (Dz hi) eL k9 abT rfl (by decide) _ k vals rfl yl ⟨W1.heap.size,0,none⟩ 1 1 [U fa (Jt c s0).length fc] rfl rfl (by rw[vr];exact Dj _ _ _) (by simp[YT]) (by unfold maxLen;omega) (by omega) (by have:=Jp.size;omega) ?_;intro v' ym Cm AG Gc;have Em:∀g,(Zy dE k rZ).ownBlock=some g->w5.heap.size<=g/\∃cs,wr.heap[g]?=some (.cells cs 33 (0,0)):=fun g hg=>by
    rcases AX.2 with⟨e,_⟩|⟨g',cap,cur,e,h3,h4,_⟩
    .cases e;cases hg
    cases e;cases hg;exact⟨h3,cur,h4⟩
   have Js:Ak (fun x=>(Zy dE k rZ).ownBlock=some x) W1a ym:=Ak.grown AG fun g hg=>hg;have D3:Ak K wr ym:=WQ.trans (Ak.grown AG fun g hg=>LP g (Em g hg).1);refine⟨.inr (A5 D3),?_⟩;obtain⟨g',Ey,rfl⟩:=Zay Cm;have kD:q<wr.heap.size:=by omega
   have M9:=(D3.block q kD (q9 _ hqw)).trans hC.box;have f0:=cf (i:=0) M9;have e0:=ch (i:=0) M9 (v:=.slice dE k rZ) rfl;refine Dw (v:=.pointer (some ⟨q,0,none⟩)) rfl rfl (by go_simp) (.inr (A5 D3)) ?_;refine K8 (w':=ym.setCell ⟨q,0,none⟩ (U (some ⟨g',0,none⟩) (k+1) Ey)) rfl rfl (by go_simp) (.inl rfl) ?_;have bM:CS Z w5 q mb c ss (k+1) (U (some ⟨g',0,none⟩) (k+1) Ey) (ym.setCell ⟨q,0,none⟩ (U (some ⟨g',0,none⟩) (k+1) Ey)):=by
    have Th:Ak (fun x=>x=q) ym (ym.setCell ⟨q,0,none⟩ (U (some ⟨g',0,none⟩) (k+1) Ey)):=(Ak.refl (fun x=>x=q) ym).DT;have hzq:∀ {A:Zb} x,ZZ Z w5.heap.size A x->¬x=q:=fun x hx e=>by
     rcases hx with hx|hx
     .exact hZq x hx e
     have:=hx.1.1;omega
    have hzg:∀ {A:Zb} (hA:∀g cs,wr.heap[g]?=some (Zbi cs 33 (0,0))->A.heap[g]?=some (Zbi cs 33 (0,0))) x,ZZ Z w5.heap.size A x->¬(Zy dE k rZ).ownBlock=some x:=fun hA x hx e=>by
     obtain⟨h1,cs,h2⟩:=Em x e;rcases hx with hx|⟨_,cs',hx⟩
     .have:=qZ x hx;omega
     rw[hA x cs h2]at hx;cases hx
    have hTw:Ak (fun x=>(Zy dE k rZ).ownBlock=some x) wr ym:=((Ak.later Jp).mono fun _ x=>x).trans Js;have Vo:=hzg (A:=wr) (fun g cs h=>h);have rK:=hzg (A:=W1a) (fun g cs h=>(Jp.block g (Za.1 h).1).trans h);refine⟨(hT.trans (D3.mono fun x hx=>.inr ?_)).trans (Th.mono fun x hx=>.inl hx),Ba M9 _,vals++ [U fa (Jt c s0).length fc],CO Th (fun b h1 h2=>by omega) Cm,fun i f hf=>?_⟩
    .rcases Zar x w5.heap.size with h|h
     .exact absurd hx (q9 x h)
     exact h
    rw[HTK.out]at hf;have uM:vals.length=k:=by have:=AX.1;omega
    have cI:((ss.map (Jt c)).take k).length=k:=by simp;omega
    by_cases uB:i<k
    .rw[zl (by omega)]at hf
     obtain⟨u,h1,h2⟩:=DF i f hf;exact⟨u,by rw[zl (by omega)];exact h1,slz (slz h2 hTw Vo) Th hzq⟩
    have aX:=(Zm.1 hf).1;rw[ZA,zb,zR,cI]at aX;obtain rfl:i=k:=by omega
    rw[Zbr (by omega),cI,Nat.sub_self]at hf;cases hf;exact⟨U fa (Jt c s0).length fc,by rw[Zbr (by omega),uM,Nat.sub_self];rfl,slz (slz (slz acu (T:=fun _=>False) ((Ak.later Vn).mono fun _ x=>x) fun _ _ x=>x) Js rK) Th hzq⟩
   have HC2:=Zd bM;clear bM hC D3 Js WQ Kd Jp Vn vr cu vq NK acu AX Cm yl DF AG Gc Em f0 e0 M9 hT hSZ hSd S6 lM;unfold Dl
   go_simp
   go_wp2;go_roundg (ss.length - (k+1))
   case rel=>exact⟨k+1,_,Az,rfl,by go_num,HC2.out⟩
   omega
  refine .inr ⟨x',rfl,?_⟩;have Lc:Bl w W1:=((qY.trans (hT.below (fun x hx=>by rcases hx with h|h<;>omega) (by omega))).trans (Uh.mono (by omega))).trans (cu.mono (show w.heap.size<=wr.drew.heap.size from by show w.heap.size<=wr.heap.size;omega));exact⟨rfl,Lc,.inr ⟨_,rfl,Ss⟩⟩
 have T5:k=ss.length:=by omega
 subst T5;have vt:(ss.map (Jt c)).length=ss.length:=by simp
 obtain⟨fits,iU⟩:∃fits,fits=ss.map (Jt c):=⟨_,rfl⟩;rw[<-iU]at DF vt;rw[Zb3 (by omega)]at DF;have hfs:∀f∈fits,f.length<=1000/\∀l∈f,l.length=c.Aa.length:=by
  intro f hf;rw[iU]at hf;obtain⟨s,_,rfl⟩:=List.mem_map.1 hf;exact⟨Zr (Zac _ _) (by omega),fun l hl=>(Lf c.Aa l (List.mem_filter.1 hl).1).1⟩
 have aiu:wr.heap[mb]?=some (.map #[] 0):=(hT.block mb (by omega) (hnK mb (by omega) pW)).trans hM5;have hZL:∀b,ZZ Z w5.heap.size wr b->LS wr.heap.size mb wr b:=fun b hb=>by
  rcases hb with hb|hb
  .have:=qZ b hb;exact .inl ⟨by omega,hZm b hb,by omega⟩
  have h1:=hb.1.1;have h2:=hb.1.2;exact .inl ⟨h2,by omega,h2⟩
 have hSF:SF wr.heap.size mb wr (U dE ss.length rZ) fits:=by
  have h0:Sl (Cb w5.heap.size wr) (Rll wr.heap.size mb) 1 wr (U dE ss.length rZ) fits:=O6 (l:=fits) (by decide) (by rw[vt];exact AX) (fun i f hf=>by
   obtain⟨u,hu,hsu⟩:=DF i f hf;refine⟨u,?_,Sl.imp hsu hZL fun _ _ ⟨u',e,DX⟩=>⟨u',e,Sl.imp DX hZL fun _ _ x=>x⟩⟩;obtain⟨DN,e⟩:=Zm.1 hu;rw[Nat.mul_one,ZO DN,e]
   rfl)
  exact Sl.imp h0 (fun b hb=>.inl ⟨hb.2,by have:=hb.1;omega,hb.2⟩) (fun _ _ x=>x)
 have aiv:kU c c:=⟨rfl,rfl,rfl,rfl,hv.uy,fun i hi=>hv.left i hi,fun i hi=>⟨rfl,rfl,rfl,rfl⟩⟩;have hM:Gy (FI wr.heap.size mb ab c fits) mb wr:=⟨#[],0,aiu,fun e he=>by simp at he⟩;have aiw:=ais.Ar hSZ;have Tm:Calls Lp 26 #[.agg #[U dE ss.length rZ,.map (some mb)],.agg #[U a1 c.base.length c1,U a2 c.Af.length c2,U a3 c.hooks.length c3,U a4 c.Aa.length c4,U a5 c.now.length c5,I .u8 (ab 0),I .u8 (ab 1),I .u8 (ab 2)],.int J 0] wr (fun e w'=>∃v,e=.returned v/\B3 mb wr w'/\Lh wr.heap.size mb w' v (Gx ab fits c)/\Gy (FI wr.heap.size mb ab c fits) mb w'):=
  apx hv mG.out (by omega) hfs mA fits.length 0 c wr _ _ _ _ _ Z (by omega) (Zj _) (by omega) aiv hSF aiw (fun b hb=>⟨by have:=qZ b hb;omega,hZm b hb⟩) hM
 have HR:=Zd (show qU c ss=Gx ab fits c by rw[mG.out,iU];rfl);have U5:Bl w wr:=qY.trans (hT.below (fun x hx=>by rcases hx with h|h<;>omega) (by omega));have hmw:mb<wr.heap.size:=by omega
 have m0:=ch (i:=0) hC.box (v:=.slice dE ss.length rZ) rfl;have m1':=ch (i:=1) hC.box (v:=.map (some mb)) rfl;have Tr:Kept wr.heap.size mb wr wr:=Kept.refl _ _ _;have HFL:=Zd vt;have HBT:∀W,B3 mb wr W->Bl w W:=fun W hU=>U5.trans ((hU.CN (K:=fun x=>x=mb) rfl).below (fun x hx=>by have:x=mb:=hx;omega) (by omega));clear hSF hM aiv aiw aiu hZL DF AX iU vt Tr hT hSZ S6 hC;cases hr:Gx ab fits c with
 |none=>
  rw[hr]at Tm HR;have H5:=Zd (Tm.mono (R':=fun e w'=>e=.returned (.agg #[U none 0 0,.int J 0,.bool false])/\B3 mb wr w') fun e w' ⟨v,he,hU,iZ,_⟩=>⟨by rw[he,show v=_ from iZ],hU⟩);clear Tm hr;go_wp2_with (go_at_call 26;refine H5.out.mono ?_;rintro e W6 ⟨rfl,Xp⟩);refine ZN (Eh rfl _ _ _) rfl ?_;refine⟨bA (HBT _ Xp),.inl ⟨_,by unfold qW qX;rw[HR.out];rfl,?_⟩⟩;unfold qV;rw[HR.out];exact⟨none,0,rfl,Zj _,Zp _,fun i x hx=>by cases hx⟩
 |some p=>
  obtain⟨pl,pn⟩:=p;rw[hr]at Tm HR;obtain⟨_,_,Xa⟩:=M4 ab _ _ _ hr;have ay7:pl.length<=3:=by have:=HFL.out;simp only at Xa;omega
  have H5:=Zd (Tm.mono (R':=fun e w'=>∃ya yc,e=.returned (.agg #[U ya pl.length yc,.int J pn,.bool true])/\B3 mb wr w'/\LL wr.heap.size mb w' (U ya pl.length yc) pl) fun e w' ⟨v,he,hU,⟨u,iZ,hl⟩,_⟩=>by
   obtain⟨ya,yc,rfl,_⟩:=Sl.val hl;exact⟨ya,yc,by rw[he,iZ],hU,hl⟩)
  have oh:∀l∈pl,l.length<=1000:=by
   have apT:∀f∈fits,∀l∈f,l.length<=1000:=fun f hf l hl=>by rw[(hfs f hf).2 l hl];omega
   exact cF ab (fun l=>l.length<=1000) fits c (pl,pn) apT hr
  have hmk:=fun W=>qT pl.length (by omega) W;clear Tm hr Xa hfs;go_wp2_with (go_at_call 26;refine H5.out.mono ?_;rintro e W6 ⟨ya,yc,rfl,Xp,hL6⟩);obtain⟨W7,hW7⟩:∃W7,W7=(W6.alloc (.cells #[U ya pl.length yc,.int J pn,.bool true] 77)).alloc (.cells (Yu pl.length (Zy none 0 0)) 22):=⟨_,rfl⟩;have hC7:CL W6 pl #[U ya pl.length yc,.int J pn,.bool true] 0 (Yu pl.length (Zy none 0 0)) W7:=by
   rw[hW7];exact⟨bA (bA (Zh _ _)),Bf (Bp _ _) _,Jq _ _ _,by simp,fun i hi=>absurd hi (by omega)⟩
  have apV:SL (fun b=>b<W6.heap.size) W6 (U ya pl.length yc) pl:=Sl.imp hL6 (fun b hb=>hb.lt) fun _ _ ⟨u,e,hs⟩=>⟨u,e,Sl.imp hs (fun b hb=>hb.lt) fun _ _ x=>x⟩;have DM:=HBT _ Xp;rw[<-hW7];clear hW7 hL6 Xp;go_loopg [82] pl.length (fun g i wx=>∃(k:Nat) (cur:Array Zf),k<=pl.length/\g=pl.length - k/\i=.int J k/\CL W6 pl #[U ya pl.length yc,.int J pn,.bool true] k cur wx)
  case atStart=>exact⟨0,_,Zp _,rfl,rfl,hC7⟩
  obtain⟨k,cur,hk,rfl,rfl,hC⟩:=hrel;have bx0:=ch (i:=0) hC.box (v:=.slice ya pl.length yc) rfl;have bx1:=ch (i:=1) hC.box (v:=.int J pn) rfl;have hzr:W6.heap.size+1<wr.heap.size:=(Za.1 hC.out).1;by_cases Az:k<pl.length
  .obtain⟨b,o,u,rfl,hb,hc,hu⟩:=SL.at_ apV Az
   have OJ:=(hC.below.cell (p:=⟨b,o+k,none⟩) hb).trans hc;have lM:=SI.Ar hu (fun x hx _=>hC.below.block x hx);obtain⟨l,hl⟩:∃l,l=BM pl k:=⟨_,rfl⟩;have hlm:=oh l (by rw[hl];exact Z3 (BJ Az));rw[<-hl]at lM;have HLK:=Zd hl;clear hl hu hc;obtain⟨a7,c7,rfl,l7,m7⟩:=lM.val;have TB:(k:Int)<(pl.length:Int):=by omega
   have hkc:k<cur.size:=by rw[hC.size];exact Az
   obtain⟨x0,Oo⟩:∃x0,cur[k]?=some x0:=⟨_,Zx hkc⟩;have HLM:=Zd hlm;clear hlm;go_wp2_with (go_at_call 27;refine(xJ lM HLM.out).mono ?_;rintro e W8 ⟨u8,rfl,Jn,hu8⟩;obtain⟨p8,d8,rfl,_⟩:=Sl.val hu8;(have hO8:=(Jn.block _ hzr).trans hC.out);have ce:=ch hO8 Oo;have fe:=cf (i:=k) hO8);have bM:CL W6 pl #[U (some ⟨b,o,none⟩) pl.length yc,.int J pn,.bool true] (k+1) (cur.setIfInBounds k (U p8 l.length d8)) (W8.setCell ⟨W6.heap.size+1,k,none⟩ (U p8 l.length d8)):=by
    have Th:=(Ak.refl (fun x=>x=W6.heap.size+1) W8).DT (i:=k) (v:=.slice p8 l.length d8);have hty:∀ {n:Nat} x,J1 3 n W8 x->¬x=W6.heap.size+1:=fun x hx e=>by
     obtain⟨_,cs,h2⟩:=hx;rw[e,hO8]at h2;cases h2
    have aix:=hC.below.trans (Jn.mono hC.below.size);refine⟨aix.trans (Th.below (fun x hx=>by have:x=_:=hx;omega) aix.size),(AZ (by omega) _).trans ((Jn.block _ (by omega)).trans hC.box),Ba hO8 _,by simp[hC.size],fun i hi=>?_⟩;by_cases uB:i=k
    .subst uB
     refine⟨U p8 l.length d8,ZV hkc,?_⟩;rw[<-HLK.out];exact Dx Th hty (Sl.imp hu8 (fun b hb=>⟨⟨by have:=hb.1.1;omega,hb.1.2⟩,hb.2⟩) fun _ _ x=>x)
    obtain⟨u,h1,h2⟩:=hC.at_ i (by omega);exact⟨u,(Zk (Za0 uB)).trans h1,Dx Th hty (Dx (T:=fun _=>False) ((Ak.later Jn).mono fun _ x=>x) (fun _ _ x=>x) h2)⟩
   have HC2:=Zd bM;clear bM hC;go_roundg (pl.length - (k+1))
   case rel=>exact⟨k+1,_,Az,rfl,by go_num,HC2.out⟩
   omega
  have T5:k=pl.length:=by omega
  subst T5;go_wp2;go_quiet (fail);go_wp2;refine ZN (Eh rfl _ _ _) rfl ?_;have ayb:=DM.size;refine⟨bN (DM.trans (hC.below.mono DM.size)),.inl ⟨_,by unfold qW qX;rw[HR.out];rfl,?_⟩⟩;unfold qV;rw[HR.out];refine⟨some ⟨W6.heap.size+1,0,none⟩,pl.length,rfl,Zj _,by unfold maxLen;omega,fun i x hx=>?_⟩;have hi:=(Zm.1 hx).1;obtain⟨u,h1,h2⟩:=hC.at_ i hi;rw[show BM pl i=x by have:=BJ hi;rw[hx]at this;exact(ZW this).symm]at h2;refine⟨W6.heap.size+1,0,[u],rfl,⟨by omega,hzr⟩,rfl,fun j y hy=>?_,u,rfl,Sl.imp (SI.Ar h2 (w':=wr.drewN _) fun b hb _=>rfl) (fun b hb=>⟨by have:=hb.1.1;omega,hb.1.2⟩) fun _ _ x=>x⟩;cases j with
  |zero=>
   cases hy;rw[show 0+i*1+0=i by omega];exact ch hC.out h1
  |succ j=>cases hy
section
variable {P:Zo}{ops:Array Oper}{Q:Exit->Act->Zb->Prop}{md:YO}{S:Zb->Prop}
def cG {ls:List Nat}{listed:Array Bool}{a:Act}(hB:(YF ops&&ltB md ops [] (fun L=>(zs md ops L).isEmpty) ls listed)=true)(hQ:∀c a d v w,Q (.panic c) (Zck a d v) w->Q (.panic c) a w)(hS:S w)(h:MQ P ops S (fun a'=>Q .normal a' w) ls a):Cy P md ops Q (fun _=>S) ls.length listed a w:=by
 rw[ZF]at hB;have hT:(FG [] S:Nat->Zb->Prop)=fun _=>S:=by
  funext i w
  simp[FG]
 have:=LC (P:=P) (lates:=[]) (g:=0) (K:=fun a'=>Q .normal a' w) hB.1 hQ hS (fun listed a h1 h2=>by
  rw[hT];exact⟨by simpa using h1,h2⟩) ls listed a hB.2 h
 rw[hT,zN]at this;exact this
end
abbrev Lt (W:Zb):Nat->Prop:=fun b=>b<W.heap.size
section
variable {n:Nat}{w1 X:Zb}{v1 v2 v3 v4 v5:Zf}{c:A_}
def Vs (hR:RC (Cb n w1) w1 v1 v2 v3 v4 v5 c){W:Zb}(hB:Bl w1 W):RC (Lt W) W v1 v2 v3 v4 v5 c:=(hR.later hB).imp fun b hb=>Zl hb.2 hB.size
def H8 (l:List Int)(hl:l.length<=1000):SI (Lt (X.alloc (.cells (l.map (ZL J)).toArray 3))) (X.alloc (.cells (l.map (ZL J)).toArray 3)) (U (some ⟨X.heap.size,0,none⟩) l.length l.length) l:=
 M1 l (Bp _ _) (show X.heap.size<_ by simp) (by unfold maxLen;omega)
def apW (hR:RC (Cb n w1) w1 v1 v2 v3 v4 v5 c)(hB:Bl w1 X)(l:List Int)(hl:l.length<=1000):Calls Lp 38 #[.agg #[v1,v2,v3,v4,v5],U (some ⟨X.heap.size,0,none⟩) l.length l.length] (X.alloc (.cells (l.map (ZL J)).toArray 3)) (iy (X.alloc (.cells (l.map (ZL J)).toArray 3)) (JX c l) (Ca c l)):=
 c45 (Vs hR (hB.trans (bA (Zh _ _)|>.mono hB.size))) (H8 l hl) fun b hb=>hb
def apX (hR:RC (Cb n w1) w1 v1 v2 v3 v4 v5 c)(hB:Bl w1 X)(l:List Int)(hl:l.length<=1000)(hgo:Eg c l=0->∃L,WE c l=some L):Calls Lp 41 #[.agg #[v1,v2,v3,v4,v5],U (some ⟨X.heap.size,0,none⟩) l.length l.length] (X.alloc (.cells (l.map (ZL J)).toArray 3)) (iy (X.alloc (.cells (l.map (ZL J)).toArray 3)) (MV c l) (Eg c l)):=
 c54 (Vs hR (hB.trans (bA (Zh _ _)|>.mono hB.size))) (H8 l hl) (fun b hb=>hb) hgo
def apY (hR:RC (Cb n w1) w1 v1 v2 v3 v4 v5 c)(hB:Bl w1 X)(l:List Int)(hl:l.length<=1000):Calls Lp 42 #[.agg #[v1,v2,v3,v4,v5],U (some ⟨X.heap.size,0,none⟩) l.length l.length] (X.alloc (.cells (l.map (ZL J)).toArray 3)) fun e w'=>e=.returned (.tuple #[.string ⟨(M3 c l).toArray⟩,.int J (Ca c l)])/\YH (X.alloc (.cells (l.map (ZL J)).toArray 3)).heap.size (X.alloc (.cells (l.map (ZL J)).toArray 3)) w':=
 c69 (Vs hR (hB.trans (bA (Zh _ _)|>.mono hB.size))) (H8 l hl) fun b hb=>hb
end
def g_asked:Ca (Ft 2 2 1) [1,-1,1]=0:=by decide+kernel
def g_girths:JX (Ft 2 2 1) [1,-1,1]=[43,28]:=by decide+kernel
def g_fitsE:Oa (Ft 2 2 1) [0,0,0] [(38,40),(25,30)]=0:=by decide+kernel
def g_fitsV:Mf (Ft 2 2 1) [0,0,0] [(38,40),(25,30)]=true:=by decide+kernel
def g_ready:Eg (Ft 2 2 1) [1,-1,1]=0:=by decide+kernel
def g_order:WE (Ft 2 2 1) [1,-1,1]=some [1,0,2]:=by decide+kernel
def g_orderV:MV (Ft 2 2 1) [1,-1,1]=[1,0,2]:=by decide+kernel
def g_begin:BN (Ft 2 2 1)=0:=by decide+kernel
def g_sing:∀s∈ [[((46:Int),(46:Int)),(30,30)],[(36,36),(30,30)]],Fs (Ft 2 2 1).base.length s=0:=by decide+kernel
def g_sea:qU (Ft 2 2 1) [[(46,46),(30,30)],[(36,36),(30,30)]]=some ([[2,0,1],[-2,0,1]],3):=by decide+kernel
def g_write:M3 (Ft 2 2 1) [2,-1,0]=[97,43,50,98,45,49]:=by decide+kernel
def g_asked2:Ca (Ft 2 2 1) [2,-1,0]=0:=by decide+kernel
def g_lastsV:Eu (Ft 2 2 1) [[0,1,0],[0,2,0],[0,0,0]]=(2,0):=by decide+kernel
def g_lastsE:F2 (Ft 2 2 1) [[0,1,0],[0,2,0],[0,0,0]]=0:=by decide+kernel
def g_over:∀i,i<(Ft 2 2 1).Aa.length->(Aj (Ft 2 2 1).Aa i).over.length<=1000:=by
 intro i hi;have:i=0\/i=1\/i=2:=by have:(Ft 2 2 1).Aa.length=3:=rfl;omega
 rcases this with rfl|rfl|rfl<;>decide
def bT (h:Bl w A)(k:Bl A B):Bl w B:=h.trans (k.mono h.size)
def IW (h:SI (Lt A) A v l)(hB:Bl A B):SI (Lt B) B v l:=Sl.imp (h.later hB) (fun b hb=>Zl hb hB.size) fun _ _ x=>x
def Ok {l:List (List Int)}(h:SL (Cb n A) A v l)(hB:Bl A B):SL (Cb n B) B v l:=
 Sl.imp (SL.Ar h (w':=B) fun b _ hl=>hB.block b hl) (fun b hb=>⟨hb.1,Zl hb.2 hB.size⟩) fun _ _ ⟨u,e,hs⟩=>⟨u,e,Sl.imp hs (fun b hb=>⟨hb.1,Zl hb.2 hB.size⟩) fun _ _ x=>x⟩
def vu {a b:List (Int×Int)}(hu:SP (Lt A) A u a)(hv:SP (Lt A) A v b):SSP (Lt (A.alloc (.cells #[u,v] 25))) (A.alloc (.cells #[u,v] 25)) (U (some ⟨A.heap.size,0,none⟩) 2 2) [a,b]:=by
 have hB:Bl A (A.alloc (.cells #[u,v] 25)):=bA (Zh _ _);have h2:∀ {x:Zf} {l:List (Int×Int)},SP (Lt A) A x l->SP (Lt (A.alloc (.cells #[u,v] 25))) (A.alloc (.cells #[u,v] 25)) x l:=fun h=>Sl.imp (h.later hB) (fun b hb=>Zl hb hB.size) fun _ _ x=>x;refine⟨some ⟨A.heap.size,0,none⟩,2,rfl,Zj _,by decide,fun i x hx=>?_⟩
 match i,hx with
 |0,hx=>
  cases hx;refine⟨A.heap.size,0,[u],rfl,by simp[Lt],rfl,fun j y hy=>?_,u,rfl,h2 hu⟩;cases j with
  |zero=>cases hy;exact cn A #[u,v] 25 rfl
  |succ j=>cases hy
 |1,hx=>
  cases hx;refine⟨A.heap.size,0,[v],rfl,by simp[Lt],rfl,fun j y hy=>?_,v,rfl,h2 hv⟩;cases j with
  |zero=>cases hy;exact cn A #[u,v] 25 rfl
  |succ j=>cases hy
def Ge (h:SI (Cb n A) A v l)(hB:Bl A B):SI (Cb n B) B v l:=Sl.imp (h.later hB) (fun b hb=>⟨hb.1,Zl hb.2 hB.size⟩) fun _ _ x=>x
def q_ {x:Zf}{c:List Int}(hu:SI (Lt A) A u a)(hv:SI (Lt A) A v b)(hx:SI (Lt A) A x c):SL (Lt (A.alloc (.cells #[u,v,x] 22))) (A.alloc (.cells #[u,v,x] 22)) (U (some ⟨A.heap.size,0,none⟩) 3 3) [a,b,c]:=by
 have hB:Bl A (A.alloc (.cells #[u,v,x] 22)):=bA (Zh _ _);refine⟨some ⟨A.heap.size,0,none⟩,3,rfl,Zj _,by decide,fun i y hy=>?_⟩
 match i,hy with
 |0,hy=>
  cases hy;refine⟨A.heap.size,0,[u],rfl,by simp[Lt],rfl,fun j z hz=>?_,u,rfl,IW hu hB⟩;cases j with
  |zero=>cases hz;exact cn A #[u,v,x] 22 rfl
  |succ j=>cases hz
 |1,hy=>
  cases hy;refine⟨A.heap.size,0,[v],rfl,by simp[Lt],rfl,fun j z hz=>?_,v,rfl,IW hv hB⟩;cases j with
  |zero=>cases hz;exact cn A #[u,v,x] 22 rfl
  |succ j=>cases hz
 |2,hy=>
  cases hy;refine⟨A.heap.size,0,[x],rfl,by simp[Lt],rfl,fun j z hz=>?_,x,rfl,IW hx hB⟩;cases j with
  |zero=>cases hz;exact cn A #[u,v,x] 22 rfl
  |succ j=>cases hz
def acw (hu:SI (Lt A) A u a)(hv:SI (Lt A) A v b):SL (Lt (A.alloc (.cells #[u,v] 22))) (A.alloc (.cells #[u,v] 22)) (U (some ⟨A.heap.size,0,none⟩) 2 2) [a,b]:=by
 have hB:Bl A (A.alloc (.cells #[u,v] 22)):=bA (Zh _ _);refine⟨some ⟨A.heap.size,0,none⟩,2,rfl,Zj _,by decide,fun i y hy=>?_⟩
 match i,hy with
 |0,hy=>
  cases hy;refine⟨A.heap.size,0,[u],rfl,by simp[Lt],rfl,fun j z hz=>?_,u,rfl,IW hu hB⟩;cases j with
  |zero=>cases hz;exact cn A #[u,v] 22 rfl
  |succ j=>cases hz
 |1,hy=>
  cases hy;refine⟨A.heap.size,0,[v],rfl,by simp[Lt],rfl,fun j z hz=>?_,v,rfl,IW hv hB⟩;cases j with
  |zero=>cases hz;exact cn A #[u,v] 22 rfl
  |succ j=>cases hz
def apZ {w1 V:Zb}(hR:RC (Cb n w1) w1 v1 v2 v3 v4 v5 c)(hB:Bl w1 V)(hG:Jr V)(mA:∀i,i<c.Aa.length->(Aj c.Aa i).over.length<=1000):
  Calls Lp 43 #[.agg #[v1,v2,v3,v4,v5],U (some ⟨V.heap.size+1+1+1,0,none⟩) 3 3] ((((V.alloc (.cells #[.int J 0,.int J 1,.int J 0] 3)).alloc (.cells #[.int J 0,.int J 2,.int J 0] 3)).alloc (.cells #[.int J 0,.int J 0,.int J 0] 3)).alloc (.cells #[U (some ⟨V.heap.size,0,none⟩) 3 3,U (some ⟨V.heap.size+1,0,none⟩) 3 3,U (some ⟨V.heap.size+1+1,0,none⟩) 3 3] 22))
   (Two ((((V.alloc (.cells #[.int J 0,.int J 1,.int J 0] 3)).alloc (.cells #[.int J 0,.int J 2,.int J 0] 3)).alloc (.cells #[.int J 0,.int J 0,.int J 0] 3)).alloc (.cells #[U (some ⟨V.heap.size,0,none⟩) 3 3,U (some ⟨V.heap.size+1,0,none⟩) 3 3,U (some ⟨V.heap.size+1+1,0,none⟩) 3 3] 22)) (.tuple #[.int J (Eu c [[0,1,0],[0,2,0],[0,0,0]]).1,.int J (Eu c [[0,1,0],[0,2,0],[0,0,0]]).2,.int J (F2 c [[0,1,0],[0,2,0],[0,0,0]])])):=by
 have h1:SI (Lt (V.alloc (.cells #[.int J 0,.int J 1,.int J 0] 3))) _ _ [0,1,0]:=H8 (X:=V) [0,1,0] (by decide);have h2:SI (Lt ((V.alloc (.cells #[.int J 0,.int J 1,.int J 0] 3)).alloc (.cells #[.int J 0,.int J 2,.int J 0] 3))) _ _ [0,2,0]:=H8 (X:=V.alloc (.cells #[.int J 0,.int J 1,.int J 0] 3)) [0,2,0] (by decide);have h3:SI (Lt (((V.alloc (.cells #[.int J 0,.int J 1,.int J 0] 3)).alloc (.cells #[.int J 0,.int J 2,.int J 0] 3)).alloc (.cells #[.int J 0,.int J 0,.int J 0] 3))) _ _ [0,0,0]:=H8 (X:=(V.alloc (.cells #[.int J 0,.int J 1,.int J 0] 3)).alloc (.cells #[.int J 0,.int J 2,.int J 0] 3)) [0,0,0] (by decide);have hs:=q_ (IW (IW h1 (bA (Zh _ _))) (bA (Zh _ _))) (IW h2 (bA (Zh _ _))) h3;simp only[ZB,zb,zR,zN,ZaF]at hs;have De:=bA (o:=.cells #[U (some ⟨V.heap.size,0,none⟩) 3 3,U (some ⟨V.heap.size+1,0,none⟩) 3 3,U (some ⟨V.heap.size+1+1,0,none⟩) 3 3] 22) (bA (o:=.cells #[.int J 0,.int J 0,.int J 0] 3) (bA (o:=.cells #[.int J 0,.int J 2,.int J 0] 3) (bA (o:=.cells #[.int J 0,.int J 1,.int J 0] 3) (Zh V.heap.size V))));exact c34 (Vs hR (bT hB De)) hs (fun b hb=>hb) (hG.later De) mA
def aiy (hv:SI (Cb n X) X v a)(l:List Int)(hl:l.length<=1000):Calls Lp 31 #[v,U (some ⟨X.heap.size,0,none⟩) l.length l.length] (X.alloc (.cells (l.map (ZL J)).toArray 3)) fun e w'=>e=.returned (.bool (Ke a l))/\Bl X w':=
 (c46 (Ge hv (bA (Zh _ _))) (H8 l hl) (fun b hb=>hb.2) fun b hb=>hb).mono fun e w' ⟨h1,h2⟩=>⟨h1,bT (bA (Zh _ _)) h2⟩
def aq0 {a:List (List Int)}(hv:SL (Cb n X) X v a):
  Calls Lp 10 #[v,U (some ⟨X.heap.size+1+1,0,none⟩) 2 2] (((X.alloc (.cells #[.int J 2,.int J 0,.int J 1] 3)).alloc (.cells #[.int J (-2),.int J 0,.int J 1] 3)).alloc (.cells #[U (some ⟨X.heap.size,0,none⟩) 3 3,U (some ⟨X.heap.size+1,0,none⟩) 3 3] 22)) fun e w'=>e=.returned (.bool (O' a [[2,0,1],[-2,0,1]]))/\Bl X w':=by
 have h1:SI (Lt (X.alloc (.cells #[.int J 2,.int J 0,.int J 1] 3))) _ _ [2,0,1]:=H8 (X:=X) [2,0,1] (by decide);have h2:SI (Lt ((X.alloc (.cells #[.int J 2,.int J 0,.int J 1] 3)).alloc (.cells #[.int J (-2),.int J 0,.int J 1] 3))) _ _ [-2,0,1]:=H8 (X:=X.alloc (.cells #[.int J 2,.int J 0,.int J 1] 3)) [-2,0,1] (by decide);have hs:=acw (IW h1 (bA (Zh _ _))) h2;simp only[ZB,zb,zR,zN,ZaF]at hs;have De:=bA (o:=.cells #[U (some ⟨X.heap.size,0,none⟩) 3 3,U (some ⟨X.heap.size+1,0,none⟩) 3 3] 22) (bA (o:=.cells #[.int J (-2),.int J 0,.int J 1] 3) (bA (o:=.cells #[.int J 2,.int J 0,.int J 1] 3) (Zh X.heap.size X)));exact(c37 (Ok hv De) hs (fun b hb=>hb.2) fun b hb=>hb).mono fun e w' ⟨h1,h2⟩=>⟨h1,bT De h2⟩
def acx:Ke [43,28] [43,28]=true:=by decide
def acy:Ke [1,0,2] [1,0,2]=true:=by decide
def acz:O' [[2,0,1],[-2,0,1]] [[2,0,1],[-2,0,1]]=true:=by decide
variable {p:Option Addr}
def aiz {d:Nat}(hv:SI (Cb n X) X (U p 2 d) [43,28]):Calls Lp 31 #[U p 2 d,U (some ⟨X.heap.size,0,none⟩) 2 2] (X.alloc (.cells #[.int J 43,.int J 28] 3)) fun e w'=>e=.returned (.bool true)/\Bl X w':=by
 have h:=aiy hv [43,28] (by decide);rw[acx]at h;exact h
def aiA {d:Nat}(hv:SI (Cb n X) X (U p 3 d) [1,0,2]):Calls Lp 31 #[U p 3 d,U (some ⟨X.heap.size,0,none⟩) 3 3] (X.alloc (.cells #[.int J 1,.int J 0,.int J 2] 3)) fun e w'=>e=.returned (.bool true)/\Bl X w':=by
 have h:=aiy hv [1,0,2] (by decide);rw[acy]at h;exact h
def aiB {d:Nat}(hv:SL (Cb n X) X (U p 2 d) [[2,0,1],[-2,0,1]]):
  Calls Lp 10 #[U p 2 d,U (some ⟨X.heap.size+1+1,0,none⟩) 2 2] (((X.alloc (.cells #[.int J 2,.int J 0,.int J 1] 3)).alloc (.cells #[.int J (-2),.int J 0,.int J 1] 3)).alloc (.cells #[U (some ⟨X.heap.size,0,none⟩) 3 3,U (some ⟨X.heap.size+1,0,none⟩) 3 3] 22)) fun e w'=>e=.returned (.bool true)/\Bl X w':=by
 have h:=aq0 hv;rw[acz]at h;exact h
def c26 (w:Zb)(hG:Jr w):Calls Lp 12 #[] w (Two w (.bool true)):=by
 obtain⟨C,hC⟩:∃C,C=Ft 2 2 1:=⟨_,rfl⟩;have fa:=g_asked;have fg:=g_girths;have fr:=g_ready;have fo:=g_order;have fv:=g_orderV;have e1:=g_fitsE;have e2:=g_fitsV;have e3:=g_begin;have e4:=g_sing;have e5:=g_sea;have e6:=g_write;have e7:=g_asked2;have e8:=g_lastsV;have e9:=g_lastsE;have e0:=g_over;have H84:=Zd (c84 2 2 1 w);rw[<-hC]at fa fg fr fo fv e0 e1 e2 e3 e4 e5 e6 e7 e8 e9 H84;clear hC;have F45:=Zd (ZY fa fg);have F54:=Zd (ZY fr (ZY fo fv));have F62:=Zd (ZY e1 e2);have F41:=Zd (ZY e3 (ZY e4 (ZY e5 e0)));have F69:=Zd (ZY e6 e7);have F34:=Zd (show Eu C [[0,1,0],[0,2,0],[0,0,0]]=(2,0)/\F2 C [[0,1,0],[0,2,0],[0,0,0]]=0/\∀i,i<C.Aa.length->(Aj C.Aa i).over.length<=1000 from⟨e8,e9,e0⟩);clear fa fg fr fo fv e0 e1 e2 e3 e4 e5 e6 e7 e8 e9;have m1:=Yz;go_enter Lp.func26,n26;go_wp2_with (go_at_call 37;refine H84.out.mono ?_;rintro e w1 ⟨u1,u2,u3,u4,u5,rfl,Bg,hR⟩;obtain⟨a1,c1,rfl,_⟩:=hR.base.val;obtain⟨a2,c2,rfl,_⟩:=hR.Af.val;obtain⟨a3,c3,rfl,_⟩:=hR.hooks.val;obtain⟨a4,c4,rfl,_⟩:=hR.Aa.val;obtain⟨a5,c5,rfl,_⟩:=hR.now.val);obtain⟨X,hX⟩:∃X,X=w1.alloc (.cells #[U a1 C.base.length c1,U a2 C.Af.length c2,U a3 C.hooks.length c3,U a4 C.Aa.length c4,U a5 C.now.length c5] 28):=⟨_,rfl⟩;have hz:w1.heap.size+1=X.heap.size:=by rw[hX];simp
 have Ov:Bl w1 X:=by rw[hX];exact bA (Zh _ _)
 have hK:X.heap[w1.heap.size]?=some (.cells #[U a1 C.base.length c1,U a2 C.Af.length c2,U a3 C.hooks.length c3,U a4 C.Aa.length c4,U a5 C.now.length c5] 28 (0,0)):=by rw[hX];exact Bp _ _
 rw[hz, <-hX];clear hX;refine(apW hR Ov [1,-1,1] (by decide)).mono ?_;rintro e w3 ⟨v3,rfl,Bv,Vr⟩;rw[F45.out.1];rw[F45.out.2]at Vr;obtain⟨p3,d3,rfl,_⟩:=Vr.val;have acA:=bT (bA (Zh X.heap.size X)) Bv;have acB:=bT Ov acA;have F1:w3.heap[w1.heap.size]?=some (.cells #[U a1 C.base.length c1,U a2 C.Af.length c2,U a3 C.hooks.length c3,U a4 C.Aa.length c4,U a5 C.now.length c5] 28 (0,0)):=(acA.block _ (by omega)).trans hK;have l9:=Vr;clear Bv Vr acA hK;have z0:=fun p=>Al p (ch (i:=0) F1 (v:=.slice a1 C.base.length c1) rfl);have z1:=fun p=>Al p (ch (i:=1) F1 (v:=.slice a2 C.Af.length c2) rfl);have z2:=fun p=>Al p (ch (i:=2) F1 (v:=.slice a3 C.hooks.length c3) rfl);have z3:=fun p=>Al p (ch (i:=3) F1 (v:=.slice a4 C.Aa.length c4) rfl);have z4:=fun p=>Al p (ch (i:=4) F1 (v:=.slice a5 C.now.length c5) rfl);dsimp only;go_wp2;refine G6 (S:=fun W=>∃p,W=calm w3 p) [0] 8 #[true,false,false,false,false,false,false,false,false] (by kernel_rfl) (fun _ _ d _ _ h=>by cases d<;>exact h) (by kernel_rfl) (AL (Zh _ _).drew) ?_;refine A4 _ _ (by kernel_rfl) ?_;simp only[Z6,zd,ZG,ZD,ZC]
 repeat (first|go_big_quiet_step (fail)|quiet_step (fail))
 refine Z4 ?_;clear z0 z1 z2 z3 z4;change Cy _ _ _ _ _ _ _ _ _;obtain⟨V,hV⟩:∃V,V=w3.drew:=⟨_,rfl⟩;have hX:Bl w3 V:=by rw[hV];exact(Zh _ _).drew
 rw[<-hV];clear hV;refine AK [1,2] (by kernel_rfl) (by simp) (Ix ?gA ?gB)
 case' gA=>
  refine EX (v:=.slice (some ⟨V.heap.size,0,none⟩) 3 3) (w':=V.alloc (.cells #[.int J 0,.int J 0,.int J 0] 3)) rfl rfl (by go_simp) ?_;have kH:=H8 (X:=V) [0,0,0] (by decide);obtain⟨V2,gF⟩:∃V2,V2=V.alloc (.cells #[.int J 0,.int J 0,.int J 0] 3):=⟨_,rfl⟩;replace kH:SI (Lt V2) V2 (U (some ⟨V.heap.size,0,none⟩) 3 3) [0,0,0]:=by rw[gF];exact kH
  have Ia:Bl V V2:=by rw[gF];exact bA (Zh _ _)
  rw[<-gF];clear gF;replace hX:=bT hX Ia;obtain⟨n1,Vl⟩:∃n1,n1=V.heap.size:=⟨_,rfl⟩;rw[<-Vl]at kH⊢;clear Vl Ia;refine⟨AL hX,?_⟩;refine AK [2] (by kernel_rfl) (by simp) (BF ?_);refine DK (f:=40) (args:= #[.int J 38,.int J 40,.int J 25,.int J 30]) rfl rfl (by go_simp) ((c85 38 40 25 30 V2).mono ?_);rintro e V4 ⟨rfl,lB,hP⟩;obtain⟨n2,Xo⟩:∃n2,n2=V2.heap.size:=⟨_,rfl⟩;rw[<-Xo]at hP⊢;clear Xo;replace hX:=bT hX lB;refine .inl ⟨_,rfl,AL hX,?_⟩;replace kH:=IW kH lB;replace hP:=Sl.imp hP (fun b hb=>show b<V4.heap.size from hb.2) (fun _ _ x=>x);clear lB
 case' gB=>
  refine DK (f:=40) (args:= #[.int J 38,.int J 40,.int J 25,.int J 30]) rfl rfl (by go_simp) ((c85 38 40 25 30 V).mono ?_);rintro e V2 ⟨rfl,lB,hP⟩;obtain⟨n2,Xo⟩:∃n2,n2=V.heap.size:=⟨_,rfl⟩;rw[<-Xo]at hP⊢;clear Xo;replace hX:=bT hX lB;refine .inl ⟨_,rfl,AL hX,?_⟩;refine AK [1] (by kernel_rfl) (by simp) (BF ?_);refine EX (v:=.slice (some ⟨V2.heap.size,0,none⟩) 3 3) (w':=V2.alloc (.cells #[.int J 0,.int J 0,.int J 0] 3)) rfl rfl (by go_simp) ?_;have kH:=H8 (X:=V2) [0,0,0] (by decide);obtain⟨V4,Wq⟩:∃V4,V4=V2.alloc (.cells #[.int J 0,.int J 0,.int J 0] 3):=⟨_,rfl⟩;replace kH:SI (Lt V4) V4 (U (some ⟨V2.heap.size,0,none⟩) 3 3) [0,0,0]:=by rw[Wq];exact kH
  have Ks:Bl V2 V4:=by rw[Wq];exact bA (Zh _ _)
  rw[<-Wq];clear Wq;replace hX:=bT hX Ks;replace hP:=Sl.imp (hP.later Ks) (fun b hb=>show b<V4.heap.size from Zl hb.2 Ks.size) (fun _ _ x=>x);obtain⟨n1,Vl⟩:∃n1,n1=V2.heap.size:=⟨_,rfl⟩;rw[<-Vl]at kH⊢;clear Vl Ks lB;refine⟨AL hX,?_⟩
 all_goals
  refine AK [3] (by kernel_rfl) (by simp) (BF ?_);refine DK (f:=39) (args:= #[.agg #[U a1 C.base.length c1,U a2 C.Af.length c2,U a3 C.hooks.length c3,U a4 C.Aa.length c4,U a5 C.now.length c5],U (some ⟨n1,0,none⟩) 3 3,U (some ⟨n2,0,none⟩) 2 2]) rfl rfl (by go_simp) ((c62 (Vs hR (bT acB hX)) kH hP (fun b hb=>hb)).mono ?_);rintro e V5 ⟨rfl,aiC⟩;rw[F62.out.1,F62.out.2];replace hX:=bT hX aiC;refine .inl ⟨_,rfl,AL hX,?_⟩;refine cG (ls:=[4,5,6,7,8]) (by kernel_rfl) (fun _ _ d _ _ h=>by cases d<;>exact h) (AL hX) ?_;refine CB (v:=.tuple #[.bool true,.int J 0]) rfl rfl (fun w _=>by go_simp) ?_;refine CB (v:=.bool true) rfl rfl (fun w _=>by go_simp) ?_;refine CB (v:=.int J 0) rfl rfl (fun w _=>by go_simp) ?_;refine CB (v:=.bool true) rfl rfl (fun w _=>by go_simp) ?_;refine CB (v:=.int J 0) rfl rfl (fun w _=>by go_simp) ?_;have fG:=(hX.block _ (Za.1 F1).1).trans F1;have Tf:=bT acB hX;have hg5:=Ge l9 hX;clear hX aiC kH hP F1 acB l9;unfold MQ
  go_simp
  have k0:=ch (i:=0) fG (v:=.slice a1 C.base.length c1) rfl;have k1:=ch (i:=1) fG (v:=.slice a2 C.Af.length c2) rfl;have k2:=ch (i:=2) fG (v:=.slice a3 C.hooks.length c3) rfl;have k3:=ch (i:=3) fG (v:=.slice a4 C.Aa.length c4) rfl;have k4:=ch (i:=4) fG (v:=.slice a5 C.now.length c5) rfl;go_wp2;refine(apX hR Tf [1,-1,1] (by decide) (fun _=>⟨_,F54.out.2.1⟩)).mono ?_;rintro e w6 ⟨v6,rfl,DM,oy⟩;rw[F54.out.1];rw[F54.out.2.2]at oy;obtain⟨p6,d6,rfl,_⟩:=oy.val;have Vf:=bT (bA (Zh V5.heap.size V5)) DM;have Qo:=bT Tf Vf;have JB:w6.heap[w1.heap.size]?=some (.cells #[U a1 C.base.length c1,U a2 C.Af.length c2,U a3 C.hooks.length c3,U a4 C.Aa.length c4,U a5 C.now.length c5] 28 (0,0)):=(Vf.block _ (Za.1 fG).1).trans fG;have hg6:=Ge hg5 Vf;have ho6:=oy;clear DM oy Vf fG Tf hg5 k0 k1 k2 k3 k4;have z0:=fun p=>Al p (ch (i:=0) JB (v:=.slice a1 C.base.length c1) rfl);have z1:=fun p=>Al p (ch (i:=1) JB (v:=.slice a2 C.Af.length c2) rfl);have z2:=fun p=>Al p (ch (i:=2) JB (v:=.slice a3 C.hooks.length c3) rfl);have z3:=fun p=>Al p (ch (i:=3) JB (v:=.slice a4 C.Aa.length c4) rfl);have z4:=fun p=>Al p (ch (i:=4) JB (v:=.slice a5 C.now.length c5) rfl);dsimp only;go_wp2;refine G6 (S:=fun W=>∃p,W=calm w6 p) [0] 11 #[true,false,false,false,false,false,false,false,false,false,false,false] (by kernel_rfl) (fun _ _ d _ _ h=>by cases d<;>exact h) (by kernel_rfl) (AL (Zh _ _).drew) ?_;refine A4 _ _ (by kernel_rfl) ?_;simp only[Z6,zd,ZG,ZD,ZC]
  repeat (first|go_big_quiet_step (fail)|quiet_step (fail))
  refine Z4 ?_;clear z0 z1 z2 z3 z4;change Cy _ _ _ _ _ _ _ _ _;obtain⟨V,hV⟩:∃V,V=w6.drew:=⟨_,rfl⟩;have hX:Bl w6 V:=by rw[hV];exact(Zh _ _).drew
  rw[<-hV];clear hV;refine AK [1] (by kernel_rfl) (by simp) (BF ?_);refine DK (f:=40) (args:= #[.int J 46,.int J 46,.int J 30,.int J 30]) rfl rfl (by go_simp) ((c85 46 46 30 30 V).mono ?_);rintro e V2 ⟨rfl,Bb,hP⟩;obtain⟨na,rK⟩:∃na,na=V.heap.size:=⟨_,rfl⟩;rw[<-rK]at hP⊢;clear rK;replace hX:=bT hX Bb;refine .inl ⟨_,rfl,AL hX,?_⟩;refine AK [2] (by kernel_rfl) (by simp) (BF ?_);refine DK (f:=40) (args:= #[.int J 36,.int J 36,.int J 30,.int J 30]) rfl rfl (by go_simp) ((c85 36 36 30 30 V2).mono ?_);rintro e V3 ⟨rfl,Bv,hP2⟩;obtain⟨nb,hnb⟩:∃nb,nb=V2.heap.size:=⟨_,rfl⟩;rw[<-hnb]at hP2⊢;clear hnb;replace hX:=bT hX Bv;refine .inl ⟨_,rfl,AL hX,?_⟩;replace hP:SP (Lt V3) V3 (U (some ⟨na,0,none⟩) 2 2) [(46,46),(30,30)]:=Sl.imp (hP.later Bv) (fun b hb=>Zl hb.2 Bv.size) (fun _ _ x=>x);replace hP2:SP (Lt V3) V3 (U (some ⟨nb,0,none⟩) 2 2) [(36,36),(30,30)]:=Sl.imp hP2 (fun b hb=>hb.2) (fun _ _ x=>x);have hss:=vu hP hP2;refine AK [3] (by kernel_rfl) (by simp) (BF ?_);refine EX (v:=.slice (some ⟨V3.heap.size,0,none⟩) 2 2) (w':=V3.alloc (.cells #[U (some ⟨na,0,none⟩) 2 2,U (some ⟨nb,0,none⟩) 2 2] 25)) rfl rfl (by go_simp) ?_;obtain⟨V4,Wq⟩:∃V4,V4=V3.alloc (.cells #[U (some ⟨na,0,none⟩) 2 2,U (some ⟨nb,0,none⟩) 2 2] 25):=⟨_,rfl⟩;have Ks:Bl V3 V4:=by rw[Wq];exact bA (Zh _ _)
  rw[<-Wq]at hss⊢;clear Wq;obtain⟨nc,hnc⟩:∃nc,nc=V3.heap.size:=⟨_,rfl⟩;rw[<-hnc]at hss⊢;replace hX:=bT hX Ks;clear hnc Ks Bb Bv hP hP2;refine⟨AL hX,?_⟩;refine AK [4] (by kernel_rfl) (by simp) (BF ?_);refine DK (f:=8) (args:= #[.agg #[U a1 C.base.length c1,U a2 C.Af.length c2,U a3 C.hooks.length c3,U a4 C.Aa.length c4,U a5 C.now.length c5],U (some ⟨nc,0,none⟩) 2 2]) rfl rfl (by go_simp) ((c41 (Vs hR (bT Qo hX)) hss (fun b hb=>hb) F41.out.1 (by decide) F41.out.2.1 F41.out.2.2.2).mono ?_);rintro e V5 ⟨Cj,⟨v5,rfl,NK⟩|⟨x,rfl,Ss⟩⟩
  .have hN:qW C [[((46:Int),(46:Int)),(30,30)],[(36,36),(30,30)]]=3:=by unfold qW;rw[F41.out.2.2.1]
   have hE:qX C [[((46:Int),(46:Int)),(30,30)],[(36,36),(30,30)]]=0:=by unfold qX;rw[F41.out.2.2.1]
   have hL:qV C [[((46:Int),(46:Int)),(30,30)],[(36,36),(30,30)]]=[[2,0,1],[-2,0,1]]:=by unfold qV;rw[F41.out.2.2.1]
   rw[hN,hE];rw[hL]at NK;clear hN hE hL;obtain⟨p8,d8,rfl,_⟩:=Sl.val NK;replace hX:=bT hX Cj;refine .inl ⟨_,rfl,AL hX,?_⟩;refine cG (ls:=[5,6,7,8,9,10,11]) (by kernel_rfl) (fun _ _ d _ _ h=>by cases d<;>exact h) (AL hX) ?_;refine CB (v:=.tuple #[U p8 2 d8,.int J 3,.int J 0]) rfl rfl (fun w _=>by go_simp) ?_;refine CB (v:=.slice p8 2 d8) rfl rfl (fun w _=>by go_simp) ?_;refine CB (v:=.int J 3) rfl rfl (fun w _=>by go_simp) ?_;refine CB (v:=.int J 0) rfl rfl (fun w _=>by go_simp) ?_;refine CB (v:=.slice p8 2 d8) rfl rfl (fun w _=>by go_simp) ?_;refine CB (v:=.int J 3) rfl rfl (fun w _=>by go_simp) ?_;refine CB (v:=.int J 0) rfl rfl (fun w _=>by go_simp) ?_;have T9:=(hX.block _ (Za.1 JB).1).trans JB;have acC:=bT Qo hX;have hg7:=Ge hg6 hX;have ho7:=Ge ho6 hX;clear hX Cj hss JB Qo hg6 ho6;unfold MQ
   go_simp
   have k0:=ch (i:=0) T9 (v:=.slice a1 C.base.length c1) rfl;have k1:=ch (i:=1) T9 (v:=.slice a2 C.Af.length c2) rfl;have k2:=ch (i:=2) T9 (v:=.slice a3 C.hooks.length c3) rfl;have k3:=ch (i:=3) T9 (v:=.slice a4 C.Aa.length c4) rfl;have k4:=ch (i:=4) T9 (v:=.slice a5 C.now.length c5) rfl;go_wp2;refine(apY hR acC [2,-1,0] (by decide)).mono ?_;rintro e w8 ⟨rfl,Jn⟩;rw[F69.out.1,F69.out.2];have hX8:=bT (bA (Zh V5.heap.size V5)) Jn;have vv:=bT acC hX8;have rT:w8.heap[w1.heap.size]?=some (.cells #[U a1 C.base.length c1,U a2 C.Af.length c2,U a3 C.hooks.length c3,U a4 C.Aa.length c4,U a5 C.now.length c5] 28 (0,0)):=(hX8.block _ (Za.1 T9).1).trans T9;have hg8:=Ge hg7 hX8;have ho8:=Ge ho7 hX8;have xx:=Ok NK hX8;clear Jn hX8 T9 acC hg7 ho7 NK k0 k1 k2 k3 k4;have k0:=ch (i:=0) rT (v:=.slice a1 C.base.length c1) rfl;have k1:=ch (i:=1) rT (v:=.slice a2 C.Af.length c2) rfl;have k2:=ch (i:=2) rT (v:=.slice a3 C.hooks.length c3) rfl;have k3:=ch (i:=3) rT (v:=.slice a4 C.Aa.length c4) rfl;have k4:=ch (i:=4) rT (v:=.slice a5 C.now.length c5) rfl;dsimp only;go_wp2;refine(apZ hR vv (hG.later (bT Bg vv)) F34.out.2.2).mono ?_;rintro e w9 ⟨Jx,rfl|⟨x,rfl,Ss⟩⟩
   .rw[F34.out.1,F34.out.2.1]
    have hX9:=bT (bA (bA (bA (bA (Zh w8.heap.size w8))))) Jx;have aq3:=bT Bg (bT vv hX9);have r_:=Ge hg8 hX9;have ho9:=Ge ho8 hX9;have hs9:=Ok xx hX9;clear Jx hX9 rT hg8 ho8 xx k0 k1 k2 k3 k4;dsimp only;have m1:=Yz;go_wp2_with (first|(go_at_call 31;clear m1;refine(aiz r_).mono ?_;rintro e w10 ⟨rfl,O5⟩;have aiE:=Ge ho9 O5;have aiF:=Ok hs9 O5;have aiG:=bT aq3 O5;clear r_ ho9 hs9 O5)|(go_at_call 31;refine(aiA aiE).mono ?_;rintro e w11 ⟨rfl,Ua⟩;have aiH:=Ok aiF Ua;have iC:=bT aiG Ua;clear aiE aiF Ua)|(go_at_call 10;refine(aiB aiH).mono ?_;rintro e w12 ⟨rfl,bK⟩;have aiI:=bT iC bK;clear aiH bK));go_ret;exact⟨aiI,.inl rfl⟩
   exact⟨rfl,bT Bg (bT vv (bT (bA (bA (bA (bA (Zh w8.heap.size w8))))) Jx)),.inr ⟨_,rfl,Ss⟩⟩
  refine .inr ⟨x,rfl,?_⟩;exact⟨rfl,bT Bg (bT (bT Qo hX) Cj),.inr ⟨_,rfl,Ss⟩⟩
end Go.Proofs.Fit
