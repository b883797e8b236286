/- Part of a proof. -/
import Derived.Test.YtbhpocnedbajlaaGreatDoorQ10
set_option maxRecDepth 100000
set_option maxHeartbeats 6400000
noncomputable section
set_option linter.all false
open And renaming intro->ZY
open Array renaming getElem?_eq_some_iff->Za,replicate->Yu,getElem?_eq_getElem->Zx,getElem?_setIfInBounds_self_of_lt->ZV,getElem?_setIfInBounds_ne->Zk
open Bool renaming and_eq_true->ZF
open Go renaming Value->Zf,World->Zb,bodyPost_ret->ZN,wpQuiet_nil->Z4,below_drewN->Y5,info_parts->zp,wpList_append_own->Yc,Program->Zo,FuncId->ZaQ,execOp->Zby,wp_append_own->Zak,ownsRow_succ->Zay
open Go.Act renaming put->Zck
open Go.Addr renaming add->Zcu
open Go.Calls renaming quiet_of_same->Zb5
open Go.Instr renaming makeSlice->Zdp
open Go.IntKind renaming wrap_i64->zE,i64->J
open Go.Lib renaming hid->Zd
open Go.Obj renaming cells->Zbi
open Go.Oper renaming wp->ZbA,upon_enter->Zdj
open Go.Proofs.Tryz renaming underlying22->YE,underlying34->zW
open Go.Region renaming Mode->YO,noSelect->YF,ready->zs
open Go.RowKit renaming Below->YH
open Go.RowKit.Below renaming refl->Zh
open Go.Value renaming int->ZL,slice->Zy,oneCell'->YT,slice->U,int->I
open Go.World renaming size_alloc->ZB,cell?->zy,block_lt_of_cell?->ZH,putObj_heap_other->zG,ownsRow_nil->zq
open List renaming length_cons->zb,getElem?_take_of_lt->Z2,getElem?_drop->Yl,drop_eq_nil_iff->Z7,getElem?_map->YL,getElem?_eq_some_iff->Zm,mem_of_getElem?->Z3,filterMap_cons->Z6,filterMap_nil->zd,getElem?_toArray->ZG,getElem?_cons_succ->ZD,getElem?_cons_zero->ZC,getElem?_eq_getElem->zf,mem_cons_of_mem->zm,mem_cons_self->zC,take_add_one->ZbH,getElem?_append_left->zl,length_append->ZA,length_nil->zR,getElem?_append_right->Zbr,take_of_length_le->Zb3,length_filter_le->Zac,drop_eq_getElem_cons->ZO
open Nat renaming le_refl->Zj,zero_le->Zp,two_pow_pos->Zdz,lt_of_lt_of_le->Zl,pow_le_pow_right->YX,le_trans->Zr,lt_or_ge->Zar,zero_add->zN,reduceAdd->ZaF
open Ne renaming symm->Za0
open Option.some renaming inj->ZW
open True renaming intro->Yz
namespace Go.Proofs.Fit
open Go Go.RowKit
def wrap_small {x:Int}(h:0<=x/\x<=1000000):IntKind.i64.wrap x=x:=by
 rw[zE];omega
def Uk (i:Nat)(d:A_)(j:Nat):Key:=(i,(nth d.now 0,nth d.now 1,nth d.now 2),(if 0<j then(Aj d.Aa 0).left else 0),(if 1<j then(Aj d.Aa 1).left else 0),(if 2<j then(Aj d.Aa 2).left else 0))
variable {i n j n0 mb:Nat}
def qP {l:List Ay}(h:l.length<=i):Aj l i=pD:=by simp[Aj,h]
variable {d c:A_}
def qQ (h:d.Aa.length=n)(b:n<=3):Uk i d n=M5 i d:=by
 have a:∀j,(if j<n then(Aj d.Aa j).left else 0)=(Aj d.Aa j).left:=λj=>by
  split
  .rfl
  rw[qP o!];rfl
 unfold Uk M5;rw[a 0,a 1,a 2]
def qR (h:j<3):(E0 (Uk i d j)).setIfInBounds (4+j) (.int J (Aj d.Aa j).left)=E0 (Uk i d (j+1)):=by
 have:j=0\/j=1\/j=2:=o!
 rcases this with rfl|rfl|rfl<;>simp[E0,Uk]
def vg (h:j<3):(E0 (Uk i d j))[4+j]?=some (.int J 0):=by
 have:j=0\/j=1\/j=2:=o!
 rcases this with rfl|rfl|rfl<;>rfl
def vh (i:Int)(b:List Int)(c:1<=b.length)(a:b.length<=3):(([.int J i,.int J 0,.int J 0,.int J 0,.int J 0,.int J 0,.int J 0]:List Zf).take 1++(b.map (ZL J)++([.int J i,.int J 0,.int J 0,.int J 0,.int J 0,.int J 0,.int J 0]:List Zf).drop (1+(b.map (ZL J)).length))).toArray=E0 (i,(nth b 0,nth b 1,nth b 2),0,0,0):=by
 match b,c,a with
 | [x],_,_=>rfl
 | [x,y],_,_=>rfl
 | [x,y,z],_,_=>rfl
variable {S:Nat->Prop}
def aic:pI (Rl S):=λ_ _ _ h u b=>by
 obtain⟨e,rfl,d⟩:=h;obtain⟨a,c,rfl,_⟩:=d.val;simp at b;subst b
 rfl
variable {w A B X:Zb}
def vj {w':Zb}{cs:List Zf}{x:List Int}(h:Rl (LS n0 mb w) w cs x)(c:Kept n0 mb w w'):Rl (LS n0 mb w') w' cs x:=by
 obtain⟨u,e,d⟩:=h;exact⟨u,e,Sl.imp (SI.Ar d λb a _=>c b a) (λb a=>a.Ar c) (λ_ _ x=>x)⟩
variable {v vf u v1 v2 v3 v4 v5:Zf}
variable {l a b:List Int}
def iQ {base:Nat}{u0:Zf}{news:List Zf}{pl:List (List Int)}(h:A.ownsRow base 22 1 v (1+pl.length) ([u0]++news))(f:SI (LS n0 mb A) A u0 l)(d:∀(i:Nat) (x:List Int),pl[i]?=some x->Rl (LS n0 mb A) A ((news.drop (i*1)).take 1) x):LL n0 mb A v (l::pl):=
 abM (vals:=[u0]++news) (by rw[zb,Nat.add_comm];exact h) λi x a=>by
  cases i with
  |zero=>cases a;exact⟨u0,rfl,f⟩
  |succ i=>
   obtain⟨u,e,c⟩:=d i x (by simpa using a);have b:((news.drop (i*1)).take 1)[0]?=some u:=by rw[e];rfl
   rw[Z2 o!,Yl]at b;exact⟨u,by simpa using b,c⟩
variable {ab:Nat->Nat}
variable {fits:List (List (List Int))}
def FS.aid {wr:Zb}{g:Array Zf}{k:Key}(h:FS n0 mb ab c fits w vf g k wr)(l:n0<=w.heap.size)(m:mb<w){d:Nat}{a b e:Zf}(n:wr.heap[d]?=some (.cells #[a,b,e] 138 (0,0)))(j:w+1+1+1<d)(f v1 v2:Zf):
  FS n0 mb ab c fits w vf g k (((wr.setCell d f).setCell ⟨d,1,none⟩ v1).setCell ⟨d,2,none⟩ v2)/\(((wr.setCell d f).setCell ⟨d,1,none⟩ v1).setCell ⟨d,2,none⟩ v2).heap[d]?=some (.cells #[f,v1,v2] 138 (0,0))/\Kept n0 mb wr (((wr.setCell d f).setCell ⟨d,1,none⟩ v1).setCell ⟨d,2,none⟩ v2):=by
 have p:=Ba (i:=0) n f;have o:=Ba (i:=1) p v1;have q:=Ba (i:=2) o v2;exact⟨((h.set l m n ⟨d!,d!⟩ j).set l m p ⟨d!,d!⟩ j).set l m o ⟨d!,d!⟩ j,q,((Kept.set n ⟨d!,d!⟩ o!).trans (Kept.set p ⟨d!,d!⟩ o!)).trans (Kept.set o ⟨d!,d!⟩ o!)⟩
def apx (hv:Fq c)(DU:ab=Ax c.Aa)(Tq:fits.length<=3)(jn:∀f∈fits,f.length<=1000/\∀l∈f,l.length=c.Aa.length)(mA:∀i,i<c.Aa.length->(Aj c.Aa i).over.length<=1000):
  ∀(k i:Nat) (d:A_) (w:Zb) (v1 v2 v3 v4 v5:Zf) (T:Nat->Prop),i+k=fits.length->n0<=w.heap.size->mb<w.heap.size->kU c d->SF n0 mb w vf fits->RC T w v1 v2 v3 v4 v5 d->(∀b,T b->b<w.heap.size/\b≠mb)->Gy (FI n0 mb ab c fits) mb w->
   Calls Lp 68 #[.agg #[vf,.map (some mb)],.agg #[v1,v2,v3,v4,v5,I .u8 (ab 0),I .u8 (ab 1),I .u8 (ab 2)],.int J i] w λe w'=>∃v,e=.returned v/\B3 mb w w'/\Lh n0 mb w' v (Gx ab (fits.drop i) d)/\Gy (FI n0 mb ab c fits) mb w':=by
 intro k
 induction k with
 |zero=>
  intro i d w v1 v2 v3 v4 v5 T uB Vo y hD hF hR hT hM;have hi:i=fits.length:=o!
  subst hi;obtain⟨a1,c1,a2,c2,a3,c3,Z,Y,a5,V,rfl,rfl,rfl,rfl,rfl,l1,m1,l2,m2,l3,m3,l4,m4,l5,m5⟩:=hR.vs;obtain⟨af,iR,rfl,lf,mf⟩:=hF.val;have IX:=DJ;clear DU;go_enter Lp.func105,agQ;go_wp2;refine ZN (v:=.agg #[(),.int J 0,.bool true]) (by rw[A8 rfl];go_simp) rfl ?_;have e1:fits.drop fits.length=[]:=Z7.2 (Zj _);have C:Bl w (((w.alloc (.cells #[U af fits.length iR,.map (some mb)] 135)).alloc (.cells (AW (U a1 d.base.length c1) (U a2 d.Af.length c2) (U a3 d.hooks.length c3) (U Z d.Aa.length Y) (U a5 d.now.length V) ab) 84)).alloc (.cells #[(),.int J 0,.bool true] 138)):=bA (bA (bA (Zh _ _)));exact⟨_,rfl,(B3.refl mb w).below C,by rw[e1];exact⟨_,rfl,none,0,rfl,Zj _,Zp _,λi x hx=>by cases hx⟩,hM.Ar (Kept.later C) (C.block _ y)⟩
 |succ k ih=>
  intro i d w v1 v2 v3 v4 v5 T uB Vo y hD hF hR hT hM;obtain⟨a1,c1,a2,c2,a3,c3,Z,Y,a5,V,rfl,rfl,rfl,rfl,rfl,l1,m1,l2,m2,l3,m3,l4,m4,l5,m5⟩:=hR.vs;obtain⟨af,iR,rfl,lf,mf⟩:=hF.val;have IX:=DJ;have aX:i<fits.length:=o!
  have n7:((i:Int)==(fits.length:Int))=false:=j!
  have mG:=Zd DU;clear DU;go_enter Lp.func105,agQ;go_wp2;obtain⟨W,hW⟩:∃W:Zb,W=((((w.alloc (.cells #[U af fits.length iR,.map (some mb)] 135)).alloc (.cells (AW (U a1 d.base.length c1) (U a2 d.Af.length c2) (U a3 d.hooks.length c3) (U Z d.Aa.length Y) (U a5 d.now.length V) ab) 84)).alloc (.cells #[(),.int J 0,.bool false] 138)).alloc (.cells (E0 (i,(0,0,0),0,0,0)) 183)):=⟨_,rfl⟩;change Code.wp _ _ _ _ ((((w.alloc (.cells #[U af fits.length iR,.map (some mb)] 135)).alloc (.cells (AW (U a1 d.base.length c1) (U a2 d.Af.length c2) (U a3 d.hooks.length c3) (U Z d.Aa.length Y) (U a5 d.now.length V) ab) 84)).alloc (.cells #[(),.int J 0,.bool false] 138)).alloc (.cells (E0 (i,(0,0,0),0,0,0)) 183));rw[<-hW];have ap:FS n0 mb ab c fits w (U af fits.length iR) (AW (U a1 d.base.length c1) (U a2 d.Af.length c2) (U a3 d.hooks.length c3) (U Z d.Aa.length Y) (U a5 d.now.length V) ab) (i,(0,0,0),0,0,0) W:=by
   have C:Bl w W:=by rw[hW];exact bA (bA (bA (bA (Zh _ _))))
   obtain⟨es,bi,mt⟩:=hM.is;refine⟨(B3.refl mb w).below C,?_,?_,?_,?_,Kept.later C,hM.Ar (Kept.later C) (C.block _ y)⟩
   .rw[hW];exact Bf (Bf (Bf (Bp _ _) _) _) _
   .rw[hW];exact Bf (Bf (Jq _ _ _) _) _
   .rw[hW];exact Bf (by have:=Jq (w.alloc (.cells #[U af fits.length iR,.map (some mb)] 135)) (.cells (AW (U a1 d.base.length c1) (U a2 d.Af.length c2) (U a3 d.hooks.length c3) (U Z d.Aa.length Y) (U a5 d.now.length V) ab) 84) (.cells #[(),.int J 0,.bool false] 138);rwa[ZB]at this) _
   rw[hW];have:=Jq ((w.alloc (.cells #[U af fits.length iR,.map (some mb)] 135)).alloc (.cells (AW (U a1 d.base.length c1) (U a2 d.Af.length c2) (U a3 d.hooks.length c3) (U Z d.Aa.length Y) (U a5 d.now.length V) ab) 84)) (.cells #[(),.int J 0,.bool false] 138) (.cells (E0 (i,(0,0,0),0,0,0)) 183);rwa[ZB,ZB]at this
  clear hW;obtain⟨L,o5,rfl,wN,co⟩:=hR.now.at_ (i:=0) (by rw[hD.now];exact hv.few.1);have jp:W.cell? ⟨w+1,4,none⟩=some (U (some ⟨L,o5,none⟩) d.now.length V):=ch ap.Uf rfl;go_still_tail 5,k!;change wpList _ _ _ _ _ W.drew;have fi:=Zd (show d.now.length=c.Aa.length from hD.now);have i7:d.now.length<=3:=by have:=fi.out;have:=hv.few;omega
  have Vl:1<=d.now.length:=by have:=fi.out;have:=hv.few;omega
  have Jm:=hv.few;have bc:=Zd hD.len;have et:d.Aa.length<=3:=by have:=bc.out;omega
  refine wpList_copy_own (P:=Lp) rfl (.tmp 28) (.tmp 31) 22 22 rfl 3 (Cz YE) k! (w+1+1+1) 1 3 3 ⟨L,o5,none⟩ d.now.length V rfl rfl (E0 (i,(0,0,0),0,0,0)) 183 ap.key (d.now.map (ZL J)) (by rw[List.length_map];exact(Nat.min_eq_left o!).symm) (λj v hj=>?_) (by simp[E0];omega) (by intro v hv;obtain⟨x,_,rfl⟩:=List.mem_map.1 hv;rfl) ?_
  .rw[YL]at hj
   cases hx:d.now[j]? with
   |none=>rw[hx]at hj;cases hj
   |some x=>
    rw[hx]at hj;cases hj;have Az:j<d.now.length:=(Zm.1 hx).1;obtain⟨b',o',e,G1,hc⟩:=hR.now.at_ Az;cases e;have n6:nth d.now j=x:=by
     have:=Bn Az;rw[hx]at this;exact(ZW this).symm
    rw[show(⟨L,o5,none⟩:Addr).add j=⟨L,o5+j,none⟩ by unfold Zcu;split<;>simp_all, <-n6];have:W.drew.cell? ⟨L,o5+j,none⟩=w.cell? ⟨L,o5+j,none⟩:=by
     unfold zy;rw[show W.drew.heap[L]?=w.heap[L]? from ap.Cn.block L (hT L wN).1 (hT L wN).2]
    rw[this];exact hc
  rw[show(E0 ((i:Int),(0,0,0),0,0,0)).toList=[.int J i,.int J 0,.int J 0,.int J 0,.int J 0,.int J 0,.int J 0] from rfl,vh _ _ o! o!];obtain⟨W5,Jy⟩:=Qnm (W.drew.setRow (w+1+1+1) (E0 (Uk i d 0)));have T7:FS n0 mb ab c fits w (U af fits.length iR) (AW (U a1 d.base.length c1) (U a2 d.Af.length c2) (U a3 d.hooks.length c3) (U Z d.Aa.length Y) (U (some ⟨L,o5,none⟩) d.now.length V) ab) (Uk i d 0) W5:=by
   have IY:=ap.later y (Zh W W).drew;rw[Jy];refine IY.stage Vo y ?_ (Kept.row IY.key ⟨d!,d!⟩ o!) (setRow_heap _ _ _ _ _ _ IY.key);exact⟨rfl,rfl,rfl,by simp[World.setRow],λk _ hk=>setRow_other _ _ _ _ (λe=>hk o!)⟩
  change wpList _ _ _ _ _ (W.drew.setRow (w+1+1+1) (E0 (Uk i d 0)));rw[<-Jy];clear Jy ap jp co;have g3:=ch (i:=3) T7.Uf (v:=.slice Z d.Aa.length Y) rfl;go_wp2;clear g3;go_loopg [37] d.Aa.length (λg v wr=>∃j:Nat,j<=d.Aa.length/\g=d.Aa.length - j/\v=.int J j/\FS n0 mb ab c fits w (U af fits.length iR) (AW (U a1 d.base.length c1) (U a2 d.Af.length c2) (U a3 d.hooks.length c3) (U Z d.Aa.length Y) (U (some ⟨L,o5,none⟩) d.now.length V) ab) (Uk i d j) wr)
  case atStart=>exact⟨0,Zp _,rfl,rfl,T7⟩
  obtain⟨j,hj,rfl,rfl,B⟩:=hrel;by_cases Az:j<d.Aa.length
  .obtain⟨b,o,s2,s3,rfl,m,x0,F,E,D,x4,hp,ho⟩:=hR.Aa.at_ (i:=j) Az
   have Ga:∀q v,w.cell? ⟨b,q,none⟩=some v->wr.cell? ⟨b,q,none⟩=some v:=λq v h=>by
    unfold zy at h⊢;rw[show wr.heap[b]?=w.heap[b]? from B.Cn.block b (hT b m).1 (hT b m).2];exact h
   replace x0:=Ga _ _ x0;replace F:=Ga _ _ F;replace E:=Ga _ _ E;replace D:=Ga _ _ D;replace x4:=Ga _ _ x4;obtain⟨p2,q2,rfl,_⟩:=hp.val;obtain⟨p3,q3,rfl,_⟩:=ho.val;have kk:=ch (i:=4+j) B.key (v:=.int J 0) (vg o!);have ff:=cf (i:=4+j) B.key;have mv:(j:Int)<3:=o!
   have Rb:w+1+1+1<wr.heap.size:=(Za.1 B.key).1;clear Ga hp ho;go_wp2;go_roundg (d.Aa.length - (j+1))
   case rel=>
    refine⟨j+1,Az,rfl,v!,?_⟩;refine FS.later (B.stage Vo y ((Ak.refl _ _).set rfl) (Kept.set B.key ⟨d!,d!⟩ (show n0<=w.heap.size+1+1+1 by omega)) ?_) y (bA (Zh _ _));rw[<-qR (show j<3 by omega)];exact Ba B.key _
   omega
  have i9:j=d.Aa.length:=o!
  subst i9;rw[qQ rfl et]at B;have cO:=B.key;have k0:=ch (i:=0) cO (v:=.int J i) rfl;have k1:=ch (i:=1) cO (v:=.int J (nth d.now 0)) rfl;have k2:=ch (i:=2) cO (v:=.int J (nth d.now 1)) rfl;have k3:=ch (i:=3) cO (v:=.int J (nth d.now 2)) rfl;have k4:=ch (i:=4) cO (v:=.int J (Aj d.Aa 0).left) rfl;have k5:=ch (i:=5) cO (v:=.int J (Aj d.Aa 1).left) rfl;have k6:=ch (i:=6) cO (v:=.int J (Aj d.Aa 2).left) rfl;have fy:=ch (i:=1) B.xN (v:=.map (some mb)) rfl;have Rb:w+1+1+1<wr.heap.size:=(Za.1 B.key).1;have EB:w+1+1<wr.heap.size:=(Za.1 B.res).1;have r0:=ch (i:=0) B.res (v:=.slice none 0 0) rfl;have r1:=ch (i:=1) B.res (v:=.int J 0) rfl;have r2:=ch (i:=2) B.res (v:=.bool false) rfl;have fx:=cf (i:=0) B.res;have fw:=cf (i:=1) B.res;have fu:=cf (i:=2) B.res;rcases uP B.map (M5 i d) with H|⟨v,H,k',e,hg⟩
  .have H1:=H
   simp only[Dy,M5]at H1;clear H;obtain⟨bf,an,uf,rfl,ka,fK,be⟩:=hF.at_ aX;obtain⟨f,hf⟩:=Qnm (qD fits i);rw[<-hf]at be;have HF:=Zd hf;obtain⟨af,cq,rfl,lq,mq⟩:=Sl.val be;have kf:=B.kept.cell ka fK;have kh:=ch (i:=0) B.xN (v:=.slice (some ⟨bf,an,none⟩) fits.length iR) rfl;have no:(i:Int)<(fits.length:Int):=o!
   have Fl:w<wr.heap.size:=o!
   have eL:w<wr.heap.size+1:=o!
   have iX:bf<wr:=ZH wr _ kf;have lJ:bf<wr+1:=o!
   clear fK hf;go_wp2;obtain⟨W,hW⟩:∃W:Zb,W=(wr.alloc (.cells #[(),.int J 0,.bool false] 138)).alloc (.cells #[(),.int J 0,.bool false] 138):=⟨_,rfl⟩;have li:FS n0 mb ab c fits w (U (some ⟨bf,an,none⟩) fits.length iR) (AW (U a1 d.base.length c1) (U a2 d.Af.length c2) (U a3 d.hooks.length c3) (U Z d.Aa.length Y) (U (some ⟨L,o5,none⟩) d.now.length V) ab) (M5 i d) W:=by rw[hW];exact B.later y (bA (bA (Zh _ _)))
   have bv:W.heap[wr.heap.size+1]?=some (.cells #[(),.int J 0,.bool false] 138 (0,0)):=by rw[hW];exact Jq _ _ _
   have ky:LL n0 mb W (U af f.length cq) f:=be.Ar (B.kept.trans (by rw[hW];exact Kept.later (bA (bA (Zh _ _)))));rw[<-hW];obtain⟨A,gj⟩:=Qnm (wr.heap.size+1);have f8:w+1+1+1<A:=o!
   rw[<-gj]at bv⊢;clear hW gj k0 k1 k2 k3 k4 k5 k6 cO fy r0 r1 r2 fx fw fu kf kh Fl eL iX lJ EB Rb H1 B T7 ky;have lI:f.length<=1000/\∀l∈f,l.length=c.Aa.length:=by rw[HF.out];exact jn _ (Z3 (Te aX))
   have ma:=Zd (show f.foldl (DL ab d (Gx ab (fits.drop (i+1)))) none=Gx ab (fits.drop i) d by rw[ahF aX, <-HF.out];rfl);go_loopg [63] f.length (λg v wx=>∃(j:Nat) (r:Option (List (List Int)×Int)) (u:Zf) (n:Int) (s:Bool),j<=f.length/\g=f.length - j/\v=.int J j/\(f.drop j).foldl (DL ab d (Gx ab (fits.drop (i+1)))) r=Gx ab (fits.drop i) d/\
    FS n0 mb ab c fits w (U (some ⟨bf,an,none⟩) fits.length iR) (AW (U a1 d.base.length c1) (U a2 d.Af.length c2) (U a3 d.hooks.length c3) (U Z d.Aa.length Y) (U (some ⟨L,o5,none⟩) d.now.length V) ab) (M5 i d) wx/\wx.heap[A]?=some (.cells #[u,.int J n,.bool s] 138 (0,0))/\Lh n0 mb wx (.agg #[u,.int J n,.bool s]) r)
   case atStart=>exact⟨0,none,_,_,_,Zp _,rfl,rfl,ma.out,li,bv,rfl⟩
   obtain⟨j,r,u,n,s,hj,rfl,rfl,CP,M,H_,yh⟩:=hrel;have Tl:=Zd CP;clear CP;by_cases Az:j<f.length
   .obtain⟨F,E,D,x4,x5,e,h5,h6,h7⟩:=yh.val
    have H5:=Zd h5;clear h5 h6 h7;cases e;have kZ:LL n0 mb wr (U af f.length cq) f:=be.Ar M.kept;obtain⟨b,o,ul,rfl,m,hc,hu⟩:=SL.at_ kZ Az;have Xc:(BM f j).length=c.Aa.length:=lI.2 _ (Z3 (BJ Az));have iT:=Zd (eW (g:=DL ab d (Gx ab (fits.drop (i+1)))) (a:=r) Az);obtain⟨l,hl⟩:=Qnm (BM f j);rw[<-hl]at hu Xc iT;have yg:=Zd Xc;have Qm:l.length<=3:=o!
    clear hl Xc;obtain⟨al,cl,rfl,ml,mj⟩:=hu.val;have kv:∀j,ab j<2^c.Aa.length:=by rw[mG.out];exact LH hv.over
    have pT:∀j,j<3->ab j<8:=by rw[mG.out];exact S3 hv.over
    obtain⟨t,ht⟩:=Qnm (Cx ab d.now l);have cI:t<2^c.Aa.length:=by rw[ht];exact JW kv l 0 0 (by have:=yg.out;omega) (Zdz _)
    have pK:t<8:=Zl cI (show 2^c.Aa.length<=2^3 from YX d! Jm.2);have bP:∀x,x∈AB t->0<=x/\x<d.Aa.length:=by rw[bc.out];exact N_ cI
    have gt:∀W,Bl wr W->RC (λb=>T b\/LS n0 mb W b) W (U a1 d.base.length c1) (U a2 d.Af.length c2) (U a3 d.hooks.length c3) (U Z d.Aa.length Y) (U (some ⟨L,o5,none⟩) d.now.length V) d:=λW C=>
     ((hR.Ar λb m _=>M.Cn.block b (hT b m).1 (hT b m).2).Ar λb m hl=>C.block b hl).imp λb m=>.inl m
    have fH:∀W,Bl wr W->SI (λb=>T b\/LS n0 mb W b) W (U al l.length cl) l:=λW C=>Sl.imp (hu.Ar (λb m hl=>C.block b hl)) (λb m=>.inr (m.Ar (Kept.later C))) (λ_ _ x=>x);have gD:∀W,Bl wr W->∀b,T b\/LS n0 mb W b->b<W.heap.size:=λW C b m=>by
     rcases m with m|m
     .have:=(hT b m).1;have:=M.Cn.size;have:=C.size;omega
     exact m.lt
    have lL:l.length<=d.now.length:=by have:=fi.out;have:=yg.out;omega
    have M_:=Zd (c90 (l:=l) (ab:=ab) (gt wr (Zh _ _)) (fH wr (Zh _ _)) lL i7 pT (by rw[<-ht];exact bP) (gD wr (Zh _ _)));rw[<-ht]at M_;have kc:=hc;have g0:=ch (i:=0) M.Uf (v:=.slice a1 d.base.length c1) rfl;have g1:=ch (i:=1) M.Uf (v:=.slice a2 d.Af.length c2) rfl;have g2:=ch (i:=2) M.Uf (v:=.slice a3 d.hooks.length c3) rfl;have g3:=ch (i:=3) M.Uf (v:=.slice Z d.Aa.length Y) rfl;have g4:=ch (i:=4) M.Uf (v:=.slice (some ⟨L,o5,none⟩) d.now.length V) rfl;have g5:=ch (i:=5) M.Uf (v:=.int .u8 (ab 0)) rfl;have g6:=ch (i:=6) M.Uf (v:=.int .u8 (ab 1)) rfl;have g7:=ch (i:=7) M.Uf (v:=.int .u8 (ab 2)) rfl;have HT:=Zd ht;have nm:(j:Int)<(f.length:Int):=o!
    cases jG:JU d t with
    |some x=>
     rw[jG]at M_;change Hid (Calls Lp 64 _ _ λe w'=>e=.returned (.tuple #[I .u8 0,.iface 128 (.agg #[.int J x])])/\Bl wr w') at M_;have qO:=Zd (show DL ab d (Gx ab (fits.drop (i+1))) r l=r by unfold DL;rw[<-HT.out,jG]);clear jG ht;go_wp2_with (go_at_call 64;refine M_.out.mono ?_;rintro e w1 ⟨rfl,K⟩);go_roundg (f.length - (j+1))
     case rel=>
      exact⟨j+1,r,_,_,_,Az,rfl,v!,by rw[<-Tl.out,iT.out,qO.out],M.later y K,(K.block A (Za.1 H_).1).trans H_,yh.Ar (Kept.later K)⟩
     case measure=>omega
    |none=>
     rw[jG]at M_;change Hid (Calls Lp 64 _ _ λe w'=>e=.returned (.tuple #[I .u8 t,.nilIface])/\Bl wr w') at M_;have iW:=Zd jG;clear jG ht;go_wp2_with (go_at_call 64;refine M_.out.mono ?_;rintro e w1 ⟨rfl,K⟩);have Xn:=M.later y K;have s0:=λp=>Cg (q:=mb) p (ch (i:=0) Xn.xN (v:=.slice (some ⟨bf,an,none⟩) fits.length iR) rfl) (show w≠mb by omega);have s1:=λp=>Cg (q:=mb) p (ch (i:=1) Xn.xN (v:=.map (some mb)) rfl) (show w≠mb by omega);have e0:=λp=>Cg (q:=mb) p (ch (i:=0) Xn.Uf (v:=.slice a1 d.base.length c1) rfl) (show w+1≠mb by omega);have e1:=λp=>Cg (q:=mb) p (ch (i:=1) Xn.Uf (v:=.slice a2 d.Af.length c2) rfl) (show w+1≠mb by omega);have e2:=λp=>Cg (q:=mb) p (ch (i:=2) Xn.Uf (v:=.slice a3 d.hooks.length c3) rfl) (show w+1≠mb by omega);have e3:=λp=>Cg (q:=mb) p (ch (i:=3) Xn.Uf (v:=.slice Z d.Aa.length Y) rfl) (show w+1≠mb by omega);have e4:=λp=>Cg (q:=mb) p (ch (i:=4) Xn.Uf (v:=.slice (some ⟨L,o5,none⟩) d.now.length V) rfl) (show w+1≠mb by omega);have e5:=λp=>Cg (q:=mb) p (ch (i:=5) Xn.Uf (v:=.int .u8 (ab 0)) rfl) (show w+1≠mb by omega);have e6:=λp=>Cg (q:=mb) p (ch (i:=6) Xn.Uf (v:=.int .u8 (ab 1)) rfl) (show w+1≠mb by omega);have e7:=λp=>Cg (q:=mb) p (ch (i:=7) Xn.Uf (v:=.int .u8 (ab 2)) rfl) (show w+1≠mb by omega);have Qq:mb<w1:=by have:=Xn.Cn.size;omega
     clear g0 g1 g2 g3 g4 g5 g6 g7 kc hc;refine G6 (S:=λW=>∃p,W=SY w1 mb p) [0,1,2,3,5,6] 4 #[true,true,true,true,false,true,true,false,false,false] k! (λ_ _ d _ _ h=>by cases d<;>exact h) k! (BI ((B3.refl mb w1).below (Zh _ _).drew) Qq) ?_;refine K9 [0,1,2,3,5] [6] _ ?_;refine A4 _ _ k! ?_;simp only[Z6,zd,ZG,ZD,ZC]
     repeat (first|go_big_quiet_step (fail)|quiet_step (fail))
     refine Z4 ?_;refine CB (v:=.int J ((i:Int)+1)) rfl rfl (λw _=>by go_simp;exact wrap_small o!) ?_;clear s0 s1 e0 e1 e2 e3 e4 e5 e6 e7;change Cy _ _ _ _ _ _ _ _ _;have fm:∀W,Bl wr W->Calls Lp 57 #[.agg #[U a1 d.base.length c1,U a2 d.Af.length c2,U a3 d.hooks.length c3,U Z d.Aa.length Y,U (some ⟨L,o5,none⟩) d.now.length V,I .u8 (ab 0),I .u8 (ab 1),I .u8 (ab 2)],U al l.length cl,I .u8 t] W (ahm W (ab 0) (ab 1) (ab 2) (FH d l t)):=λW C=>c92 (gt W C) (fH W C) (gD W C) pK bP (λi hi=>by have:=hD.left i (by have:=bc.out;omega);omega) (by rw[hD.base];have:=hv.Fp;omega) (by rw[hD.Af];have:=hv.Fp;have:=hv.PN;omega) (by rw[hD.hooks];have:=hv.Fp;have:=hv.hooks;omega) o! (by have:=bc.out;omega) o! (λi hi=>by
      have DN:i<c.Aa.length:=by have:=bc.out;omega
      obtain⟨q1,q2,_⟩:=hD.rest i DN;rw[q1,q2];have:=hv.Ap i DN;have:=mA i DN;omega) o! (ab 0) (ab 1) (ab 2)
     have lC:kU c (FH d l t):=hD.abw yg.out bP iW.out;have qO:=Zd (show DL ab d (Gx ab (fits.drop (i+1))) r l=(match Gx ab (fits.drop (i+1)) (FH d l t) with
      |none=>r
      |some p=>if LJ ((AB t).length+p.2) r=true then some (l::p.1,(AB t).length+p.2) else r) by unfold DL;rw[<-HT.out,iW.out];rfl)
     have Tm:∀(W:Zb) (C:Bl w1 W) {u1 u2 u3 u4 u5:Zf},RC (Cb w1 W) W u1 u2 u3 u4 u5 (FH d l t)->Calls Lp 68 #[.agg #[U (some ⟨bf,an,none⟩) fits.length iR,.map (some mb)],.agg #[u1,u2,u3,u4,u5,I .u8 (ab 0),I .u8 (ab 1),I .u8 (ab 2)],.int J ((i+1:Nat):Int)] W (λe w'=>∃v,e=.returned v/\B3 mb W w'/\Lh n0 mb w' v (Gx ab (fits.drop (i+1)) (FH d l t))/\Gy (FI n0 mb ab c fits) mb w'):=λW C u1 u2 u3 u4 u5 hR=>by
      have lx:=Xn.later y C;have H:=lx.Cn.size;exact ih (i+1) (FH d l t) W _ _ _ _ _ (Cb w1 W) o! o! o! lC (hF.Ar lx.kept) hR (λb m=>⟨m.2,by have h2:=m.1;omega⟩) lx.map
     have fd:∀q,w1.heap.size<=q->q≠mb:=λq h=>o!
     have oa:A<w1:=Zl (Za.1 H_).1 K.size;have ne:w+1+1+1<w1.heap.size:=o!
     refine AK [4,8] k! i! (Ix ?gA ?gB)
     case' gB=>
      have rR:Bl w1 (w1.drew.alloc (.cells #[(),.int J 0,.bool false] 138)):=bA (Zh _ _).drew;have T6:(w1.drew.alloc (.cells #[(),.int J 0,.bool false] 138)).heap[w1.heap.size]?=some (.cells #[(),.int J 0,.bool false] 138 (0,0)):=Bp w1.drew _;refine EX (v:=.pointer w1) (w':=w1.drew.alloc (.cells #[(),.int J 0,.bool false] 138)) rfl rfl g! ?_;refine⟨BI ((B3.refl mb w1).below rR) Qq,?_⟩;refine AK [4] k! i! (BF ?_);refine DK (f:=57) (args:= #[.agg #[U a1 d.base.length c1,U a2 d.Af.length c2,U a3 d.hooks.length c3,U Z d.Aa.length Y,U (some ⟨L,o5,none⟩) d.now.length V,I .u8 (ab 0),I .u8 (ab 1),I .u8 (ab 2)],U al l.length cl,I .u8 t]) rfl rfl g! ((fm _ (K.trans (rR.mono K.size))).mono ?_);rintro e w2 ⟨z1,z2,z3,z4,z5,rfl,Bb,fE⟩;obtain⟨p1,t1,p2,t2,p3,t3,p4,t4,p5,t5,rfl,rfl,rfl,rfl,rfl,_⟩:=fE.vs;have Ia:Bl w1 w2:=rR.trans (Bb.mono rR.size);refine .inl ⟨_,rfl,BI ((B3.refl mb w1).below Ia) Qq,?_⟩;refine AK [7] k! i! (BF ?_);have lx:=Xn.later y Ia;have uV:RC (Cb w1 w2) w2 _ _ _ _ _ (FH d l t):=(RC.imp fE (λb (m:Cb (w1.drew.alloc _).heap.size w2 b)=>Cb.mono (Zj _) i! m));refine DK (f:=68) rfl rfl g! ((Tm w2 Ia uV).mono ?_);rintro e w3 ⟨v,rfl,H4,Vr,eB⟩;obtain⟨Q,y2,O,y4,y5,rfl,yi,ai,ac⟩:=Vr.val;have Ww:=lx.step y H4 eB;have Na:B3 mb w1 w3:=(B3.refl mb w1).below Ia|>.trans H4;have F1:Kept n0 mb wr w3:=(Kept.later (K.trans (Ia.mono K.size))).trans (Kept.WN H4 lx.map.is);have fF:w3.heap[A]?=some (.cells #[U F E D,.int J n,.bool s] 138 (0,0)):=by
       have H:=((K.trans (Ia.mono K.size)).block A (Za.1 H_).1).trans H_;exact(H4.block A (Za.1 H).1 o!).trans H
      refine .inl ⟨_,rfl,BI Na Qq,?_⟩;have z:w3.heap[w1.heap.size]?=some (.cells #[(),.int J 0,.bool false] 138 (0,0)):=by
       have H:=(Bb.block _ (Za.1 T6).1).trans T6;exact(H4.block _ (Za.1 H).1 (fd _ (Zj _))).trans H
      obtain⟨q,hq⟩:=Qnm w1.heap.size;rw[<-hq]at z⊢;have cB:w1.heap.size<=q:=o!
      refine AK [9] k! i! (BF ?_);clear hq;have b8:=cf (i:=0) z;have ck:=ch (i:=0) z (v:=.slice none 0 0) rfl;have ci:=ch (i:=1) z (v:=.int J 0) rfl;have b9:=ch (i:=2) z (v:=.bool false) rfl;have bV:=cf (i:=1) z;have bU:=cf (i:=2) z;obtain⟨G,N⟩:=Qnm (((w3.setCell ⟨q,0,none⟩ (U Q y2 O)).setCell ⟨q,1,none⟩ (.int J y4)).setCell ⟨q,2,none⟩ (.bool y5));refine Rj (w':=G) rfl rfl (by rw[N];go_simp) ?_;have S5:B3 mb w1 G:=by rw[N];exact((Na.D4 cB).D4 cB).D4 cB
      refine⟨BI S5 Qq,rfl,?_⟩;have Qn:Kept n0 mb wr G:=by
       have MM:=Ba (i:=0) z (U Q y2 O);have LO:=Ba (i:=1) MM (.int J y4);rw[N];exact((F1.trans (Kept.set z ⟨d!,d!⟩ o!)).trans (Kept.set MM ⟨d!,d!⟩ o!)).trans (Kept.set LO ⟨d!,d!⟩ o!)
      have IY:=((Ww.set Vo y (j:=0) (v:=.slice Q y2 O) z ⟨d!,d!⟩ o!).set Vo y (j:=1) (v:=.int J y4) (Ba (i:=0) z _) ⟨d!,d!⟩ o!).set Vo y (j:=2) (v:=.bool y5) (Ba (i:=1) (Ba (i:=0) z _) _) ⟨d!,d!⟩ o!;rw[<-N]at IY;have cC:A≠q:=o!
      have Pj:G.heap[A]?=some (.cells #[U F E D,.int J n,.bool s] 138 (0,0)):=by rw[N];exact(AZ cC _).trans ((AZ cC _).trans ((AZ cC _).trans fF))
      have cD:G.heap[q]?=some (.cells #[U Q y2 O,.int J y4,.bool y5] 138 (0,0)):=by rw[N];exact Ba (Ba (Ba z _) _) _
      have am:=Vr.Ar (show Kept n0 mb w3 G by
       have MM:=Ba (i:=0) z (U Q y2 O);have LO:=Ba (i:=1) MM (.int J y4);rw[N];exact((Kept.set z ⟨d!,d!⟩ o!).trans (Kept.set MM ⟨d!,d!⟩ o!)).trans (Kept.set LO ⟨d!,d!⟩ o!))
      clear b8 bV bU ck ci b9 z S5
     case' gA=>
      have rR:Bl w1 w1.drew:=(Zh _ _).drew;refine DK (f:=57) (args:= #[.agg #[U a1 d.base.length c1,U a2 d.Af.length c2,U a3 d.hooks.length c3,U Z d.Aa.length Y,U (some ⟨L,o5,none⟩) d.now.length V,I .u8 (ab 0),I .u8 (ab 1),I .u8 (ab 2)],U al l.length cl,I .u8 t]) rfl rfl g! ((fm _ (K.trans (rR.mono K.size))).mono ?_);rintro e w2 ⟨z1,z2,z3,z4,z5,rfl,Bb,fE⟩;obtain⟨p1,t1,p2,t2,p3,t3,p4,t4,p5,t5,rfl,rfl,rfl,rfl,rfl,_⟩:=fE.vs;have Ia:Bl w1 w2:=rR.trans (Bb.mono rR.size);refine .inl ⟨_,rfl,BI ((B3.refl mb w1).below Ia) Qq,?_⟩;refine AK [7,8] k! i! (Ix ?hA ?hB)
      case' hB=>
       have mg:Bl w1 (w2.alloc (.cells #[(),.int J 0,.bool false] 138)):=bA Ia;have T6:(w2.alloc (.cells #[(),.int J 0,.bool false] 138)).heap[w2.heap.size]?=some (.cells #[(),.int J 0,.bool false] 138 (0,0)):=Bp w2 _;refine EX (v:=.pointer w2) (w':=w2.alloc (.cells #[(),.int J 0,.bool false] 138)) rfl rfl g! ?_;refine⟨BI ((B3.refl mb w1).below mg) Qq,?_⟩;refine AK [7] k! i! (BF ?_);have lx:=Xn.later y mg;have uV:RC (Cb w1 (w2.alloc (.cells #[(),.int J 0,.bool false] 138))) (w2.alloc (.cells #[(),.int J 0,.bool false] 138)) _ _ _ _ _ (FH d l t):=(RC.imp (fE.later (bA (Zh w2 w2))) (λb (m:Cb w1 w2 b)=>Cb.mono i! (Zj _) m));refine DK (f:=68) rfl rfl g! ((Tm (w2.alloc (.cells #[(),.int J 0,.bool false] 138)) mg uV).mono ?_);rintro e w3 ⟨v,rfl,H4,Vr,eB⟩;obtain⟨Q,y2,O,y4,y5,rfl,yi,ai,ac⟩:=Vr.val;have Ww:=lx.step y H4 eB;have Na:B3 mb w1 w3:=(B3.refl mb w1).below mg|>.trans H4;have F1:Kept n0 mb wr w3:=(Kept.later (K.trans (mg.mono K.size))).trans (Kept.WN H4 lx.map.is);have fF:w3.heap[A]?=some (.cells #[U F E D,.int J n,.bool s] 138 (0,0)):=by
        have H:=((K.trans (mg.mono K.size)).block A (Za.1 H_).1).trans H_;exact(H4.block A (Za.1 H).1 o!).trans H
       refine .inl ⟨_,rfl,BI Na Qq,?_⟩;have z:w3.heap[w2.heap.size]?=some (.cells #[(),.int J 0,.bool false] 138 (0,0)):=(H4.block _ (Za.1 T6).1 (fd _ Ia.size)).trans T6;obtain⟨q,hq⟩:=Qnm w2.heap.size;rw[<-hq]at z⊢;have cB:w1.heap.size<=q:=by rw[hq];exact Ia.size
       refine AK [9] k! i! (BF ?_);clear hq;have b8:=cf (i:=0) z;have ck:=ch (i:=0) z (v:=.slice none 0 0) rfl;have ci:=ch (i:=1) z (v:=.int J 0) rfl;have b9:=ch (i:=2) z (v:=.bool false) rfl;have bV:=cf (i:=1) z;have bU:=cf (i:=2) z;obtain⟨G,N⟩:=Qnm (((w3.setCell ⟨q,0,none⟩ (U Q y2 O)).setCell ⟨q,1,none⟩ (.int J y4)).setCell ⟨q,2,none⟩ (.bool y5));refine Rj (w':=G) rfl rfl (by rw[N];go_simp) ?_;have S5:B3 mb w1 G:=by rw[N];exact((Na.D4 cB).D4 cB).D4 cB
       refine⟨BI S5 Qq,rfl,?_⟩;have Qn:Kept n0 mb wr G:=by
        have MM:=Ba (i:=0) z (U Q y2 O);have LO:=Ba (i:=1) MM (.int J y4);rw[N];exact((F1.trans (Kept.set z ⟨d!,d!⟩ o!)).trans (Kept.set MM ⟨d!,d!⟩ o!)).trans (Kept.set LO ⟨d!,d!⟩ o!)
       have IY:=((Ww.set Vo y (j:=0) (v:=.slice Q y2 O) z ⟨d!,d!⟩ o!).set Vo y (j:=1) (v:=.int J y4) (Ba (i:=0) z _) ⟨d!,d!⟩ o!).set Vo y (j:=2) (v:=.bool y5) (Ba (i:=1) (Ba (i:=0) z _) _) ⟨d!,d!⟩ o!;rw[<-N]at IY;have cC:A≠q:=o!
       have Pj:G.heap[A]?=some (.cells #[U F E D,.int J n,.bool s] 138 (0,0)):=by rw[N];exact(AZ cC _).trans ((AZ cC _).trans ((AZ cC _).trans fF))
       have cD:G.heap[q]?=some (.cells #[U Q y2 O,.int J y4,.bool y5] 138 (0,0)):=by rw[N];exact Ba (Ba (Ba z _) _) _
       have am:=Vr.Ar (show Kept n0 mb w3 G by
        have MM:=Ba (i:=0) z (U Q y2 O);have LO:=Ba (i:=1) MM (.int J y4);rw[N];exact((Kept.set z ⟨d!,d!⟩ o!).trans (Kept.set MM ⟨d!,d!⟩ o!)).trans (Kept.set LO ⟨d!,d!⟩ o!))
       clear b8 bV bU ck ci b9 z S5
      case' hA=>
       have lx:=Xn.later y Ia;have uV:RC (Cb w1 w2) w2 _ _ _ _ _ (FH d l t):=fE;refine DK (f:=68) rfl rfl g! ((Tm w2 Ia uV).mono ?_);rintro e w3 ⟨v,rfl,H4,Vr,eB⟩;obtain⟨Q,y2,O,y4,y5,rfl,yi,ai,ac⟩:=Vr.val;have Ww:=lx.step y H4 eB;have Na:B3 mb w1 w3:=(B3.refl mb w1).below Ia|>.trans H4;have F1:Kept n0 mb wr w3:=(Kept.later (K.trans (Ia.mono K.size))).trans (Kept.WN H4 lx.map.is);have fF:w3.heap[A]?=some (.cells #[U F E D,.int J n,.bool s] 138 (0,0)):=by
        have H:=((K.trans (Ia.mono K.size)).block A (Za.1 H_).1).trans H_;exact(H4.block A (Za.1 H).1 o!).trans H
       refine .inl ⟨_,rfl,BI Na Qq,?_⟩;refine AK [8] k! i! (BF ?_);refine EX (v:=.pointer w3) (w':=w3.alloc (.cells #[(),.int J 0,.bool false] 138)) rfl rfl g! ?_;refine⟨BI (Na.below (bA (Zh _ _))) Qq,?_⟩;refine AK [9] k! i! (BF ?_);refine Rj (w':=w3.alloc (.cells #[U Q y2 O,.int J y4,.bool y5] 138)) rfl rfl g! ?_;refine⟨BI (Na.below (bA (Zh _ _))) Qq,rfl,?_⟩;obtain⟨G,N⟩:=Qnm (w3.alloc (.cells #[U Q y2 O,.int J y4,.bool y5] 138));obtain⟨q,hq⟩:=Qnm w3.heap.size;have ba:Bl w3 G:=by rw[N];exact bA (Zh _ _)
       have IY:=Ww.later y ba;have Qn:Kept n0 mb wr G:=F1.trans (Kept.later ba);have Pj:G.heap[A]?=some (.cells #[U F E D,.int J n,.bool s] 138 (0,0)):=(ba.block A (Za.1 fF).1).trans fF;have cD:G.heap[q]?=some (.cells #[U Q y2 O,.int J y4,.bool y5] 138 (0,0)):=by rw[N,hq];exact Bp _ _
       have cB:w1.heap.size<=q:=by rw[hq];exact Na.size
       have cC:A≠q:=o!
       have am:=Vr.Ar (Kept.later ba);rw[<-N, <-hq];clear ba hq
     all_goals
      have vk:=yh.Ar Qn;have fI:SI (LS n0 mb G) G (U al l.length cl) l:=Sl.imp (SI.Ar hu λb m _=>Qn b m) (λb m=>m.Ar Qn) (λ_ _ x=>x);clear N Vr Na H4 eB Ww lx uV F1 fF fE Bb Qn Tm fm rR Ia fd
      go_simp
      have c0:=ch (i:=0) cD (v:=.slice Q y2 O) rfl;have du:=ch (i:=1) cD (v:=.int J y4) rfl;have dl:=ch (i:=2) cD (v:=.bool y5) rfl;have b0:=ch (i:=0) Pj (v:=.slice F E D) rfl;have b1:=ch (i:=1) Pj (v:=.int J n) rfl;have b2:=ch (i:=2) Pj (v:=.bool s) rfl;have iS:=cf (i:=0) Pj;have iv:=cf (i:=1) Pj;have ip:=cf (i:=2) Pj;have vl:=Zd (λW=>anS t pK W);obtain⟨nt,wi⟩:=Qnm ((AB t).length);have mz:nt<=3:=by rw[wi];exact Jo t 3
      have Ul:=Zd qO.out;rw[<-wi]at vl Ul;clear wi qO;have iK:s=r.isSome:=H5.out;cases Pn:Gx ab (fits.drop (i+1)) (FH d l t) with
      |none=>
       rw[Pn]at yi ac Ul;obtain⟨_,_,_,rfl⟩:=ac rfl;have ed:y5=false:=yi;subst ed;have ly:=Zd (show DL ab d (Gx ab (fits.drop (i+1))) r l=r from Ul.out);clear Pn Ul yi ai ac am iK;go_wp2;go_quiet ((go_at_call 58;refine Zb5 (vl.out _)));go_wp2;go_roundg (f.length - (j+1))
       case rel=>exact⟨j+1,r,_,_,_,Az,rfl,v!,by rw[<-Tl.out,iT.out,ly.out],IY.later y (Y5 (Zh _ _) nq),Pj,vk⟩
       case measure=>omega
      |some p=>
       obtain⟨pl,R⟩:=p;rw[Pn]at yi ai Ul am;obtain⟨i5,ii⟩:=ai (pl,R) rfl;have lH:R=y4:=i5.symm;subst lH;have ed:y5=true:=yi;subst ed;obtain⟨i6,lO,VK⟩:=M4 ab _ _ (pl,R) Pn;dsimp only at i6 lO VK ii Ul;rw[List.length_drop]at lO VK;have mp:R<=9:=o!
       have Xa:pl.length<=3:=o!
       have ea:LL n0 mb G (U Q y2 O) pl:=by
        obtain⟨u,e,h⟩:=am;cases e;exact h
       obtain⟨_,_,e,_⟩:=Sl.val ea;cases e;have oc:0<=(nt:Int)+R/\(nt:Int)+R<=1000000:=o!
       clear Pn yi ai ac am lO VK ii;have ct:(LJ (nt+R) r=true/\(s=false\/(s=true/\(nt:Int)+R<n)))\/(LJ (nt+R) r=false/\s=true/\¬((nt:Int)+R<n)):=by
        cases r with
        |none=>exact .inl ⟨rfl,.inl iK⟩
        |some p0=>
         obtain⟨u,e,_⟩:=vk;cases e;by_cases hc:(nt:Int)+R<p0.2
         .exact .inl ⟨by simpa[LJ]using hc,.inr ⟨iK,hc⟩⟩
         exact .inr ⟨by simpa[LJ]using hc,iK,hc⟩
       clear iK;rcases ct with⟨FD,ct⟩|⟨FD,hs,Qa⟩
       .have ly:=Zd (show DL ab d (Gx ab (fits.drop (i+1))) r l=some (l::pl,nt+R) by rw[Ul.out,if_pos FD])
        clear Ul FD vk;rcases ct with hs|⟨hs,Qa⟩
        all_goals
         subst hs;go_wp2;go_quiet ((go_at_call 58;refine Zb5 (vl.out _)));obtain⟨W5,Jy⟩:=Qnm (G.drewN nq);have Cj:Bl G W5:=by rw[Jy];exact Y5 (Zh _ _) nq
         have T7:=IY.later y Cj;have WT:=(Cj.block A (Za.1 Pj).1).trans Pj;have vm:=(Cj.block q (Za.1 cD).1).trans cD;have iV:=ea.Ar (Kept.later Cj);have rS:SI (LS n0 mb W5) W5 (U al l.length cl) l:=Sl.imp (SI.Ar fI λb m _=>Cj.block b m.lt) (λb m=>m.Ar (Kept.later Cj)) (λ_ _ x=>x);rw[<-Jy];have kE:=(Za.1 vm).1;have lG:=(Za.1 WT).1;clear Jy Cj IY Pj cD ea fI c0 du dl b0 b1 b2 iS iv ip;have c0:=ch (i:=0) vm (v:=.slice Q pl.length O) rfl;have du:=ch (i:=1) vm (v:=.int J R) rfl;have dl:=ch (i:=2) vm (v:=.bool true) rfl;have b0:=ch (i:=0) WT (v:=.slice F E D) rfl;have iS:=cf (i:=0) WT;have iv:=cf (i:=1) WT;have ip:=cf (i:=2) WT;have b1:=ch (i:=1) WT (v:=.int J n) rfl;have b2:=ch (i:=2) WT rfl;obtain⟨i0,hi,Fl,DR,EB⟩:=zp Hw;have lF:=Cz zW;have yj:(W5.alloc (.cells #[U al l.length cl] 22)).ownsRow W5 22 1 (U W5 1 1) 1 [U al l.length cl]:=World.ownsRow_lit W5 #[U al l.length cl] 1 (Zj _) d! rfl;cases Q with
         |none=>
          obtain rfl:pl=[]:=by
           cases pl with
           |nil=>rfl
           |cons x r=>obtain⟨_,_,_,e,_⟩:=SL.at_ iV (i:=0) i!;cases e
          obtain⟨B,Um,xu⟩:=T7.aid Vo y WT f8 (U W5 1 1) (.int J (nt+R)) (.bool true);have qS:=World.ownsRow_lit (((W5.setCell A (U W5 1 1)).setCell ⟨A,1,none⟩ (.int J (nt+R))).setCell ⟨A,2,none⟩ (.bool true)) (e:=22) (size:=1) (base:=W5) #[U al l.length cl] 1 i! d! rfl;simp only[World.size_setCell]at qS;have fJ:=xu.trans (Kept.later (bA (o:=.cells #[U al l.length cl] 22) (Zh _ _)));have io:=B.later y (bA (o:=.cells #[U al l.length cl] 22) (Zh _ _));have gn:=Bf Um (.cells #[U al l.length cl] 22);have HH:=Zd (ZY qS (ZY fJ (ZY io gn)));clear qS fJ io gn B Um xu yj;go_wp2;go_roundg (f.length - (j+1))
          case rel=>
           obtain⟨q1,q2,q3,q4⟩:=HH.out;refine⟨j+1,some ([l],nt+R),_,_,_,Az,rfl,v!,by rw[<-Tl.out,iT.out,ly.out],q3,q4,_,rfl,?_⟩;exact iQ (pl:=[]) (news:=[]) q1 (Sl.imp (SI.Ar rS λb m _=>q2 b m) (λb m=>m.Ar q2) (λ_ _ x=>x)) (λi x hx=>by cases hx)
          case measure=>omega
         |some ad=>
          obtain⟨news,hn,g9,jt⟩:=Sl.row iV d! ad rfl;have mh:=Zd jt;have lD:∀u∈news,u.oneCell'=true:=row_one d! hn g9 aic;go_wp2_with (at_builtin;refine Yc _ rfl _ _ 34 rfl W5 22 i0 () 1 24 lF (Dz hi) Fl DR EB rfl d! _ 1 [U al l.length cl] rfl yj ad pl.length O news rfl hn (λj u hj=>ca (mh.out j u hj) _) lD u! o! i! ?_;intro v' w6 AX AG Gc;obtain⟨ga,gc,rfl,_,_,_⟩:=JS AX;have DM:Bl W5 w6:=Bm (bA (Zh _ _)) AG (λk hk=>by cases hk;exact Zj _) i!;have Um:=(DM.block A lG).trans WT;have d0:=ch (i:=0) Um (v:=.slice F E D) rfl;have d1:=ch (i:=1) Um (v:=.int J n) rfl;have d2:=ch (i:=2) Um rfl;have my:=cf (i:=0) Um;have mx:=cf (i:=1) Um;have mw:=cf (i:=2) Um);have B:=T7.later y DM;have co:Kept n0 mb W5 w6:=Kept.later DM;obtain⟨lm,lE,i8⟩:=B.aid Vo y Um f8 (U ga (1+pl.length) gc) (.int J (nt+R)) (.bool true);have kw:Ak (λx=>x=A) w6 (((w6.setCell A (U ga (1+pl.length) gc)).setCell ⟨A,1,none⟩ (.int J (nt+R))).setCell ⟨A,2,none⟩ (.bool true)):=(Ak.refl (λx=>x=A) w6).DT.DT.DT;have lK:=CO kw (λb H h2=>by subst h2;omega) AX;go_roundg (f.length - (j+1))
          case rel=>
           refine⟨j+1,some (l::pl,nt+R),_,_,_,Az,rfl,v!,by rw[<-Tl.out,iT.out,ly.out],lm,lE,_,rfl,?_⟩;have sZ:=co.trans i8;exact iQ lK (Sl.imp (SI.Ar rS λb m _=>sZ b m) (λb m=>m.Ar sZ) (λ_ _ x=>x)) (λi x hx=>vj (g9 i x hx) sZ)
          omega
       have ly:=Zd (show DL ab d (Gx ab (fits.drop (i+1))) r l=r by rw[Ul.out,if_neg (by rw[FD];exact Bool.false_ne_true)]);clear Ul FD;subst hs;go_wp2;go_quiet ((go_at_call 58;refine Zb5 (vl.out _)));go_wp2;go_roundg (f.length - (j+1))
       case rel=>exact⟨j+1,r,_,_,_,Az,rfl,v!,by rw[<-Tl.out,iT.out,ly.out],IY.later y (Y5 (Zh _ _) nq),Pj,vk⟩
       omega
   obtain⟨F,E,D,x4,x5,e,h5,h6,h7⟩:=yh.val;clear h5 h6 h7;cases e;have e1:r=Gx ab (fits.drop i) d:=by
    have H:=Tl.out;rw[Z7.2 (show f.length<=j by omega)]at H;exact H
   rw[e1]at yh;clear e1;have im:∀wy,Kept n0 mb wr wy->FI n0 mb ab c fits (M5 i d) (.agg #[U F E D,.int J n,.bool s]) wy:=λwy hk=>FI.of hD Jm.2 (yh.Ar hk);obtain⟨es,bi,By,U6⟩:=kW (k:=M5 i d) (v:=.agg #[U F E D,.int J n,.bool s]) M.map (λes bi=>im _ (Kept.put M.map.is)) (λk' v' es bi h=>h.Ar (Kept.put M.map.is));simp only[Dy,M5]at By;have hN:=M.put y U6;have cO:=M.key;have k0:=ch (i:=0) cO (v:=.int J i) rfl;have k1:=ch (i:=1) cO (v:=.int J (nth d.now 0)) rfl;have k2:=ch (i:=2) cO (v:=.int J (nth d.now 1)) rfl;have k3:=ch (i:=3) cO (v:=.int J (nth d.now 2)) rfl;have k4:=ch (i:=4) cO (v:=.int J (Aj d.Aa 0).left) rfl;have k5:=ch (i:=5) cO (v:=.int J (Aj d.Aa 1).left) rfl;have k6:=ch (i:=6) cO (v:=.int J (Aj d.Aa 2).left) rfl;have fy:=ch (i:=1) M.xN (v:=.map (some mb)) rfl;have c0:=ch (i:=0) H_ (v:=.slice F E D) rfl;have du:=ch (i:=1) H_ (v:=.int J n) rfl;have dl:=ch (i:=2) H_ (v:=.bool s) rfl;obtain⟨W2,MX⟩:=Qnm (wr.putObj mb (.map es bi));rw[<-MX]at By hN U6;have EC:∀q,q≠mb->W2.heap[q]?=wr.heap[q]? :=λq h=>by rw[MX];exact zG h
   have XM:=(EC _ o!).trans M.res;have WS:=(EC A o!).trans H_;have r0:=ch (i:=0) XM (v:=.slice none 0 0) rfl;have r1:=ch (i:=1) XM (v:=.int J 0) rfl;have r2:=ch (i:=2) XM (v:=.bool false) rfl;have fx:=cf (i:=0) XM;have fw:=cf (i:=1) XM;have fu:=cf (i:=2) XM;have d0:=ch (i:=0) WS (v:=.slice F E D) rfl;have d1:=ch (i:=1) WS (v:=.int J n) rfl;have d2:=ch (i:=2) WS (v:=.bool s) rfl;have X:=Zd yh;clear MX im Tl EC yh U6;go_wp2;refine ZN (v:=.agg #[U F E D,.int J n,.bool s]) (by rw[A8 rfl];go_simp) rfl ?_;have xC:=((hN.set (j:=0) (v:=.slice F E D) Vo y).set (j:=1) (v:=.int J n) Vo y).set (j:=2) (v:=.bool s) Vo y;exact⟨_,rfl,xC.Cn,X.out.Ar xC.kept,xC.map⟩
  have Xf:=hg i d o! hD e.symm;obtain⟨F,E,D,x4,x5,rfl,x6,x7,x8⟩:=Xf.val;have H1:=H;simp only[Dy,M5]at H1;clear H;have X:=Zd Xf;clear x6 x7 x8 Xf hg e;go_wp2;refine ZN (v:=.agg #[U F E D,.int J x4,.bool x5]) (by rw[A8 rfl];go_simp) rfl ?_;have hN:=(((B.fn.set (j:=0) (v:=.slice F E D) Vo y).set (j:=1) (v:=.int J x4) Vo y).set (j:=2) (v:=.bool x5) Vo y).alloc (.cells #[U F E D,.int J x4,.bool x5] 138);exact⟨_,rfl,hN.Cn,X.out.Ar hN.kept,hN.map⟩
def aim (w:Zb)(a b c:Obj):(((w.alloc a).alloc b).alloc c).heap[w.heap.size+1+1]?=some c:=by
 have:=Bp ((w.alloc a).alloc b) c;rwa[ZB,ZB]at this
section
variable {P:Zo}{ops:Array Oper}{Q:Exit->Act->Zb->Prop}{T:Nat->Zb->Prop}
def cE {r:List (Bool×Nat)}{o:Oper}{f:ZaQ}{args:Array Zf}{a:Act}(c:ops[i]?=some o)(d:o.guard=none)(b:(Zby a.eval o).run P w=.ok (.enter f args) w)
 (g:Calls P f args w λe w'=>(∃v,e=.returned v/\T i w'/\Dl P ops Q T r (a.put o.dst v) w')\/∃x,e=.panicked x/\Q (.panic x) a w'):Dl P ops Q T ((false,i)::r) a w:=by
 refine PW c d ?_;unfold ZbA;rw[b,Zdj];refine g.mono λe w' h=>?_;rcases h with⟨v,rfl,h⟩|⟨x,rfl,h⟩
 .exact h
 exact h
end
def acp:(Tryz.prog.info? 34).map (λi=>(i.zero,i.size,i.bytes))=some (some (U none 0 0),1,24):=k!
def qT (n:Nat)(f:n<=1000)(w:Zb):(Zdp 34 (.int J n) (.int J n)).run Lp w=.ok (U (some ⟨w.heap.size,0,none⟩) n n) (w.alloc (.cells (List.replicate n (Zy none 0 0)).toArray 22)):=by
 obtain⟨a,b,c,e,d⟩:=zp Hw;have h:=run_make (P:=Lp) w 34 22 a (U none 0 0) (Cz zW) (Dz b) c J J n n o! (Int.le_refl _) (by rw[d];omega) o!;rw[h,e];simp only[Int.toNat_natCast]
 congr 3
 apply Array.ext
 .simp[madeCells]
 intro i j g;simp[madeCells,Value.cells,Nat.mod_one]
def Rsp (S:Nat->Prop)(w:Zb)(cs:List Zf)(x:List (Int×Int)):Prop:=∃u,cs=[u]/\SP S w u x
abbrev SSP (S:Nat->Prop):=Sl S (Rsp S) 1
abbrev lz (l:List (List (Int×Int)))(i:Nat):List (Int×Int):=l.getD i []
def Oj {l:List (List (Int×Int))}(h:i<l.length):l[i]?=some (lz l i):=by simp[lz,h]
def SSP.at_ {a:Option Addr}{c:Nat}{l:List (List (Int×Int))}(h:SSP S w (U a l.length c) l)(hi:i<l.length):∃b o u,a=some ⟨b,o,none⟩/\S b/\w.cell? ⟨b,o+i,none⟩=some u/\SP S w u (lz l i):=by
 obtain⟨q,p,f,_,_,e⟩:=h;cases f;obtain⟨b,o,n,k,j,m,g,u,rfl,d⟩:=e i _ (Oj hi);exact⟨b,o,u,k,j,by simpa using g 0 _ rfl,d⟩
def Jt (c:A_)(s:List (Int×Int)):List (List Int):=(EH c).filter λl=>BZ c l s
def qU (c:A_)(a:List (List (Int×Int))):Option (List (List Int)×Int):=Gx (Ax c.Aa) (a.map (Jt c)) c
def qV (c:A_)(a:List (List (Int×Int))):List (List Int):=match qU c a with|none=> []|some p=>p.1
def qW (c:A_)(a:List (List (Int×Int))):Int:=match qU c a with|none=>0|some p=>p.2
def qX (c:A_)(a:List (List (Int×Int))):Int:=match qU c a with|none=>11|some _=>0
def vo (w:Zb)(c:A_)(a:List (List (Int×Int)))(e:Ending)(w':Zb):Prop:=Bl w w'/\((∃v,e=.returned (.tuple #[v,.int J (qW c a),.int J (qX c a)])/\SL (Cb w w') w' v (qV c a))\/∃x,e=.panicked x/\PX x w')
def ZZ (Z:Nat->Prop)(n:Nat)(w:Zb)(b:Nat):Prop:=Z b\/J1 22 n w b
def slz {Z T:Nat->Prop}{f:List (List Int)}(h:SL (ZZ Z n A) A u f)(l:Ak T A B)(s:∀b,ZZ Z n A b->¬T b):SL (ZZ Z n B) B u f:=by
 have z:∀b,b<A.heap.size->ZZ Z n A b->ZZ Z n B b:=λb C O=>by
  rcases O with d|⟨d,t,D⟩
  .exact .inl d
  exact .inr ⟨⟨d.1,Zl d.2 l.size⟩,t,(l.block b d.2 (s b (.inr ⟨d,t,D⟩))).trans D⟩
 have L:∀ {R:Zb->List Zf->List Int->Prop} {k:Nat},True:=λ{_ _}=>trivial;clear L;obtain⟨a,c,V,U,Q,P⟩:=h;refine⟨a,c,V,U,Q,λi x M=>?_⟩;obtain⟨b,o,t,X,F,W,E,q,e,K⟩:=P i x M;subst e;have C:b<A:=ZH A _ (E 0 q rfl);refine⟨b,o,[q],X,z b C F,W,λj y r=>(l.same (S:=ZZ Z n A) s).cell (p:=⟨b,o+i*1+j,none⟩) F (E j y r),q,rfl,?_⟩;obtain⟨a',c',e1,e2,e3,e4⟩:=K;refine⟨a',c',e1,e2,e3,λw J DN=>?_⟩;obtain⟨m,v,g,f1,I,H,G,Y⟩:=e4 w J DN;have N:g.length=1:=H;have Ka:m<A:=ZH A _ (G 0 _ (zf o!));exact⟨m,v,g,f1,z m Ka I,H,λj y r=>(l.same (S:=ZZ Z n A) s).cell (p:=⟨m,v+w*1+j,none⟩) I (G j y r),Y⟩
structure CS (Z:Nat->Prop)(w5:Zb)(q mb:Nat)(c:A_)(ss:List (List (Int×Int)))(k:Nat)(v:Zf)(wx:Zb):Prop where
 CN:Ak (λx=>x=q\/w5<=x) w5 wx
 box:wx.heap[q]?=some (.cells #[v,.map (some mb)] 135 (0,0))
 row:∃vals,wx.ownsRow w5 34 1 v k vals/\∀(i:Nat) (f:List (List Int)),((ss.map (Jt c)).take k)[i]?=some f->∃u,vals[i]?=some u/\SL (ZZ Z w5 wx) wx u f
def cF (ab:Nat->Nat)(Q:List Int->Prop):∀(j:List (List (List Int))) (d:A_) (p:List (List Int)×Int),(∀f∈j,∀l∈f,Q l)->Gx ab j d=some p->∀l∈p.1,Q l
 | [],_,p,_,h=>by cases h;simp
 |f::r,d,p,b,h=>by
  have key:∀(l:List (List Int)) (o:Option (List (List Int)×Int)),(∀x∈l,Q x)->(∀q,o=some q->∀x∈q.1,Q x)->∀q,l.foldl (DL ab d (Gx ab r)) o=some q->∀x∈q.1,Q x:=by
   intro l
   induction l with
   |nil=>intro o _ e q b;exact e q b
   |cons x l n=>
    intro o i e q a;refine n _ (λy c=>i y (zm _ c)) (λg a=>?_) q a;unfold DL at a;split at a
    .exact e g a
    split at a
    .exact e g a
    next k m=>
    split at a
    .cases a
     intro y c;rcases List.mem_cons.1 c with rfl|c
     .exact i _ (zC ..)
     exact cF ab Q r _ k (λf t=>b f (zm _ t)) m y c
    exact e g a
  exact key f none (λx s=>b f (zC ..) x s) (λq b=>by cases b) p h
structure CL (w6:Zb)(L:List (List Int))(bx:Array Zf)(k:Nat)(cur:Array Zf)(wx:Zb):Prop where
 below:Bl w6 wx
 box:wx.heap[w6.heap.size]?=some (.cells bx 138 (0,0))
 out:wx.heap[w6.heap.size+1]?=some (.cells cur 22 (0,0))
 size:cur.size=L.length
 at_:∀i,i<k->∃u,cur[i]?=some u/\SI (J1 3 w6 wx) wx u (BM L i)
def c41 {v6:Zf}{r:List (List (Int×Int))}(h:RC S w v1 v2 v3 v4 v5 c)(hs:SSP S w v6 r)(hS:Ql6 S w)(Jz:BN c=0)(h1:1<=r.length/\r.length<=3)(dl:∀s∈r,Fs c.base.length s=0)(mA:∀i,i<c.Aa.length->(Aj c.Aa i).over.length<=1000):
  Calls Lp 30 #[.agg #[v1,v2,v3,v4,v5],v6] w (vo w c r):=by
 obtain⟨a1,R,a2,Q,Y,P,X,O,V,N,rfl,rfl,rfl,rfl,rfl,l1,m1,l2,m2,l3,m3,l4,m4,l5,m5⟩:=h.vs;obtain⟨a6,c6,rfl,l6,m6⟩:=hs.val;have IX:=DJ;have hv:=EG Jz;have Bg:Bl w (w.alloc (.cells (Qe6 c a1 R a2 Q Y P X O V N) 26)):=bA (Zh _ _);have ez:=Zd (λW hB=>Wt (w:=W) (h.later hB) (A3 hS hB) Jz);have g9:=Zd (show∀W,Calls Lp 66 #[.int J r.length,.int J 3] W λe w'=>e=.returned (.int J 0)/\w'=W from λW=>by
  have:=uk (r.length:Int) 3 W;rwa[Oe o!]at this)
 go_enter Lp.func41,n41;go_wp2_with (first|(go_at_call 48;refine(ez.out _ Bg).mono ?_;rintro e w1 ⟨rfl,Bb⟩;have Bv:=Bg.trans (Bb.mono Bg.size))|(go_at_call 66;refine(g9.out _).mono ?_;rintro e w2 ⟨rfl,hw⟩;obtain rfl:=hw.symm));obtain⟨W2,MX⟩:=Qnm (w1.alloc (.cells (AW (U a1 c.base.length R) (U a2 c.Af.length Q) (U Y c.hooks.length P) (U X c.Aa.length O) (U V c.now.length N) (Ax c.Aa)) 84));have Ia:Bl w1 W2:=by rw[MX];exact bA (Zh _ _)
 have T3:W2.heap[w1.heap.size]?=some (.cells (AW (U a1 c.base.length R) (U a2 c.Af.length Q) (U Y c.hooks.length P) (U X c.Aa.length O) (U V c.now.length N) (Ax c.Aa)) 84 (0,0)):=by rw[MX];exact Bp _ _
 have De:=Bv.trans (Ia.mono Bv.size);change Code.wp _ _ _ _ (w1.alloc (.cells (AW (U a1 c.base.length R) (U a2 c.Af.length Q) (U Y c.hooks.length P) (U X c.Aa.length O) (U V c.now.length N) (Ax c.Aa)) 84));rw[<-MX];clear MX Ia Bb ez g9;obtain⟨ab,DU⟩:=Qnm (Ax c.Aa);rw[<-DU]at T3;have mG:=Zd DU;clear DU;have T8:=Zd (λW (hB:Bl w W) u s (H:SP S w u s) (hz:Fs c.base.length s=0)=>show Calls Lp 51 #[.agg #[U a1 c.base.length R,U a2 c.Af.length Q,U Y c.hooks.length P,U X c.Aa.length O,U V c.now.length N,I .u8 (ab 0),I .u8 (ab 1),I .u8 (ab 2)],u] W λe w'=>e=.returned (.int J 0)/\Bl W w' from by
  have:=abe (w:=W) (h.later hB) (H.later hB) (A3 hS hB) (ab 0) (ab 1) (ab 2);rwa[hz]at this)
 go_loopg [37] r.length (λg i wr=>∃k:Nat,k<=r.length/\g=r.length - k/\i=.int J k/\Bl W2 wr)
 case atStart=>exact⟨0,Zp _,rfl,rfl,Zh _ _⟩
 obtain⟨k,hk,rfl,rfl,Jp⟩:=hrel;have Cj:=De.trans (Jp.mono De.size);have iE:=(Jp.block _ (Za.1 T3).1).trans T3;have k0:=ch (i:=0) iE (v:=.slice a1 c.base.length R) rfl;have k1:=ch (i:=1) iE (v:=.slice a2 c.Af.length Q) rfl;have k2:=ch (i:=2) iE (v:=.slice Y c.hooks.length P) rfl;have k3:=ch (i:=3) iE (v:=.slice X c.Aa.length O) rfl;have k4:=ch (i:=4) iE (v:=.slice V c.now.length N) rfl;have k5:=ch (i:=5) iE (v:=.int .u8 (ab 0)) rfl;have k6:=ch (i:=6) iE (v:=.int .u8 (ab 1)) rfl;have k7:=ch (i:=7) iE (v:=.int .u8 (ab 2)) rfl;by_cases Az:k<r.length
 .obtain⟨b,o,u,rfl,a,hc,H⟩:=hs.at_ Az
  rw[<-Cj.cell (p:=⟨b,o+k,none⟩) (hS b a)]at hc;have hz:=dl _ (Z3 (Oj Az));obtain⟨s0,ER⟩:=Qnm (lz r k);rw[<-ER]at H hz;clear ER;obtain⟨a7,c7,rfl,l7,m7⟩:=H.val;have HZ:=Zd hz;clear hz;go_wp2_with (go_at_call 51;refine(T8.out _ Cj _ _ H HZ.out).mono ?_;rintro e w3 ⟨rfl,DM⟩;have NU:=Jp.trans (DM.mono Jp.size));go_roundg (r.length - (k+1))
  case rel=>exact⟨k+1,o!,rfl,v!,NU⟩
  omega
 have iv:w1<wr.heap.size:=(Za.1 iE).1;have Jm:=hv.few;have B_:∀i,i<c.Aa.length->-2<=(Aj c.Aa i).low/\(Aj c.Aa i).high<=2:=λi G=>by have:=hv.step i G;omega
 have lC:= @run_makeMap Lp;have Tq:(EH c).length<=125:=Zr (H7 c.Aa B_) (YX d! Jm.2);go_wp2_with (first|(go_at_call 39;refine(ahC (AW (U a1 c.base.length R) (U a2 c.Af.length Q) (U Y c.hooks.length P) (U X c.Aa.length O) (U V c.now.length N) ab) rfl (by simp[AW,YT]) _).mono ?_;rintro e w4 ⟨rfl,xX⟩;(have WH:Bl wr w4:=by rw[xX];exact bA (bA (bA (Zh _ _))));(have fw:w4.heap[wr.heap.size]?=some (.map #[] 0):=by rw[xX];exact Bf (Bf (Bp _ _) _) _);(have fH:w4.heap[wr.heap.size+1]?=some (.cells #[(),.map (some wr.heap.size)] 135 (0,0)):=by rw[xX];exact Bf (Jq _ _ _) _);(have bU:w4.heap[wr.heap.size+1+1]?=some (.cells (AW (U a1 c.base.length R) (U a2 c.Af.length Q) (U Y c.hooks.length P) (U X c.Aa.length O) (U V c.now.length N) ab) 84 (0,0)):=by rw[xX];exact aim _ _ _ _);clear xX)|(go_at_call 67;refine(aoH bU (h.later (Cj.trans (WH.mono Cj.size))) (A3 hS (Cj.trans (WH.mono Cj.size))) Jm.2 B_).mono ?_;rintro e z ⟨va,rfl,lA,FJ⟩;obtain⟨aa,cc,rfl,_⟩:=Sl.val FJ));obtain⟨q,Pd⟩:=Qnm (wr.heap.size+1);have li:wr+1+1<w4.heap.size:=(Za.1 bU).1;have p9:=lA.size;have Fl:=Cj.size;have iW:=(lA.block _ o!).trans ((WH.block _ iv).trans iE);have fx:=(lA.block _ o!).trans fw;have T7:=(lA.block _ o!).trans fH;have qY:=(Cj.trans (WH.mono Cj.size)).trans (lA.mono (Cj.trans (WH.mono Cj.size)).size);obtain⟨mb,gt⟩:=Qnm wr.heap.size;rw[<-Pd]at T7⊢;rw[<-gt]at T7 fx Pd⊢;obtain⟨Z,vp⟩:∃Z:Nat->Prop,Z=λb=>b<z.heap.size/\b≠q/\b≠mb:=⟨_,rfl⟩;have qZ:∀b,Z b->b<z.heap.size:=λb a=>by rw[vp]at a;exact a.1
 have fi:∀b,Z b->b≠q:=λb a=>by rw[vp]at a;exact a.2.1
 have fm:∀b,Z b->b≠mb:=λb a=>by rw[vp]at a;exact a.2.2
 have be:∀b,S b->Z b:=λb a=>by rw[vp];have:=hS b a;exact⟨o!,o!,o!⟩
 have i8:SL Z z (U aa (EH c).length cc) (EH c):=Sl.imp FJ (λb a=>by rw[vp];have:=a.1;have:=a.2;exact⟨o!,o!,o!⟩) (λ_ _ ⟨u,e,hs⟩=>⟨u,e,Sl.imp hs (λb a=>by rw[vp];have:=a.1;have:=a.2;exact⟨o!,o!,o!⟩) λ_ _ x=>x⟩);have gn:RC Z z (U a1 c.base.length R) (U a2 c.Af.length Q) (U Y c.hooks.length P) (U X c.Aa.length O) (U V c.now.length N) c:=(h.later qY).imp be;have ip:SSP Z z (U a6 r.length c6) r:=Sl.imp (Sl.Ar (w':=z) hs (λb a L=>qY.block b L) λ_ _ ⟨u,e,hp⟩=>⟨u,e,hp.later qY⟩) be λ_ _ ⟨u,e,hp⟩=>⟨u,e,Sl.imp hp be λ_ _ x=>x⟩;have Rk:w1<z.heap.size:=o!
 have iS:w1≠q:=o!
 have ea:q<z:=o!
 have pW:mb≠q:=o!
 have lE:mb<z:=o!
 have lL:w<=q:=o!
 have mM:w<=mb:=o!
 have kw:CS Z z q mb c r 0 () z:=⟨Ak.refl _ _,T7,[],zq _ _ _ _,λi f D=>by cases D⟩;clear FJ lA WH fw fH bU iE Pd gt T7 vp k0 k1 k2 k3 k4 k5 k6 k7;go_loopg [55] r.length (λg i wx=>∃(k:Nat) (v:Zf),k<=r.length/\g=r.length - k/\i=.int J k/\CS Z z q mb c r k v wx)
 case atStart=>exact⟨0,_,Zp _,rfl,rfl,kw⟩
 obtain⟨k,v,hk,rfl,rfl,B⟩:=hrel;have hT:=B.CN;have ba:∀x,x<z.heap.size->x≠q->¬(x=q\/z.heap.size<=x):=λx h1 C h3=>o!
 have E:CE Z z wr:=hT.same λx m=>ba x (qZ x m) (fi x m);have S6:=(hT.block _ Rk (ba _ Rk iS)).trans iW;obtain⟨ac,AX,DF⟩:=B.row;obtain⟨dE,rZ,rfl,_⟩:=JS AX;have ap:=hT.size;have k0:=ch (i:=0) S6 (v:=.slice a1 c.base.length R) rfl;have k1:=ch (i:=1) S6 (v:=.slice a2 c.Af.length Q) rfl;have k2:=ch (i:=2) S6 (v:=.slice Y c.hooks.length P) rfl;have k3:=ch (i:=3) S6 (v:=.slice X c.Aa.length O) rfl;have k4:=ch (i:=4) S6 (v:=.slice V c.now.length N) rfl;have k5:=ch (i:=5) S6 (v:=.int .u8 (ab 0)) rfl;have k6:=ch (i:=6) S6 (v:=.int .u8 (ab 1)) rfl;have k7:=ch (i:=7) S6 (v:=.int .u8 (ab 2)) rfl;by_cases Az:k<r.length
 .obtain⟨b,o,u,rfl,a,hc,H⟩:=ip.at_ Az
  have OJ:=E.cell (p:=⟨b,o+k,none⟩) a hc;have lM:=SP.Ar H E;have hz:=dl _ (Z3 (Oj Az));have ii:=Zd (show(r.map (Jt c)).take (k+1)=(r.map (Jt c)).take k++ [Jt c (lz r k)] by rw[ZbH,YL,Oj Az];rfl);obtain⟨s0,ER⟩:=Qnm (lz r k);rw[<-ER]at lM hz ii;clear ER H hc;obtain⟨a7,c7,rfl,l7,m7⟩:=lM.val;obtain⟨du,il⟩:=Ha hz;have jn:=Zd du;have jp:=Zd il;clear hz du il;obtain⟨K,Ig⟩:∃K:Nat->Prop,K=λx=>z.heap.size<=x:=⟨_,rfl⟩;have LP:∀x,z.heap.size<=x->K x:=λx m=>by rw[Ig];exact m
  have q9:∀x,x<z.heap.size->¬K x:=λx m=>by rw[Ig];intro y;omega
  clear Ig;have z0:=λp:Tw K wr=>p.cell (ch (i:=0) B.box (v:=.slice dE k rZ) rfl) (q9 _ ea);have g0:=λp:Tw K wr=>p.cell k0 (q9 _ Rk);have g1:=λp:Tw K wr=>p.cell k1 (q9 _ Rk);have g2:=λp:Tw K wr=>p.cell k2 (q9 _ Rk);have g3:=λp:Tw K wr=>p.cell k3 (q9 _ Rk);have g4:=λp:Tw K wr=>p.cell k4 (q9 _ Rk);have g5:=λp:Tw K wr=>p.cell k5 (q9 _ Rk);have g6:=λp:Tw K wr=>p.cell k6 (q9 _ Rk);have g7:=λp:Tw K wr=>p.cell k7 (q9 _ Rk);have TB:(k:Int)<(r.length:Int):=o!
  clear k0 k1 k2 k3 k4 k5 k6 k7;go_wp2;clear OJ;refine B0 (S:=λW=>∃p:Tw K wr,W=p.v) [9] [(false,5),(false,6),(false,7),(false,8),(false,9)] [0,1,2,3,4] k! (λ_ _ d _ _ h=>by cases d<;>exact h) k! (A5 (Ak.later (Zh _ _).drew)) ?_;refine A4 _ _ k! ?_;simp only[Z6,zd,ZG,ZD,ZC]
  repeat (first|go_big_quiet_step (fail)|quiet_step (fail))
  refine Z4 ?_;clear z0 g0 g1 g2 g3 g4 g5 g6 g7;change Dl _ _ _ _ _ _ _;have Uh:Bl wr wr.drew:=(Zh _ _).drew;have am:CE Z wr wr.drew:=λx _ m=>Uh.block x m;have vp:∀x,Z x->x<wr.drew.heap.size:=λx m=>Zl (qZ x m) ap;refine cE (f:=60) (args:= #[.agg #[U a1 c.base.length R,U a2 c.Af.length Q,U Y c.hooks.length P,U X c.Aa.length O,U V c.now.length N,I .u8 (ab 0),I .u8 (ab 1),I .u8 (ab 2)],U aa (EH c).length cc,U a7 s0.length c7]) rfl rfl g! ((xO (S:=Z) ((gn.Ar E).Ar am) hv (SL.Ar (SL.Ar i8 E) am) (SP.Ar lM am) (λi G=>?_) (by have:=jn.out;omega) jp.out o! vp (ab 0) (ab 1) (ab 2)).mono ?_)
  .have hm:(BM (EH c) i).length=c.Aa.length/\∀j,j<(BM (EH c) i).length->(Aj c.Aa j).low<=nth (BM (EH c) i) j/\nth (BM (EH c) i) j<=(Aj c.Aa j).high:=Lf c.Aa _ (Z3 (BJ G))
   refine⟨hm.1,λj hj=>?_⟩;have h1:=hm.2 j hj;have C:=B_ j (by rw[<-hm.1];exact hj);omega
  rintro e W1 ⟨cu,⟨gj,rfl,NK⟩|⟨x',rfl,Ss⟩⟩
  .have vq:=Uh.trans (cu.mono (Zj _))
   have Kd:Ak K wr W1:=Ak.later vq;refine .inl ⟨gj,rfl,.inr (A5 Kd),?_⟩;have bV:SL (ZZ Z z W1) W1 gj (Jt c s0):=Sl.imp NK (λb a=>by
    rcases a with a|a
    .exact .inl a
    .exact .inr ⟨⟨Zr ap a.1.1,a.1.2⟩,a.2⟩) (λ_ _ ⟨u,e,hs⟩=>⟨u,e,Sl.imp hs (λb a=>by
    rcases a with a|a
    .exact .inl a
    exact .inr ⟨⟨Zr ap a.1.1,a.1.2⟩,a.2⟩) λ_ _ x=>x⟩)
   obtain⟨fa,fc,rfl,_⟩:=Sl.val bV;obtain⟨ai,vr⟩:=Qnm (W1.alloc (.cells #[U fa (Jt c s0).length fc] 34));have Vn:Bl W1 ai:=by rw[vr];exact bA (Zh _ _)
   have Jp:=vq.trans (Vn.mono vq.size);have WQ:Ak K wr ai:=Ak.later Jp;refine JZ (v:=.slice W1 1 1) (w':=ai) rfl rfl (by rw[vr];go_simp) (.inr (A5 WQ)) ?_;have yl:=Fu AX Jp;obtain⟨i0,G,eL,k9,i9⟩:=zp acp;have i7:=Cz Tryz.underlying133;refine PW rfl rfl ?_;refine Zak _ _ _ 133 rfl z 34 i0 () 1 24 i7 (Dz G) eL k9 i9 rfl d! _ k ac rfl yl W1 1 1 [U fa (Jt c s0).length fc] rfl rfl (by rw[vr];exact Dj _ _ _) (by simp[YT]) u! o! (by have:=Jp.size;omega) ?_;intro v' ym Cm AG Gc;have Em:∀g,(Zy dE k rZ).ownBlock=some g->z.heap.size<=g/\∃cs,wr.heap[g]?=some (.cells cs 34 (0,0)):=λg hg=>by
    rcases AX.2 with⟨e,_⟩|⟨g',lG,F,e,h3,h4,_⟩
    .cases e;cases hg
    cases e;cases hg;exact⟨h3,F,h4⟩
   have Js:Ak (λx=>(Zy dE k rZ).ownBlock=some x) ai ym:=Ak.grown AG λg hg=>hg;have D3:Ak K wr ym:=WQ.trans (Ak.grown AG λg hg=>LP g (Em g hg).1);refine⟨.inr (A5 D3),?_⟩;obtain⟨g',Ey,rfl⟩:=Zay Cm;have kD:q<wr:=o!
   have M9:=(D3.block q kD (q9 _ ea)).trans B.box;have f0:=cf (i:=0) M9;have e0:=ch (i:=0) M9 (v:=.slice dE k rZ) rfl;refine Dw (v:=.pointer q) rfl rfl g! (.inr (A5 D3)) ?_;refine K8 (w':=ym.setCell q (U g' (k+1) Ey)) rfl rfl g! (.inl rfl) ?_;have bM:CS Z z q mb c r (k+1) (U g' (k+1) Ey) (ym.setCell q (U g' (k+1) Ey)):=by
    have Th:Ak (λx=>x=q) ym (ym.setCell q (U g' (k+1) Ey)):=(Ak.refl (λx=>x=q) ym).DT;have ci:∀ {A:Zb} x,ZZ Z z A x->¬x=q:=λx m e=>by
     rcases m with m|m
     .exact fi x m e
     have:=m.1.1;omega
    have ck:∀ {A:Zb} (hA:∀g cs,wr.heap[g]?=some (Zbi cs 34 (0,0))->A.heap[g]?=some (Zbi cs 34 (0,0))) x,ZZ Z z A x->¬(Zy dE k rZ).ownBlock=some x:=λhA x m e=>by
     obtain⟨h1,cs,C⟩:=Em x e;rcases m with m|⟨_,lF,m⟩
     .have:=qZ x m;omega
     rw[hA x cs C]at m;cases m
    have iV:Ak (λx=>(Zy dE k rZ).ownBlock=some x) wr ym:=((Ak.later Jp).mono λ_ x=>x).trans Js;have Vo:=ck (A:=wr) (λg cs h=>h);have rK:=ck (A:=ai) (λg cs h=>(Jp.block g (Za.1 h).1).trans h);refine⟨(hT.trans (D3.mono λx m=>.inr ?_)).trans (Th.mono λx m=>.inl m),Ba M9 _,ac++ [U fa (Jt c s0).length fc],CO Th (λb h1 C=>o!) Cm,λi f D=>?_⟩
    .rcases Zar x z with h|h
     .exact absurd m (q9 x h)
     exact h
    rw[ii.out]at D;have uM:ac.length=k:=by have:=AX.1;omega
    have cI:((r.map (Jt c)).take k).length=k:=j!
    by_cases uB:i<k
    .rw[zl o!]at D
     obtain⟨u,h1,C⟩:=DF i f D;exact⟨u,by rw[zl o!];exact h1,slz (slz C iV Vo) Th ci⟩
    have aX:=(Zm.1 D).1;rw[ZA,zb,zR,cI]at aX;obtain rfl:i=k:=o!
    rw[Zbr o!,cI,Nat.sub_self]at D;cases D;exact⟨U fa (Jt c s0).length fc,by rw[Zbr o!,uM,Nat.sub_self];rfl,slz (slz (slz bV (T:=λ_=>False) ((Ak.later Vn).mono λ_ x=>x) λ_ _ x=>x) Js rK) Th ci⟩
   have b8:=Zd bM;clear bM B D3 Js WQ Kd Jp Vn vr cu vq NK bV AX Cm yl DF AG Gc Em f0 e0 M9 hT E am S6 lM;unfold Dl
   go_simp
   go_wp2;go_roundg (r.length - (k+1))
   case rel=>exact⟨k+1,_,Az,rfl,v!,b8.out⟩
   omega
  refine .inr ⟨x',rfl,?_⟩;have Lc:Bl w W1:=((qY.trans (hT.below (λx m=>by rcases m with h|h<;>omega) o!)).trans (Uh.mono o!)).trans (cu.mono (show w<=wr.drew.heap.size from by show w<=wr.heap.size;omega));exact⟨rfl,Lc,.inr ⟨_,rfl,Ss⟩⟩
 have T5:k=r.length:=o!
 subst T5;have vt:(r.map (Jt c)).length=r.length:=i!
 obtain⟨fits,iU⟩:=Qnm (r.map (Jt c));rw[<-iU]at DF vt;rw[Zb3 o!]at DF;have bc:∀f∈fits,f.length<=1000/\∀l∈f,l.length=c.Aa.length:=by
  intro f D;rw[iU]at D;obtain⟨s,_,rfl⟩:=List.mem_map.1 D;exact⟨Zr (Zac _ _) o!,λl L=>(Lf c.Aa l (List.mem_filter.1 L).1).1⟩
 have f8:wr.heap[mb]?=some (.map #[] 0):=(hT.block mb o! (ba mb o! pW)).trans fx;have bi:∀b,ZZ Z z wr b->LS wr mb wr b:=λb a=>by
  rcases a with a|a
  .have:=qZ b a;exact .inl ⟨o!,fm b a,o!⟩
  have h1:=a.1.1;have C:=a.1.2;exact .inl ⟨C,o!,C⟩
 have fu:SF wr mb wr (U dE r.length rZ) fits:=by
  have h0:Sl (Cb z wr) (Rll wr mb) 1 wr (U dE r.length rZ) fits:=O6 (l:=fits) d! (by rw[vt];exact AX) (λi f D=>by
   obtain⟨u,H,io⟩:=DF i f D;refine⟨u,?_,Sl.imp io bi λ_ _ ⟨u',e,DX⟩=>⟨u',e,Sl.imp DX bi λ_ _ x=>x⟩⟩;obtain⟨DN,e⟩:=Zm.1 H;rw[Nat.mul_one,ZO DN,e]
   rfl)
  exact Sl.imp h0 (λb a=>.inl ⟨a.2,by have:=a.1;omega,a.2⟩) (λ_ _ x=>x)
 have fK:kU c c:=⟨rfl,rfl,rfl,rfl,hv.uy,λi G=>hv.left i G,λi G=>⟨rfl,rfl,rfl,rfl⟩⟩;have hM:Gy (FI wr mb ab c fits) mb wr:=⟨#[],0,f8,λe he=>by simp at he⟩;have fJ:=gn.Ar E;have Tm:Calls Lp 68 #[.agg #[U dE r.length rZ,.map (some mb)],.agg #[U a1 c.base.length R,U a2 c.Af.length Q,U Y c.hooks.length P,U X c.Aa.length O,U V c.now.length N,I .u8 (ab 0),I .u8 (ab 1),I .u8 (ab 2)],.int J 0] wr (λe w'=>∃v,e=.returned v/\B3 mb wr w'/\Lh wr mb w' v (Gx ab fits c)/\Gy (FI wr mb ab c fits) mb w'):=
  apx hv mG.out o! bc mA fits.length 0 c wr _ _ _ _ _ Z o! (Zj _) o! fK fu fJ (λb a=>⟨by have:=qZ b a;omega,fm b a⟩) hM
 have HR:=Zd (show qU c r=Gx ab fits c by rw[mG.out,iU];rfl);have U5:Bl w wr:=qY.trans (hT.below (λx m=>by rcases m with h|h<;>omega) o!);have lm:mb<wr:=o!
 have m0:=ch (i:=0) B.box (v:=.slice dE r.length rZ) rfl;have ky:=ch (i:=1) B.box (v:=.map (some mb)) rfl;have Tr:Kept wr mb wr wr:=Kept.refl _ _ _;have kv:=Zd vt;have im:∀W,B3 mb wr W->Bl w W:=λW hU=>U5.trans ((hU.CN (K:=λx=>x=mb) rfl).below (λx m=>by have:x=mb:=m;omega) o!);clear fu hM fK fJ f8 bi DF AX iU vt Tr hT E S6 B;cases hr:Gx ab fits c with
 |none=>
  rw[hr]at Tm HR;have H5:=Zd (Tm.mono (R':=λe w'=>e=.returned (.agg #[(),.int J 0,.bool false])/\B3 mb wr w') λe w' ⟨v,he,hU,iZ,_⟩=>⟨by rw[he,show v=_ from iZ],hU⟩);clear Tm hr;go_wp2_with (go_at_call 68;refine H5.out.mono ?_;rintro e M ⟨rfl,Xp⟩);refine ZN (Eh rfl _ _ _) rfl ?_;refine⟨bA (im _ Xp),.inl ⟨_,by unfold qW qX;rw[HR.out];rfl,?_⟩⟩;unfold qV;rw[HR.out];exact⟨none,0,rfl,Zj _,Zp _,λi x m=>by cases m⟩
 |some p=>
  obtain⟨t,pn⟩:=p;rw[hr]at Tm HR;obtain⟨_,_,Xa⟩:=M4 ab _ _ _ hr;have lK:t.length<=3:=by have:=kv.out;simp only at Xa;omega
  have H5:=Zd (Tm.mono (R':=λe w'=>∃ya yc,e=.returned (.agg #[U ya t.length yc,.int J pn,.bool true])/\B3 mb wr w'/\LL wr mb w' (U ya t.length yc) t) λe w' ⟨v,he,hU,⟨u,iZ,L⟩,_⟩=>by
   obtain⟨ya,yc,rfl,_⟩:=Sl.val L;exact⟨ya,yc,by rw[he,iZ],hU,L⟩)
  have oh:∀l∈t,l.length<=1000:=by
   have i6:∀f∈fits,∀l∈f,l.length<=1000:=λf D l L=>by rw[(bc f D).2 l L];omega
   exact cF ab (λl=>l.length<=1000) fits c (t,pn) i6 hr
  have lD:=λW=>qT t.length o! W;clear Tm hr Xa bc;go_wp2_with (go_at_call 68;refine H5.out.mono ?_;rintro e M ⟨ya,yc,rfl,Xp,fy⟩);obtain⟨W7,bv⟩:=Qnm ((M.alloc (.cells #[U ya t.length yc,.int J pn,.bool true] 138)).alloc (.cells (Yu t.length ()) 22));have iX:CL M t #[U ya t.length yc,.int J pn,.bool true] 0 (Yu t.length ()) W7:=by
   rw[bv];exact⟨bA (bA (Zh _ _)),Bf (Bp _ _) _,Jq _ _ _,i!,λi G=>absurd G o!⟩
  have i5:SL (λb=>b<M.heap.size) M (U ya t.length yc) t:=Sl.imp fy (λb a=>a.lt) λ_ _ ⟨u,e,hs⟩=>⟨u,e,Sl.imp hs (λb a=>a.lt) λ_ _ x=>x⟩;have DM:=im _ Xp;rw[<-bv];clear bv fy Xp;go_loopg [82] t.length (λg i wx=>∃(k:Nat) (F:Array Zf),k<=t.length/\g=t.length - k/\i=.int J k/\CL M t #[U ya t.length yc,.int J pn,.bool true] k F wx)
  case atStart=>exact⟨0,_,Zp _,rfl,rfl,iX⟩
  obtain⟨k,F,hk,rfl,rfl,B⟩:=hrel;have lI:=ch (i:=0) B.box (v:=.slice ya t.length yc) rfl;have lH:=ch (i:=1) B.box (v:=.int J pn) rfl;have b9:M+1<wr.heap.size:=(Za.1 B.out).1;by_cases Az:k<t.length
  .obtain⟨b,o,u,rfl,a,hc,H⟩:=SL.at_ i5 Az
   have OJ:=(B.below.cell (p:=⟨b,o+k,none⟩) a).trans hc;have lM:=SI.Ar H (λx m _=>B.below.block x m);obtain⟨l,L⟩:=Qnm (BM t k);have ed:=oh l (by rw[L];exact Z3 (BJ Az));rw[<-L]at lM;have ka:=Zd L;clear L H hc;obtain⟨a7,c7,rfl,l7,m7⟩:=lM.val;have TB:(k:Int)<(t.length:Int):=o!
   have fd:k<F.size:=by rw[B.size];exact Az
   obtain⟨x0,Oo⟩:∃x0,F[k]?=some x0:=⟨_,Zx fd⟩;have jt:=Zd ed;clear ed;go_wp2_with (go_at_call 69;refine(xJ lM jt.out).mono ?_;rintro e W8 ⟨u8,rfl,Jn,co⟩;obtain⟨p8,d8,rfl,_⟩:=Sl.val co;(have an:=(Jn.block _ b9).trans B.out);have ce:=ch an Oo;have fe:=cf (i:=k) an);have bM:CL M t #[U (some ⟨b,o,none⟩) t.length yc,.int J pn,.bool true] (k+1) (F.setIfInBounds k (U p8 l.length d8)) (W8.setCell ⟨M+1,k,none⟩ (U p8 l.length d8)):=by
    have Th:=(Ak.refl (λx=>x=M.heap.size+1) W8).DT (i:=k) (v:=.slice p8 l.length d8);have ct:∀ {n:Nat} x,J1 3 n W8 x->¬x=M+1:=λx m e=>by
     obtain⟨_,cs,C⟩:=m;rw[e,an]at C;cases C
    have fI:=B.below.trans (Jn.mono B.below.size);refine⟨fI.trans (Th.below (λx m=>by have:x=_:=m;omega) fI.size),(AZ o! _).trans ((Jn.block _ o!).trans B.box),Ba an _,by simp[B.size],λi G=>?_⟩;by_cases uB:i=k
    .subst uB
     refine⟨U p8 l.length d8,ZV fd,?_⟩;rw[<-ka.out];exact Dx Th ct (Sl.imp co (λb a=>⟨⟨by have:=a.1.1;omega,a.1.2⟩,a.2⟩) λ_ _ x=>x)
    obtain⟨u,h1,C⟩:=B.at_ i o!;exact⟨u,(Zk (Za0 uB)).trans h1,Dx Th ct (Dx (T:=λ_=>False) ((Ak.later Jn).mono λ_ x=>x) (λ_ _ x=>x) C)⟩
   have b8:=Zd bM;clear bM B;go_roundg (t.length - (k+1))
   case rel=>exact⟨k+1,_,Az,rfl,v!,b8.out⟩
   omega
  have T5:k=t.length:=o!
  subst T5;go_wp2;go_quiet (fail);go_wp2;refine ZN (Eh rfl _ _ _) rfl ?_;have lJ:=DM.size;refine⟨bN (DM.trans (B.below.mono DM.size)),.inl ⟨_,by unfold qW qX;rw[HR.out];rfl,?_⟩⟩;unfold qV;rw[HR.out];refine⟨some ⟨M+1,0,none⟩,t.length,rfl,Zj _,u!,λi x m=>?_⟩;have G:=(Zm.1 m).1;obtain⟨u,h1,C⟩:=B.at_ i G;rw[show BM t i=x by have:=BJ G;rw[m]at this;exact(ZW this).symm]at C;refine⟨M+1,0,[u],rfl,⟨o!,b9⟩,rfl,λj y hy=>?_,u,rfl,Sl.imp (SI.Ar C (w':=wr.drewN _) λb a _=>rfl) (λb a=>⟨by have:=a.1.1;omega,a.1.2⟩) λ_ _ x=>x⟩;cases j with
  |zero=>
   cases hy;rw[show 0+i*1+0=i by omega];exact ch B.out h1
  |succ j=>cases hy
section
variable {P:Zo}{ops:Array Oper}{Q:Exit->Act->Zb->Prop}{md:YO}{S:Zb->Prop}
def cG {ls:List Nat}{listed:Array Bool}{a:Act}(b:(YF ops&&ltB md ops [] (λL=>(zs md ops L).isEmpty) ls listed)=true)(j:∀c a d v w,Q (.panic c) (Zck a d v) w->Q (.panic c) a w)(f:S w)(h:MQ P ops S (λa'=>Q .normal a' w) ls a):Cy P md ops Q (λ_=>S) ls.length listed a w:=by
 rw[ZF]at b;have e:(FG [] S:Nat->Zb->Prop)=λ_=>S:=by
  funext i w
  simp[FG]
 have:=LC (P:=P) (lates:=[]) (g:=0) (K:=λa'=>Q .normal a' w) b.1 j f (λlisted a l k=>by
  rw[e];exact⟨by simpa using l,k⟩) ls listed a b.2 h
 rw[e,zN]at this;exact this
end
abbrev Lt (W:Zb):Nat->Prop:=λb=>b<W.heap.size
section
variable {n:Nat}{w1 X:Zb}{v1 v2 v3 v4 v5:Zf}{c:A_}
def Vs (e:RC (Cb n w1) w1 v1 v2 v3 v4 v5 c){W:Zb}(a:Bl w1 W):RC (Lt W) W v1 v2 v3 v4 v5 c:=(e.later a).imp λb d=>Zl d.2 a.size
def H8 (l:List Int)(hl:l.length<=1000):SI (Lt (X.alloc (.cells (l.map (ZL J)).toArray 3))) (X.alloc (.cells (l.map (ZL J)).toArray 3)) (U X l.length l.length) l:=
 M1 l (Bp _ _) (show X.heap.size<_ by simp) u!
def apW (e:RC (Cb n w1) w1 v1 v2 v3 v4 v5 c)(a:Bl w1 X)(l:List Int)(hl:l.length<=1000):Calls Lp 32 #[.agg #[v1,v2,v3,v4,v5],U X l.length l.length] (X.alloc (.cells (l.map (ZL J)).toArray 3)) (iy (X.alloc (.cells (l.map (ZL J)).toArray 3)) (JX c l) (Ca c l)):=
 c45 (Vs e (a.trans (bA (Zh _ _)|>.mono a.size))) (H8 l hl) λb d=>d
def apX (f:RC (Cb n w1) w1 v1 v2 v3 v4 v5 c)(d:Bl w1 X)(l:List Int)(hl:l.length<=1000)(a:Eg c l=0->∃L,WE c l=some L):Calls Lp 26 #[.agg #[v1,v2,v3,v4,v5],U X l.length l.length] (X.alloc (.cells (l.map (ZL J)).toArray 3)) (iy (X.alloc (.cells (l.map (ZL J)).toArray 3)) (MV c l) (Eg c l)):=
 c54 (Vs f (d.trans (bA (Zh _ _)|>.mono d.size))) (H8 l hl) (λb e=>e) a
def apY (f:RC (Cb n w1) w1 v1 v2 v3 v4 v5 c)(a:Bl w1 X)(l:List Int)(hl:l.length<=1000):Calls Lp 14 #[.agg #[v1,v2,v3,v4,v5],U X l.length l.length] (X.alloc (.cells (l.map (ZL J)).toArray 3)) λe w'=>e=.returned (.tuple #[.string ⟨(M3 c l).toArray⟩,.int J (Ca c l)])/\YH (X.alloc (.cells (l.map (ZL J)).toArray 3)).heap.size (X.alloc (.cells (l.map (ZL J)).toArray 3)) w':=
 c69 (Vs f (a.trans (bA (Zh _ _)|>.mono a.size))) (H8 l hl) λb d=>d
end
def g_asked:Ca (Ft 2 2 1) [1,-1,1]=0:=by decide+kernel
def g_girths:JX (Ft 2 2 1) [1,-1,1]=[43,28]:=by decide+kernel
def g_fitsE:Oa (Ft 2 2 1) [0,0,0] [(38,40),(25,30)]=0:=by decide+kernel
def g_fitsV:Mf (Ft 2 2 1) [0,0,0] [(38,40),(25,30)]=true:=by decide+kernel
def g_ready:Eg (Ft 2 2 1) [1,-1,1]=0:=by decide+kernel
def g_order:WE (Ft 2 2 1) [1,-1,1]=some [1,0,2]:=by decide+kernel
def g_orderV:MV (Ft 2 2 1) [1,-1,1]=[1,0,2]:=by decide+kernel
def g_begin:BN (Ft 2 2 1)=0:=by decide+kernel
def g_sing:∀s∈ [[((46:Int),(46:Int)),(30,30)],[(36,36),(30,30)]],Fs (Ft 2 2 1).base.length s=0:=by decide+kernel
def g_sea:qU (Ft 2 2 1) [[(46,46),(30,30)],[(36,36),(30,30)]]=some ([[2,0,1],[-2,0,1]],3):=by decide+kernel
def g_write:M3 (Ft 2 2 1) [2,-1,0]=[97,43,50,98,45,49]:=by decide+kernel
def g_asked2:Ca (Ft 2 2 1) [2,-1,0]=0:=by decide+kernel
def g_lastsV:Eu (Ft 2 2 1) [[0,1,0],[0,2,0],[0,0,0]]=(2,0):=by decide+kernel
def g_lastsE:F2 (Ft 2 2 1) [[0,1,0],[0,2,0],[0,0,0]]=0:=by decide+kernel
def g_over:∀i,i<(Ft 2 2 1).Aa.length->(Aj (Ft 2 2 1).Aa i).over.length<=1000:=by
 intro i a;have:i=0\/i=1\/i=2:=by have:(Ft 2 2 1).Aa.length=3:=rfl;omega
 rcases this with rfl|rfl|rfl<;>decide
def bT (h:Bl w A)(k:Bl A B):Bl w B:=h.trans (k.mono h.size)
def IW (h:SI (Lt A) A v l)(a:Bl A B):SI (Lt B) B v l:=Sl.imp (h.later a) (λb c=>Zl c a.size) λ_ _ x=>x
def Ok {l:List (List Int)}(h:SL (Cb n A) A v l)(c:Bl A B):SL (Cb n B) B v l:=
 Sl.imp (SL.Ar h (w':=B) λb _ f=>c.block b f) (λb a=>⟨a.1,Zl a.2 c.size⟩) λ_ _ ⟨u,e,d⟩=>⟨u,e,Sl.imp d (λb a=>⟨a.1,Zl a.2 c.size⟩) λ_ _ x=>x⟩
def vu {a b:List (Int×Int)}(k:SP (Lt A) A u a)(g:SP (Lt A) A v b):SSP (Lt (A.alloc (.cells #[u,v] 23))) (A.alloc (.cells #[u,v] 23)) (U A 2 2) [a,b]:=by
 have e:Bl A (A.alloc (.cells #[u,v] 23)):=bA (Zh _ _);have f:∀ {x:Zf} {l:List (Int×Int)},SP (Lt A) A x l->SP (Lt (A.alloc (.cells #[u,v] 23))) (A.alloc (.cells #[u,v] 23)) x l:=λh=>Sl.imp (h.later e) (λb m=>Zl m e.size) λ_ _ x=>x;refine⟨some ⟨A,0,none⟩,2,rfl,Zj _,d!,λi x d=>?_⟩
 match i,d with
 |0,d=>
  cases d;refine⟨A,0,[u],rfl,by simp[Lt],rfl,λj y c=>?_,u,rfl,f k⟩;cases j with
  |zero=>cases c;exact cn A #[u,v] 23 rfl
  |succ j=>cases c
 |1,d=>
  cases d;refine⟨A,0,[v],rfl,by simp[Lt],rfl,λj y c=>?_,v,rfl,f g⟩;cases j with
  |zero=>cases c;exact cn A #[u,v] 23 rfl
  |succ j=>cases c
def Ge (h:SI (Cb n A) A v l)(c:Bl A B):SI (Cb n B) B v l:=Sl.imp (h.later c) (λb a=>⟨a.1,Zl a.2 c.size⟩) λ_ _ x=>x
def q_ {x:Zf}{c:List Int}(k:SI (Lt A) A u a)(h:SI (Lt A) A v b)(g:SI (Lt A) A x c):SL (Lt (A.alloc (.cells #[u,v,x] 22))) (A.alloc (.cells #[u,v,x] 22)) (U A 3 3) [a,b,c]:=by
 have f:Bl A (A.alloc (.cells #[u,v,x] 22)):=bA (Zh _ _);refine⟨some ⟨A,0,none⟩,3,rfl,Zj _,d!,λi y e=>?_⟩
 match i,e with
 |0,e=>
  cases e;refine⟨A,0,[u],rfl,by simp[Lt],rfl,λj z d=>?_,u,rfl,IW k f⟩;cases j with
  |zero=>cases d;exact cn A #[u,v,x] 22 rfl
  |succ j=>cases d
 |1,e=>
  cases e;refine⟨A,0,[v],rfl,by simp[Lt],rfl,λj z d=>?_,v,rfl,IW h f⟩;cases j with
  |zero=>cases d;exact cn A #[u,v,x] 22 rfl
  |succ j=>cases d
 |2,e=>
  cases e;refine⟨A,0,[x],rfl,by simp[Lt],rfl,λj z d=>?_,x,rfl,IW g f⟩;cases j with
  |zero=>cases d;exact cn A #[u,v,x] 22 rfl
  |succ j=>cases d
def acw (g:SI (Lt A) A u a)(f:SI (Lt A) A v b):SL (Lt (A.alloc (.cells #[u,v] 22))) (A.alloc (.cells #[u,v] 22)) (U A 2 2) [a,b]:=by
 have e:Bl A (A.alloc (.cells #[u,v] 22)):=bA (Zh _ _);refine⟨some ⟨A,0,none⟩,2,rfl,Zj _,d!,λi y d=>?_⟩
 match i,d with
 |0,d=>
  cases d;refine⟨A,0,[u],rfl,by simp[Lt],rfl,λj z c=>?_,u,rfl,IW g e⟩;cases j with
  |zero=>cases c;exact cn A #[u,v] 22 rfl
  |succ j=>cases c
 |1,d=>
  cases d;refine⟨A,0,[v],rfl,by simp[Lt],rfl,λj z c=>?_,v,rfl,IW f e⟩;cases j with
  |zero=>cases c;exact cn A #[u,v] 22 rfl
  |succ j=>cases c
def apZ {w1 V:Zb}(g:RC (Cb n w1) w1 v1 v2 v3 v4 v5 c)(j:Bl w1 V)(h:Jr V)(e:∀i,i<c.Aa.length->(Aj c.Aa i).over.length<=1000):
  Calls Lp 29 #[.agg #[v1,v2,v3,v4,v5],U (V+1+1+1:Nat) 3 3] ((((V.alloc (.cells #[.int J 0,.int J 1,.int J 0] 3)).alloc (.cells #[.int J 0,.int J 2,.int J 0] 3)).alloc (.cells #[.int J 0,.int J 0,.int J 0] 3)).alloc (.cells #[U V 3 3,U (V+1:Nat) 3 3,U (V+1+1:Nat) 3 3] 22))
   (Two ((((V.alloc (.cells #[.int J 0,.int J 1,.int J 0] 3)).alloc (.cells #[.int J 0,.int J 2,.int J 0] 3)).alloc (.cells #[.int J 0,.int J 0,.int J 0] 3)).alloc (.cells #[U V 3 3,U (V+1:Nat) 3 3,U (V+1+1:Nat) 3 3] 22)) (.tuple #[.int J (Eu c [[0,1,0],[0,2,0],[0,0,0]]).1,.int J (Eu c [[0,1,0],[0,2,0],[0,0,0]]).2,.int J (F2 c [[0,1,0],[0,2,0],[0,0,0]])])):=by
 have m:SI (Lt (V.alloc (.cells #[.int J 0,.int J 1,.int J 0] 3))) _ _ [0,1,0]:=H8 (X:=V) [0,1,0] d!;have l:SI (Lt ((V.alloc (.cells #[.int J 0,.int J 1,.int J 0] 3)).alloc (.cells #[.int J 0,.int J 2,.int J 0] 3))) _ _ [0,2,0]:=H8 (X:=V.alloc (.cells #[.int J 0,.int J 1,.int J 0] 3)) [0,2,0] d!;have k:SI (Lt (((V.alloc (.cells #[.int J 0,.int J 1,.int J 0] 3)).alloc (.cells #[.int J 0,.int J 2,.int J 0] 3)).alloc (.cells #[.int J 0,.int J 0,.int J 0] 3))) _ _ [0,0,0]:=H8 (X:=(V.alloc (.cells #[.int J 0,.int J 1,.int J 0] 3)).alloc (.cells #[.int J 0,.int J 2,.int J 0] 3)) [0,0,0] d!;have a:=q_ (IW (IW m (bA (Zh _ _))) (bA (Zh _ _))) (IW l (bA (Zh _ _))) k;simp only[ZB,zb,zR,zN,ZaF]at a;have d:=bA (o:=.cells #[U V 3 3,U (V+1:Nat) 3 3,U (V+1+1:Nat) 3 3] 22) (bA (o:=.cells #[.int J 0,.int J 0,.int J 0] 3) (bA (o:=.cells #[.int J 0,.int J 2,.int J 0] 3) (bA (o:=.cells #[.int J 0,.int J 1,.int J 0] 3) (Zh V V))));exact c34 (Vs g (bT j d)) a (λb f=>f) (h.later d) e
def aiy (d:SI (Cb n X) X v a)(l:List Int)(hl:l.length<=1000):Calls Lp 18 #[v,U X l.length l.length] (X.alloc (.cells (l.map (ZL J)).toArray 3)) λe w'=>e=.returned (.bool (Ke a l))/\Bl X w':=
 (c46 (Ge d (bA (Zh _ _))) (H8 l hl) (λb c=>c.2) λb c=>c).mono λe w' ⟨g,f⟩=>⟨g,bT (bA (Zh _ _)) f⟩
def aq0 {a:List (List Int)}(i:SL (Cb n X) X v a):
  Calls Lp 16 #[v,U (X+1+1:Nat) 2 2] (((X.alloc (.cells #[.int J 2,.int J 0,.int J 1] 3)).alloc (.cells #[.int J (-2),.int J 0,.int J 1] 3)).alloc (.cells #[U X 3 3,U (X+1:Nat) 3 3] 22)) λe w'=>e=.returned (.bool (O' a [[2,0,1],[-2,0,1]]))/\Bl X w':=by
 have f:SI (Lt (X.alloc (.cells #[.int J 2,.int J 0,.int J 1] 3))) _ _ [2,0,1]:=H8 (X:=X) [2,0,1] d!;have d:SI (Lt ((X.alloc (.cells #[.int J 2,.int J 0,.int J 1] 3)).alloc (.cells #[.int J (-2),.int J 0,.int J 1] 3))) _ _ [-2,0,1]:=H8 (X:=X.alloc (.cells #[.int J 2,.int J 0,.int J 1] 3)) [-2,0,1] d!;have g:=acw (IW f (bA (Zh _ _))) d;simp only[ZB,zb,zR,zN,ZaF]at g;have h:=bA (o:=.cells #[U X 3 3,U (X+1:Nat) 3 3] 22) (bA (o:=.cells #[.int J (-2),.int J 0,.int J 1] 3) (bA (o:=.cells #[.int J 2,.int J 0,.int J 1] 3) (Zh X X)));exact(c37 (Ok i h) g (λb c=>c.2) λb c=>c).mono λe w' ⟨f,d⟩=>⟨f,bT h d⟩
def acx:Ke [43,28] [43,28]=true:=d!
def acy:Ke [1,0,2] [1,0,2]=true:=d!
def acz:O' [[2,0,1],[-2,0,1]] [[2,0,1],[-2,0,1]]=true:=d!
variable {p:Option Addr}
def aiz {d:Nat}(a:SI (Cb n X) X (U p 2 d) [43,28]):Calls Lp 18 #[U p 2 d,U X 2 2] (X.alloc (.cells #[.int J 43,.int J 28] 3)) λe w'=>e=.returned (.bool true)/\Bl X w':=by
 have h:=aiy a [43,28] d!;rw[acx]at h;exact h
def aiA {d:Nat}(a:SI (Cb n X) X (U p 3 d) [1,0,2]):Calls Lp 18 #[U p 3 d,U X 3 3] (X.alloc (.cells #[.int J 1,.int J 0,.int J 2] 3)) λe w'=>e=.returned (.bool true)/\Bl X w':=by
 have h:=aiy a [1,0,2] d!;rw[acy]at h;exact h
def aiB {d:Nat}(a:SL (Cb n X) X (U p 2 d) [[2,0,1],[-2,0,1]]):
  Calls Lp 16 #[U p 2 d,U (X+1+1:Nat) 2 2] (((X.alloc (.cells #[.int J 2,.int J 0,.int J 1] 3)).alloc (.cells #[.int J (-2),.int J 0,.int J 1] 3)).alloc (.cells #[U X 3 3,U (X+1:Nat) 3 3] 22)) λe w'=>e=.returned (.bool true)/\Bl X w':=by
 have h:=aq0 a;rw[acz]at h;exact h
def c26 (w:Zb)(hG:Jr w):Calls Lp 6 #[] w (Two w (.bool true)):=by
 obtain⟨C,hC⟩:=Qnm (Ft 2 2 1);have fa:=g_asked;have fg:=g_girths;have fr:=g_ready;have fo:=g_order;have fv:=g_orderV;have e1:=g_fitsE;have e2:=g_fitsV;have e3:=g_begin;have e4:=g_sing;have e5:=g_sea;have e6:=g_write;have e7:=g_asked2;have e8:=g_lastsV;have e9:=g_lastsE;have e0:=g_over;have ck:=Zd (c84 2 2 1 w);rw[<-hC]at fa fg fr fo fv e0 e1 e2 e3 e4 e5 e6 e7 e8 e9 ck;clear hC;have dl:=Zd (ZY fa fg);have P:=Zd (ZY fr (ZY fo fv));have ct:=Zd (ZY e1 e2);have k:=Zd (ZY e3 (ZY e4 (ZY e5 e0)));have co:=Zd (ZY e6 e7);have Q:=Zd (show Eu C [[0,1,0],[0,2,0],[0,0,0]]=(2,0)/\F2 C [[0,1,0],[0,2,0],[0,0,0]]=0/\∀i,i<C.Aa.length->(Aj C.Aa i).over.length<=1000 from⟨e8,e9,e0⟩);clear fa fg fr fo fv e0 e1 e2 e3 e4 e5 e6 e7 e8 e9;have m1:=Yz;go_enter Lp.func26,n26;go_wp2_with (go_at_call 19;refine ck.out.mono ?_;rintro e w1 ⟨u1,u2,u3,u4,u5,rfl,Bg,y⟩;obtain⟨N,E,M,D,L,B,K,A,I,z,rfl,rfl,rfl,rfl,rfl,_⟩:=y.vs);obtain⟨X,a⟩:=Qnm (w1.alloc (.cells (Qe6 C N E M D L B K A I z) 26));have hz:w1+1=X.heap.size:=by rw[a];simp
 have Ov:Bl w1 X:=by rw[a];exact bA (Zh _ _)
 have hK:X.heap[w1.heap.size]?=some (.cells (Qe6 C N E M D L B K A I z) 26 (0,0)):=by rw[a];exact Bp _ _
 rw[hz, <-a];clear a;refine(apW y Ov [1,-1,1] d!).mono ?_;rintro e w3 ⟨v3,rfl,R,Vr⟩;rw[dl.out.1];rw[dl.out.2]at Vr;obtain⟨p3,d3,rfl,_⟩:=Vr.val;have H:=bT (bA (Zh X X)) R;have G:=bT Ov H;have F1:w3.heap[w1.heap.size]?=some (.cells (Qe6 C N E M D L B K A I z) 26 (0,0)):=(H.block _ o!).trans hK;have l9:=Vr;clear R Vr H hK;obtain⟨z0,z1,z2,z3,z4⟩:=Qz5 F1;dsimp only;go_wp2;refine G6 (S:=λW=>∃p,W=calm w3 p) [0] 8 #[true,false,false,false,false,false,false,false,false] k! (λ_ _ d _ _ h=>by cases d<;>exact h) k! (AL (Zh _ _).drew) ?_;refine A4 _ _ k! ?_;simp only[Z6,zd,ZG,ZD,ZC]
 repeat (first|go_big_quiet_step (fail)|quiet_step (fail))
 refine Z4 ?_;clear z0 z1 z2 z3 z4;change Cy _ _ _ _ _ _ _ _ _;obtain⟨V,u⟩:=Qnm w3.drew;have a:Bl w3 V:=by rw[u];exact(Zh _ _).drew
 rw[<-u];clear u;refine AK [1,2] k! i! (Ix ?gA ?gB)
 case' gA=>
  refine EX (v:=.slice V 3 3) (w':=V.alloc (.cells #[.int J 0,.int J 0,.int J 0] 3)) rfl rfl g! ?_;have l:=H8 (X:=V) [0,0,0] d!;obtain⟨c,gF⟩:=Qnm (V.alloc (.cells #[.int J 0,.int J 0,.int J 0] 3));replace l:SI (Lt c) c (U V 3 3) [0,0,0]:=by rw[gF];exact l
  have Ia:Bl V c:=by rw[gF];exact bA (Zh _ _)
  rw[<-gF];clear gF;replace a:=bT a Ia;obtain⟨n1,Vl⟩:=Qnm V.heap.size;rw[<-Vl]at l⊢;clear Vl Ia;refine⟨AL a,?_⟩;refine AK [2] k! i! (BF ?_);refine DK (f:=24) (args:= #[.int J 38,.int J 40,.int J 25,.int J 30]) rfl rfl g! ((c85 38 40 25 30 c).mono ?_);rintro e t ⟨rfl,T,g⟩;obtain⟨n2,Xo⟩:=Qnm c.heap.size;rw[<-Xo]at g⊢;clear Xo;replace a:=bT a T;refine .inl ⟨_,rfl,AL a,?_⟩;replace l:=IW l T;replace g:=Sl.imp g (λb m=>show b<t from m.2) (λ_ _ x=>x);clear T
 case' gB=>
  refine DK (f:=24) (args:= #[.int J 38,.int J 40,.int J 25,.int J 30]) rfl rfl g! ((c85 38 40 25 30 V).mono ?_);rintro e c ⟨rfl,T,g⟩;obtain⟨n2,Xo⟩:=Qnm V.heap.size;rw[<-Xo]at g⊢;clear Xo;replace a:=bT a T;refine .inl ⟨_,rfl,AL a,?_⟩;refine AK [1] k! i! (BF ?_);refine EX (v:=.slice c 3 3) (w':=c.alloc (.cells #[.int J 0,.int J 0,.int J 0] 3)) rfl rfl g! ?_;have l:=H8 (X:=c) [0,0,0] d!;obtain⟨t,s⟩:=Qnm (c.alloc (.cells #[.int J 0,.int J 0,.int J 0] 3));replace l:SI (Lt t) t (U c 3 3) [0,0,0]:=by rw[s];exact l
  have O:Bl c t:=by rw[s];exact bA (Zh _ _)
  rw[<-s];clear s;replace a:=bT a O;replace g:=Sl.imp (g.later O) (λb m=>show b<t from Zl m.2 O.size) (λ_ _ x=>x);obtain⟨n1,Vl⟩:=Qnm c.heap.size;rw[<-Vl]at l⊢;clear Vl O T;refine⟨AL a,?_⟩
 all_goals
  refine AK [3] k! i! (BF ?_);refine DK (f:=23) (args:= #[.agg (Qe6 C N E M D L B K A I z),U n1 3 3,U n2 2 2]) rfl rfl g! ((c62 (Vs y (bT G a)) l g (λb m=>m)).mono ?_);rintro e V5 ⟨rfl,ci⟩;rw[ct.out.1,ct.out.2];replace a:=bT a ci;refine .inl ⟨_,rfl,AL a,?_⟩;refine cG (ls:=[4,5,6,7,8]) k! (λ_ _ d _ _ h=>by cases d<;>exact h) (AL a) ?_;refine CB (v:=.tuple #[.bool true,.int J 0]) rfl rfl (λw _=>g!) ?_;refine CB (v:=.bool true) rfl rfl (λw _=>g!) ?_;refine CB (v:=.int J 0) rfl rfl (λw _=>g!) ?_;refine CB (v:=.bool true) rfl rfl (λw _=>g!) ?_;refine CB (v:=.int J 0) rfl rfl (λw _=>g!) ?_;have fG:=(a.block _ (Za.1 F1).1).trans F1;have Tf:=bT G a;have bU:=Ge l9 a;clear a ci l g F1 G l9;unfold MQ
  go_simp
  obtain⟨k0,k1,k2,k3,Z⟩:=Qc5 fG;go_wp2;refine(apX y Tf [1,-1,1] d! (λ_=>⟨_,P.out.2.1⟩)).mono ?_;rintro e w6 ⟨v6,rfl,DM,oy⟩;rw[P.out.1];rw[P.out.2.2]at oy;obtain⟨p6,d6,rfl,_⟩:=oy.val;have Vf:=bT (bA (Zh V5 V5)) DM;have Qo:=bT Tf Vf;have JB:w6.heap[w1.heap.size]?=some (.cells (Qe6 C N E M D L B K A I z) 26 (0,0)):=(Vf.block _ (Za.1 fG).1).trans fG;have bv:=Ge bU Vf;have ap:=oy;clear DM oy Vf fG Tf bU k0 k1 k2 k3 Z;obtain⟨z0,z1,z2,z3,z4⟩:=Qz5 JB;dsimp only;go_wp2;refine G6 (S:=λW=>∃p,W=calm w6 p) [0] 11 #[true,false,false,false,false,false,false,false,false,false,false,false] k! (λ_ _ d _ _ h=>by cases d<;>exact h) k! (AL (Zh _ _).drew) ?_;refine A4 _ _ k! ?_;simp only[Z6,zd,ZG,ZD,ZC]
  repeat (first|go_big_quiet_step (fail)|quiet_step (fail))
  refine Z4 ?_;clear z0 z1 z2 z3 z4;change Cy _ _ _ _ _ _ _ _ _;obtain⟨V,u⟩:=Qnm w6.drew;have a:Bl w6 V:=by rw[u];exact(Zh _ _).drew
  rw[<-u];clear u;refine AK [1] k! i! (BF ?_);refine DK (f:=24) (args:= #[.int J 46,.int J 46,.int J 30,.int J 30]) rfl rfl g! ((c85 46 46 30 30 V).mono ?_);rintro e c ⟨rfl,Bb,g⟩;obtain⟨na,rK⟩:=Qnm V.heap.size;rw[<-rK]at g⊢;clear rK;replace a:=bT a Bb;refine .inl ⟨_,rfl,AL a,?_⟩;refine AK [2] k! i! (BF ?_);refine DK (f:=24) (args:= #[.int J 36,.int J 36,.int J 30,.int J 30]) rfl rfl g! ((c85 36 36 30 30 c).mono ?_);rintro e r ⟨rfl,R,o⟩;obtain⟨nb,bc⟩:=Qnm c.heap.size;rw[<-bc]at o⊢;clear bc;replace a:=bT a R;refine .inl ⟨_,rfl,AL a,?_⟩;replace g:SP (Lt r) r (U na 2 2) [(46,46),(30,30)]:=Sl.imp (g.later R) (λb m=>Zl m.2 R.size) (λ_ _ x=>x);replace o:SP (Lt r) r (U nb 2 2) [(36,36),(30,30)]:=Sl.imp o (λb m=>m.2) (λ_ _ x=>x);have q:=vu g o;refine AK [3] k! i! (BF ?_);refine EX (v:=.slice r 2 2) (w':=r.alloc (.cells #[U na 2 2,U nb 2 2] 23)) rfl rfl g! ?_;obtain⟨t,s⟩:=Qnm (r.alloc (.cells #[U na 2 2,U nb 2 2] 23));have O:Bl r t:=by rw[s];exact bA (Zh _ _)
  rw[<-s]at q⊢;clear s;obtain⟨nc,ba⟩:=Qnm r.heap.size;rw[<-ba]at q⊢;replace a:=bT a O;clear ba O Bb R g o;refine⟨AL a,?_⟩;refine AK [4] k! i! (BF ?_);refine DK (f:=30) (args:= #[.agg (Qe6 C N E M D L B K A I z),U nc 2 2]) rfl rfl g! ((c41 (Vs y (bT Qo a)) q (λb m=>m) k.out.1 d! k.out.2.1 k.out.2.2.2).mono ?_);rintro e V5 ⟨Cj,⟨v5,rfl,NK⟩|⟨x,rfl,Ss⟩⟩
  .have hN:qW C [[((46:Int),(46:Int)),(30,30)],[(36,36),(30,30)]]=3:=by unfold qW;rw[k.out.2.2.1]
   have hE:qX C [[((46:Int),(46:Int)),(30,30)],[(36,36),(30,30)]]=0:=by unfold qX;rw[k.out.2.2.1]
   have hL:qV C [[((46:Int),(46:Int)),(30,30)],[(36,36),(30,30)]]=[[2,0,1],[-2,0,1]]:=by unfold qV;rw[k.out.2.2.1]
   rw[hN,hE];rw[hL]at NK;clear hN hE hL;obtain⟨p8,d8,rfl,_⟩:=Sl.val NK;replace a:=bT a Cj;refine .inl ⟨_,rfl,AL a,?_⟩;refine cG (ls:=[5,6,7,8,9,10,11]) k! (λ_ _ d _ _ h=>by cases d<;>exact h) (AL a) ?_;refine CB (v:=.tuple #[U p8 2 d8,.int J 3,.int J 0]) rfl rfl (λw _=>g!) ?_;refine CB (v:=.slice p8 2 d8) rfl rfl (λw _=>g!) ?_;refine CB (v:=.int J 3) rfl rfl (λw _=>g!) ?_;refine CB (v:=.int J 0) rfl rfl (λw _=>g!) ?_;refine CB (v:=.slice p8 2 d8) rfl rfl (λw _=>g!) ?_;refine CB (v:=.int J 3) rfl rfl (λw _=>g!) ?_;refine CB (v:=.int J 0) rfl rfl (λw _=>g!) ?_;have T9:=(a.block _ (Za.1 JB).1).trans JB;have F:=bT Qo a;have bi:=Ge bv a;have an:=Ge ap a;clear a Cj q JB Qo bv ap;unfold MQ
   go_simp
   obtain⟨k0,k1,k2,k3,Z⟩:=Qc5 T9;go_wp2;refine(apY y F [2,-1,0] d!).mono ?_;rintro e Y ⟨rfl,Jn⟩;rw[co.out.1,co.out.2];have j:=bT (bA (Zh V5 V5)) Jn;have vv:=bT F j;have rT:Y.heap[w1.heap.size]?=some (.cells (Qe6 C N E M D L B K A I z) 26 (0,0)):=(j.block _ (Za.1 T9).1).trans T9;have be:=Ge bi j;have am:=Ge an j;have xx:=Ok NK j;clear Jn j T9 F bi an NK k0 k1 k2 k3 Z;obtain⟨k0,k1,k2,k3,Z⟩:=Qc5 rT;dsimp only;go_wp2;refine(apZ y vv (hG.later (bT Bg vv)) Q.out.2.2).mono ?_;rintro e w9 ⟨Jx,rfl|⟨x,rfl,Ss⟩⟩
   .rw[Q.out.1,Q.out.2.1]
    have n:=bT (bA (bA (bA (bA (Zh Y Y))))) Jx;have du:=bT Bg (bT vv n);have r_:=Ge be n;have ai:=Ge am n;have ac:=Ok xx n;clear Jx n rT be am xx k0 k1 k2 k3 Z;dsimp only;have m1:=Yz;go_wp2_with (first|(go_at_call 18;clear m1;refine(aiz r_).mono ?_;rintro e fm ⟨rfl,O5⟩;have b9:=Ge ai O5;have b8:=Ok ac O5;have ed:=bT du O5;clear r_ ai ac O5)|(go_at_call 18;refine(aiA b9).mono ?_;rintro e fi ⟨rfl,Ua⟩;have bV:=Ok b8 Ua;have iC:=bT ed Ua;clear b9 b8 Ua)|(go_at_call 16;refine(aiB bV).mono ?_;rintro e fd ⟨rfl,bK⟩;have ea:=bT iC bK;clear bV bK));go_ret;exact⟨ea,.inl rfl⟩
   exact⟨rfl,bT Bg (bT vv (bT (bA (bA (bA (bA (Zh Y Y))))) Jx)),.inr ⟨_,rfl,Ss⟩⟩
  refine .inr ⟨x,rfl,?_⟩;exact⟨rfl,bT Bg (bT (bT Qo a) Cj),.inr ⟨_,rfl,Ss⟩⟩
end Go.Proofs.Fit
