/- Part of a proof. -/
import Derived.Test.YtdhgoldgnnpnmaaGreatDoorQ09
set_option maxRecDepth 100000
set_option maxHeartbeats 6400000
noncomputable section
set_option linter.all false
open And renaming intro->ZY
open Array renaming getElem?_eq_some_iff->Za,toList_setIfInBounds->ZcM,getElem?_eq_getElem->Zx
open Go renaming TypeId->Zs,World->Zb,Value->Zf,info_parts->zp,wpList_append_own->Yc,wpQuiet_nil->Z4,wp_append_own->Zak,bodyPost_ret->ZN,undef->Ze,ownsRow_succ->Zay
open Go.Addr renaming add->Zcu
open Go.Ending renaming returned->Zbx
open Go.IntKind renaming wrap_i64->zE,i64->J
open Go.Lib renaming hid->Zd
open Go.Obj renaming cells->Zbi,cells->C
open Go.Proofs.Tryz renaming underlying22->YE,underlying25->Zdg,underlying51->Zcz
open Go.RowKit.Below renaming heap_alloc->zD,refl->Zh
open Go.Value renaming int->ZL,oneCell'->YT,slice->Zy,slice->U,int->I
open Go.World renaming ownsRow_made->YC,ownsRow_nil->zq,block_lt_of_cell?->ZH,size_alloc->ZB
open Go.World.ownsRow renaming alloc->Ya,lt->Zcm
open List renaming getElem?_take_of_lt->Z2,getElem?_map->YL,length_set->ZcC,ext_getElem?->YA,getElem?_eq_none_iff->ZcZ,getElem?_eq_some_iff->Zm,getElem?_drop->Yl,nil_append->zP,getD_eq_getElem?_getD->Y6,getElem?_append_left->zl,filterMap_cons->Z6,filterMap_nil->zd,getElem?_toArray->ZG,getElem?_cons_succ->ZD,getElem?_cons_zero->ZC,length_append->ZA,map_append->Zai,drop_eq_getElem_cons->ZO,length_cons->zb,length_nil->zR,getElem?_concat_length->Y1,take_of_length_le->Zb3,take_add_one->ZbH,take_length->ZcU,mem_append->Zab,mem_singleton->Yh,range->Yr,getElem?_set_self->Ys,getElem?_set_ne->ZS,getElem?_append_right->Zbr,drop_eq_nil_iff->Z7,append_nil->ZaA,getElem?_eq_none->ZP,take_zero->ZdB,mem_of_getElem?->Z3,pairwise_iff_getElem->ZdK,getElem?_eq_getElem->zf,mem_cons_self->zC,mem_cons_of_mem->zm,flatMap_append->Zbe
open Nat renaming le_trans->Zr,lt_of_lt_of_le->Zl,le_refl->Zj,zero_le->Zp,zero_add->zN
open Option.some renaming inj->ZW
open True renaming intro->Yz
namespace Go.Proofs.Fit
open Go Go.RowKit
variable {q n k b i d r m x g gi:Nat}
variable {e:Zs}
variable {A B w W:Zb}
variable {v u v1 v2 v3 v4 v5 lv u1 u2 u4 u5:Zf}
variable {xs:List Zf}
def D2 {base:Nat}(h:A.ownsRow base e k v n xs)(hB:B3 q A B)(hq:q<base):B.ownsRow base e k v n xs:=by
 refine⟨h.1,?_⟩;rcases h.2 with h1|⟨g,cap,cur,h1,h2,h3,h4⟩
 .exact .inl h1
 exact .inr ⟨g,cap,cur,h1,h2,(hB.block g (Za.1 h3).1 (by omega)).trans h3,h4⟩
def Fu {base:Nat}(h:A.ownsRow base e k v n xs)(hB:Bl A B):B.ownsRow base e k v n xs:=by
 refine⟨h.1,?_⟩;rcases h.2 with h1|⟨g,cap,cur,h1,h2,h3,h4⟩
 .exact .inl h1
 exact .inr ⟨g,cap,cur,h1,h2,(hB.block g (Za.1 h3).1).trans h3,h4⟩
def B3.grown {row:Option Nat}(h:B3 q w A)(hg:A.grownBy B row)(hr:∀k,row=some k->w.heap.size<=k):B3 q w B:=
 ⟨hg.os.trans h.os,hg.tape.trans h.tape,hg.output.trans h.output,Zr h.size hg.size,fun k hk hq=>(hg.block k (Zl hk h.size) (fun e=>absurd (hr k e.symm) (by omega))).trans (h.block k hk hq)⟩
def B3.trans {w' Xd:Zb}(h:B3 b w w')(k:B3 b w' Xd):B3 b w Xd:=⟨k.os.trans h.os,k.tape.trans h.tape,k.output.trans h.output,Zr h.size k.size,fun q hq BL=>(k.block q (Zl hq h.size) BL).trans (h.block q hq BL)⟩
def B3.D4 (h:B3 b w W)(hq:w.heap.size<=q):B3 b w (W.setCell ⟨q,i,none⟩ v):=⟨h.os,h.tape,h.output,by simpa using h.size,fun x hx yU=>(AZ (by omega) _).trans (h.block x hx yU)⟩
def Ak.DT (h:Ak (fun x=>x=q) w W):Ak (fun x=>x=q) w (W.setCell ⟨q,i,none⟩ v):=h.set rfl
def B3.at_ {o:Obj}(h:B3 q w W)(hk:w.heap[k]?=some o)(hq:k≠q):W.heap[k]?=some o:=(h.block k (Za.1 hk).1 hq).trans hk
def BK.lt {w:Zb}{b d:Nat}{v:Zf}(h:BK w b v d):b<w.heap.size:=by
 obtain⟨st,h⟩:=h;exact(Za.1 h).1
def BK.later (h:BK w b v d)(hB:Bl w W):BK W b v d:=by
 have hl:=h.lt;obtain⟨st,h⟩:=h;exact⟨st,(hB.block b hl).trans h⟩
def BK.of (h:BK w b v d)(hB:W.heap[b]?=w.heap[b]?):BK W b v d:=by
 obtain⟨st,h⟩:=h;exact⟨st,hB.trans h⟩
variable {α:Type}
variable {S K Sn T:Nat->Prop}
def Sl.Cn {R:Zb->List Zf->α->Prop}{l:List α}(h:Sl S R k w v l)(hB:B3 b w W)(hS:∀x,S x->x<w.heap.size/\x≠b)(hR:∀cs x,R w cs x->R W cs x):Sl S R k W v l:=
 h.Ar (hB.same fun x hx=>(hS x hx).2) hR
variable {o l nums over:List Int}
def SI.Cn (h:SI S w v l)(hB:B3 b w W)(hS:∀x,S x->x<w.heap.size/\x≠b):SI S W v l:=Sl.Cn h hB hS fun _ _ x=>x
def Li (hB:B3 b w W)(hS:∀x,S x->x<w.heap.size/\x≠b):∀x,S x->x<W.heap.size/\x≠b:=fun x hx=>⟨Zl (hS x hx).1 hB.size,(hS x hx).2⟩
structure Tw (K:Nat->Prop)(w:Zb)where
 v:Zb
 CN:Ak K w v
instance {K:Nat->Prop}{w:Zb}:Nonempty (Tw K w):=⟨⟨w,Ak.refl K w⟩⟩
def Tw.cell (p:Tw K w){a:Addr}(h:w.cell? a=some u)(hk:¬K a.block):p.v.cell? a=some u:=(p.CN.same (S:=fun b=>¬K b) (fun b hb=>hb)).cell hk h
def A5 (h:Ak K w W):∃p:Tw K w,W=p.v:=⟨⟨W,h⟩,rfl⟩
def B3.CN (h:B3 q w W)(hK:K q):Ak K w W:=⟨h.os,h.tape,h.output,h.size,fun k hk hn=>h.block k hk fun e=>hn (e▸hK)⟩
def kX {o:Obj}(h:b<w.heap.size):(w.alloc o).heap[b]?=w.heap[b]? :=zD w o b h
def Dj (w:Zb)(v:Zf)(t:Zs):∀j u,[v][j]?=some u->(w.alloc (C #[v] t)).cell? ((⟨w.heap.size,0,none⟩:Addr).add j)=some u:=by
 intro j u hj;cases j with
 |zero=>
  cases hj;exact cn _ _ _ rfl
 |succ j=>cases hj
def Own (w:Zb)(base:Nat)(v:Zf)(l:List Int):Prop:=w.ownsRow base 3 1 v l.length (l.map (ZL J))
def Own.val {base:Nat}(h:Own w base v l)(hp:0<l.length):∃g cap cur,v=.slice (some ⟨g,0,none⟩) l.length cap/\base<=g/\w.heap[g]?=some (.cells cur 3 (0,0))/\l.length<=cap/\cap<=maxLen/\(∀i,i<l.length->cur[i]?=some (.int J (nth l i)))/\
  ∀i x,i<l.length->Own (w.setCell ⟨g,i,none⟩ (.int J x)) base v (l.set i x):=by
 rcases h.2 with⟨_,h2⟩|⟨g,cap,cur,rfl,h2,h3,h4,h5,h6,h7⟩
 .omega
 have hc:∀i,i<l.length->cur[i]?=some (.int J (nth l i)):=fun i hi=>by
  have e:(cur.toList.take (l.length*1))[i]?=(l.map (ZL J))[i]? :=by rw[h7]
  rw[Z2 (by omega),YL,Bn hi]at e;simpa using e
 refine⟨g,cap,cur,rfl,h2,h3,h4,h5,hc,fun i x hi=>⟨by simp,.inr ⟨g,cap,cur.setIfInBounds i (.int J x),by simp,h2,Ba h3 _,by simpa using h4,h5,by simpa using h6,?_⟩⟩⟩;rw[ZcM,ZcC,List.take_set,h7,List.map_set]
def Own.si {base:Nat}(h:Own w base v l):SI (Cb base w) w v l:=eC h
def Own.Cn {base:Nat}(h:Own w base v l)(hB:B3 q w W)(hq:q<base):Own W base v l:=D2 h hB hq
def Own.later {base:Nat}(h:Own w base v l)(hB:Bl w W):Own W base v l:=Fu h hB
def kY {R:Zb->List Zf->Int->Prop}{news:List Zf}(hn:news.length=l.length*1)(h:∀i x,l[i]?=some x->(news.drop (i*1)).take 1=[.int J x]):news=l.map (ZL J):=by
 apply YA;intro i;rw[YL];cases hx:l[i]? with
 |none=>
  rw[ZcZ]at hx;rw[ZcZ.2 (by omega)]
  rfl
 |some x=>
  have:=h i x hx;have hi:=(Zm.1 hx).1;have e:((news.drop (i*1)).take 1)[0]?=some (.int J x):=by rw[this];rfl
  rw[Z2 (by omega),Yl]at e;simpa using e
def WO (h:Sl S Ri 1 w v l)(hlen:l.length<=1000):Calls Lp 47 #[v] w fun e w'=>∃u,e=.returned u/\Bl w w'/\Own w' w.heap.size u l:=by
 obtain⟨a,c,rfl,l1,m1⟩:=h.val;obtain⟨i0,hi,Fl,DR,EB⟩:=zp KY;have hu:=Cz YE;cases a with
 |none=>
  have hl:l=[]:=by
   cases l with
   |nil=>rfl
   |cons x r=>
    obtain⟨a',c',h1,_,_,h4⟩:=h;cases h1;obtain⟨b,o,cs,e,_⟩:=h4 0 x rfl;cases e
  subst hl;go_enter Lp.func32,n32;go_wp2;go_ret;exact⟨_,rfl,bA (Zh _ _),YC w #[] 0 (Zj _) (Zp _) rfl⟩
 |some ad=>
  obtain⟨news,hn,hR,hc⟩:=Sl.row h (by decide) ad rfl;have h1:=row_one (by decide) hn hR pJ;have HC:=Zd hc;have uz:=kY (R:=Ri) hn hR;clear hc hR;go_enter Lp.func32,n32;go_wp2_with (at_builtin;refine Yc _ rfl _ _ 22 rfl w.heap.size 3 i0 (.int J 0) 1 8 hu (Dz hi) Fl DR EB rfl (by decide) _ 0 [] rfl (YC w #[] 0 (Zj _) (Zp _) rfl) ad l.length c news rfl hn (fun j u hj=>ca (HC.out j u hj) _) h1 (by unfold maxLen;omega) (by omega) (by simp) ?_;intro v' w1 Bi AG Gc);have hB:Bl w w1:=Bm (bA (Zh _ _)) AG (fun k hk=>by cases hk;exact Zj _) (by simp);rw[zN,zP,uz]at Bi;have HO:=Zd Bi;clear Bi AG Gc;go_ret;exact⟨_,rfl,hB,HO.out⟩
def ahI (w:Zb)(b:Nat)(lv:Zf)(d:Nat)(c:A_)(e:Ending)(w':Zb):Prop:=∃(v:Zf) (l:List Int) (d':Nat),e=.returned v/\B3 b w w'/\BK w' b lv d'/\d'<=d+c.Aa.length/\SI (Cb w.heap.size w') w' v l/\l.length=c.Aa.length/\
 ∀i,i<c.Aa.length->(Aj c.Aa i).low<=nth l i/\((Aj c.Aa i).low<=(Aj c.Aa i).high->nth l i<=(Aj c.Aa i).high)
def qE (l:List Int)(x:Int):nth (l++ [x]) l.length=x:=by simp[nth]
def uQ {r:List Int}(h:i<l.length):nth (l++r) i=nth l i:=by simp[nth,Y6,zl h]
variable {c:A_}
def c30 (h:RC S w v1 v2 v3 v4 v5 c)(hS:∀x,S x->x<w.heap.size/\x≠b)(hn:SI Sn w lv nums)(E8:∀x,Sn x->x<w.heap.size/\x≠b)(hL:BK w b lv d)(hd:d+c.Aa.length<4611686018427387904)(Xm:c.Aa.length<=1000)
 (mK:∀i,i<c.Aa.length->(-1000000<=(Aj c.Aa i).low/\(Aj c.Aa i).low<=1000000)/\-1000000<=(Aj c.Aa i).high/\(Aj c.Aa i).high<=1000000):
  Calls Lp 18 #[.pointer (some ⟨b,0,none⟩),.agg #[v1,v2,v3,v4,v5]] w (ahI w b lv d c):=by
 obtain⟨a1,c1,rfl,l1,m1⟩:=h.base.val;obtain⟨a2,c2,rfl,l2,m2⟩:=h.Af.val;obtain⟨a3,c3,rfl,l3,m3⟩:=h.hooks.val;obtain⟨a4,c4,rfl,l4,m4⟩:=h.Aa.val;obtain⟨a5,c5,rfl,l5,m5⟩:=h.now.val;have IX:=DJ;obtain⟨i0,hi,Fl,DR,EB⟩:=zp KY;have hu:=Cz YE;have GK:=hL.lt;go_enter Lp.func30,n30;go_wp2;obtain⟨W,hW⟩:∃W,W=w.alloc (C #[U a1 c.base.length c1,U a2 c.Af.length c2,U a3 c.hooks.length c3,U a4 c.Aa.length c4,U a5 c.now.length c5] 28):=⟨_,rfl⟩;have hB:Bl w W:=by rw[hW];exact bA (Zh _ _)
 have hX:W.heap[w.heap.size]?=some (C #[U a1 c.base.length c1,U a2 c.Af.length c2,U a3 c.hooks.length c3,U a4 c.Aa.length c4,U a5 c.now.length c5] 28 (0,0)):=by rw[hW];exact Bp _ _
 rw[<-hW];clear hW;go_loopg [5,6] c.Aa.length (fun g v i wr=>∃(k:Nat) (out:List Int) (d':Nat),k<=c.Aa.length/\g=c.Aa.length - k/\i=.int J k/\out.length=k/\(∀j,j<k->(Aj c.Aa j).low<=nth out j/\((Aj c.Aa j).low<=(Aj c.Aa j).high->nth out j<=(Aj c.Aa j).high))/\Own wr (w.heap.size+1) v out/\B3 b w wr/\BK wr b lv d'/\d'<=d+k/\
  wr.heap[w.heap.size]?=some (C #[U a1 c.base.length c1,U a2 c.Af.length c2,U a3 c.hooks.length c3,U a4 c.Aa.length c4,U a5 c.now.length c5] 28 (0,0)))
 case atStart=>exact⟨0,[],d,Zp _,rfl,rfl,rfl,fun j hj=>absurd hj (by omega),zq _ _ _ _,(B3.refl _ _).below hB,hL.later hB,by omega,hX⟩
 obtain⟨k,out,d',hk,rfl,rfl,hol,hob,AX,hU,kZ,Pv,FY⟩:=hrel;have uR:=Zd hol;clear hol;by_cases Az:k<c.Aa.length
 .obtain⟨b4,o4,s2,s3,rfl,UQ,x0,x1,x2,x3,x4,hp,ho⟩:=h.Aa.at_ (i:=k) Az
  have xP:=hU.same (T:=S) (fun x hx=>(hS x hx).2);have y0:=xP.cell (p:=⟨b4,o4+k*5,none⟩) UQ x0;have y1:=xP.cell (p:=⟨b4,o4+k*5+1,none⟩) UQ x1;clear x0 x1 x2 x3 x4 hp ho;obtain⟨T2,Oq⟩:=mK k Az;have aoL:=Zd hob;have HX:∃lo hi,lo=(Aj c.Aa k).low/\hi=(Aj c.Aa k).high:=⟨_,_,rfl,rfl⟩;obtain⟨lo,hg,abO,abP⟩:=HX;rw[<-abO]at y0 T2;rw[<-abP]at y1 Oq;have HE:=Zd (ZY abO abP);clear abO abP hob;have TB:(k:Int)<(c.Aa.length:Int):=by omega
  have ahJ:(0:Int)<=(k:Int):=by omega
  have hbr:=kZ.lt;have ax6:=(hS b4 UQ).2;have mr:w.heap.size≠b:=by omega
  obtain⟨K,Ig⟩:∃K:Nat->Prop,K=fun x=>x=b\/w.heap.size<x:=⟨_,rfl⟩;have fh:K b:=by rw[Ig];exact .inl rfl
  have LP:∀x,w.heap.size<x->K x:=fun x hx=>by rw[Ig];exact .inr hx
  have qF:¬K w.heap.size:=by rw[Ig];intro x;omega
  have Qn:¬K b4:=by rw[Ig];intro x;have:=(hS b4 UQ).1;omega
  clear Ig;have z0:=fun p:Tw K wr=>p.cell (ch (i:=3) FY (v:=.slice (some ⟨b4,o4,none⟩) c.Aa.length c4) rfl) qF;have z1:=fun p:Tw K wr=>p.cell y0 Qn;have z2:=fun p:Tw K wr=>p.cell y1 Qn;obtain⟨va,vc,rfl,_⟩:=AX.si.val;have hzw:=hU.size;have hzb:w.heap.size<wr.heap.size:=(Za.1 FY).1;have kx:=ch (i:=3) FY (v:=.slice (some ⟨b4,o4,none⟩) c.Aa.length c4) rfl;go_wp2;clear kx;refine B0 (S:=fun W=>∃p:Tw K wr,W=p.v) [] [(false,14),(false,15),(false,16),(false,17)] [0,1,2,3,4,5,6,7,8,9,10,11,12,13] (by kernel_rfl) (fun _ _ d _ _ h=>by cases d<;>exact h) (by kernel_rfl) (A5 (Ak.later (Zh _ _).drew)) ?_;refine A4 _ _ (by kernel_rfl) ?_;simp only[Z6,zd,ZG,ZD,ZC]
  repeat (first|go_big_quiet_step (fail)|quiet_step (fail))
  refine Z4 ?_;clear z0 z1 z2 y0 y1;change Dl _ _ _ _ _ _ _;have hUd:B3 b wr wr.drew:=(B3.refl b wr).below (Zh _ _).drew;have hn':=(hn.Cn hU E8).later (Zh wr.heap.size wr).drew;refine Dd (f:=6) (args:= #[.pointer (some ⟨b,0,none⟩),.int J lo,.int J hg]) rfl rfl (by go_simp) ((c61 hn' (Li (hU.trans hUd) E8) (kZ.later (Zh wr.heap.size wr).drew) (by omega) T2 Oq).mono ?_);rintro e w1 ⟨r,d2,rfl,hr,Na,Ue,hd1⟩;have hUr:=hUd.trans Na;have Kd:Ak K wr w1:=hUr.CN fh;refine⟨_,rfl,.inr (A5 Kd),?_⟩;have qG:=AX.Cn hUr (by omega);have abQ:Ak K wr (w1.alloc (C #[.int J (lo+r)] 3)):=Kd.uJ (bA (Zh _ _));refine JZ (v:=.slice (some ⟨w1.heap.size,0,none⟩) 1 1) (w':=w1.alloc (C #[.int J (lo+r)] 3)) rfl rfl (by go_simp) (.inr (A5 abQ)) ?_;refine PW rfl rfl ?_;have k9:=hUr.size;refine Zak _ _ _ 22 rfl (w.heap.size+1) 3 i0 (.int J 0) 1 8 hu (Dz hi) Fl DR EB rfl (by decide) _ out.length (out.map (ZL J)) rfl (Ya qG _) ⟨w1.heap.size,0,none⟩ 1 1 [.int J (lo+r)] rfl rfl (Dj _ _ _) (by simp[YT]) (by have:=uR.out;unfold maxLen;omega) (by have:=uR.out;omega) (by simp;omega) ?_;intro v' w2 Cm AG Gc;have Em:∀q,(Zy va out.length vc).ownBlock=some q->w.heap.size+1<=q:=fun q hq=>(Zcm qG q hq).1;have Ot:B3 b w w2:=((hU.trans hUr).below (bA (Zh _ _))).grown AG (fun q hq=>by have:=Em q hq;omega);have D3:Ak K wr w2:=abQ.trans (Ak.grown AG fun q hq=>LP q (by have:=Em q hq;omega));refine⟨.inr (A5 D3),?_⟩;refine Dw (v:=v') rfl rfl (by go_simp) (.inr (A5 D3)) ?_;have xQ:w2.heap[w.heap.size]?=some (C #[U a1 c.base.length c1,U a2 c.Af.length c2,U a3 c.hooks.length c3,U (some ⟨b4,o4,none⟩) c.Aa.length c4,U a5 c.now.length c5] 28 (0,0)):=(D3.block _ hzb qF).trans FY;have rV:BK w2 b lv d2:=Ue.of ((AG.block b (by have:=Ue.lt;simp;omega) (fun e=>by have:=Em b e.symm;omega)).trans (kX Ue.lt));have hO2:Own w2 (w.heap.size+1) v' (out++ [lo+r]):=by unfold Own;rw[ZA,Zai];exact Cm
  have HH:=Zd (ZY Ot (ZY rV (ZY hO2 xQ)));clear Ot rV hO2 xQ D3 abQ Kd hUr hUd Na Ue qG Cm AG Gc Em AX hU kZ FY hn';unfold Dl
  go_simp
  go_wp2;go_roundg (c.Aa.length - (k+1))
  case rel=>
   obtain⟨q1,q2,q3,q4⟩:=HH.out;refine⟨k+1,out++ [lo+r],d2,Az,rfl,by go_num,by have:=uR.out;simp;omega,fun j hj=>?_,q3,q1,q2,by omega,q4⟩;obtain⟨e1,e2⟩:=HE.out;by_cases eG:j<k
   .rw[uQ (by have:=uR.out;omega)]
    exact aoL.out j eG
   obtain rfl:j=k:=by omega
   rw[show nth (out++ [lo+(r:Int)]) j=lo+r by rw[<-uR.out];exact qE _ _, <-e1, <-e2];exact⟨by omega,fun _=>by omega⟩
  omega
 have T5:k=c.Aa.length:=by omega
 subst T5;have hs:=AX.si;obtain⟨va,vc,rfl,_⟩:=hs.val;have kx:=ch (i:=3) FY (v:=.slice a4 c.Aa.length c4) rfl;have HO:=Zd hob;have D':=hU.size;clear hob AX;go_wp2;go_ret;exact⟨_,out,d',rfl,hU,kZ,Pv,Sl.imp hs (fun x (hx:Cb (w.heap.size+1) wr x)=>⟨by have:=hx.1;omega,hx.2⟩) (fun _ _ x=>x),uR.out,HO.out⟩
def TT (n:Nat)(w:Zb)(x:Nat):Prop:=n<=x/\∃cs e,w.heap[x]?=some (.cells cs e (0,0))/\(e=3\/e=107\/e=49)
def TT.lt {n:Nat}{w:Zb}{x:Nat}(h:TT n w x):x<w.heap.size:=by
 obtain⟨_,cs,e,h,_⟩:=h;exact(Za.1 h).1
def TT.new {n:Nat}{w:Zb}{x:Nat}(h:TT n w x):Cb n w x:=⟨h.1,h.lt⟩
def TT.mono (h:TT n w x)(hm:m<=n):TT m w x:=⟨Zr hm h.1,h.2⟩
variable {cs:Array Zf}
def TT.not (h:TT n w x)(hx:w.heap[x]?=some (.cells cs e (0,0)))(he:e≠3/\e≠107/\e≠49):False:=by
 obtain⟨_,cs',e',h1,h2⟩:=h;rw[hx]at h1;cases h1;rcases h2 with h|h|h
 .exact he.1 h
 .exact he.2.1 h
 exact he.2.2 h
def TT.of (h:TT n w x)(hx:W.heap[x]?=w.heap[x]?):TT n W x:=⟨h.1,by rw[hx];exact h.2⟩
section
variable {n:Nat}{A B:Zb}{T:Nat->Prop}
def Rn (h:SI (TT n A) A u l)(hT:Ak T A B)(hx:∀x,TT n A x->¬T x):SI (TT n B) B u l:=
 Sl.imp (h.Ar (hT.same hx)) (fun b hb=>hb.of (hT.block b hb.lt (hx b hb))) fun _ _ x=>x
def mL {l:List (Int×Int)}(h:SP (TT n A) A u l)(hT:Ak T A B)(hx:∀x,TT n A x->¬T x):SP (TT n B) B u l:=
 Sl.imp (SP.Ar h (hT.same hx)) (fun b hb=>hb.of (hT.block b hb.lt (hx b hb))) fun _ _ x=>x
variable {s:Ay}
def xR {cs:List Zf}(h:Rs (TT n A) A cs s)(hT:Ak T A B)(hx:∀x,TT n A x->¬T x):Rs (TT n B) B cs s:=by
 obtain⟨v2,v3,h1,h2,h3⟩:=h;exact⟨v2,v3,h1,mL h2 hT hx,Rn h3 hT hx⟩
def Ei (h:SI (TT n A) A u l)(hB:Bl A B):SI (TT n B) B u l:=Rn (T:=fun _=>False) h ((Ak.later hB).mono fun _ x=>x) fun _ _ x=>x
def M6 {l:List (Int×Int)}(h:SP (TT n A) A u l)(hB:Bl A B):SP (TT n B) B u l:=mL (T:=fun _=>False) h ((Ak.later hB).mono fun _ x=>x) fun _ _ x=>x
def LQ (h:SI (TT n A) A u l)(hm:m<=n):SI (TT m A) A u l:=Sl.imp h (fun _ hb=>hb.mono hm) fun _ _ x=>x
def Ug {l:List (Int×Int)}(h:SP (TT n A) A u l)(hm:m<=n):SP (TT m A) A u l:=Sl.imp h (fun _ hb=>hb.mono hm) fun _ _ x=>x
end
def Own.tt {base:Nat}(h:Own w base v l):SI (TT base w) w v l:=
 Sl.imp (Lg (R:=Ri) (by decide) h fun i x hx=>by
  rw[Nat.mul_one];obtain⟨hi,e⟩:=Zm.1 hx;rw[ZO (by simpa using hi)];simp[Ri,e]) (fun b hb=>⟨hb.1.1,by obtain⟨cs,h⟩:=hb.2;exact⟨cs,3,h,.inl rfl⟩⟩) fun _ _ x=>x
def Own.mono {base:Nat}(h:Own w base v l)(hm:m<=base):Own w m v l:=by
 refine⟨h.1,?_⟩;rcases h.2 with h1|⟨g,cap,cur,h1,h2,h3⟩
 .exact .inl h1
 exact .inr ⟨g,cap,cur,h1,Zr hm h2,h3⟩
def Own.CN {base:Nat}(h:Own A base v l)(hT:Ak T A B)(hx:∀b,base<=b->¬T b):Own B base v l:=CO hT hx h
def aoO {l:List (Int×Int)}(h:Sl S Rp 2 w v l)(hlen:l.length<=1000):Calls Lp 72 #[v] w fun e w'=>∃u,e=.returned u/\Bl w w'/\SP (TT w.heap.size w') w' u l:=by
 obtain⟨a,c,rfl,l1,m1⟩:=h.val;obtain⟨i0,hi,Fl,DR,EB⟩:=zp Wu;have hu:=Cz Zdg;cases a with
 |none=>
  have hl:l=[]:=by
   cases l with
   |nil=>rfl
   |cons x r=>
    obtain⟨a',c',h1,_,_,h4⟩:=h;cases h1;obtain⟨b,o,cs,e,_⟩:=h4 0 x rfl;cases e
  subst hl;go_enter Lp.func40,n40;go_wp2;go_ret;exact⟨_,rfl,bA (Zh _ _),_,0,rfl,Zj _,Zp _,fun i x hx=>by cases hx⟩
 |some ad=>
  obtain⟨news,hn,hR,hc⟩:=Sl.row h (by decide) ad rfl;have h1:=row_one (by decide) hn hR bC;have HC:=Zd hc;have HR:=Zd hR;clear hc hR;go_enter Lp.func40,n40;go_wp2_with (at_builtin;refine Yc _ rfl _ _ 25 rfl w.heap.size 49 i0 (.agg #[.int J 0,.int J 0]) 2 16 hu (Dz hi) Fl DR EB rfl (by decide) _ 0 [] rfl (YC w #[] 0 (Zj _) (Zp _) rfl) ad l.length c news rfl hn (fun j u hj=>ca (HC.out j u hj) _) h1 (by unfold maxLen;omega) (by omega) (by simp) ?_;intro v' w1 Bi AG Gc);have hB:Bl w w1:=Bm (bA (Zh _ _)) AG (fun k hk=>by cases hk;exact Zj _) (by simp);rw[zN,zP]at Bi;have Ts:SP (TT w.heap.size w1) w1 v' l:=Sl.imp (Lg (by decide) Bi fun i x hx=>HR.out i x hx) (fun b hb=>⟨hb.1.1,by obtain⟨cs,h⟩:=hb.2;exact⟨cs,49,h,.inr (.inr rfl)⟩⟩) fun _ _ x=>x;clear Bi AG Gc;go_ret;exact⟨_,rfl,hB,Ts⟩
variable {lo hi y:Int}
variable {Ap:List (Int×Int)}
def aoP {left:Int}(hp:SP S w v2 Ap)(ho:SI S w v3 over)(h2:Ap.length<=1000)(h3:over.length<=1000):
  Calls Lp 46 #[.agg #[.int J lo,.int J hi,v2,v3,.int J left]] w fun e w'=>∃u2 u3,e=.returned (.agg #[.int J lo,.int J hi,u2,u3,.int J left])/\Bl w w'/\SP (TT w.heap.size w') w' u2 Ap/\Own w' w.heap.size u3 over:=by
 obtain⟨a2,c2,rfl,l2,m2⟩:=hp.val;obtain⟨a3,c3,rfl,l3,m3⟩:=ho.val;have IX:=DJ;go_enter Lp.func86,n86;go_wp2;obtain⟨W3,Hv⟩:∃W3,W3=(w.alloc (C #[.int J lo,.int J hi,U a2 Ap.length c2,U a3 over.length c3,.int J left] 53)).alloc (C #[.int J 0,.int J 0,U none 0 0,U none 0 0,.int J 0] 53):=⟨_,rfl⟩;have Bv:Bl w W3:=by rw[Hv];exact bA (bA (Zh _ _))
 have F1:W3.heap[w.heap.size]?=some (C #[.int J lo,.int J hi,U a2 Ap.length c2,U a3 over.length c3,.int J left] 53 (0,0)):=by rw[Hv];exact Bf (Bp _ _) _
 have O9:W3.heap[w.heap.size+1]?=some (C #[.int J 0,.int J 0,U none 0 0,U none 0 0,.int J 0] 53 (0,0)):=by rw[Hv];exact Jq _ _ _
 rw[<-Hv];clear Hv;have z2:=fun p=>Al p (ch (i:=2) F1 (v:=.slice a2 Ap.length c2) rfl);have z3:=fun p=>Al p (ch (i:=3) F1 (v:=.slice a3 over.length c3) rfl);refine B0 (S:=fun W=>∃p,W=calm W3 p) [7,8,9,10] [(false,0),(false,3),(true,7),(false,6),(false,8),(false,9),(false,10)] [1,2,4,5] (by kernel_rfl) (fun _ _ d _ _ h=>by cases d<;>exact h) (by kernel_rfl) (AL (Zh _ _).drew) ?_;refine A4 _ _ (by kernel_rfl) ?_;simp only[Z6,zd,ZG,ZD,ZC]
 repeat (first|go_big_quiet_step (fail)|quiet_step (fail))
 refine Z4 ?_;clear z2 z3;change Dl _ _ _ _ _ _ _;have uS:Bl W3 (W3.drew.alloc (C #[] 107)):=bA (Zh _ _).drew;refine JZ (v:=.slice (some ⟨W3.heap.size,0,none⟩) 0 0) (w':=W3.drew.alloc (C #[] 107)) rfl rfl (by go_simp) (.inr (AL uS)) ?_;cases ha2:a2 with
 |none=>
  subst ha2;have hl:Ap=[]:=by
   cases Ap with
   |nil=>rfl
   |cons x r=>obtain⟨b,o,e,_⟩:=hp.at_ (i:=0) (by simp);cases e
  subst hl;refine JZ (v:=.slice (some ⟨W3.heap.size,0,none⟩) 0 0) (w':=W3.drew.alloc (C #[] 107)) rfl rfl (by go_simp) (.inr (AL uS)) ?_;obtain⟨W5,Jy⟩:∃W5,W5=W3.drew.alloc (C #[] 107):=⟨_,rfl⟩;obtain⟨u2,fj⟩:∃u2:Zf,u2=.slice (some ⟨W3.heap.size,0,none⟩) 0 0:=⟨_,rfl⟩;have Hb:SP (TT W3.heap.size W5) W5 u2 []:=⟨_,0,fj,Zj _,Zp _,fun i x hx=>by cases hx⟩;have Cj:Bl W3 W5:=by rw[Jy];exact uS
  rw[<-Jy, <-fj];clear Jy fj;have Tf:=Bv.trans (Cj.mono Bv.size);refine NZ (v:=.pointer (some ⟨w.heap.size,2,none⟩)) rfl rfl (fun w=>by go_simp) ?_;refine Dd (f:=47) (args:= #[U a3 over.length c3]) rfl rfl (by go_simp) ((WO (ho.later Tf) h3).mono ?_);rintro e W6 ⟨u3,rfl,DM,Lb⟩;have J2:=Cj.trans (DM.mono Cj.size);refine⟨u3,rfl,.inr (AL J2),?_⟩;obtain⟨p2,d2,rfl,_⟩:=Hb.val;obtain⟨p3,d3,rfl,_⟩:=Lb.si.val;have Qo:=Bv.trans (J2.mono Bv.size);have JB:=(J2.block _ (Za.1 F1).1).trans F1;have IV:=(J2.block _ (Za.1 O9).1).trans O9;have Rb:w.heap.size+1<W3.heap.size:=(Za.1 O9).1;have p9:W3.heap.size<=W5.heap.size:=Cj.size;have n2:SP (TT W3.heap.size W6) W6 (U p2 0 d2) []:=M6 Hb DM;have n3:Own W6 W3.heap.size (U p3 over.length d3) over:=Lb.mono p9;refine LD _ _ _ (by kernel_rfl) (fun x hx w=>.inl ?_) ?_
  .revert x;decide
  simp only[Gd,ZG,ZD,ZC];have g0:=ch (i:=0) JB (v:=.int J lo) rfl;have g1:=ch (i:=1) JB (v:=.int J hi) rfl;have g2:=ch (i:=2) JB (v:=.slice none 0 c2) rfl;have g3:=ch (i:=3) JB (v:=.slice a3 over.length c3) rfl;have g4:=ch (i:=4) JB (v:=.int J left) rfl;have f2:=cf (i:=2) JB;have f3:=cf (i:=3) JB;have x0:=ch (i:=0) IV (v:=.int J 0) rfl;have x1:=ch (i:=1) IV (v:=.int J 0) rfl;have x2:=ch (i:=2) IV (v:=.slice none 0 0) rfl;have x3:=ch (i:=3) IV (v:=.slice none 0 0) rfl;have x4:=ch (i:=4) IV (v:=.int J 0) rfl;have y0:=cf (i:=0) IV;have y1:=cf (i:=1) IV;have y2:=cf (i:=2) IV;have y3:=cf (i:=3) IV;have y4:=cf (i:=4) IV;clear DM Hb Lb;go_wp2;refine ZN (v:=.agg #[.int J lo,.int J hi,U p2 0 d2,U p3 over.length d3,.int J left]) (by rw[A8 rfl];go_simp) rfl ?_;have key:∀X,Bl w X->Ak (fun x=>x<W3.heap.size) W6 X->∃u2 u3,Zbx (.agg #[.int J lo,.int J hi,U p2 0 d2,U p3 over.length d3,.int J left])=.returned (.agg #[.int J lo,.int J hi,u2,u3,.int J left])/\Bl w X/\SP (TT w.heap.size X) X u2 []/\Own X w.heap.size u3 over:=fun X Ov Pc=>
   ⟨_,_,rfl,Ov,Ug (mL n2 Pc fun x hx h=>by have:=hx.1;omega) (by omega),(n3.CN Pc fun x hx h=>by omega).mono (by omega)⟩
  refine key _ ?_ ?_
  .repeat (with_reducible first|exact Qo|(refine bS ?_ (by omega)))
  .repeat (with_reducible first|exact Ak.refl _ _|(refine Ak.set ?_ (show _<_ by omega)))
 |some ad=>
  obtain⟨news,hn,hR,hc⟩:=Sl.row hp (by decide) ad ha2;have h1:=row_one (by decide) hn hR bC;obtain⟨i0,DN,Fl,DR,EB⟩:=zp Wv;have hu:=Cz Zcz;refine PW rfl rfl ?_;refine Zak _ _ _ 51 rfl W3.heap.size 107 i0 (.agg #[.int J 0,.int J 0]) 2 16 hu (Dz DN) Fl DR EB rfl (by decide) _ 0 [] rfl (YC W3.drew #[] 0 (Zj _) (Zp _) rfl) ad Ap.length c2 news (by rw[<-ha2];rfl) hn (fun j u hj=>?_) h1 (by unfold maxLen;omega) (by omega) (by simp) ?_
  .exact ca (show W3.cell? _=_ from(Bv.cell (ZH w _ (hc j u hj))).trans (hc j u hj)) _
  intro u2 W5 AX AG Gc;have Cj:Bl W3 W5:=Bm uS AG (fun k hk=>by cases hk;exact Zj _) (by simp);refine⟨.inr (AL Cj),?_⟩;have Hb:SP (TT W3.heap.size W5) W5 u2 Ap:=Sl.imp (Lg (by decide) (by rw[zN,zP]at AX;exact AX) (fun i x hx=>hR i x hx)) (fun b hb=>⟨hb.1.1,by obtain⟨cs,h⟩:=hb.2;exact⟨cs,107,h,.inr (.inl rfl)⟩⟩) fun _ _ x=>x;clear AX AG Gc;have Tf:=Bv.trans (Cj.mono Bv.size);refine NZ (v:=.pointer (some ⟨w.heap.size,2,none⟩)) rfl rfl (fun w=>by go_simp) ?_;refine Dd (f:=47) (args:= #[U a3 over.length c3]) rfl rfl (by go_simp) ((WO (ho.later Tf) h3).mono ?_);rintro e W6 ⟨u3,rfl,DM,Lb⟩;have J2:=Cj.trans (DM.mono Cj.size);refine⟨u3,rfl,.inr (AL J2),?_⟩;obtain⟨p2,d2,rfl,_⟩:=Hb.val;obtain⟨p3,d3,rfl,_⟩:=Lb.si.val;have Qo:=Bv.trans (J2.mono Bv.size);have JB:=(J2.block _ (Za.1 F1).1).trans F1;have IV:=(J2.block _ (Za.1 O9).1).trans O9;have Rb:w.heap.size+1<W3.heap.size:=(Za.1 O9).1;have p9:W3.heap.size<=W5.heap.size:=Cj.size;have n2:SP (TT W3.heap.size W6) W6 (U p2 Ap.length d2) Ap:=M6 Hb DM;have n3:Own W6 W3.heap.size (U p3 over.length d3) over:=Lb.mono p9;refine LD _ _ _ (by kernel_rfl) (fun x hx w=>.inl ?_) ?_
  .revert x;decide
  simp only[Gd,ZG,ZD,ZC];have g0:=ch (i:=0) JB (v:=.int J lo) rfl;have g1:=ch (i:=1) JB (v:=.int J hi) rfl;have g2:=ch (i:=2) JB (v:=.slice a2 Ap.length c2) rfl;have g3:=ch (i:=3) JB (v:=.slice a3 over.length c3) rfl;have g4:=ch (i:=4) JB (v:=.int J left) rfl;have f2:=cf (i:=2) JB;have f3:=cf (i:=3) JB;have x0:=ch (i:=0) IV (v:=.int J 0) rfl;have x1:=ch (i:=1) IV (v:=.int J 0) rfl;have x2:=ch (i:=2) IV (v:=.slice none 0 0) rfl;have x3:=ch (i:=3) IV (v:=.slice none 0 0) rfl;have x4:=ch (i:=4) IV (v:=.int J 0) rfl;have y0:=cf (i:=0) IV;have y1:=cf (i:=1) IV;have y2:=cf (i:=2) IV;have y3:=cf (i:=3) IV;have y4:=cf (i:=4) IV;clear DM Hb Lb;go_wp2;refine ZN (v:=.agg #[.int J lo,.int J hi,U p2 Ap.length d2,U p3 over.length d3,.int J left]) (by rw[A8 rfl];go_simp) rfl ?_;have key:∀X,Bl w X->Ak (fun x=>x<W3.heap.size) W6 X->∃u2 u3,Zbx (.agg #[.int J lo,.int J hi,U p2 Ap.length d2,U p3 over.length d3,.int J left])=.returned (.agg #[.int J lo,.int J hi,u2,u3,.int J left])/\Bl w X/\SP (TT w.heap.size X) X u2 Ap/\Own X w.heap.size u3 over:=fun X Ov Pc=>
   ⟨_,_,rfl,Ov,Ug (mL n2 Pc fun x hx h=>by have:=hx.1;omega) (by omega),(n3.CN Pc fun x hx h=>by omega).mono (by omega)⟩
  refine key _ ?_ ?_
  .repeat (with_reducible first|exact Qo|(refine bS ?_ (by omega)))
  repeat (with_reducible first|exact Ak.refl _ _|(refine Ak.set ?_ (show _<_ by omega)))
def En (n:Nat)(w:Zb)(base:Nat)(v:Zf)(l:List Ay):Prop:=∃vals,w.ownsRow base 53 5 v l.length vals/\∀(i:Nat) (x:Ay),l[i]?=some x->Rs (TT n w) w ((vals.drop (i*5)).take 5) x
def En.CN {base:Nat}{l:List Ay}(h:En n A base v l)(hT:Ak T A B)(hx:∀x,TT n A x->¬T x)(hg:∀g,v.ownBlock=some g->¬T g):En n B base v l:=by
 obtain⟨vals,h1,h2⟩:=h;refine⟨vals,⟨h1.1,?_⟩,fun i x hi=>xR (h2 i x hi) hT hx⟩;rcases h1.2 with h|⟨g,cap,cur,e,h3,h4,h5⟩
 .exact .inl h
 exact .inr ⟨g,cap,cur,e,h3,(hT.block g (Za.1 h4).1 (hg g (by rw[e];rfl))).trans h4,h5⟩
def En.later {base:Nat}{l:List Ay}(h:En n A base v l)(hB:Bl A B):En n B base v l:=h.CN (T:=fun _=>False) ((Ak.later hB).mono fun _ x=>x) (fun _ _ x=>x) fun _ _ x=>x
def En.val {base:Nat}{l:List Ay}(h:En n w base v l):∃a c,v=.slice a l.length c/\l.length<=c/\c<=maxLen:=by
 obtain⟨vals,h1,_⟩:=h;rcases h1.2 with⟨e,h2⟩|⟨g,cap,cur,e,h3,h4,h5,h6,_⟩
 .exact⟨none,0,by rw[e,h2],by omega,Zp _⟩
 exact⟨_,cap,e,h5,h6⟩
def En.own {base:Nat}{l:List Ay}(h:En n w base v l):∀g,v.ownBlock=some g->base<=g/\∃cs,w.heap[g]?=some (.cells cs 53 (0,0)):=by
 obtain⟨vals,h1,_⟩:=h;intro g hg;rcases h1.2 with⟨e,_⟩|⟨g',cap,cur,e,h3,h4,h5⟩
 .rw[e]at hg;cases hg
 rw[e]at hg;cases hg;exact⟨h3,cur,h4⟩
def En.ss {base:Nat}{l:List Ay}(h:En n w base v l)(hn:n<=base):SS (Cb n w) w v l:=by
 obtain⟨vals,h1,h2⟩:=h;refine Sl.imp (O6 (R:=Rs (Cb n w)) (by decide) h1 fun i x hx=>?_) (fun b hb=>⟨Zr hn hb.1,hb.2⟩) fun _ _ x=>x;obtain⟨v2,v3,e,x2,x3⟩:=h2 i x hx;exact⟨v2,v3,e,Sl.imp x2 (fun b hb=>hb.new) fun _ _ x=>x,Sl.imp x3 (fun b hb=>hb.new) fun _ _ x=>x⟩
variable {s:Ay}
def En.snoc {base:Nat}{v':Zf}{l:List Ay}{vals cells:List Zf}(h2:∀(i:Nat) (x:Ay),l[i]?=some x->Rs (TT n B) B ((vals.drop (i*5)).take 5) x)(hl:vals.length=l.length*5)(hc:cells.length=5)(hs:Rs (TT n B) B cells s)(ho:B.ownsRow base 53 5 v' (l.length+1) (vals++cells)):En n B base v' (l++ [s]):=by
 refine⟨vals++cells,by rw[ZA];exact ho,fun i x hi=>?_⟩;by_cases h:i<l.length
 .rw[zl h]at hi
  have:=h2 i x hi;rwa[List.drop_append_of_le_length (by omega),List.take_append_of_le_length (by simp;omega)]
 have aX:=(Zm.1 hi).1;rw[ZA,zb,zR]at aX;obtain rfl:i=l.length:=by omega
 rw[Y1]at hi;cases hi;rw[<-hl,List.drop_left,Zb3 (by omega)];exact hs
structure CT (n:Nat)(w:Zb)(u1 u2 u3 u4 u5:Zf)(c:A_):Prop where
 base:SI (TT n w) w u1 c.base
 Af:SP (TT n w) w u2 c.Af
 hooks:SI (TT n w) w u3 c.hooks
 now:SI (TT n w) w u5 c.now
 row:En n w n u4 c.Aa
def CT.rc {u3:Zf}(h:CT n w u1 u2 u3 u4 u5 c):RC (Cb n w) w u1 u2 u3 u4 u5 c:=
 ⟨Sl.imp h.base (fun b hb=>hb.new) fun _ _ x=>x,Sl.imp h.Af (fun b hb=>hb.new) fun _ _ x=>x,Sl.imp h.hooks (fun b hb=>hb.new) fun _ _ x=>x,h.row.ss (Zj _),Sl.imp h.now (fun b hb=>hb.new) fun _ _ x=>x⟩
def CT.CN {u3:Zf}(h:CT n A u1 u2 u3 u4 u5 c)(hT:Ak T A B)(hx:∀x,TT n A x->¬T x)(hg:∀g,u4.ownBlock=some g->¬T g):CT n B u1 u2 u3 u4 u5 c:=
 ⟨Rn h.base hT hx,mL h.Af hT hx,Rn h.hooks hT hx,Rn h.now hT hx,h.row.CN hT hx hg⟩
def Ro (w:Zb)(c:A_)(e:Ending)(w':Zb):Prop:=∃u1 u2 u3 u4 u5,e=.returned (.agg #[u1,u2,u3,u4,u5])/\Bl w w'/\CT w.heap.size w' u1 u2 u3 u4 u5 c
def En.mono {l:List Ay}(h:En n w n v l)(hm:m<=n):En m w m v l:=by
 obtain⟨vals,h1,h2⟩:=h;refine⟨vals,⟨h1.1,?_⟩,fun i x hi=>?_⟩
 .rcases h1.2 with h|⟨g,cap,cur,e,h3,h4⟩
  .exact .inl h
  exact .inr ⟨g,cap,cur,e,Zr hm h3,h4⟩
 obtain⟨v2,v3,e,x2,x3⟩:=h2 i x hi;exact⟨v2,v3,e,Ug x2 hm,LQ x3 hm⟩
def Hc (w:Zb)(l:List Zf)(t:Zs):∀j u,l[j]?=some u->(w.alloc (.cells l.toArray t)).cell? ((⟨w.heap.size,0,none⟩:Addr).add j)=some u:=by
 intro j u hj;rw[show(⟨w.heap.size,0,none⟩:Addr).add j=⟨w.heap.size,j,none⟩ by unfold Zcu;split<;>simp_all];exact cn _ _ _ (by simpa using hj)
structure CR (w:Zb)(n0 q:Nat)(xs:Array Zf)(s1 s2 s3 s5:Zf)(c:A_)(k:Nat)(v4:Zf)(wr:Zb):Prop where
 below:Bl w wr
 box:wr.heap[w.heap.size]?=some (.cells xs 28 (0,0))
 res:wr.heap[w.heap.size+1]?=some (C #[U none 0 0,U none 0 0,U none 0 0,U none 0 0,U none 0 0] 28 (0,0))
 qx:wr.heap[q]?=some (C #[s1,s2,s3,v4,s5] 28 (0,0))
 base:SI (TT n0 wr) wr s1 c.base
 Af:SP (TT n0 wr) wr s2 c.Af
 hooks:SI (TT n0 wr) wr s3 c.hooks
 now:SI (TT n0 wr) wr s5 c.now
 row:En n0 wr n0 v4 (c.Aa.take k)
 z:n0<=wr.heap.size
def aoQ (h:RC S w v1 v2 v3 v4 v5 c)(hS:∀b,S b->b<w.heap.size)(ig:c.base.length<=1000)(hle:c.Af.length<=1000)(hlh:c.hooks.length<=1000)(Xm:c.Aa.length<=1000)(UO:c.now.length<=1000)(xB:∀i,i<c.Aa.length->(Aj c.Aa i).Ap.length<=1000/\(Aj c.Aa i).over.length<=1000):
  Calls Lp 45 #[.agg #[v1,v2,v3,v4,v5]] w (Ro w c):=by
 obtain⟨a1,c1,rfl,l1,m1⟩:=h.base.val;obtain⟨a2,c2,rfl,l2,m2⟩:=h.Af.val;obtain⟨a3,c3,rfl,l3,m3⟩:=h.hooks.val;obtain⟨a4,c4,rfl,l4,m4⟩:=h.Aa.val;obtain⟨a5,c5,rfl,l5,m5⟩:=h.now.val;have IX:=DJ;go_enter Lp.func33,n33;go_wp2;obtain⟨W3,Hv⟩:∃W3,W3=(w.alloc (C #[U a1 c.base.length c1,U a2 c.Af.length c2,U a3 c.hooks.length c3,U a4 c.Aa.length c4,U a5 c.now.length c5] 28)).alloc (C #[U none 0 0,U none 0 0,U none 0 0,U none 0 0,U none 0 0] 28):=⟨_,rfl⟩;have Bv:Bl w W3:=by rw[Hv];exact bA (bA (Zh _ _))
 have F1:W3.heap[w.heap.size]?=some (C #[U a1 c.base.length c1,U a2 c.Af.length c2,U a3 c.hooks.length c3,U a4 c.Aa.length c4,U a5 c.now.length c5] 28 (0,0)):=by rw[Hv];exact Bf (Bp _ _) _
 have O9:W3.heap[w.heap.size+1]?=some (C #[U none 0 0,U none 0 0,U none 0 0,U none 0 0,U none 0 0] 28 (0,0)):=by rw[Hv];exact Jq _ _ _
 rw[<-Hv];clear Hv;have hm3:w.heap.size+1<W3.heap.size:=(Za.1 O9).1;refine Code.wp_mono (Q:=fun e a' V=>e=.normal/\∃(q:Nat) (p1 p2 p3 p5:Option Addr) (d1 d2 d3 d5:Nat) (x5 x6 x7 x8 x9 jX Qj x12 MH Lx Ly K0 K1:Zf),a'= {tmps:= #[.agg #[U a1 c.base.length c1,U a2 c.Af.length c2,U a3 c.hooks.length c3,U a4 c.Aa.length c4,U a5 c.now.length c5],.pointer (some ⟨w.heap.size,0,none⟩),.pointer (some ⟨w.heap.size+1,0,none⟩),.pointer (some ⟨q,0,none⟩),Ze,x5,x6,x7,x8,x9,jX,Qj,x12,MH,Lx,Ly,K0,K1,Ze,Ze,Ze,Ze,Ze,Ze,Ze,Ze,Ze,Ze,Ze,Ze,Ze,Ze,Ze,Ze,Ze,Ze,Ze],defers:=[]}/\w.heap.size+1<q/\Bl W3 V/\V.heap[q]?=some (C #[U p1 c.base.length d1,U p2 c.Af.length d2,U p3 c.hooks.length d3,U none 0 0,U p5 c.now.length d5] 28 (0,0))/\SI (TT W3.heap.size V) V (U p1 c.base.length d1) c.base/\SP (TT W3.heap.size V) V (U p2 c.Af.length d2) c.Af/\SI (TT W3.heap.size V) V (U p3 c.hooks.length d3) c.hooks/\SI (TT W3.heap.size V) V (U p5 c.now.length d5) c.now) ?rest ?first
 case first=>
  have z0:=fun p=>Al p (ch (i:=0) F1 (v:=.slice a1 c.base.length c1) rfl);have z1:=fun p=>Al p (ch (i:=1) F1 (v:=.slice a2 c.Af.length c2) rfl);have z2:=fun p=>Al p (ch (i:=2) F1 (v:=.slice a3 c.hooks.length c3) rfl);have z4:=fun p=>Al p (ch (i:=4) F1 (v:=.slice a5 c.now.length c5) rfl);refine G6 (S:=fun W=>∃p,W=calm W3 p) [0,1,3,4,6,7,9,10] 7 #[true,true,false,true,true,false,true,true,false,true,true,false,false,false,false] (by kernel_rfl) (fun _ _ _ _ _ h=>nomatch h.1) (by kernel_rfl) (AL (Zh _ _).drew) ?_;refine A4 _ _ (by kernel_rfl) ?_;simp only[Z6,zd,ZG,ZD,ZC]
  repeat (first|go_big_quiet_step (fail)|quiet_step (fail))
  refine Z4 ?_;clear z0 z1 z2 z4;change Cy _ _ _ _ _ _ _ _ _;obtain⟨V,hV⟩:∃V,V=W3.drew:=⟨_,rfl⟩;have hX:Bl W3 V:=by rw[hV];exact(Zh _ _).drew
  rw[<-hV];clear hV;have hq:=Yz;have n1:=Yz;have n2:=Yz;have n3:=Yz;have n5:=Yz;refine AK [2,13] (by kernel_rfl) (by simp) (Ix ?gA2 ?gB2)
  case' gB2=>
   refine EX (v:=.pointer (some ⟨V.heap.size,0,none⟩)) (w':=V.alloc (C #[U none 0 0,U none 0 0,U none 0 0,U none 0 0,U none 0 0] 28)) rfl rfl (by go_simp) ?_;obtain⟨V',LK⟩:∃V',V'=V.alloc (C #[U none 0 0,U none 0 0,U none 0 0,U none 0 0,U none 0 0] 28):=⟨_,rfl⟩;have D5:Bl V V':=by rw[LK];exact bA (Zh _ _)
   have hq:V'.heap[V.heap.size]?=some (C #[U none 0 0,U none 0 0,U none 0 0,U none 0 0,U none 0 0] 28 (0,0)):=by rw[LK];exact Bp _ _
   have TC:=hX.size;obtain⟨q,Pd⟩:∃q,q=V.heap.size:=⟨_,rfl⟩;rw[<-Pd]at hq TC
   try (have n1:=Ei n1 D5)
   try (have n2:=M6 n2 D5)
   try (have n3:=Ei n3 D5)
   try (have n5:=Ei n5 D5)
   have hX:=hX.trans (D5.mono hX.size);rw[<-LK, <-Pd];refine⟨AL hX,?_⟩;clear D5 Pd LK;obtain⟨V,qH⟩:∃V2,V2=V':=⟨_,rfl⟩;subst qH;refine AK [2] (by kernel_rfl) (by simp) (BF ?_)
  all_goals
   refine DK (f:=47) (args:= #[U a1 c.base.length c1]) rfl rfl (by go_simp) ((WO (h.later (Bv.trans (hX.mono Bv.size))).base ig).mono ?_);rintro e V ⟨u,rfl,D5,hu⟩;have n1:=LQ hu.tt hX.size;obtain⟨p1,d1,rfl,_,_⟩:=n1.val;clear hu
   try (have hq:=(D5.block _ (Za.1 hq).1).trans hq)
   try (have n2:=M6 n2 D5)
   try (have n3:=Ei n3 D5)
   try (have n5:=Ei n5 D5)
   have hX:=hX.trans (D5.mono hX.size);refine .inl ⟨_,rfl,AL hX,?_⟩;clear D5
  all_goals first
   |(have kL:=Za.1 hq;clear kL;refine AK [5] (by kernel_rfl) (by simp) (BF ?_))
   |(refine AK [5,13] (by kernel_rfl) (by simp) (Ix ?gA5 ?gB5)
     case' gB5=>
      refine EX (v:=.pointer (some ⟨V.heap.size,0,none⟩)) (w':=V.alloc (C #[U none 0 0,U none 0 0,U none 0 0,U none 0 0,U none 0 0] 28)) rfl rfl (by go_simp) ?_;obtain⟨V',LK⟩:∃V',V'=V.alloc (C #[U none 0 0,U none 0 0,U none 0 0,U none 0 0,U none 0 0] 28):=⟨_,rfl⟩;have D5:Bl V V':=by rw[LK];exact bA (Zh _ _)
      have hq:V'.heap[V.heap.size]?=some (C #[U none 0 0,U none 0 0,U none 0 0,U none 0 0,U none 0 0] 28 (0,0)):=by rw[LK];exact Bp _ _
      have TC:=hX.size;obtain⟨q,Pd⟩:∃q,q=V.heap.size:=⟨_,rfl⟩;rw[<-Pd]at hq TC
      try (have n1:=Ei n1 D5)
      try (have n2:=M6 n2 D5)
      try (have n3:=Ei n3 D5)
      try (have n5:=Ei n5 D5)
      have hX:=hX.trans (D5.mono hX.size);rw[<-LK, <-Pd];refine⟨AL hX,?_⟩;clear D5 Pd LK;obtain⟨V,qH⟩:∃V2,V2=V':=⟨_,rfl⟩;subst qH;refine AK [5] (by kernel_rfl) (by simp) (BF ?_))
  all_goals
   refine DK (f:=72) (args:= #[U a2 c.Af.length c2]) rfl rfl (by go_simp) ((aoO (h.later (Bv.trans (hX.mono Bv.size))).Af hle).mono ?_);rintro e V ⟨u,rfl,D5,hu⟩;have n2:=Ug hu hX.size;obtain⟨p2,d2,rfl,_,_⟩:=n2.val;clear hu
   try (have hq:=(D5.block _ (Za.1 hq).1).trans hq)
   try (have n1:=Ei n1 D5)
   try (have n3:=Ei n3 D5)
   try (have n5:=Ei n5 D5)
   have hX:=hX.trans (D5.mono hX.size);refine .inl ⟨_,rfl,AL hX,?_⟩;clear D5
  all_goals first
   |(have kL:=Za.1 hq;clear kL;refine AK [8] (by kernel_rfl) (by simp) (BF ?_))
   |(refine AK [8,13] (by kernel_rfl) (by simp) (Ix ?gA8 ?gB8)
     case' gB8=>
      refine EX (v:=.pointer (some ⟨V.heap.size,0,none⟩)) (w':=V.alloc (C #[U none 0 0,U none 0 0,U none 0 0,U none 0 0,U none 0 0] 28)) rfl rfl (by go_simp) ?_;obtain⟨V',LK⟩:∃V',V'=V.alloc (C #[U none 0 0,U none 0 0,U none 0 0,U none 0 0,U none 0 0] 28):=⟨_,rfl⟩;have D5:Bl V V':=by rw[LK];exact bA (Zh _ _)
      have hq:V'.heap[V.heap.size]?=some (C #[U none 0 0,U none 0 0,U none 0 0,U none 0 0,U none 0 0] 28 (0,0)):=by rw[LK];exact Bp _ _
      have TC:=hX.size;obtain⟨q,Pd⟩:∃q,q=V.heap.size:=⟨_,rfl⟩;rw[<-Pd]at hq TC
      try (have n1:=Ei n1 D5)
      try (have n2:=M6 n2 D5)
      try (have n3:=Ei n3 D5)
      try (have n5:=Ei n5 D5)
      have hX:=hX.trans (D5.mono hX.size);rw[<-LK, <-Pd];refine⟨AL hX,?_⟩;clear D5 Pd LK;obtain⟨V,qH⟩:∃V2,V2=V':=⟨_,rfl⟩;subst qH;refine AK [8] (by kernel_rfl) (by simp) (BF ?_))
  all_goals
   refine DK (f:=47) (args:= #[U a3 c.hooks.length c3]) rfl rfl (by go_simp) ((WO (h.later (Bv.trans (hX.mono Bv.size))).hooks hlh).mono ?_);rintro e V ⟨u,rfl,D5,hu⟩;have n3:=LQ hu.tt hX.size;obtain⟨p3,d3,rfl,_,_⟩:=n3.val;clear hu
   try (have hq:=(D5.block _ (Za.1 hq).1).trans hq)
   try (have n1:=Ei n1 D5)
   try (have n2:=M6 n2 D5)
   try (have n5:=Ei n5 D5)
   have hX:=hX.trans (D5.mono hX.size);refine .inl ⟨_,rfl,AL hX,?_⟩;clear D5
  all_goals first
   |(have kL:=Za.1 hq;clear kL;refine AK [11] (by kernel_rfl) (by simp) (BF ?_))
   |(refine AK [11,13] (by kernel_rfl) (by simp) (Ix ?gA11 ?gB11)
     case' gB11=>
      refine EX (v:=.pointer (some ⟨V.heap.size,0,none⟩)) (w':=V.alloc (C #[U none 0 0,U none 0 0,U none 0 0,U none 0 0,U none 0 0] 28)) rfl rfl (by go_simp) ?_;obtain⟨V',LK⟩:∃V',V'=V.alloc (C #[U none 0 0,U none 0 0,U none 0 0,U none 0 0,U none 0 0] 28):=⟨_,rfl⟩;have D5:Bl V V':=by rw[LK];exact bA (Zh _ _)
      have hq:V'.heap[V.heap.size]?=some (C #[U none 0 0,U none 0 0,U none 0 0,U none 0 0,U none 0 0] 28 (0,0)):=by rw[LK];exact Bp _ _
      have TC:=hX.size;obtain⟨q,Pd⟩:∃q,q=V.heap.size:=⟨_,rfl⟩;rw[<-Pd]at hq TC
      try (have n1:=Ei n1 D5)
      try (have n2:=M6 n2 D5)
      try (have n3:=Ei n3 D5)
      try (have n5:=Ei n5 D5)
      have hX:=hX.trans (D5.mono hX.size);rw[<-LK, <-Pd];refine⟨AL hX,?_⟩;clear D5 Pd LK;obtain⟨V,qH⟩:∃V2,V2=V':=⟨_,rfl⟩;subst qH;refine AK [11] (by kernel_rfl) (by simp) (BF ?_))
  all_goals
   refine DK (f:=47) (args:= #[U a5 c.now.length c5]) rfl rfl (by go_simp) ((WO (h.later (Bv.trans (hX.mono Bv.size))).now UO).mono ?_);rintro e V ⟨u,rfl,D5,hu⟩;have n5:=LQ hu.tt hX.size;obtain⟨p5,d5,rfl,_,_⟩:=n5.val;clear hu
   try (have hq:=(D5.block _ (Za.1 hq).1).trans hq)
   try (have n1:=Ei n1 D5)
   try (have n2:=M6 n2 D5)
   try (have n3:=Ei n3 D5)
   have hX:=hX.trans (D5.mono hX.size);refine .inl ⟨_,rfl,AL hX,?_⟩;clear D5
  all_goals first
   |(have kL:=Za.1 hq;clear kL;refine AK [12] (by kernel_rfl) (by simp) (BF ?_)
     refine EX (v:=.agg #[U p1 c.base.length d1,U p2 c.Af.length d2,U p3 c.hooks.length d3,U none 0 0,U p5 c.now.length d5]) (w':=V) rfl rfl (by go_simp) ?_;refine⟨AL hX,?_⟩)
   |(refine AK [12,13] (by kernel_rfl) (by simp) (Ix ?gA12 ?gB12)
     case' gB12=>
      refine EX (v:=.pointer (some ⟨V.heap.size,0,none⟩)) (w':=V.alloc (C #[U none 0 0,U none 0 0,U none 0 0,U none 0 0,U none 0 0] 28)) rfl rfl (by go_simp) ?_;obtain⟨V',LK⟩:∃V',V'=V.alloc (C #[U none 0 0,U none 0 0,U none 0 0,U none 0 0,U none 0 0] 28):=⟨_,rfl⟩;have D5:Bl V V':=by rw[LK];exact bA (Zh _ _)
      have hq:V'.heap[V.heap.size]?=some (C #[U none 0 0,U none 0 0,U none 0 0,U none 0 0,U none 0 0] 28 (0,0)):=by rw[LK];exact Bp _ _
      have TC:=hX.size;obtain⟨q,Pd⟩:∃q,q=V.heap.size:=⟨_,rfl⟩;rw[<-Pd]at hq TC
      try (have n1:=Ei n1 D5)
      try (have n2:=M6 n2 D5)
      try (have n3:=Ei n3 D5)
      try (have n5:=Ei n5 D5)
      have hX:=hX.trans (D5.mono hX.size);rw[<-LK, <-Pd];refine⟨AL hX,?_⟩;clear D5 Pd LK;obtain⟨V,qH⟩:∃V2,V2=V':=⟨_,rfl⟩;subst qH;refine AK [12] (by kernel_rfl) (by simp) (BF ?_);refine EX (v:=.agg #[U p1 c.base.length d1,U p2 c.Af.length d2,U p3 c.hooks.length d3,U none 0 0,U p5 c.now.length d5]) (w':=V) rfl rfl (by go_simp) ?_;refine⟨AL hX,?_⟩
     case' gA12=>
      refine EX (v:=.agg #[U p1 c.base.length d1,U p2 c.Af.length d2,U p3 c.hooks.length d3,U none 0 0,U p5 c.now.length d5]) (w':=V) rfl rfl (by go_simp) ?_;refine⟨AL hX,?_⟩;refine AK [13] (by kernel_rfl) (by simp) (BF ?_);refine EX (v:=.pointer (some ⟨V.heap.size,0,none⟩)) (w':=V.alloc (C #[U none 0 0,U none 0 0,U none 0 0,U none 0 0,U none 0 0] 28)) rfl rfl (by go_simp) ?_;obtain⟨V',LK⟩:∃V',V'=V.alloc (C #[U none 0 0,U none 0 0,U none 0 0,U none 0 0,U none 0 0] 28):=⟨_,rfl⟩;have D5:Bl V V':=by rw[LK];exact bA (Zh _ _)
      have hq:V'.heap[V.heap.size]?=some (C #[U none 0 0,U none 0 0,U none 0 0,U none 0 0,U none 0 0] 28 (0,0)):=by rw[LK];exact Bp _ _
      have TC:=hX.size;obtain⟨q,Pd⟩:∃q,q=V.heap.size:=⟨_,rfl⟩;rw[<-Pd]at hq TC
      try (have n1:=Ei n1 D5)
      try (have n2:=M6 n2 D5)
      try (have n3:=Ei n3 D5)
      try (have n5:=Ei n5 D5)
      have hX:=hX.trans (D5.mono hX.size);rw[<-LK, <-Pd];refine⟨AL hX,?_⟩;clear D5 Pd LK;obtain⟨V,qH⟩:∃V2,V2=V':=⟨_,rfl⟩;subst qH)
  all_goals
   refine AK [14] (by kernel_rfl) (by simp) (BF ?_);have g0:=ch (i:=0) hq (v:=.slice none 0 0) rfl;have g1:=ch (i:=1) hq (v:=.slice none 0 0) rfl;have g2:=ch (i:=2) hq (v:=.slice none 0 0) rfl;have g3:=ch (i:=3) hq (v:=.slice none 0 0) rfl;have g4:=ch (i:=4) hq (v:=.slice none 0 0) rfl;have f0:=cf (i:=0) hq;have f1:=cf (i:=1) hq;have f2:=cf (i:=2) hq;have f3:=cf (i:=3) hq;have f4:=cf (i:=4) hq;obtain⟨V',LK⟩:∃V',V'=((((V.setCell ⟨q,0,none⟩ (U p1 c.base.length d1)).setCell ⟨q,1,none⟩ (U p2 c.Af.length d2)).setCell ⟨q,2,none⟩ (U p3 c.hooks.length d3)).setCell ⟨q,3,none⟩ (U none 0 0)).setCell ⟨q,4,none⟩ (U p5 c.now.length d5):=⟨_,rfl⟩;refine Rj (w':=V') rfl rfl (by rw[LK];go_simp) ?_;have hX':Bl W3 V':=by rw[LK];exact bS (bS (bS (bS (bS hX TC) TC) TC) TC) TC
   have hT:Ak (fun x=>x=q) V V':=by rw[LK];exact(Ak.refl (fun x=>x=q) V).DT.DT.DT.DT.DT
   have BL:∀x,TT W3.heap.size V x->¬x=q:=fun x hx e=>TT.not (e▸hx) hq ⟨by decide,by decide,by decide⟩;refine⟨AL hX',rfl,?_⟩;exact⟨rfl,q,p1,p2,p3,p5,d1,d2,d3,d5,_,_,_,_,_,_,_,_,_,_,_,_,_,rfl,by omega,hX',by rw[LK];exact Ba (Ba (Ba (Ba (Ba hq _) _) _) _) _,Rn n1 hT BL,mL n2 hT BL,Rn n3 hT BL,Rn n5 hT BL⟩
 rintro e a' V ⟨rfl,q,p1,p2,p3,p5,d1,d2,d3,d5,x5,x6,x7,x8,x9,jX,Qj,x12,MH,Lx,Ly,K0,K1,rfl,TC,hX,hq,n1,n2,n3,n5⟩;have hC0:CR w W3.heap.size q #[U a1 c.base.length c1,U a2 c.Af.length c2,U a3 c.hooks.length c3,U a4 c.Aa.length c4,U a5 c.now.length c5] (U p1 c.base.length d1) (U p2 c.Af.length d2) (U p3 c.hooks.length d3) (U p5 c.now.length d5) c 0 (U none 0 0) V:=
  ⟨Bv.trans (hX.mono Bv.size),(hX.block _ (Za.1 F1).1).trans F1,(hX.block _ hm3).trans O9,hq,n1,n2,n3,n5,⟨[],zq _ _ _ _,fun i x hx=>by cases hx⟩,hX.size⟩
 clear hX hq n1 n2 n3 n5 F1 O9 Bv;dsimp only;go_wp2;go_loopg [4] c.Aa.length (fun g i wr=>∃(k:Nat) (v4:Zf),k<=c.Aa.length/\g=c.Aa.length - k/\i=.int J k/\CR w W3.heap.size q #[U a1 c.base.length c1,U a2 c.Af.length c2,U a3 c.hooks.length c3,U a4 c.Aa.length c4,U a5 c.now.length c5] (U p1 c.base.length d1) (U p2 c.Af.length d2) (U p3 c.hooks.length d3) (U p5 c.now.length d5) c k v4 wr)
 case atStart=>exact⟨0,_,Zp _,rfl,rfl,hC0⟩
 obtain⟨k,v4,hk,rfl,rfl,hC⟩:=hrel;obtain⟨sl,NK⟩:∃sl,sl=c.Aa.take k:=⟨_,rfl⟩;have hsk:sl.length=k:=by rw[NK];simp;omega
 have Ci:=hC.row;rw[<-NK]at Ci;obtain⟨va,vc,rfl,_⟩:=Ci.val;rw[hsk]at hC Ci;by_cases Az:k<c.Aa.length
 .obtain⟨b4,o4,s2,s3,rfl,UQ,x0,x1,x2,x3,x4,hp,ho⟩:=h.Aa.at_ (i:=k) Az
  have Ga:∀j u,w.cell? ⟨b4,j,none⟩=some u->wr.cell? ⟨b4,j,none⟩=some u:=fun j u hu=>(hC.below.cell (p:=⟨b4,j,none⟩) (hS b4 UQ)).trans hu;replace x0:=Ga _ _ x0;replace x1:=Ga _ _ x1;replace x2:=Ga _ _ x2;replace x3:=Ga _ _ x3;replace x4:=Ga _ _ x4;clear Ga;replace hp:=hp.later hC.below;replace ho:=ho.later hC.below;obtain⟨Oq,Qm⟩:=xB k Az;obtain⟨sm,Qh⟩:∃sm,sm=Aj c.Aa k:=⟨_,rfl⟩;have HTK:=Zd (show c.Aa.take (k+1)=sl++ [sm] by rw[NK,Qh,ZbH,Db Az];rfl);rw[<-Qh]at x0 x1 x4 hp ho Oq Qm;clear Qh NK;obtain⟨low,high,Ap,over,left⟩:=sm;dsimp only at x0 x1 x4 hp ho Oq Qm;obtain⟨a6,c6,rfl,l6,m6⟩:=hp.val;obtain⟨a7,c7,rfl,l7,m7⟩:=ho.val;obtain⟨K,Ig⟩:∃K:Nat->Prop,K=fun x=>x≠q/\w.heap.size+1<x:=⟨_,rfl⟩;have LP:∀x,w.heap.size+1<x->x≠q->K x:=fun x hx hq=>by rw[Ig];exact⟨hq,hx⟩
  have qF:¬K w.heap.size:=by rw[Ig];intro x;omega
  have l_:¬K (w.heap.size+1):=by rw[Ig];intro x;omega
  have Tg:¬K q:=by rw[Ig];exact fun x=>x.1 rfl
  have Qn:¬K b4:=by rw[Ig];intro x;have:=hS b4 UQ;omega
  clear Ig;have z0:=fun p:Tw K wr=>p.cell (ch (i:=3) hC.box (v:=.slice (some ⟨b4,o4,none⟩) c.Aa.length c4) rfl) qF;have z1:=fun p:Tw K wr=>p.cell (ch (i:=3) hC.qx (v:=.slice va k vc) rfl) Tg;have y0:=fun p:Tw K wr=>p.cell x0 Qn;have y1:=fun p:Tw K wr=>p.cell x1 Qn;have y2:=fun p:Tw K wr=>p.cell x2 Qn;have y3:=fun p:Tw K wr=>p.cell x3 Qn;have y4:=fun p:Tw K wr=>p.cell x4 Qn;have TB:(k:Int)<(c.Aa.length:Int):=by omega
  have ahJ:(0:Int)<=(k:Int):=by omega
  have kD:q<wr.heap.size:=(Za.1 hC.qx).1;have kx:=ch (i:=3) hC.box (v:=.slice (some ⟨b4,o4,none⟩) c.Aa.length c4) rfl;have bG:=hC.below.size;have DR:w.heap.size+1<wr.heap.size:=(Za.1 hC.res).1;have Rb:W3.heap.size<=wr.heap.size:=hC.z;go_wp2;clear kx;refine B0 (S:=fun W=>∃p:Tw K wr,W=p.v) [11] [(false,7),(false,8),(false,9),(false,10),(false,11)] [0,1,2,3,4,5,6] (by kernel_rfl) (fun _ _ d _ _ h=>by cases d<;>exact h) (by kernel_rfl) (A5 (Ak.later (Zh _ _).drew)) ?_;refine A4 _ _ (by kernel_rfl) ?_;simp only[Z6,zd,ZG,ZD,ZC]
  repeat (first|go_big_quiet_step (fail)|quiet_step (fail))
  refine Z4 ?_;clear z0 z1 y0 y1 y2 y3 y4 x0 x1 x2 x3 x4;change Dl _ _ _ _ _ _ _;have Uh:Bl wr wr.drew:=(Zh _ _).drew;refine Dd (f:=46) (args:= #[.agg #[.int J low,.int J high,U a6 Ap.length c6,U a7 over.length c7,.int J left]]) rfl rfl (by go_simp) ((aoP (hp.later Uh) (ho.later Uh) Oq Qm).mono ?_);rintro e w1 ⟨u2,u3,rfl,Bg,Hb,Lb⟩;have cu:Bl wr w1:=Uh.trans (Bg.mono (Zj _));have Kd:Ak K wr w1:=Ak.later cu;refine⟨_,rfl,.inr (A5 Kd),?_⟩;have Hb:SP (TT wr.heap.size w1) w1 u2 Ap:=Hb;have Lb:SI (TT wr.heap.size w1) w1 u3 over:=Own.tt Lb;obtain⟨p6,t6,rfl,_⟩:=Hb.val;obtain⟨p7,t7,rfl,_⟩:=Lb.val;obtain⟨uT,uU⟩:∃uT,uT=w1.alloc (C #[.int J low,.int J high,U p6 Ap.length t6,U p7 over.length t7,.int J left] 53):=⟨_,rfl⟩;have Vn:Bl w1 uT:=by rw[uU];exact bA (Zh _ _)
  have Jp:=cu.trans (Vn.mono cu.size);have WQ:Ak K wr uT:=Ak.later Jp;refine JZ (v:=.slice (some ⟨w1.heap.size,0,none⟩) 1 1) (w':=uT) rfl rfl (by rw[uU];go_simp) (.inr (A5 WQ)) ?_;obtain⟨vals,AX,DF⟩:=Ci.later Jp;rw[hsk]at AX;obtain⟨i0,hi,eL,k9,abT⟩:=zp eI;have aoR:=Cz Tryz.underlying26;refine PW rfl rfl ?_;refine Zak _ _ _ 26 rfl W3.heap.size 53 i0 (.agg #[.int J 0,.int J 0,U none 0 0,U none 0 0,.int J 0]) 5 72 aoR (Dz hi) eL k9 abT rfl (by decide) _ k vals rfl AX ⟨w1.heap.size,0,none⟩ 1 1 [.int J low,.int J high,U p6 Ap.length t6,U p7 over.length t7,.int J left] rfl rfl (by rw[uU];exact Hc _ _ _) (by intro u hu;simp at hu;rcases hu with rfl|rfl|rfl|rfl|rfl<;>rfl) (by unfold maxLen;omega) (by omega) (by have:=Jp.size;omega) ?_;intro v' w2 Cm AG Gc;have Em:∀g,(Zy va k vc).ownBlock=some g->W3.heap.size<=g/\∃cs,wr.heap[g]?=some (.cells cs 53 (0,0)):=Ci.own;have Js:Ak (fun x=>(Zy va k vc).ownBlock=some x) uT w2:=Ak.grown AG fun g hg=>hg;have D3:Ak K wr w2:=WQ.trans (Ak.grown AG fun g hg=>by
   obtain⟨h1,cs,h2⟩:=Em g hg;exact LP g (by omega) (fun e=>by subst e;rw[hC.qx]at h2;cases h2))
  refine⟨.inr (A5 D3),?_⟩;obtain⟨g',Ey,rfl⟩:=Zay Cm;have M9:=(D3.block q kD Tg).trans hC.qx;have f3:=cf (i:=3) M9;have e3:=ch (i:=3) M9 (v:=.slice va k vc) rfl;refine Dw (v:=.pointer (some ⟨q,3,none⟩)) rfl rfl (by go_simp) (.inr (A5 D3)) ?_;refine K8 (w':=w2.setCell ⟨q,3,none⟩ (U (some ⟨g',0,none⟩) (k+1) Ey)) rfl rfl (by go_simp) (.inl rfl) ?_;have bM:CR w W3.heap.size q #[U a1 c.base.length c1,U a2 c.Af.length c2,U a3 c.hooks.length c3,U (some ⟨b4,o4,none⟩) c.Aa.length c4,U a5 c.now.length c5] (U p1 c.base.length d1) (U p2 c.Af.length d2) (U p3 c.hooks.length d3) (U p5 c.now.length d5) c (k+1) (U (some ⟨g',0,none⟩) (k+1) Ey) (w2.setCell ⟨q,3,none⟩ (U (some ⟨g',0,none⟩) (k+1) Ey)):=by
   have Th:Ak (fun x=>x=q) w2 (w2.setCell ⟨q,3,none⟩ (U (some ⟨g',0,none⟩) (k+1) Ey)):=(Ak.refl (fun x=>x=q) w2).DT;have hnq:∀x,TT W3.heap.size w2 x->¬x=q:=fun x hx e=>TT.not (e▸hx) M9 ⟨by decide,by decide,by decide⟩;have hng:∀ {A:Zb} (hA:∀g cs,wr.heap[g]?=some (Zbi cs 53 (0,0))->A.heap[g]?=some (Zbi cs 53 (0,0))) x,TT W3.heap.size A x->¬(Zy va k vc).ownBlock=some x:=fun hA x hx e=>by
    obtain⟨_,cs,h2⟩:=Em x e;exact TT.not hx (hA x cs h2) ⟨by decide,by decide,by decide⟩
   have hTw:Ak (fun x=>(Zy va k vc).ownBlock=some x) wr w2:=((Ak.later Jp).mono fun _ x=>x).trans Js;have uz:=hng (A:=wr) (fun g cs h=>h);have rK:=hng (A:=uT) (fun g cs h=>(Jp.block g (Za.1 h).1).trans h);refine⟨?_,?_,?_,Ba M9 _,Rn (Rn hC.base hTw uz) Th hnq,mL (mL hC.Af hTw uz) Th hnq,Rn (Rn hC.hooks hTw uz) Th hnq,Rn (Rn hC.now hTw uz) Th hnq,?_,by have:=hTw.size;simp;omega⟩
   .exact bS ((hC.below.trans (Jp.mono hC.below.size)).trans (Js.below (fun g hg=>by have:=(Em g hg).1;omega) (by have:=Jp.size;omega))) (by omega)
   .exact(AZ (by omega) _).trans ((D3.block _ (by omega) qF).trans hC.box)
   .exact(AZ (by omega) _).trans ((D3.block _ DR l_).trans hC.res)
   rw[HTK.out];refine En.CN (A:=w2) ?_ Th hnq (fun g hg e=>by
    cases hg;subst e;rcases Cm.2 with⟨e,_⟩|⟨g,cap,cur,e,_,h3,_⟩
    .cases e
    cases e;rw[M9]at h3;cases h3)
   rw[show k+1=sl.length+1 by rw[hsk]]at*;have xG:Rs (TT W3.heap.size uT) uT [.int J low,.int J high,U p6 Ap.length t6,U p7 over.length t7,.int J left] ⟨low,high,Ap,over,left⟩:=⟨_,_,rfl,Ug (M6 Hb Vn) Rb,LQ (Ei Lb Vn) Rb⟩;exact En.snoc (fun i x hi=>xR (DF i x hi) Js rK) (by have:=AX.1;rw[this,hsk]) rfl (xR xG Js rK) Cm
  have HC2:=Zd bM;clear bM hC D3 Js WQ Kd Jp Vn uU Bg cu Hb Lb AX Cm DF AG Gc Em Ci f3 e3 M9 hp ho;unfold Dl
  go_simp
  go_wp2;go_roundg (c.Aa.length - (k+1))
  case rel=>exact⟨k+1,_,Az,rfl,by go_num,HC2.out⟩
  omega
 have T5:k=c.Aa.length:=by omega
 rw[T5,ZcU]at NK;subst NK;subst T5;have kx:=ch (i:=3) hC.box (v:=.slice a4 c.Aa.length c4) rfl;have s0:=ch (i:=0) hC.qx (v:=.slice p1 c.base.length d1) rfl;have s1:=ch (i:=1) hC.qx (v:=.slice p2 c.Af.length d2) rfl;have s2:=ch (i:=2) hC.qx (v:=.slice p3 c.hooks.length d3) rfl;have s3:=ch (i:=3) hC.qx (v:=.slice va c.Aa.length vc) rfl;have s4:=ch (i:=4) hC.qx (v:=.slice p5 c.now.length d5) rfl;have f0:=cf (i:=0) hC.res;have f1:=cf (i:=1) hC.res;have f2:=cf (i:=2) hC.res;have f3:=cf (i:=3) hC.res;have f4:=cf (i:=4) hC.res;have r0:=ch (i:=0) hC.res (v:=.slice none 0 0) rfl;have r1:=ch (i:=1) hC.res (v:=.slice none 0 0) rfl;have r2:=ch (i:=2) hC.res (v:=.slice none 0 0) rfl;have r3:=ch (i:=3) hC.res (v:=.slice none 0 0) rfl;have r4:=ch (i:=4) hC.res (v:=.slice none 0 0) rfl;have kD:q<wr.heap.size:=(Za.1 hC.qx).1;have bG:=hC.below.size;have DR:w.heap.size+1<wr.heap.size:=(Za.1 hC.res).1;have HC:=Zd hC;have HR:=Zd Ci;clear hC Ci;go_wp2;refine ZN (v:=.agg #[U p1 c.base.length d1,U p2 c.Af.length d2,U p3 c.hooks.length d3,U va c.Aa.length vc,U p5 c.now.length d5]) (by rw[A8 rfl];go_simp) rfl ?_;have key:∀X,Bl w X->Ak (fun x=>x=w.heap.size+1) wr X->Ro w c (.returned (.agg #[U p1 c.base.length d1,U p2 c.Af.length d2,U p3 c.hooks.length d3,U va c.Aa.length vc,U p5 c.now.length d5])) X:=fun X Ov Pc=>by
  have hn:∀x,TT W3.heap.size wr x->¬x=w.heap.size+1:=fun x hx e=>by have:=hx.1;omega
  have mM:w.heap.size<=W3.heap.size:=by omega
  have hg:∀g,(Zy va c.Aa.length vc).ownBlock=some g->¬g=w.heap.size+1:=fun g hg e=>by have:=(HR.out.own g hg).1;omega
  exact⟨_,_,_,_,_,rfl,Ov,LQ (Rn HC.out.base Pc hn) mM,Ug (mL HC.out.Af Pc hn) mM,LQ (Rn HC.out.hooks Pc hn) mM,LQ (Rn HC.out.now Pc hn) mM,(HR.out.CN Pc hn hg).mono mM⟩
 have Lc:=HC.out.below;refine key _ ?_ ?_
 .repeat (with_reducible first|exact Lc|(refine bS ?_ (by omega)))
 repeat (with_reducible first|exact Ak.refl _ _|(refine Ak.DT ?_))
structure LW (b:Nat)(lv:Zf)(w:Zb)(d:Nat)(W:Zb):Prop where
 Cn:B3 b w W
 E4:BK W b lv d
def LW.alloc (h:LW b lv w d W)(o:Obj):LW b lv w d (W.alloc o):=⟨h.Cn.below (bA (Zh _ _)),h.E4.later (bA (Zh _ _))⟩
def LW.drew (h:LW b lv w d W):LW b lv w d W.drew:=⟨h.Cn.below (Zh _ _).drew,h.E4.later (Zh _ _).drew⟩
def LW.step {b d d':Nat}{lv:Zf}{w W W':Zb}(h:LW b lv w d W)(hU:B3 b W W')(hL:BK W' b lv d'):LW b lv w d' W':=⟨h.Cn.trans hU,hL⟩
def LW.refl (h:BK w b lv d):LW b lv w d w:=⟨B3.refl _ _,h⟩
def LW.below {W':Zb}(h:LW b lv w d W)(hB:Bl W W'):LW b lv w d W':=⟨h.Cn.below hB,h.E4.later hB⟩
section
variable {Sn:Nat->Prop}{w:Zb}{lv:Zf}{nums:List Int}{b:Nat}
def Dr (b:Nat)(lv:Zf)(w:Zb)(d m:Nat)(lo:Int)(W:Zb)(e:Ending)(W':Zb):Prop:=∃(r d':Nat),e=.returned (.int J (lo+r))/\r<=m/\B3 b W W'/\LW b lv w d' W'/\d'<=d+1
def abV (hn:SI Sn w lv nums)(E8:∀x,Sn x->x<w.heap.size/\x≠b)(hL:LW b lv w d W)(hd:d<4611686018427387904)(h1: -1000000<=lo/\lo<=1000000)(h2: -1000000<=hi/\hi<=1000000):
  Calls Lp 6 #[.pointer (some ⟨b,0,none⟩),.int J lo,.int J hi] W (Dr b lv w d (hi - lo).toNat lo W):=
 (c61 (hn.Cn hL.Cn E8) (Li hL.Cn E8) hL.E4 hd h1 h2).mono fun _ _ ⟨r,d',he,hr,hU,Tp,cM⟩=>⟨r,d',he,hr,hU,hL.step hU Tp,cM⟩
def abW (hn:SI Sn w lv nums)(E8:∀x,Sn x->x<w.heap.size/\x≠b){n:Int}(hL:LW b lv w d W)(hd:d<4611686018427387904)(h2:n<=1000000):
  Calls Lp 13 #[.pointer (some ⟨b,0,none⟩),.int J n] W fun e W'=>∃(r d':Nat),e=.returned (.int J r)/\r<=n.toNat/\B3 b W W'/\LW b lv w d' W'/\d'<=d+1:=
 (c29 (hn.Cn hL.Cn E8) (Li hL.Cn E8) hL.E4 hd (by omega)).mono fun _ _ ⟨r,d',he,hr,hU,Tp,cM⟩=>⟨r,d',he,hr,hU,hL.step hU Tp,cM⟩
def abX (hn:SI Sn w lv nums)(E8:∀x,Sn x->x<w.heap.size/\x≠b){n:Int}(hL:LW b lv w d W)(hd:d<4611686018427387904)(h2: -1000000<=n/\n<=1000000):
  Calls Lp 16 #[.pointer (some ⟨b,0,none⟩),.int J n] W fun e W'=>∃(r:Bool) (d':Nat),e=.returned (.bool r)/\B3 b W W'/\LW b lv w d' W'/\d'<=d+1:=
 (c99 (hn.Cn hL.Cn E8) (Li hL.Cn E8) hL.E4 hd h2).mono fun _ _ ⟨r,d',he,hU,Tp,cM⟩=>⟨r,d',he,hU,hL.step hU Tp,cM⟩
def abY (hn:SI Sn w lv nums)(E8:∀x,Sn x->x<w.heap.size/\x≠b){s:List Int}(hL:LW b lv w d W)(hd:d<4611686018427387904)(h1:1<=s.length)(h2:s.length<=1000):
  Calls Lp 14 #[.pointer (some ⟨b,0,none⟩),U (some ⟨W.heap.size,0,none⟩) s.length s.length] (W.alloc (.cells (s.map (ZL J)).toArray 3)) fun e W'=>∃(r d':Nat),e=.returned (.int J (nth s r))/\r<s.length/\B3 b (W.alloc (.cells (s.map (ZL J)).toArray 3)) W'/\LW b lv w d' W'/\d'<=d+1:=by
 have Tp:=hL.alloc (.cells (s.map (ZL J)).toArray 3);refine(c98 (T:=fun x=>x=W.heap.size) (hn.Cn Tp.Cn E8) (Li Tp.Cn E8) Tp.E4 hd (M1 s (Bp _ _) rfl (by unfold maxLen;omega)) (fun x hx=>by have:=hL.E4.lt;subst hx;simp;omega) h1 h2).mono ?_;rintro _ _ ⟨r,d',he,hr,hU,rV,cM⟩;exact⟨r,d',he,hr,hU,Tp.step hU rV,cM⟩
end
def Ih (w:Zb)(base:Nat)(v:Zf)(l:List (Int×Int))(e:Zs):Prop:=w.ownsRow base e 2 v l.length (l.flatMap fun p=> [ZL J p.1,.int J p.2])
def fp (l:List (Int×Int))(i:Nat)(p:Int×Int)(h:l[i]?=some p):((l.flatMap fun p=> [ZL J p.1,.int J p.2]).drop (i*2)).take 2=[.int J p.1,.int J p.2]:=by
 induction l generalizing i with
 |nil=>cases h
 |cons q r ih=>
  cases i with
  |zero=>cases h;rfl
  |succ i=>
   have:=ih i (by simpa using h);rw[List.flatMap_cons,show(i+1)*2=i*2+2 by omega,show([ZL J q.1,.int J q.2]++r.flatMap fun p=> [ZL J p.1,.int J p.2]).drop (i*2+2)=(r.flatMap fun p=> [ZL J p.1,.int J p.2]).drop (i*2) by rw[show i*2+2=2+i*2 by omega, <-List.drop_drop];rfl];exact this
def Ih.tt {base:Nat}{l:List (Int×Int)}(h:Ih w base v l e)(he:e=3\/e=107\/e=49):SP (TT base w) w v l:=
 Sl.imp (Lg (R:=Rp) (by decide) h fun i x hx=>fp l i x hx) (fun b hb=>⟨hb.1.1,by obtain⟨cs,h⟩:=hb.2;exact⟨cs,e,h,he⟩⟩) fun _ _ x=>x
def five (h:r<5):nth [1,2,3,-1,-2] r≠0/\-4<=nth [1,2,3,-1,-2] r/\nth [1,2,3,-1,-2] r<=4:=by
 have:r=0\/r=1\/r=2\/r=3\/r=4:=by omega
 rcases this with rfl|rfl|rfl|rfl|rfl<;>decide
def ahN (h:r<5):nth [1,2,-1,-4,4] r≠0/\-4<=nth [1,2,-1,-4,4] r/\nth [1,2,-1,-4,4] r<=4:=by
 have:r=0\/r=1\/r=2\/r=3\/r=4:=by omega
 rcases this with rfl|rfl|rfl|rfl|rfl<;>decide
def four (hm:m<=4)(h:r<4):0<=nth [1,2,4,(m:Int)] r/\nth [1,2,4,(m:Int)] r<=4:=by
 have:r=0\/r=1\/r=2\/r=3:=by omega
 rcases this with rfl|rfl|rfl|rfl<;>simp[nth]<;>omega
def Ih.Cn {base:Nat}{l:List (Int×Int)}(h:Ih w base v l e)(hB:B3 q w W)(hq:q<base):Ih W base v l e:=D2 h hB hq
def LW.D4 (h:LW b lv w d W)(hb:b<w.heap.size)(hq:w.heap.size<=q):LW b lv w d (W.setCell ⟨q,i,none⟩ v):=
 ⟨h.Cn.D4 hq,h.E4.of (AZ (by omega) _)⟩
def abZ (g:Nat)(pl:List (Int×Int)):Prop:=(1<=pl.length/\pl.length<=2)/\(∀p∈pl,0<=p.1/\p.1<g/\p.2≠0/\-4<=p.2/\p.2<=4)/\(pl.length=2->(BV pl 1).1≠(BV pl 0).1)
def ac0 (h:gi<g)(hy:y≠0/\-4<=y/\y<=4):abZ g [((gi:Int),y)]:=
 ⟨⟨by simp,by simp⟩,fun p hp=>by simp at hp;subst hp;simp only;omega,fun h=>by simp at h⟩
def ac1 {o2:Nat}{z:Int}(h:gi<g)(hy:y≠0/\-4<=y/\y<=4)(h2:o2<g)(BL:o2≠gi)(hz:z≠0/\-4<=z/\z<=4):abZ g [((gi:Int),y),((o2:Int),z)]:=
 ⟨⟨by simp,by simp⟩,fun p hp=>by simp at hp;rcases hp with rfl|rfl<;>simp only<;>omega,fun _=>by simp[BV];omega⟩
def Ti {base:Nat}{e':Zs}(h:A.ownsRow base e k v n xs)(hq:A.heap[q]?=some (.cells cs e' (0,0)))(he:e≠e'):(A.setCell ⟨q,i,none⟩ u).ownsRow base e k v n xs:=by
 refine⟨h.1,?_⟩;rcases h.2 with h1|⟨g,cap,cur,h1,h2,h3,h4⟩
 .exact .inl h1
 exact .inr ⟨g,cap,cur,h1,h2,(AZ (fun e0=>by subst e0;rw[h3]at hq;cases hq;exact he rfl) _).trans h3,h4⟩
def J3 {base:Nat}(h:A.ownsRow base e k v n xs):∀x,v.ownBlock=some x->base<=x/\∃cs,A.heap[x]?=some (.cells cs e (0,0)):=fun x hx=>by
 rcases h.2 with⟨e,_⟩|⟨g,cap,cur,e,h3,h4,_⟩
 .rw[e]at hx;cases hx
 rw[e]at hx;cases hx;exact⟨h3,cur,h4⟩
def Fc {base:Nat}(h:A.ownsRow base e k v n xs)(hT:Ak T A B)(hx:∀x cs,A.heap[x]?=some (Zbi cs e (0,0))->¬T x):B.ownsRow base e k v n xs:=by
 refine⟨h.1,?_⟩;rcases h.2 with h1|⟨g,cap,cur,h1,h2,h3,h4⟩
 .exact .inl h1
 exact .inr ⟨g,cap,cur,h1,h2,(hT.block g (Za.1 h3).1 (hx g cur h3)).trans h3,h4⟩
def cv {base:Nat}{g:Int}(hR:w.heap[b]?=some (C #[.int J g,.int J y] 107 (0,0)))(hb:base<=b):Ih w base (U (some ⟨b,0,none⟩) 1 1) [(g,y)] 107:=
 ⟨rfl,.inr ⟨b,1,_,rfl,hb,hR,Zj _,by decide,rfl,rfl⟩⟩
def qI (w:Zb)(b:Nat)(lv:Zf)(d g n o:Nat)(e:Ending)(w':Zb):Prop:=∃(s:Ay) (v2 v3:Zf) (d':Nat),e=.returned (.agg #[.int J s.low,.int J s.high,v2,v3,.int J s.left])/\LW b lv w d' w'/\d'<=d+20/\SP (TT w.heap.size w') w' v2 s.Ap/\SI (TT w.heap.size w') w' v3 s.over/\Mh g n o s/\∀x∈s.over,(o:Int)<x
def aoS {o:Nat}(hn:SI Sn w lv nums)(E8:∀x,Sn x->x<w.heap.size/\x≠b)(hL:BK w b lv d)(hd:d+20<4611686018427387904)(hg:1<=g/\g<=3)(KJ:o<n)(hn3:n<=3):
  Calls Lp 15 #[.pointer (some ⟨b,0,none⟩),.int J g,.int J n,.int J o] w (qI w b lv d g n o):=by
 have IX:=DJ;have rW:=Zd (fun W d lo hi hL hd h1 h2=>abV (W:=W) (d:=d) (lo:=lo) (hi:=hi) hn E8 hL hd h1 h2);have iG:=Zd (fun W d n hL hd h2=>abW (W:=W) (d:=d) (n:=n) hn E8 hL hd h2);have H99:=Zd (fun W d n hL hd h2=>abX (W:=W) (d:=d) (n:=n) hn E8 hL hd h2);have H98:=Zd (fun W d s hL hd h1 h2=>abY (W:=W) (d:=d) (s:=s) hn E8 hL hd h1 h2);have hLW:=LW.refl hL;have GK:=hL.lt;have m1:=Yz;have m2:=Yz;have m3:=Yz;have m4:=Yz;have m5:=Yz;have m6:=Yz;have m7:=Yz;have m8:=Yz;have m9:=Yz;have Ko:=Bp w (C #[.int J 0,.int J 0,U none 0 0,U none 0 0,.int J 0] 53);go_enter Lp.func110,ane;go_wp2_with (first|(go_at_call 6;clear m1;refine(rW.out _ _ _ _ (hLW.alloc _) (by omega) (by omega) (by omega)).mono ?_;rintro e W1 ⟨r0,d1,rfl,tE,Na,fq,hd1⟩;have Ko:=Na.at_ Ko (by omega))|(go_at_call 6;clear m2;refine(rW.out _ _ _ _ fq (by omega) (by omega) (by omega)).mono ?_;rintro e W2 ⟨r1,d2,rfl,Xg,Ot,M7,hd2⟩;have Ko:=Ot.at_ Ko (by omega))|(go_at_call 6;clear m3;refine(rW.out _ _ _ _ M7 (by omega) (by omega) (by omega)).mono ?_;rintro e W3 ⟨r2,d3,rfl,Ox,H4,k_,hd3⟩;have Ko:=H4.at_ Ko (by omega))|(go_at_call 13;clear m4;refine(iG.out _ _ _ k_ (by omega) (by omega)).mono ?_;rintro e W4 ⟨gi,d4,rfl,n8,S5,ld,hd4⟩;have Ko:=S5.at_ Ko (by omega))|(go_at_call 14;clear m5;refine(H98.out _ _ [1,2,3,-1,-2] ld (by omega) (by decide) (by decide)).mono ?_;rintro e W5 ⟨r5,d5,rfl,iK,cN,aoT,hd5⟩;obtain⟨y1,mD,mC,hya,hyb⟩:∃y,y=nth [1,2,3,-1,-2] r5/\(y≠0/\-4<=y/\y<=4):=⟨_,rfl,five iK⟩;rw[<-mD];clear mD;have Ko:=cN.at_ (Bf Ko _) (by omega))|(go_at_call 13;clear m6;(have hw5:w.heap.size+1<=W5.heap.size:=by have h1:=Na.size;have h2:=Ot.size;have h3:=H4.size;have h4:=S5.size;have h5:=cN.size;simp only[ZB]at h1 h5;omega);have hR:=Bp W5 (C #[.int J gi,.int J y1] 107);refine(iG.out _ _ _ (aoT.alloc _) (by omega) (by omega)).mono ?_;rintro e W6 ⟨r6,d6,rfl,hr6,Xp,aoW,hd6⟩;have hR:=Xp.at_ hR (by omega);have Ko:=Xp.at_ (Bf Ko _) (by omega))|(go_at_call 14;clear m7;refine(H98.out _ _ [1,2,4,(r6:Int)] aoW (by omega) (by simp) (by simp)).mono ?_;rintro e W7 ⟨r7,d7,rfl,hr7,hU7,aoX,hd7⟩;have hR:=hU7.at_ (Bf hR _) (by omega);have Ko:=hU7.at_ (Bf Ko _) (by omega);obtain⟨y2,hy2,hyc,hyd⟩:∃y,y=nth [1,2,4,(r6:Int)] r7/\(0<=y/\y<=4):=⟨_,rfl,four (by omega) hr7⟩;rw[<-hy2];clear hy2;have Ko:=Bf Ko (C #[.int J (-2+(r0:Int)),.int J (-2+(r0:Int)+(r2:Int)),U (some ⟨W5.heap.size,0,none⟩) 1 1,U none 0 0,.int J y2] 53);have hR:=Bf hR (C #[.int J (-2+(r0:Int)),.int J (-2+(r0:Int)+(r2:Int)),U (some ⟨W5.heap.size,0,none⟩) 1 1,U none 0 0,.int J y2] 53);have H_:=Bp W7 (C #[.int J (-2+(r0:Int)),.int J (-2+(r0:Int)+(r2:Int)),U (some ⟨W5.heap.size,0,none⟩) 1 1,U none 0 0,.int J y2] 53);have Oh:=aoX.alloc (C #[.int J (-2+(r0:Int)),.int J (-2+(r0:Int)+(r2:Int)),U (some ⟨W5.heap.size,0,none⟩) 1 1,U none 0 0,.int J y2] 53);obtain⟨dx,hdx⟩:∃dx,dx=d7:=⟨_,rfl⟩;rw[<-hdx]at Oh;obtain⟨qb,hqb⟩:∃qb,qb=W7.heap.size:=⟨_,rfl⟩;(have hqw:W5.heap.size<qb:=by have h6:=Xp.size;have h7:=hU7.size;simp only[ZB]at h6 h7;omega);rw[<-hqb]at H_;obtain⟨X,lg⟩:∃X,X=W7.alloc (C #[.int J (-2+(r0:Int)),.int J (-2+(r0:Int)+(r2:Int)),U (some ⟨W5.heap.size,0,none⟩) 1 1,U none 0 0,.int J y2] 53):=⟨_,rfl⟩;rw[<-lg]at hR H_ Oh Ko)|(go_at_call 16;clear m8;rw[<-lg];refine(H99.out _ _ _ Oh (by omega) (by omega)).mono ?_;rintro e X ⟨rb,d8,rfl,uC,Oh,hd8⟩;have hR:=uC.at_ hR (by omega);have Ko:=uC.at_ Ko (by omega);have H_:=uC.at_ H_ (by omega);obtain⟨dx,hdx⟩:∃dx,dx=d8:=⟨_,rfl⟩;rw[<-hdx]at Oh)|(go_at_call 13;clear m9;refine(iG.out _ _ _ Oh (by omega) (by omega)).mono ?_;rintro e X ⟨oi,d9,rfl,hoi,pY,Oh,hd9⟩;have hR:=pY.at_ hR (by omega);have Ko:=pY.at_ Ko (by omega);have H_:=pY.at_ H_ (by omega);obtain⟨dx,hdx⟩:∃dx,dx=d9:=⟨_,rfl⟩;rw[<-hdx]at Oh;have cb:=ch (i:=2) H_ (v:=.slice (some ⟨W5.heap.size,0,none⟩) 1 1) rfl;have cp:=ch (i:=0) hR (v:=.int J gi) rfl;rw[hqb]at cb))
 all_goals try (
  have lY:=cb;clear cb cp lY;have lZ:2<=g:=by omega
  first
   |(have hgo:gi<=oi:=by assumption
     obtain⟨o2,nF,hoa,hob⟩:∃o2:Nat,(oi:Int)+1=(o2:Int)/\o2<g/\o2≠gi:=⟨oi+1,by omega,by omega,by omega⟩;rw[nF])
   |(obtain⟨o2,nF,hoa,hob⟩:∃o2:Nat,o2=oi/\o2<g/\o2≠gi:=⟨oi,rfl,by omega,by omega⟩
     rw[<-nF])
  clear nF;obtain⟨K,Ig⟩:∃K:Nat->Prop,K=fun x=>x=b\/w.heap.size<x/\x≠qb:=⟨_,rfl⟩;have fh:K b:=by rw[Ig];exact .inl rfl
  have LP:∀x,w.heap.size<x->x≠qb->K x:=fun x hx hq=>by rw[Ig];exact .inr ⟨hx,hq⟩
  have Tg:¬K qb:=by rw[Ig];intro x;omega
  have qF:¬K w.heap.size:=by rw[Ig];intro x;omega
  clear Ig;rw[<-hqb];clear hqb lg;have z0:=fun p:Tw K X=>p.cell (ch (i:=2) H_ (v:=.slice (some ⟨W5.heap.size,0,none⟩) 1 1) rfl) Tg;have xS:qb<X.heap.size:=(Za.1 H_).1;have hbX:b<X.heap.size:=Oh.E4.lt;refine B0 (S:=fun W=>∃p:Tw K X,W=p.v) [10] [(false,4),(false,5),(false,6),(false,7),(false,8),(false,9),(false,10)] [0,1,2,3] (by kernel_rfl) (fun _ _ d _ _ h=>by cases d<;>exact h) (by kernel_rfl) (A5 (Ak.later (Zh _ _).drew)) ?_;refine A4 _ _ (by kernel_rfl) ?_;simp only[Z6,zd,ZG,ZD,ZC]
  repeat (first|go_big_quiet_step (fail)|quiet_step (fail))
  refine Z4 ?_;clear z0;change Dl _ _ _ _ _ _ _;obtain⟨V,hV⟩:∃V,V=X.drew:=⟨_,rfl⟩;have Ui:Bl X V:=by rw[hV];exact(Zh _ _).drew
  have xT:LW b lv w dx V:=by rw[hV];exact Oh.drew
  rw[<-hV];clear hV;have Vn:Bl V (V.alloc (C #[.int J 1,.int J 2,.int J (-1),.int J (-4),.int J 4] 3)):=bA (Zh _ _);have Ov:=Ui.trans (Vn.mono Ui.size);refine JZ (v:=.slice (some ⟨V.heap.size,0,none⟩) 5 5) (w':=V.alloc (C #[.int J 1,.int J 2,.int J (-1),.int J (-4),.int J 4] 3)) rfl rfl (by go_simp) (.inr (A5 (Ak.later Ov))) ?_;refine Dd (f:=14) (args:= #[.pointer (some ⟨b,0,none⟩),U (some ⟨V.heap.size,0,none⟩) 5 5]) rfl rfl (by go_simp) ((H98.out V _ [1,2,-1,-4,4] xT (by omega) (by decide) (by decide)).mono ?_);rintro e Y ⟨r9,d10,rfl,hr9,kF,xU,axa⟩;obtain⟨y3,hy3,hyf,hyg,hyh⟩:∃y,y=nth [1,2,-1,-4,4] r9/\(y≠0/\-4<=y/\y<=4):=⟨_,rfl,ahN hr9⟩;rw[<-hy3];clear hy3;have hTY:Ak K X Y:=(Ak.later Ov).trans (kF.CN fh);refine⟨_,rfl,.inr (A5 hTY),?_⟩;refine Dw (v:=.agg #[.int J o2,.int J y3]) rfl rfl (by go_simp) (.inr (A5 hTY)) ?_;have WQ:Ak K X (Y.alloc (C #[.int J o2,.int J y3] 107)):=hTY.uJ (bA (Zh _ _));refine JZ (v:=.slice (some ⟨Y.heap.size,0,none⟩) 1 1) (w':=Y.alloc (C #[.int J o2,.int J y3] 107)) rfl rfl (by go_simp) (.inr (A5 WQ)) ?_;have hRY:=kF.at_ ((Ov.block _ (Za.1 hR).1).trans hR) (by omega);have uV:=Bf hRY (C #[.int J o2,.int J y3] 107);obtain⟨i0,hi,Fl,DR,EB⟩:=zp Wv;have aoZ:=Cz Zcz;have hXY:=hTY.size;have hwX:=Oh.Cn.size;refine PW rfl rfl ?_;refine Zak _ _ _ 51 rfl (w.heap.size+1) 107 i0 (.agg #[.int J 0,.int J 0]) 2 16 aoZ (Dz hi) Fl DR EB rfl (by decide) _ 1 [.int J gi,.int J y1] rfl (cv uV hw5) ⟨Y.heap.size,0,none⟩ 1 1 [.int J o2,.int J y3] rfl rfl (Hc _ _ _) (by intro u hu;simp at hu;rcases hu with rfl|rfl<;>rfl) (by unfold maxLen;omega) (by omega) (by simp;omega) ?_;intro v' Y2 AX AG Gc;have S4:∀k,(Zy (some ⟨W5.heap.size,0,none⟩) 1 1).ownBlock=some k->k=W5.heap.size:=fun k hk=>by cases hk;rfl
  have D3:Ak K X Y2:=WQ.trans (Ak.grown AG fun k hk=>by rw[S4 k hk];exact LP _ (by omega) (by omega));refine⟨.inr (A5 D3),?_⟩;obtain⟨g',Ey,rfl⟩:=Zay AX;have WS:=(D3.block qb xS Tg).trans H_;have f2:=cf (i:=2) WS;have e2:=ch (i:=2) WS (v:=.slice (some ⟨W5.heap.size,0,none⟩) 1 1) rfl;refine Dw (v:=.pointer (some ⟨qb,2,none⟩)) rfl rfl (by go_simp) (.inr (A5 D3)) ?_;refine K8 (w':=Y2.setCell ⟨qb,2,none⟩ (U (some ⟨g',0,none⟩) 2 Ey)) rfl rfl (by go_simp) (.inl rfl) ?_;obtain⟨X,hXX⟩:∃X,X=Y2.setCell ⟨qb,2,none⟩ (U (some ⟨g',0,none⟩) 2 Ey):=⟨_,rfl⟩;have H_:X.heap[qb]?=some (C #[.int J (-2+(r0:Int)),.int J (-2+(r0:Int)+(r2:Int)),U (some ⟨g',0,none⟩) 2 Ey,U none 0 0,.int J y2] 53 (0,0)):=by rw[hXX];exact Ba WS _
  have Ko:X.heap[w.heap.size]?=some (C #[.int J 0,.int J 0,U none 0 0,U none 0 0,.int J 0] 53 (0,0)):=by rw[hXX];exact(AZ (by omega) _).trans ((D3.block _ (Za.1 Ko).1 qF).trans Ko)
  have ac5:LW b lv w d10 X:=by
   have h1:=(xU.alloc (C #[.int J o2,.int J y3] 107)).Cn.grown AG (fun k hk=>by rw[S4 k hk];omega);rw[hXX];refine⟨h1.D4 (by omega),(xU.alloc (C #[.int J o2,.int J y3] 107)).E4.of ?_⟩;exact(AZ (by omega) _).trans (AG.block b (xU.alloc _).E4.lt (fun e=>by have:=S4 b e.symm;omega))
  have Xa:Ih X (w.heap.size+1) (U (some ⟨g',0,none⟩) 2 Ey) [((gi:Int),y1),((o2:Int),y3)] 107:=by
   rw[hXX];exact Ti AX WS (by decide)
  rw[<-hXX];clear Oh hXX AX AG Gc S4 D3 WQ hTY hRY uV Ov Vn Ui xT kF xU WS f2 e2;obtain⟨dx,hdx⟩:∃dx,dx=d10:=⟨_,rfl⟩;rw[<-hdx]at ac5;have Oh:=ac5;clear ac5;unfold Dl
  go_simp
  go_wp2
  )
 all_goals
  have HB:∃(v2:Zf) (pl:List (Int×Int)),X.heap[qb]?=some (C #[.int J (-2+(r0:Int)),.int J (-2+(r0:Int)+(r2:Int)),v2,U none 0 0,.int J y2] 53 (0,0))/\Ih X (w.heap.size+1) v2 pl 107/\abZ g pl:=by
   first
    |exact⟨_,_,H_,Xa,ac1 (by omega) ⟨mC,hya,hyb⟩ hoa hob ⟨hyf,hyg,hyh⟩⟩
    |exact⟨_,_,H_,cv hR hw5,ac0 (by omega) ⟨mC,hya,hyb⟩⟩
  try rw[<-lg]
  try rw[<-hqb]
  try clear hqb
  try clear lg
  clear H_
  try clear Xa
  obtain⟨v2,pl,H_,Xa,xV⟩:=HB;obtain⟨p2,q2,rfl,_⟩:=JS Xa;obtain⟨i3,hi3,ap0,ap1,ap2⟩:=zp KY;have ap3:=Cz YE;have Pv:dx<=d+12:=by omega
  have axe:w.heap.size+1<=qb:=by omega
  have HP:=Zd xV;clear xV;go_loopg [12] (n - (o+1)) (fun gg i wr=>∃(k:Nat) (ov:List Int) (v3:Zf) (dk:Nat),(o+1<=k/\k<=n)/\gg=n - k/\i=.int J k/\LW b lv w dk wr/\dk+(o+1)<=dx+k/\wr.heap[w.heap.size]?=some (C #[.int J 0,.int J 0,U none 0 0,U none 0 0,.int J 0] 53 (0,0))/\wr.heap[qb]?=some (C #[.int J (-2+(r0:Int)),.int J (-2+(r0:Int)+(r2:Int)),U p2 pl.length q2,v3,.int J y2] 53 (0,0))/\Ih wr (w.heap.size+1) (U p2 pl.length q2) pl 107/\Own wr (w.heap.size+1) v3 ov/\ov.length<=k/\(∀x∈ov,(o:Int)<x/\x<k)/\ov.Pairwise (· < ·))
  case atStart=>exact⟨o+1,[],U none 0 0,dx,⟨Zj _,KJ⟩,rfl,by go_num,Oh,Zj _,Ko,H_,Xa,zq _ _ _ _,Zp _,(fun x hx=>by cases hx),List.Pairwise.nil⟩
  obtain⟨k,ov,v3,dk,⟨hk1,hk2⟩,rfl,rfl,oJ,jF,lh,Ga,w_,Jw,axf,ahQ,hpw⟩:=hrel;obtain⟨p3,q3,rfl,_⟩:=Jw.si.val;have uW:=Zd (ZY ahQ hpw);clear ahQ hpw;by_cases Az:k<n
  .have TB:(k:Int)<(n:Int):=by omega
   have hzk:=oJ.Cn.size;go_wp2_with (first|(go_at_call 16;refine(H99.out _ _ _ oJ (by omega) (by omega)).mono ?_;rintro e Y ⟨rb,dk2,rfl,hUy,hLy,hdy⟩;have hry:=hUy.at_ lh (by omega);have hby:=hUy.at_ Ga (by omega);have hpy:=w_.Cn hUy (by omega);have hoy:=Jw.Cn hUy (by omega);have c3:=ch (i:=3) hby (v:=.slice p3 ov.length q3) rfl;have hzy:=hLy.Cn.size)|(at_builtin;refine Yc _ rfl _ _ 22 rfl (w.heap.size+1) 3 i3 (.int J 0) 1 8 ap3 (Dz hi3) ap0 ap1 ap2 rfl (by decide) _ ov.length (ov.map (ZL J)) rfl (Ya hoy _) ⟨Y.heap.size,0,none⟩ 1 1 [.int J k] rfl rfl (Dj _ _ _) (by simp[YT]) (by unfold maxLen;omega) (by omega) (by have:=(Za.1 hry).1;simp;omega) ?_;intro v' Y2 AX AG Gc;obtain⟨g3,lj,rfl⟩:=Zay AX;(have Em:∀x,(Zy p3 ov.length q3).ownBlock=some x->w.heap.size+1<=x/\∃cs,Y.heap[x]?=some (.cells cs 3 (0,0)):=J3 hoy);(have D3:Ak (fun x=>(Zy p3 ov.length q3).ownBlock=some x) Y Y2:=((Ak.later (bA (Zh _ _))).mono fun _ x=>x).trans (Ak.grown AG fun x hx=>hx));(have cx:∀x cs,Y.heap[x]?=some (Zbi cs 53 (0,0))->¬(Zy p3 ov.length q3).ownBlock=some x:=fun x cs hx e=>by(obtain⟨_,cs',h2⟩:=Em x e);rw[hx]at h2;cases h2);have EC:=(D3.block _ (Za.1 hby).1 (cx _ _ hby)).trans hby;have Ox:=(D3.block _ (Za.1 hry).1 (cx _ _ hry)).trans hry;have e3:=ch (i:=3) EC (v:=.slice p3 ov.length q3) rfl;have f3:=cf (i:=3) EC))
   .have T6:w.heap.size≠qb:=by omega
    have hgb:∀x,(Zy p3 ov.length q3).ownBlock=some x->w.heap.size<=x:=fun x hx=>by have:=(Em x hx).1;omega
    have rV:LW b lv w dk2 Y2:=⟨(hLy.alloc (C #[.int J k] 3)).Cn.grown AG hgb,(hLy.alloc (C #[.int J k] 3)).E4.of (AG.block b (hLy.alloc _).E4.lt (fun e=>by have:=(Em b e.symm).1;omega))⟩;have VK:=Fc hpy D3 (fun x cs hx e=>by
     obtain⟨_,cs',h2⟩:=Em x e;rw[hx]at h2;cases h2)
    have HQ:=Zd (ZY (rV.D4 (i:=3) (v:=.slice (some ⟨g3,0,none⟩) (ov.length+1) lj) GK (show w.heap.size<=qb by omega)) (ZY ((AZ (i:=3) T6 (U (some ⟨g3,0,none⟩) (ov.length+1) lj)).trans Ox) (ZY (Ba (i:=3) EC (U (some ⟨g3,0,none⟩) (ov.length+1) lj)) (ZY (Ti (i:=3) (u:=.slice (some ⟨g3,0,none⟩) (ov.length+1) lj) VK EC (by decide)) (Ti (i:=3) (u:=.slice (some ⟨g3,0,none⟩) (ov.length+1) lj) AX EC (by decide))))));clear rV VK AX AG Gc D3 cx EC Ox e3 f3 Em hgb;go_roundg (n - (k+1))
    case rel=>
     obtain⟨g1,g2,g4,g5,g6⟩:=HQ.out;refine⟨k+1,ov++ [(k:Int)],_,dk2,⟨by omega,by omega⟩,rfl,by go_num,g1,by omega,g2,g4,g5,?_,by simp;omega,fun x hx=>?_,?_⟩
     .unfold Own
      rw[ZA,Zai];exact g6
     .rcases Zab.1 hx with hx|hx
      .have:=uW.out.1 x hx;omega
      rw[Yh.1 hx];omega
     refine List.pairwise_append.2 ⟨uW.out.2,List.pairwise_singleton _ _,fun a ha c hc=>?_⟩;rw[Yh.1 hc];exact(uW.out.1 a ha).2
    omega
   go_roundg (n - (k+1))
   case rel=>exact⟨k+1,ov,_,dk2,⟨by omega,by omega⟩,rfl,by go_num,hLy,by omega,hry,hby,hpy,hoy,by omega,(fun x hx=>⟨(uW.out.1 x hx).1,by have:=(uW.out.1 x hx).2;omega⟩),uW.out.2⟩
   omega
  have hkn:k=n:=by omega
  subst hkn;have s0:=ch (i:=0) Ga (v:=.int J (-2+(r0:Int))) rfl;have s1:=ch (i:=1) Ga (v:=.int J (-2+(r0:Int)+(r2:Int))) rfl;have s2:=ch (i:=2) Ga (v:=.slice p2 pl.length q2) rfl;have s3:=ch (i:=3) Ga (v:=.slice p3 ov.length q3) rfl;have s4:=ch (i:=4) Ga (v:=.int J y2) rfl;have f0:=cf (i:=0) lh;have f1:=cf (i:=1) lh;have f2:=cf (i:=2) lh;have f3:=cf (i:=3) lh;have f4:=cf (i:=4) lh;have x0:=ch (i:=0) lh (v:=.int J 0) rfl;have x1:=ch (i:=1) lh (v:=.int J 0) rfl;have x2:=ch (i:=2) lh (v:=.slice none 0 0) rfl;have x3:=ch (i:=3) lh (v:=.slice none 0 0) rfl;have x4:=ch (i:=4) lh (v:=.int J 0) rfl;have hwk:w.heap.size<wr.heap.size:=(Za.1 lh).1;have hqk:qb<wr.heap.size:=(Za.1 Ga).1;have HK:=Zd (ZY w_ Jw);clear w_ Jw Ga lh;go_wp2;refine ZN (v:=.agg #[.int J (-2+(r0:Int)),.int J (-2+(r0:Int)+(r2:Int)),U p2 pl.length q2,U p3 ov.length q3,.int J y2]) (by rw[A8 rfl];go_simp) rfl ?_;have key:∀Z,LW b lv w dk Z->Ak (fun x=>x=w.heap.size) wr Z->qI w b lv d g k o (.returned (.agg #[.int J (-2+(r0:Int)),.int J (-2+(r0:Int)+(r2:Int)),U p2 pl.length q2,U p3 ov.length q3,.int J y2])) Z:=fun Z hLZ mN=>by
   have Gc:∀x,TT (w.heap.size+1) wr x->¬x=w.heap.size:=fun x hx e=>by have:=hx.1;omega
   refine⟨⟨-2+(r0:Int),-2+(r0:Int)+(r2:Int),pl,ov,y2⟩,_,_,dk,rfl,hLZ,by omega,Ug (mL (HK.out.1.tt (.inr (.inl rfl))) mN Gc) (by omega),LQ (Rn HK.out.2.tt mN Gc) (by omega),?_,fun x hx=>(uW.out.1 x hx).1⟩;obtain⟨hf,hpp,htw⟩:=HP.out;refine⟨by simp only;omega,hf,hpp,htw,fun x hx=>?_,uW.out.2,⟨hyc,hyd⟩⟩;have:=uW.out.1 x hx;omega
  refine key _ ?_ ?_
  .exact((((oJ.D4 GK (Zj _)).D4 GK (Zj _)).D4 GK (Zj _)).D4 GK (Zj _)).D4 GK (Zj _)
  exact(Ak.refl (fun x=>x=w.heap.size) wr).DT.DT.DT.DT.DT
def Pe (n:Nat)(o:List Int):List Int:=(Yr o.length).map fun k=>(n:Int) - 1 - nth o (o.length - 1 - k)
def ll (n:Nat)(s:Ay):Ay:=⟨s.low,s.high,s.Ap,Pe n s.over,s.left⟩
def Pf (l:List Ay):List Ay:=(Yr l.length).map fun i=>ll l.length (Aj l (l.length - 1 - i))
def Pg (c:A_):A_:= {c with Aa:=Pf c.Aa}
def Gz (n:Nat)(o:List Int):(Pe n o).length=o.length:=by simp[Pe]
def GD (l:List Ay):(Pf l).length=l.length:=by simp[Pf]
def Tj (h:k<o.length):(Pe n o)[k]?=some ((n:Int) - 1 - nth o (o.length - 1 - k)):=by simp[Pe,h]
def cy {l:List Ay}(h:i<l.length):(Pf l)[i]?=some (ll l.length (Aj l (l.length - 1 - i))):=by simp[Pf,h]
def iL {a b:List α}{x:α}(h:a.length=b.length)(hx:a[k]?=some x):(a.take k++b.drop k).set k x=a.take (k+1)++b.drop (k+1):=by
 have hk:=(Zm.1 hx).1;apply YA;intro j;by_cases eG:j=k
 .subst eG
  rw[Ys (by simp;omega),zl (by simp;omega),Z2 (by omega)];exact hx.symm
 rw[ZS (fun e=>eG e.symm)];by_cases Az:j<k
 .rw[zl (by simp;omega),zl (by simp;omega),Z2 Az,Z2 (by omega)]
 rw[Zbr (by simp;omega),Zbr (by simp;omega),Yl,Yl]
 congr 1
 simp;omega
def iM {a b:List α}(h:a.length=b.length)(hk:a.length<=k):a.take k++b.drop k=a:=by
 rw[Zb3 hk,Z7.2 (by omega),ZaA]
def iN {a b:List α}(h:a.length=b.length)(hk:k<=a.length):(a.take k++b.drop k).length=b.length:=by
 simp;omega
def En.put {base cap:Nat}{l:List Ay}(h:En n w base (U (some ⟨g,0,none⟩) l.length cap) l)(hi:i<l.length)(hs:Rs (TT n w) w [.int J s.low,.int J s.high,v2,v3,.int J s.left] s):
  En n (((((w.setCell ⟨g,i*5,none⟩ (.int J s.low)).setCell ⟨g,i*5+1,none⟩ (.int J s.high)).setCell ⟨g,i*5+2,none⟩ v2).setCell ⟨g,i*5+3,none⟩ v3).setCell ⟨g,i*5+4,none⟩ (.int J s.left)) base (U (some ⟨g,0,none⟩) l.length cap) (l.set i s):=by
 obtain⟨vals,h1,h2⟩:=h;rcases h1.2 with⟨e,_⟩|⟨g',Ey,cur,e,h3,h4,h5,h6,h7,h8⟩
 .cases e
 cases e;have hT:=(Ak.refl (fun x=>x=g) w).DT (i:=i*5) (v:=.int J s.low)|>.DT (i:=i*5+1) (v:=.int J s.high)|>.DT (i:=i*5+2) (v:=v2)|>.DT (i:=i*5+3) (v:=v3)|>.DT (i:=i*5+4) (v:=.int J s.left);have BL:∀x,TT n w x->¬x=g:=fun x hx e=>TT.not (e▸hx) h4 ⟨by decide,by decide,by decide⟩;have uM:=h1.1;refine⟨((((vals.set (i*5) (.int J s.low)).set (i*5+1) (.int J s.high)).set (i*5+2) v2).set (i*5+3) v3).set (i*5+4) (.int J s.left),⟨by simp[uM],.inr ⟨g,cap,_,by simp,h3,Ba (Ba (Ba (Ba (Ba h4 _) _) _) _) _,by simpa using h5,h6,by simpa using h7,?_⟩⟩,fun j x hx=>?_⟩
 .simp only[ZcM,ZcC,List.take_set,h8]
 have hj:=(Zm.1 hx).1;rw[ZcC]at hj;by_cases hij:i=j
 .subst hij
  rw[Ys hi]at hx;cases hx;have e:((((((vals.set (i*5) (.int J s.low)).set (i*5+1) (.int J s.high)).set (i*5+2) v2).set (i*5+3) v3).set (i*5+4) (.int J s.left)).drop (i*5)).take 5=[.int J s.low,.int J s.high,v2,v3,.int J s.left]:=by
   apply YA;intro k;by_cases hk:k<5
   .rw[Z2 hk,Yl]
    have:k=0\/k=1\/k=2\/k=3\/k=4:=by omega
    rcases this with rfl|rfl|rfl|rfl|rfl
    .rw[ZS (by omega),ZS (by omega),ZS (by omega),ZS (by omega),Nat.add_zero,Ys (by omega)];rfl
    .rw[ZS (by omega),ZS (by omega),ZS (by omega),Ys (by simp;omega)];rfl
    .rw[ZS (by omega),ZS (by omega),Ys (by simp;omega)];rfl
    .rw[ZS (by omega),Ys (by simp;omega)];rfl
    rw[Ys (by simp;omega)];rfl
   rw[ZP (by simp;omega),ZP (by simp;omega)]
  rw[e];exact xR hs hT BL
 rw[ZS hij]at hx;have e:((((((vals.set (i*5) (.int J s.low)).set (i*5+1) (.int J s.high)).set (i*5+2) v2).set (i*5+3) v3).set (i*5+4) (.int J s.left)).drop (j*5)).take 5=(vals.drop (j*5)).take 5:=by
  apply YA;intro k;by_cases hk:k<5
  .rw[Z2 hk,Yl,Z2 hk,Yl,ZS (by omega),ZS (by omega),ZS (by omega),ZS (by omega),ZS (by omega)]
  rw[ZP (by simp;omega),ZP (by simp;omega)]
 rw[e];exact xR (h2 j x hx) hT BL
def En.ptr {base:Nat}{l:List Ay}(h:En n w base v l)(hp:0<l.length):∃g cap,v=.slice (some ⟨g,0,none⟩) l.length cap/\base<=g:=by
 obtain⟨vals,h1,_⟩:=h;rcases h1.2 with⟨_,h2⟩|⟨g,cap,cur,e,h3,_⟩
 .omega
 exact⟨g,cap,e,h3⟩
def En.cells {n base g cap i:Nat}{w:Zb}{l:List Ay}(h:En n w base (U (some ⟨g,0,none⟩) l.length cap) l)(hi:i<l.length):∃cur,w.heap[g]?=some (.cells cur 53 (0,0))/\∀j,j<5->∃u,cur[i*5+j]?=some u:=by
 obtain⟨vals,h1,_⟩:=h;rcases h1.2 with⟨e,_⟩|⟨g',Ey,cur,e,h3,h4,h5,h6,h7,h8⟩
 .cases e
 cases e;exact⟨cur,h4,fun j hj=>⟨_,Zx (by omega)⟩⟩
def ft {l:List (Int×Int)}(h:SP (J1 e n A) A u l)(hT:Ak T A B)(hx:∀b,J1 e n A b->¬T b):SP (J1 e n B) B u l:=
 Sl.imp (SP.Ar h (hT.same hx)) (fun b hb=>⟨⟨hb.1.1,Zl hb.1.2 hT.size⟩,by rw[hT.block b hb.1.2 (hx b hb)];exact hb.2⟩) fun _ _ x=>x
def ap5 {left:Int}(hp:SP S w v2 Ap)(ho:SI S w v3 over)(h2:Ap.length<=1000)(h3:over.length<=1000):
  Calls Lp 46 #[.agg #[.int J lo,.int J hi,v2,v3,.int J left]] w fun e w'=>∃u2 u3,e=.returned (.agg #[.int J lo,.int J hi,u2,u3,.int J left])/\Bl w w'/\SP (J1 107 w.heap.size w') w' u2 Ap/\Own w' w.heap.size u3 over:=by
 obtain⟨a2,c2,rfl,l2,m2⟩:=hp.val;obtain⟨a3,c3,rfl,l3,m3⟩:=ho.val;have IX:=DJ;go_enter Lp.func86,n86;go_wp2;obtain⟨W3,Hv⟩:∃W3,W3=(w.alloc (C #[.int J lo,.int J hi,U a2 Ap.length c2,U a3 over.length c3,.int J left] 53)).alloc (C #[.int J 0,.int J 0,U none 0 0,U none 0 0,.int J 0] 53):=⟨_,rfl⟩;have Bv:Bl w W3:=by rw[Hv];exact bA (bA (Zh _ _))
 have F1:W3.heap[w.heap.size]?=some (C #[.int J lo,.int J hi,U a2 Ap.length c2,U a3 over.length c3,.int J left] 53 (0,0)):=by rw[Hv];exact Bf (Bp _ _) _
 have O9:W3.heap[w.heap.size+1]?=some (C #[.int J 0,.int J 0,U none 0 0,U none 0 0,.int J 0] 53 (0,0)):=by rw[Hv];exact Jq _ _ _
 rw[<-Hv];clear Hv;have z2:=fun p=>Al p (ch (i:=2) F1 (v:=.slice a2 Ap.length c2) rfl);have z3:=fun p=>Al p (ch (i:=3) F1 (v:=.slice a3 over.length c3) rfl);refine B0 (S:=fun W=>∃p,W=calm W3 p) [7,8,9,10] [(false,0),(false,3),(true,7),(false,6),(false,8),(false,9),(false,10)] [1,2,4,5] (by kernel_rfl) (fun _ _ d _ _ h=>by cases d<;>exact h) (by kernel_rfl) (AL (Zh _ _).drew) ?_;refine A4 _ _ (by kernel_rfl) ?_;simp only[Z6,zd,ZG,ZD,ZC]
 repeat (first|go_big_quiet_step (fail)|quiet_step (fail))
 refine Z4 ?_;clear z2 z3;change Dl _ _ _ _ _ _ _;have uS:Bl W3 (W3.drew.alloc (C #[] 107)):=bA (Zh _ _).drew;refine JZ (v:=.slice (some ⟨W3.heap.size,0,none⟩) 0 0) (w':=W3.drew.alloc (C #[] 107)) rfl rfl (by go_simp) (.inr (AL uS)) ?_;cases ha2:a2 with
 |none=>
  subst ha2;have hl:Ap=[]:=by
   cases Ap with
   |nil=>rfl
   |cons x r=>obtain⟨b,o,e,_⟩:=hp.at_ (i:=0) (by simp);cases e
  subst hl;refine JZ (v:=.slice (some ⟨W3.heap.size,0,none⟩) 0 0) (w':=W3.drew.alloc (C #[] 107)) rfl rfl (by go_simp) (.inr (AL uS)) ?_;obtain⟨W5,Jy⟩:∃W5,W5=W3.drew.alloc (C #[] 107):=⟨_,rfl⟩;obtain⟨u2,fj⟩:∃u2:Zf,u2=.slice (some ⟨W3.heap.size,0,none⟩) 0 0:=⟨_,rfl⟩;have Hb:SP (J1 107 W3.heap.size W5) W5 u2 []:=⟨_,0,fj,Zj _,Zp _,fun i x hx=>by cases hx⟩;have Cj:Bl W3 W5:=by rw[Jy];exact uS
  rw[<-Jy, <-fj];clear Jy fj;have Tf:=Bv.trans (Cj.mono Bv.size);refine NZ (v:=.pointer (some ⟨w.heap.size,2,none⟩)) rfl rfl (fun w=>by go_simp) ?_;refine Dd (f:=47) (args:= #[U a3 over.length c3]) rfl rfl (by go_simp) ((WO (ho.later Tf) h3).mono ?_);rintro e W6 ⟨u3,rfl,DM,Lb⟩;have J2:=Cj.trans (DM.mono Cj.size);refine⟨u3,rfl,.inr (AL J2),?_⟩;obtain⟨p2,d2,rfl,_⟩:=Hb.val;obtain⟨p3,d3,rfl,_⟩:=Lb.si.val;have Qo:=Bv.trans (J2.mono Bv.size);have JB:=(J2.block _ (Za.1 F1).1).trans F1;have IV:=(J2.block _ (Za.1 O9).1).trans O9;have Rb:w.heap.size+1<W3.heap.size:=(Za.1 O9).1;have p9:W3.heap.size<=W5.heap.size:=Cj.size;have n2:SP (J1 107 W3.heap.size W6) W6 (U p2 0 d2) []:=ft (T:=fun _=>False) Hb ((Ak.later DM).mono fun _ x=>x) fun _ _ x=>x;have n3:Own W6 W3.heap.size (U p3 over.length d3) over:=Lb.mono p9;refine LD _ _ _ (by kernel_rfl) (fun x hx w=>.inl ?_) ?_
  .revert x;decide
  simp only[Gd,ZG,ZD,ZC];have g0:=ch (i:=0) JB (v:=.int J lo) rfl;have g1:=ch (i:=1) JB (v:=.int J hi) rfl;have g2:=ch (i:=2) JB (v:=.slice none 0 c2) rfl;have g3:=ch (i:=3) JB (v:=.slice a3 over.length c3) rfl;have g4:=ch (i:=4) JB (v:=.int J left) rfl;have f2:=cf (i:=2) JB;have f3:=cf (i:=3) JB;have x0:=ch (i:=0) IV (v:=.int J 0) rfl;have x1:=ch (i:=1) IV (v:=.int J 0) rfl;have x2:=ch (i:=2) IV (v:=.slice none 0 0) rfl;have x3:=ch (i:=3) IV (v:=.slice none 0 0) rfl;have x4:=ch (i:=4) IV (v:=.int J 0) rfl;have y0:=cf (i:=0) IV;have y1:=cf (i:=1) IV;have y2:=cf (i:=2) IV;have y3:=cf (i:=3) IV;have y4:=cf (i:=4) IV;clear DM Hb Lb;go_wp2;refine ZN (v:=.agg #[.int J lo,.int J hi,U p2 0 d2,U p3 over.length d3,.int J left]) (by rw[A8 rfl];go_simp) rfl ?_;have key:∀X,Bl w X->Ak (fun x=>x<W3.heap.size) W6 X->∃u2 u3,Zbx (.agg #[.int J lo,.int J hi,U p2 0 d2,U p3 over.length d3,.int J left])=.returned (.agg #[.int J lo,.int J hi,u2,u3,.int J left])/\Bl w X/\SP (J1 107 w.heap.size X) X u2 []/\Own X w.heap.size u3 over:=fun X Ov Pc=>
   ⟨_,_,rfl,Ov,Sl.imp (ft n2 Pc fun x hx h=>by have:=hx.1.1;omega) (fun b hb=>⟨⟨by have:=hb.1.1;omega,hb.1.2⟩,hb.2⟩) (fun _ _ x=>x),(n3.CN Pc fun x hx h=>by omega).mono (by omega)⟩
  refine key _ ?_ ?_
  .repeat (with_reducible first|exact Qo|(refine bS ?_ (by omega)))
  .repeat (with_reducible first|exact Ak.refl _ _|(refine Ak.set ?_ (show _<_ by omega)))
 |some ad=>
  obtain⟨news,hn,hR,hc⟩:=Sl.row hp (by decide) ad ha2;have h1:=row_one (by decide) hn hR bC;obtain⟨i0,DN,Fl,DR,EB⟩:=zp Wv;have hu:=Cz Zcz;refine PW rfl rfl ?_;refine Zak _ _ _ 51 rfl W3.heap.size 107 i0 (.agg #[.int J 0,.int J 0]) 2 16 hu (Dz DN) Fl DR EB rfl (by decide) _ 0 [] rfl (YC W3.drew #[] 0 (Zj _) (Zp _) rfl) ad Ap.length c2 news (by rw[<-ha2];rfl) hn (fun j u hj=>?_) h1 (by unfold maxLen;omega) (by omega) (by simp) ?_
  .exact ca (show W3.cell? _=_ from(Bv.cell (ZH w _ (hc j u hj))).trans (hc j u hj)) _
  intro u2 W5 AX AG Gc;have Cj:Bl W3 W5:=Bm uS AG (fun k hk=>by cases hk;exact Zj _) (by simp);refine⟨.inr (AL Cj),?_⟩;have Hb:SP (J1 107 W3.heap.size W5) W5 u2 Ap:=Lg (by decide) (by rw[zN,zP]at AX;exact AX) (fun i x hx=>hR i x hx);clear AX AG Gc;have Tf:=Bv.trans (Cj.mono Bv.size);refine NZ (v:=.pointer (some ⟨w.heap.size,2,none⟩)) rfl rfl (fun w=>by go_simp) ?_;refine Dd (f:=47) (args:= #[U a3 over.length c3]) rfl rfl (by go_simp) ((WO (ho.later Tf) h3).mono ?_);rintro e W6 ⟨u3,rfl,DM,Lb⟩;have J2:=Cj.trans (DM.mono Cj.size);refine⟨u3,rfl,.inr (AL J2),?_⟩;obtain⟨p2,d2,rfl,_⟩:=Hb.val;obtain⟨p3,d3,rfl,_⟩:=Lb.si.val;have Qo:=Bv.trans (J2.mono Bv.size);have JB:=(J2.block _ (Za.1 F1).1).trans F1;have IV:=(J2.block _ (Za.1 O9).1).trans O9;have Rb:w.heap.size+1<W3.heap.size:=(Za.1 O9).1;have p9:W3.heap.size<=W5.heap.size:=Cj.size;have n2:SP (J1 107 W3.heap.size W6) W6 (U p2 Ap.length d2) Ap:=ft (T:=fun _=>False) Hb ((Ak.later DM).mono fun _ x=>x) fun _ _ x=>x;have n3:Own W6 W3.heap.size (U p3 over.length d3) over:=Lb.mono p9;refine LD _ _ _ (by kernel_rfl) (fun x hx w=>.inl ?_) ?_
  .revert x;decide
  simp only[Gd,ZG,ZD,ZC];have g0:=ch (i:=0) JB (v:=.int J lo) rfl;have g1:=ch (i:=1) JB (v:=.int J hi) rfl;have g2:=ch (i:=2) JB (v:=.slice a2 Ap.length c2) rfl;have g3:=ch (i:=3) JB (v:=.slice a3 over.length c3) rfl;have g4:=ch (i:=4) JB (v:=.int J left) rfl;have f2:=cf (i:=2) JB;have f3:=cf (i:=3) JB;have x0:=ch (i:=0) IV (v:=.int J 0) rfl;have x1:=ch (i:=1) IV (v:=.int J 0) rfl;have x2:=ch (i:=2) IV (v:=.slice none 0 0) rfl;have x3:=ch (i:=3) IV (v:=.slice none 0 0) rfl;have x4:=ch (i:=4) IV (v:=.int J 0) rfl;have y0:=cf (i:=0) IV;have y1:=cf (i:=1) IV;have y2:=cf (i:=2) IV;have y3:=cf (i:=3) IV;have y4:=cf (i:=4) IV;clear DM Hb Lb;go_wp2;refine ZN (v:=.agg #[.int J lo,.int J hi,U p2 Ap.length d2,U p3 over.length d3,.int J left]) (by rw[A8 rfl];go_simp) rfl ?_;have key:∀X,Bl w X->Ak (fun x=>x<W3.heap.size) W6 X->∃u2 u3,Zbx (.agg #[.int J lo,.int J hi,U p2 Ap.length d2,U p3 over.length d3,.int J left])=.returned (.agg #[.int J lo,.int J hi,u2,u3,.int J left])/\Bl w X/\SP (J1 107 w.heap.size X) X u2 Ap/\Own X w.heap.size u3 over:=fun X Ov Pc=>
   ⟨_,_,rfl,Ov,Sl.imp (ft n2 Pc fun x hx h=>by have:=hx.1.1;omega) (fun b hb=>⟨⟨by have:=hb.1.1;omega,hb.1.2⟩,hb.2⟩) (fun _ _ x=>x),(n3.CN Pc fun x hx h=>by omega).mono (by omega)⟩
  refine key _ ?_ ?_
  .repeat (with_reducible first|exact Qo|(refine bS ?_ (by omega)))
  repeat (with_reducible first|exact Ak.refl _ _|(refine Ak.set ?_ (show _<_ by omega)))
structure MR (w:Zb)(q g cap:Nat)(xs:Array Zf)(s1 s2 s3 s5:Zf)(c:A_)(k:Nat)(wr:Zb):Prop where
 below:Bl w wr
 box:wr.heap[w.heap.size]?=some (.cells xs 28 (0,0))
 res:wr.heap[w.heap.size+1]?=some (C #[U none 0 0,U none 0 0,U none 0 0,U none 0 0,U none 0 0] 28 (0,0))
 qx:wr.heap[q]?=some (C #[s1,s2,s3,U (some ⟨g,0,none⟩) c.Aa.length cap,s5] 28 (0,0))
 base:SI (TT (w.heap.size+1+1) wr) wr s1 c.base
 Af:SP (TT (w.heap.size+1+1) wr) wr s2 c.Af
 hooks:SI (TT (w.heap.size+1+1) wr) wr s3 c.hooks
 now:SI (TT (w.heap.size+1+1) wr) wr s5 c.now
 row:En (w.heap.size+1+1) wr (w.heap.size+1+1) (U (some ⟨g,0,none⟩) c.Aa.length cap) ((Pf c.Aa).take k++c.Aa.drop k)
def ap6 (h:RC S w v1 v2 v3 v4 v5 c)(hS:∀b,S b->b<w.heap.size)(uX:c.now=[])(ig:c.base.length<=1000)(hle:c.Af.length<=1000)(hlh:c.hooks.length<=1000)(Xm:1<=c.Aa.length/\c.Aa.length<=1000)(xB:∀i,i<c.Aa.length->(Aj c.Aa i).Ap.length<=1000/\(Aj c.Aa i).over.length<=1000)
 (mA:∀i,i<c.Aa.length->∀x∈(Aj c.Aa i).over,0<=x/\x<=1000000):
  Calls Lp 17 #[.agg #[v1,v2,v3,v4,v5]] w (Ro w (Pg c)):=by
 obtain⟨a1,c1,rfl,l1,m1⟩:=h.base.val;obtain⟨a2,c2,rfl,l2,m2⟩:=h.Af.val;obtain⟨a3,c3,rfl,l3,m3⟩:=h.hooks.val;obtain⟨a4,c4,rfl,l4,m4⟩:=h.Aa.val;obtain⟨a5,c5,rfl,l5,m5⟩:=h.now.val;have IX:=DJ;have Qa:c.now.length<=1000:=by rw[uX];simp
 have Vo:¬((0:Int)<(c.now.length:Int)):=by rw[uX];simp
 have axi:=Zd uX;clear uX;have Bg:Bl w ((w.alloc (C #[U a1 c.base.length c1,U a2 c.Af.length c2,U a3 c.hooks.length c3,U a4 c.Aa.length c4,U a5 c.now.length c5] 28)).alloc (C #[U none 0 0,U none 0 0,U none 0 0,U none 0 0,U none 0 0] 28)):=bA (bA (Zh _ _));have ahW:((w.alloc (C #[U a1 c.base.length c1,U a2 c.Af.length c2,U a3 c.hooks.length c3,U a4 c.Aa.length c4,U a5 c.now.length c5] 28)).alloc (C #[U none 0 0,U none 0 0,U none 0 0,U none 0 0,U none 0 0] 28)).heap[w.heap.size]?=some (C #[U a1 c.base.length c1,U a2 c.Af.length c2,U a3 c.hooks.length c3,U a4 c.Aa.length c4,U a5 c.now.length c5] 28 (0,0)):=Bf (Bp _ _) _;have fA:((w.alloc (C #[U a1 c.base.length c1,U a2 c.Af.length c2,U a3 c.hooks.length c3,U a4 c.Aa.length c4,U a5 c.now.length c5] 28)).alloc (C #[U none 0 0,U none 0 0,U none 0 0,U none 0 0,U none 0 0] 28)).heap[w.heap.size+1]?=some (C #[U none 0 0,U none 0 0,U none 0 0,U none 0 0,U none 0 0] 28 (0,0)):=Jq _ _ _;have H33:=Zd (aoQ (h.later Bg) (A3 hS Bg) ig hle hlh Xm.2 Qa xB);go_enter Lp.func111,anf;go_wp2_with (go_at_call 45;refine H33.out.mono ?_;rintro e w1 ⟨u1,u2,u3,u4,u5,rfl,Bb,hC⟩;obtain⟨p1,d1,rfl,_⟩:=hC.base.val;obtain⟨p2,d2,rfl,_⟩:=hC.Af.val;obtain⟨p3,d3,rfl,_⟩:=hC.hooks.val;obtain⟨p5,d5,rfl,_⟩:=hC.now.val;obtain⟨g,cap,rfl,hgm⟩:=hC.row.ptr (by omega));have ahX:=(Bb.block _ (by simp;omega)).trans ahW;have ahY:=(Bb.block _ (by simp)).trans fA;have Bv:=Bg.trans (Bb.mono Bg.size);have DR:=Bb.size;simp only[ZB]at DR hC hgm;obtain⟨W4,ED⟩:∃W4,W4=w1.alloc (C #[U p1 c.base.length d1,U p2 c.Af.length d2,U p3 c.hooks.length d3,U (some ⟨g,0,none⟩) c.Aa.length cap,U p5 c.now.length d5] 28):=⟨_,rfl⟩;have Ks:Bl w1 W4:=by rw[ED];exact bA (Zh _ _)
 have hM4:MR w w1.heap.size g cap #[U a1 c.base.length c1,U a2 c.Af.length c2,U a3 c.hooks.length c3,U a4 c.Aa.length c4,U a5 c.now.length c5] (U p1 c.base.length d1) (U p2 c.Af.length d2) (U p3 c.hooks.length d3) (U p5 c.now.length d5) c 0 W4:=by
  refine⟨Bv.trans (Ks.mono Bv.size),(Ks.block _ (by omega)).trans ahX,(Ks.block _ (by omega)).trans ahY,by rw[ED];exact Bp _ _,Ei hC.base Ks,M6 hC.Af Ks,Ei hC.hooks Ks,Ei hC.now Ks,?_⟩;rw[ZdB,List.drop_zero,zP];exact hC.row.later Ks
 obtain⟨q,hq⟩:∃q,q=w1.heap.size:=⟨_,rfl⟩;have TC:w.heap.size+1+1<=q:=by omega
 rw[<-ED, <-hq];rw[<-hq]at hM4;clear ED Ks hC Bb ahX ahY ahW fA Bv Bg H33 hq DR;go_loopg [5] c.Aa.length (fun gg i wr=>∃k:Nat,k<=c.Aa.length/\gg=c.Aa.length - k/\i=.int J k/\MR w q g cap #[U a1 c.base.length c1,U a2 c.Af.length c2,U a3 c.hooks.length c3,U a4 c.Aa.length c4,U a5 c.now.length c5] (U p1 c.base.length d1) (U p2 c.Af.length d2) (U p3 c.hooks.length d3) (U p5 c.now.length d5) c k wr)
 case atStart=>exact⟨0,Zp _,rfl,rfl,hM4⟩
 obtain⟨k,hk,rfl,rfl,hM⟩:=hrel;have bG:=hM.below.size;have kD:q<wr.heap.size:=(Za.1 hM.qx).1;have q3:=ch (i:=3) hM.qx (v:=.slice (some ⟨g,0,none⟩) c.Aa.length cap) rfl;by_cases Az:k<c.Aa.length
 .obtain⟨m,hm⟩:∃m,m=c.Aa.length - 1 - k:=⟨_,rfl⟩
  have hmi:(c.Aa.length:Int) - 1 - (k:Int)=(m:Int):=by omega
  have hmn:m<c.Aa.length:=by omega
  have hmI:(m:Int)<(c.Aa.length:Int):=by omega
  have TB:(k:Int)<(c.Aa.length:Int):=by omega
  obtain⟨b4,o4,s2,s3,rfl,UQ,x0,x1,x2,x3,x4,hp,ho⟩:=h.Aa.at_ (i:=m) hmn;have Ga:∀j u,w.cell? ⟨b4,j,none⟩=some u->wr.cell? ⟨b4,j,none⟩=some u:=fun j u hu=>(hM.below.cell (p:=⟨b4,j,none⟩) (hS b4 UQ)).trans hu;replace x0:=Ga _ _ x0;replace x1:=Ga _ _ x1;replace x2:=Ga _ _ x2;replace x3:=Ga _ _ x3;replace x4:=Ga _ _ x4;clear Ga;replace hp:=hp.later hM.below;have ho0:=ho;replace ho:=ho.later hM.below;obtain⟨Oq,Qm⟩:=xB m hmn;have hoz:=mA m hmn;have hmr:(Pf c.Aa)[k]?=some (ll c.Aa.length (Aj c.Aa m)):=by rw[hm];exact cy Az
  obtain⟨sm,Qh⟩:∃sm,sm=Aj c.Aa m:=⟨_,rfl⟩;rw[<-Qh]at x0 x1 x4 hp ho ho0 Oq Qm hoz hmr;have HMR:=Zd hmr;clear Qh hm hmr;obtain⟨low,high,Ap,over,left⟩:=sm;dsimp only at x0 x1 x4 hp ho ho0 Oq Qm hoz;obtain⟨a6,c6,rfl,l6,m6⟩:=hp.val;obtain⟨a7,c7,rfl,l7,m7⟩:=ho.val;have b3:=ch (i:=3) hM.box (v:=.slice (some ⟨b4,o4,none⟩) c.Aa.length c4) rfl;go_wp2_with (go_at_call 46;refine(ap5 hp ho Oq Qm).mono ?_;rintro e w2 ⟨u2,u3,rfl,Bv,Hb,Lb⟩;obtain⟨p6,t6,rfl,_⟩:=Hb.val;obtain⟨p7,t7,rfl,_⟩:=Lb.si.val);obtain⟨W5,Jy⟩:∃W5,W5=w2.alloc (C #[.int J low,.int J high,U p6 Ap.length t6,U p7 over.length t7,.int J left] 53):=⟨_,rfl⟩;have pX:Bl w2 W5:=by rw[Jy];exact bA (Zh _ _)
  obtain⟨sb,il⟩:∃sb,sb=w2.heap.size:=⟨_,rfl⟩;have hS5:W5.heap[sb]?=some (C #[.int J low,.int J high,U p6 Ap.length t6,U p7 over.length t7,.int J left] 53 (0,0)):=by rw[Jy,il];exact Bp _ _
  have Cj:Bl wr W5:=Bv.trans (pX.mono Bv.size);have hP5:=ft (T:=fun _=>False) Hb ((Ak.later pX).mono fun _ x=>x) fun _ _ x=>x;have hO5:Own W5 wr.heap.size (U p7 over.length t7) ((Pe c.Aa.length over).take 0++over.drop 0):=by
   rw[ZdB,List.drop_zero,zP];exact Lb.later pX
  have axn:wr.heap.size<=sb:=by rw[il];exact Bv.size
  rw[<-Jy, <-il];clear Jy pX Bv Hb Lb il;obtain⟨wo,hwo⟩:∃wo,wo=wr:=⟨_,rfl⟩;subst hwo;go_loopg [7] over.length (fun gg i wx=>∃j:Nat,j<=over.length/\gg=over.length - j/\i=.int J j/\Bl wo wx/\wx.heap[sb]?=some (C #[.int J low,.int J high,U p6 Ap.length t6,U p7 over.length t7,.int J left] 53 (0,0))/\Own wx wo.heap.size (U p7 over.length t7) ((Pe c.Aa.length over).take j++over.drop j)/\SP (J1 107 wo.heap.size wx) wx (U p6 Ap.length t6) Ap)
  case atStart=>exact⟨0,Zp _,rfl,rfl,Cj,hS5,hO5,hP5⟩
  obtain⟨j,hj,rfl,rfl,Qp,mF,hOj,hPj⟩:=hrel;have uY:((Pe c.Aa.length over).take j++over.drop j).length=over.length:=iN (Gz _ _) (by rw[Gz];exact hj);have t3:=ch (i:=3) mF (v:=.slice p7 over.length t7) rfl;have D':=(Za.1 mF).1;have x3':=(Qp.cell (p:=⟨b4,o4+m*5+3,none⟩) (ZH _ _ x3)).trans x3;have b3':=(Qp.cell (p:=⟨w.heap.size,3,none⟩) (ZH _ _ b3)).trans b3;by_cases lp:j<over.length
  .obtain⟨g3,lj,cur,e,l9,hc3,hn3,_,Mi,xW⟩:=hOj.val (by rw[uY];omega)
   rw[uY]at e Mi xW;cases e;obtain⟨jj,nE⟩:∃jj,jj=over.length - 1 - j:=⟨_,rfl⟩;have LZ:(over.length:Int) - 1 - (j:Int)=(jj:Int):=by omega
   have hjl:jj<over.length:=by omega
   have hjI:(jj:Int)<(over.length:Int):=by omega
   have axo:(j:Int)<(over.length:Int):=by omega
   obtain⟨b7,o7,rfl,U3,hk7⟩:=ho.at_ hjl;have apb:=(Qp.cell (p:=⟨b7,o7+jj,none⟩) (ZH _ _ hk7)).trans hk7;have hoy:=hoz _ (Z3 (Bn hjl));have hmo:=Zd (Tj (n:=c.Aa.length) lp);rw[<-nE]at hmo;clear nE hk7;obtain⟨y,hy⟩:∃y,y=nth over jj:=⟨_,rfl⟩;rw[<-hy]at apb hoy hmo;clear hy;have Qi:=ch hc3 (Mi j lp);have CP:=cf (i:=j) hc3;have S4:g3<wr.heap.size:=(Za.1 hc3).1;have NK:=Xm.2;have lX:IntKind.i64.wrap ((c.Aa.length:Int) - 1)=(c.Aa.length:Int) - 1:=by rw[zE];omega
   have nj:IntKind.i64.wrap (m:Int)=(m:Int):=by rw[zE];omega
   have hw3:IntKind.i64.wrap ((over.length:Int) - 1)=(over.length:Int) - 1:=by rw[zE];omega
   have xX:IntKind.i64.wrap (jj:Int)=(jj:Int):=by rw[zE];omega
   have hw5:IntKind.i64.wrap ((c.Aa.length:Int) - 1 - y)=(c.Aa.length:Int) - 1 - y:=by rw[zE];omega
   go_wp2;go_still_tail 24,(by kernel_rfl);change wpList _ _ _ _ _ wr.drew;go_wp2;have Th:Ak (fun x=>x=g3) wr.drew (wr.drew.setCell ⟨g3,j,none⟩ (.int J ((c.Aa.length:Int) - 1 - y))):=(Ak.refl (fun x=>x=g3) wr.drew).DT;have hgs:g3≠sb:=fun e=>by subst e;rw[mF]at hc3;cases hc3
   have hO2:Own (wr.drew.setCell ⟨g3,j,none⟩ (.int J ((c.Aa.length:Int) - 1 - y))) wo.heap.size (U (some ⟨g3,0,none⟩) over.length t7) ((Pe c.Aa.length over).take (j+1)++over.drop (j+1)):=by
    rw[<-iL (Gz _ _) hmo.out];exact xW j _ lp
   have hPd:=ft (T:=fun _=>False) hPj ((Ak.later (Zh wr.heap.size wr).drew).mono fun _ x=>x) fun _ _ x=>x;have hP2:=ft hPd Th (fun x hx e=>by
    obtain⟨_,cs,h2⟩:=hx;rw[show x=g3 from e]at h2;rw[show wr.drew.heap[g3]?=wr.heap[g3]? from rfl,hc3]at h2;cases h2)
   go_roundg (over.length - (j+1))
   case rel=>exact⟨j+1,lp,rfl,by go_num,bS Qp.drew l9,(AZ (fun e=>hgs e.symm) _).trans mF,hO2,hP2⟩
   omega
  have hje:j=over.length:=by omega
  subst hje;rw[iM (Gz _ _) (by rw[Gz];exact Zj _)]at hOj;have e0:=ch (i:=0) mF (v:=.int J low) rfl;have e1:=ch (i:=1) mF (v:=.int J high) rfl;have e2:=ch (i:=2) mF (v:=.slice p6 Ap.length t6) rfl;have e4:=ch (i:=4) mF (v:=.int J left) rfl;have hqx:=(Qp.block q kD).trans hM.qx;have qq3:=ch (i:=3) hqx (v:=.slice (some ⟨g,0,none⟩) c.Aa.length cap) rfl;have uZ:((Pf c.Aa).take k++c.Aa.drop k).length=c.Aa.length:=iN (GD _) (by rw[GD];exact hk);have Ci:=hM.row.later Qp;rw[<-uZ]at Ci;obtain⟨cur,Ph,Mi⟩:=Ci.cells (i:=k) (by rw[uZ];exact Az);obtain⟨g0,hg0⟩:=Mi 0 (by omega);obtain⟨g1,tN⟩:=Mi 1 (by omega);obtain⟨g2,lZ⟩:=Mi 2 (by omega);obtain⟨g3,l9⟩:=Mi 3 (by omega);obtain⟨g4,hg4⟩:=Mi 4 (by omega);have c0:=ch Ph hg0;have c1':=ch Ph tN;have c2':=ch Ph lZ;have c3':=ch Ph l9;have c4':=ch Ph hg4;have f0:=cf (i:=k*5) Ph;have f1:=cf (i:=k*5+1) Ph;have f2:=cf (i:=k*5+2) Ph;have f3:=cf (i:=k*5+3) Ph;have f4:=cf (i:=k*5+4) Ph;rw[Nat.add_zero]at c0;have Rk:w.heap.size+1+1<=g:=hgm;have hgq:g≠q:=fun e=>by rw[e,hqx]at Ph;cases Ph
  have hzo:wo.heap.size<=wr.heap.size:=Qp.size;have hRs:Rs (TT (w.heap.size+1+1) wr) wr [.int J low,.int J high,U p6 Ap.length t6,U p7 over.length t7,.int J left] (ll c.Aa.length ⟨low,high,Ap,over,left⟩):=by
   have hO':SI (TT wo.heap.size wr) wr (U p7 over.length t7) (Pe c.Aa.length over):=hOj.tt;exact⟨_,_,rfl,Sl.imp hPj (fun b hb=>⟨by have:=hb.1.1;omega,by obtain⟨cs,h⟩:=hb.2;exact⟨cs,107,h,.inr (.inl rfl)⟩⟩) (fun _ _ x=>x),LQ hO' (by omega)⟩
  have ac8:=Ci.put (i:=k) (s:=ll c.Aa.length ⟨low,high,Ap,over,left⟩) (by rw[uZ];exact Az) hRs;rw[uZ,iL (GD _) HMR.out]at ac8;have Js:Ak (fun x=>x=g) wr (((((wr.setCell ⟨g,k*5,none⟩ (.int J low)).setCell ⟨g,k*5+1,none⟩ (.int J high)).setCell ⟨g,k*5+2,none⟩ (U p6 Ap.length t6)).setCell ⟨g,k*5+3,none⟩ (U p7 over.length t7)).setCell ⟨g,k*5+4,none⟩ (.int J left)):=(Ak.refl (fun x=>x=g) wr).DT.DT.DT.DT.DT;have BL:∀x,TT (w.heap.size+1+1) wr x->¬x=g:=fun x hx e=>TT.not (e▸hx) Ph ⟨by decide,by decide,by decide⟩;have U6:MR w q g cap #[U a1 c.base.length c1,U a2 c.Af.length c2,U a3 c.hooks.length c3,U (some ⟨b4,o4,none⟩) c.Aa.length c4,U a5 c.now.length c5] (U p1 c.base.length d1) (U p2 c.Af.length d2) (U p3 c.hooks.length d3) (U p5 c.now.length d5) c (k+1) (((((wr.setCell ⟨g,k*5,none⟩ (.int J low)).setCell ⟨g,k*5+1,none⟩ (.int J high)).setCell ⟨g,k*5+2,none⟩ (U p6 Ap.length t6)).setCell ⟨g,k*5+3,none⟩ (U p7 over.length t7)).setCell ⟨g,k*5+4,none⟩ (.int J left)):=by
   refine⟨bS (bS (bS (bS (bS (hM.below.trans (Qp.mono hM.below.size)) (by omega)) (by omega)) (by omega)) (by omega)) (by omega),?_,?_,?_,Rn (Ei hM.base Qp) Js BL,mL (M6 hM.Af Qp) Js BL,Rn (Ei hM.hooks Qp) Js BL,Rn (Ei hM.now Qp) Js BL,ac8⟩
   .exact(Js.block _ (by omega) (by omega)).trans ((Qp.block _ (by omega)).trans hM.box)
   .exact(Js.block _ (by omega) (by omega)).trans ((Qp.block _ (by omega)).trans hM.res)
   exact(Js.block _ (by omega) (fun e=>hgq e.symm)).trans hqx
  have HM2:=Zd U6;clear U6 ac8 Ci hM hRs Js BL;go_wp2;go_roundg (c.Aa.length - (k+1))
  case rel=>exact⟨k+1,Az,rfl,by go_num,HM2.out⟩
  omega
 have T5:k=c.Aa.length:=by omega
 have Ci:=hM.row;rw[T5,iM (GD _) (by rw[GD];exact Zj _)]at Ci;subst T5;have q0:=ch (i:=0) hM.qx (v:=.slice p1 c.base.length d1) rfl;have q1:=ch (i:=1) hM.qx (v:=.slice p2 c.Af.length d2) rfl;have q2:=ch (i:=2) hM.qx (v:=.slice p3 c.hooks.length d3) rfl;have q4:=ch (i:=4) hM.qx (v:=.slice p5 c.now.length d5) rfl;have f0:=cf (i:=0) hM.res;have f1:=cf (i:=1) hM.res;have f2:=cf (i:=2) hM.res;have f3:=cf (i:=3) hM.res;have f4:=cf (i:=4) hM.res;have r0:=ch (i:=0) hM.res (v:=.slice none 0 0) rfl;have r1:=ch (i:=1) hM.res (v:=.slice none 0 0) rfl;have r2:=ch (i:=2) hM.res (v:=.slice none 0 0) rfl;have r3:=ch (i:=3) hM.res (v:=.slice none 0 0) rfl;have r4:=ch (i:=4) hM.res (v:=.slice none 0 0) rfl;have DR:w.heap.size+1<wr.heap.size:=(Za.1 hM.res).1;have HM:=Zd hM;have HRW:=Zd Ci;clear hM Ci;go_wp2;obtain⟨wo,hwo⟩:∃wo,wo=wr:=⟨_,rfl⟩;have HWO:=Zd hwo;clear hwo;go_loopg [8] 0 (fun gg i wx=>i=.int J 0/\wx=wr)
 case atStart=>exact⟨rfl,rfl⟩
 case round=>
 obtain⟨rfl,hwx⟩:=hrel;obtain rfl:=hwx.symm;go_wp2;refine ZN (v:=.agg #[U p1 c.base.length d1,U p2 c.Af.length d2,U p3 c.hooks.length d3,U (some ⟨g,0,none⟩) c.Aa.length cap,U p5 c.now.length d5]) (by rw[A8 rfl];go_simp) rfl ?_;have key:∀X,Bl w X->Ak (fun x=>x=w.heap.size+1) wr X->Ro w (Pg c) (.returned (.agg #[U p1 c.base.length d1,U p2 c.Af.length d2,U p3 c.hooks.length d3,U (some ⟨g,0,none⟩) c.Aa.length cap,U p5 c.now.length d5])) X:=fun X Ov Pc=>by
  have hn:∀x,TT (w.heap.size+1+1) wr x->¬x=w.heap.size+1:=fun x hx e=>by have:=hx.1;omega
  have mM:w.heap.size<=w.heap.size+1+1:=by omega
  have hg:∀x,(Zy (some ⟨g,0,none⟩) c.Aa.length cap).ownBlock=some x->¬x=w.heap.size+1:=fun x hx e=>by have:=(HRW.out.own x hx).1;omega
  exact⟨_,_,_,_,_,rfl,Ov,LQ (Rn HM.out.base Pc hn) mM,Ug (mL HM.out.Af Pc hn) mM,LQ (Rn HM.out.hooks Pc hn) mM,LQ (Rn HM.out.now Pc hn) mM,(HRW.out.CN Pc hn hg).mono mM⟩
 have Lc:=HM.out.below;refine key _ ?_ ?_
 .repeat (with_reducible first|exact Lc|(refine bS ?_ (by omega)))
 repeat (with_reducible first|exact Ak.refl _ _|(refine Ak.DT ?_))
def J4 (g:Nat)(l:List Ay):Prop:=∀i,i<l.length->Mh g l.length i (Aj l i)/\∀x∈(Aj l i).over,(i:Int)<x
def F6 (g:Nat)(l:List Ay):Prop:=∀i,i<l.length->Mh g l.length i (Aj l i)/\∀x∈(Aj l i).over,x<(i:Int)
def cz (h:y∈Pe n o):∃x∈o,y=(n:Int) - 1 - x:=by
 unfold Pe at h;obtain⟨k,hk,rfl⟩:=List.mem_map.1 h;have Kh:k<o.length:=by simpa using hk
 exact⟨_,Z3 (Bn (show o.length - 1 - k<o.length by omega)),rfl⟩
def u_ (h:o.Pairwise (· < ·)):(Pe n o).Pairwise (· < ·):=by
 rw[ZdK];intro i j hi hj hij;rw[Gz]at hi hj;have h1:=Tj (n:=n) hi;have h2:=Tj (n:=n) hj;rw[zf (by rw[Gz];exact hi)]at h1;rw[zf (by rw[Gz];exact hj)]at h2;rw[ZW h1,ZW h2];have:=ZdK.1 h (o.length - 1 - j) (o.length - 1 - i) (by omega) (by omega) (by omega);have e1:=Bn (l:=o) (show o.length - 1 - j<o.length by omega);have e2:=Bn (l:=o) (show o.length - 1 - i<o.length by omega);rw[zf (by omega)]at e1 e2;rw[ZW e1,ZW e2]at this;omega
def qJ {l:List Ay}(h:J4 g l):F6 g (Pf l):=by
 intro i hi;rw[GD]at hi⊢;have e:Aj (Pf l) i=ll l.length (Aj l (l.length - 1 - i)):=by
  have:=Db (l:=Pf l) (by rw[GD];exact hi);rw[cy hi]at this;exact(ZW this).symm
 obtain⟨hm,hu⟩:=h (l.length - 1 - i) (by omega);rw[e];refine⟨⟨hm.step,hm.few,hm.pull,hm.twice,fun y hy=>?_,u_ hm.rising,hm.left⟩,fun y hy=>?_⟩
 .obtain⟨x,hx,rfl⟩:=cz hy
  have h1:=hm.over x hx;have h2:=hu x hx;omega
 obtain⟨x,hx,rfl⟩:=cz hy;have h2:=hu x hx;omega
def iO (h1:1<=c.base.length/\c.base.length<=3)(h2:∀x∈c.base,20<=x/\x<=30)(h3:c.Af.length=c.base.length)(h4:∀p∈c.Af,-2<=p.1/\p.1<=p.2/\p.2<=5)(h5:c.hooks.length=c.base.length)(h6:∀x∈c.hooks,0<=x/\x<=5)(h7:1<=c.Aa.length/\c.Aa.length<=3)
 (h8:J4 c.base.length c.Aa\/F6 c.base.length c.Aa) (h9:Tc c c.now):H6 c:=by
 refine⟨h1,h2,h3,h4,h5,h6,h7,fun i hi=>?_,?_,h9⟩
 .rcases h8 with h|h
  .exact(h i hi).1
  exact(h i hi).1
 rcases h8 with h|h
 .exact .inl fun i hi=>(h i hi).2
 exact .inr fun i hi=>(h i hi).2
def ve {l:List Ay}(h:∀i,i<l.length->Mh g n i (Aj l i)/\∀x∈(Aj l i).over,(i:Int)<x)(hs:Mh g n l.length s)(ho:∀x∈s.over,(l.length:Int)<x):∀i,i<(l++ [s]).length->Mh g n i (Aj (l++ [s]) i)/\∀x∈(Aj (l++ [s]) i).over,(i:Int)<x:=by
 intro i hi;rw[ZA,zb,zR]at hi;by_cases hl:i<l.length
 .rw[show Aj (l++ [s]) i=Aj l i by simp[Aj,Y6,zl hl]]
  exact h i hl
 obtain rfl:i=l.length:=by omega
 rw[show Aj (l++ [s]) l.length=s by simp[Aj]];exact⟨hs,ho⟩
def Vp {b1 b3:Nat}{l1 l3:List Int}(h1:Own A b1 v1 l1)(h3:Own A b3 v3 l3)(p1:0<l1.length)(p3:0<l3.length)(BL:nth l1 0≠nth l3 0):∀x,v1.ownBlock=some x->¬v3.ownBlock=some x:=by
 intro x hx U4;obtain⟨g,cap,cur,e,_,hg,_,_,hc,_⟩:=h1.val p1;obtain⟨g',Ey,dJ,e',_,GM,_,_,OJ,_⟩:=h3.val p3;subst e e';cases hx;cases U4;rw[hg]at GM;cases GM;have a:=hc 0 p1;have b:=OJ 0 p3;rw[a]at b;have hb:=ZW b;simp only[Value.int.injEq,true_and]at hb;exact BL hb
def Own.apart {base:Nat}(h:Own A base v l)(hT:Ak T A B)(hx:∀x,v.ownBlock=some x->¬T x):Own B base v l:=by
 refine⟨h.1,?_⟩;rcases h.2 with h1|⟨g,cap,cur,h1,h2,h3,h4⟩
 .exact .inl h1
 exact .inr ⟨g,cap,cur,h1,h2,(hT.block g (Za.1 h3).1 (hx g (by rw[h1];rfl))).trans h3,h4⟩
structure LG (b:Nat)(lv:Zf)(w:Zb)(d k:Nat)(v1 v2 v3:Zf)(bs:List Int)(es:List (Int×Int))(hs:List Int)(wr:Zb):Prop where
 lw:LW b lv w d wr
 res:wr.heap[w.heap.size]?=some (C #[U none 0 0,U none 0 0,U none 0 0,U none 0 0,U none 0 0] 28 (0,0))
 qx:wr.heap[w.heap.size+1]?=some (C #[v1,v2,v3,U none 0 0,U none 0 0] 28 (0,0))
 base:Own wr (w.heap.size+1+1) v1 bs
 Af:Ih wr (w.heap.size+1+1) v2 es 49
 hooks:Own wr (w.heap.size+1+1) v3 hs
 lens:bs.length=k/\es.length=k/\hs.length=k
 apf:k=0->v3=.slice none 0 0
 apart:∀x,v1.ownBlock=some x->¬v3.ownBlock=some x
 cb:∀x∈bs,20<=x/\x<=30
 ce:∀p∈es,-2<=p.1/\p.1<=p.2/\p.2<=5
 chk:∀x∈hs,0<=x/\x<=5
structure LT2 (b:Nat)(lv:Zf)(w:Zb)(d g n:Nat)(v1 v2 v3 v4:Zf)(bs:List Int)(es:List (Int×Int))(hs:List Int)(sl:List Ay)(wr:Zb):Prop where
 lw:LW b lv w d wr
 res:wr.heap[w.heap.size]?=some (C #[U none 0 0,U none 0 0,U none 0 0,U none 0 0,U none 0 0] 28 (0,0))
 qx:wr.heap[w.heap.size+1]?=some (C #[v1,v2,v3,v4,U none 0 0] 28 (0,0))
 base:Own wr (w.heap.size+1+1) v1 bs
 Af:Ih wr (w.heap.size+1+1) v2 es 49
 hooks:Own wr (w.heap.size+1+1) v3 hs
 row:En (w.heap.size+1+1) wr (w.heap.size+1+1) v4 sl
 up:∀i,i<sl.length->Mh g n i (Aj sl i)/\∀x∈(Aj sl i).over,(i:Int)<x
def ai0 (hm:m<=5)(h:r<4):0<=nth [0,0,3,(m:Int)] r/\nth [0,0,3,(m:Int)] r<=5:=by
 have:r=0\/r=1\/r=2\/r=3:=by omega
 rcases this with rfl|rfl|rfl|rfl<;>simp[nth]<;>omega
def Oi (h:i<l.length):nth l i∈l:=Z3 (Bn h)
def qK (h:o.Pairwise (· < ·))(hx:∀x∈o,0<=x/\x<(n:Int)):o.length<=n:=by
 have key:∀(l:List Int) (m:Int),l.Pairwise (· < ·)->(∀x∈l,m<=x/\x<(n:Int))->m<=n->(l.length:Int)<=n - m:=by
  intro l
  induction l with
  |nil=>intro m _ _ hm;simp;omega
  |cons y r ih=>
   intro m hp hm hmn;obtain⟨h1,h2⟩:=List.pairwise_cons.1 hp;have hy:=hm y (zC ..);have:=ih (y+1) h2 (fun x hx=>⟨by have:=h1 x hx;omega,(hm x (zm _ hx)).2⟩) (by omega);simp only[zb];omega
 have:=key o 0 h hx (by omega);omega
structure CWr (n:Nat)(w:Zb)(u1 u2 u3 u4 u5:Zf)(c:A_):Prop where
 base:SI (TT n w) w u1 c.base
 Af:SP (TT n w) w u2 c.Af
 hooks:SI (TT n w) w u3 c.hooks
 row:En n w n u4 c.Aa
 now:SI (fun x=>Cb n w x/\¬u4.ownBlock=some x) w u5 c.now
def CWr.rc {u3:Zf}(h:CWr n w u1 u2 u3 u4 u5 c):RC (Cb n w) w u1 u2 u3 u4 u5 c:=
 ⟨Sl.imp h.base (fun b hb=>hb.new) fun _ _ x=>x,Sl.imp h.Af (fun b hb=>hb.new) fun _ _ x=>x,Sl.imp h.hooks (fun b hb=>hb.new) fun _ _ x=>x,h.row.ss (Zj _),Sl.imp h.now (fun b hb=>hb.1) fun _ _ x=>x⟩
def xY {X Y Z:Zb}{u3:Zf}{ln:List Int}(h:CT m X u1 u2 u3 u4 u5 c)(hU:B3 b X Y)(hT:Ak T Y Z)(hb:b<m)(hx:∀x,k<=x->¬T x)(hn:n<=k)(hk:k<=m)
 (hl:SI (Cb X.heap.size Y) Y v ln) (hX:k<=X.heap.size):CWr n Z u1 u2 u3 u4 v {c with now:=ln}:=by
 have hXY:Ak (fun x=>x=b) X Y:=⟨hU.os,hU.tape,hU.output,hU.size,fun k hk ht=>hU.block k hk ht⟩;have hY:=h.CN hXY (fun x hx e=>by have:=hx.1;omega) (fun g hg e=>by have:=(h.row.own g hg).1;omega);have hZ:=hY.CN hT (fun x h=>hx x (by have:=h.1;omega)) (fun g hg=>hx g (by have:=(hY.row.own g hg).1;omega));have hzT:=hT.size;refine⟨LQ hZ.base (Zr hn hk),Ug hZ.Af (Zr hn hk),LQ hZ.hooks (Zr hn hk),hZ.row.mono (Zr hn hk),?_⟩;refine Sl.imp (hl.Ar (hT.same fun x (hh:Cb _ _ x)=>hx x (by have:=hh.1;omega))) (fun x (hh:Cb _ _ x)=>⟨⟨by have:=hh.1;omega,by have:=hh.2;omega⟩,fun e=>?_⟩) fun _ _ x=>x;obtain⟨_,cs,hc⟩:=h.row.own x e;have:=(Za.1 hc).1;have:=hh.1;omega
def fB (w:Zb)(b:Nat)(lv:Zf)(d s:Nat)(e:Ending)(w':Zb):Prop:=∃(c:A_) (u1 u2 u3 u4 u5:Zf) (d':Nat),e=.returned (.agg #[u1,u2,u3,u4,u5])/\LW b lv w d' w'/\d'<=d+1000/\CWr w.heap.size w' u1 u2 u3 u4 u5 c/\H6 c/\c.Aa.length<=s
def qL (w:Zb)(b:Nat)(lv:Zf)(d s:Nat)(e:Ending)(w':Zb):Prop:=∃(c:A_) (u1 u2 u3 u4 u5:Zf) (d':Nat),e=.returned (.agg #[u1,u2,u3,u4,u5])/\LW b lv w d' w'/\d'<=d+1000/\RC (Cb w.heap.size w') w' u1 u2 u3 u4 u5 c/\H6 c/\c.Aa.length<=s
def aph {s:Nat}(hn:SI Sn w lv nums)(E8:∀x,Sn x->x<w.heap.size/\x≠b)(hL:BK w b lv d)(hd:d+1000<4611686018427387904)(hs:1<=s/\s<=3):
  Calls Lp 5 #[.pointer (some ⟨b,0,none⟩),.int J s] w (fB w b lv d s):=by
 have IX:=DJ;have rW:=Zd (fun W d lo hi hL hd h1 h2=>abV (W:=W) (d:=d) (lo:=lo) (hi:=hi) hn E8 hL hd h1 h2);have iG:=Zd (fun W d n hL hd h2=>abW (W:=W) (d:=d) (n:=n) hn E8 hL hd h2);have H99:=Zd (fun W d n hL hd h2=>abX (W:=W) (d:=d) (n:=n) hn E8 hL hd h2);have H98:=Zd (fun W d s hL hd h1 h2=>abY (W:=W) (d:=d) (s:=s) hn E8 hL hd h1 h2);have GK:=hL.lt;have Ko:=Jq w (C #[U none 0 0,U none 0 0,U none 0 0,U none 0 0,U none 0 0] 28) (C #[U none 0 0,U none 0 0,U none 0 0,U none 0 0,U none 0 0] 28);have fA:=Bf (Bp w (C #[U none 0 0,U none 0 0,U none 0 0,U none 0 0,U none 0 0] 28)) (C #[U none 0 0,U none 0 0,U none 0 0,U none 0 0,U none 0 0] 28);have hLW:=((LW.refl hL).alloc (C #[U none 0 0,U none 0 0,U none 0 0,U none 0 0,U none 0 0] 28)).alloc (C #[U none 0 0,U none 0 0,U none 0 0,U none 0 0,U none 0 0] 28);go_enter Lp.func44,n44;go_wp2_with (go_at_call 6;refine(rW.out _ _ _ _ hLW (by omega) (by omega) (by omega)).mono ?_;rintro e W1 ⟨r0,d1,rfl,tE,Na,fq,hd1⟩;have Ko:=Na.at_ Ko (by omega);have fA:=Na.at_ fA (by omega));have hG0:LG b lv w d1 0 (U none 0 0) (U none 0 0) (U none 0 0) [] [] [] W1:=⟨fq,fA,Ko,zq _ _ _ _,zq _ _ _ _,zq _ _ _ _,⟨rfl,rfl,rfl⟩,fun _=>rfl,(fun x hx=>by cases hx),(fun x hx=>by cases hx),(fun x hx=>by cases hx),(fun x hx=>by cases hx)⟩;clear Ko fA hLW Na fq;obtain⟨G,hGe⟩:∃G,G=1+r0:=⟨_,rfl⟩;have mB:1<=G/\G<=3:=by omega
 rw[show(1:Int)+(r0:Int)=(G:Int) by omega];clear hGe tE;go_loopg [6] G (fun gg i wr=>∃(k m dk:Nat) (v1 v2 v3:Zf) (bs:List Int) (es:List (Int×Int)) (hs:List Int),k+m=G/\gg=m/\i=.int J m/\dk<=d1+5*k/\LG b lv w dk k v1 v2 v3 bs es hs wr)
 case atStart=>exact⟨0,G,d1,_,_,_,_,_,_,zN _,rfl,rfl,Zj _,hG0⟩
 obtain⟨k,m,dk,v1,v2,v3,bs,es,DX,hkm,hgm,rfl,jF,hG⟩:=hrel;obtain⟨a1,c1,rfl,_⟩:=hG.base.si.val;obtain⟨a2,c2,rfl,_⟩:=JS hG.Af;obtain⟨a3,c3,rfl,_⟩:=hG.hooks.si.val;by_cases Az:0<m
 .obtain⟨m',rfl⟩:∃m',m=m'+1:=⟨m - 1,by omega⟩
  have hLx:=hG.lw;go_wp2_with (go_at_call 6;refine(rW.out _ _ _ _ hLx (by omega) (by omega) (by omega)).mono ?_;rintro e W2 ⟨r1,d2,rfl,Xg,Ot,M7,hd2⟩);obtain⟨le,hle⟩:∃le:Int,le= -2+(r1:Int):=⟨_,rfl⟩;have axu: -2<=le/\le<=1:=by omega
  rw[<-hle];clear hle Xg;have hwx:=hLx.Cn.size;have qM:=Ot.at_ hG.qx (by omega);have ai1:=Ot.at_ hG.res (by omega);have EC:=hG.base.Cn Ot (by omega);have jZ:=D2 hG.Af Ot (by omega:b<w.heap.size+1+1);have hh2:=hG.hooks.Cn Ot (by omega);have kG:=Zd (ZY hG.lens (ZY hG.apf (ZY hG.apart (ZY hG.cb (ZY hG.ce hG.chk)))));have T2:=hG.lens.1;have Oq:=hG.lens.2.1;have Qm:=hG.lens.2.2;have cA:=Zd (ZY T2 (ZY Oq Qm));clear hG T2 Oq Qm hLx Ot;obtain⟨K,Ig⟩:∃K:Nat->Prop,K=fun x=>x=b\/w.heap.size+1<x:=⟨_,rfl⟩;have fh:K b:=by rw[Ig];exact .inl rfl
  have LP:∀x,w.heap.size+1<x->K x:=fun x hx=>by rw[Ig];exact .inr hx
  have Tg:¬K (w.heap.size+1):=by rw[Ig];intro x;omega
  have qF:¬K w.heap.size:=by rw[Ig];intro x;omega
  clear Ig;have z0:=fun p:Tw K W2=>p.cell (ch (i:=0) qM (v:=.slice a1 bs.length c1) rfl) Tg;have z1:=fun p:Tw K W2=>p.cell (ch (i:=1) qM (v:=.slice a2 es.length c2) rfl) Tg;have z2:=fun p:Tw K W2=>p.cell (ch (i:=2) qM (v:=.slice a3 DX.length c3) rfl) Tg;have hqz:w.heap.size+1<W2.heap.size:=(Za.1 qM).1;refine G7 (S:=fun W=>∃p:Tw K W2,W=p.v) 31 [26,27,28,29,30] [(false,3),(false,4),(false,5),(true,25),(false,11),(false,12),(false,13),(false,14),(false,15),(false,20),(false,21),(false,22),(false,23),(false,24),(false,26),(false,27),(false,28),(false,29),(false,30)] [0,1,2,6,7,8,9,10,16,17,18,19] (by kernel_rfl) (fun _ _ d _ _ h=>by cases d<;>exact h) (by kernel_rfl) (A5 (Ak.later (Zh _ _).drew)) ?_;refine A4 _ _ (by kernel_rfl) ?_;simp only[Z6,zd,ZG,ZD,ZC]
  repeat (first|go_big_quiet_step (fail)|quiet_step (fail))
  refine Z4 ?_;clear z0 z1 z2;change H2 _ _ _ _ _ _ _ _;obtain⟨V0,tY⟩:∃V0,V0=W2.drew:=⟨_,rfl⟩;have mO:Bl W2 V0:=by rw[tY];exact(Zh _ _).drew
  rw[<-tY];clear tY;have aW:Ak K W2 V0:=Ak.later mO;have hL0:=M7.below mO;obtain⟨i3i,i3h,i30,i31,i32⟩:=zp KY;obtain⟨i8i,i8h,i80,i81,i82⟩:=zp Wu;refine Iy (f:=6) (args:= #[.pointer (some ⟨b,0,none⟩),.int J 20,.int J 30]) rfl rfl (by go_simp) ((rW.out V0 _ _ _ hL0 (by omega) (by omega) (by omega)).mono ?_);rintro e V1 ⟨r2,d3,rfl,Ox,H4,Ue,hd3⟩;obtain⟨xb,hxb⟩:∃xb:Int,xb=20+(r2:Int):=⟨_,rfl⟩;have ac9:20<=xb/\xb<=30:=by omega
  rw[<-hxb];clear hxb Ox;have Kd:=aW.trans (H4.CN fh);refine⟨_,rfl,.inr (A5 Kd),?_⟩;refine EY (v:=.slice (some ⟨V1.heap.size,0,none⟩) 1 1) (w':=V1.alloc (C #[.int J xb] 3)) rfl rfl (by go_simp) (.inr (A5 (Kd.uJ (bA (Zh _ _))))) ?_;have DR:=Kd.size;have Xi:=(EC.later mO).Cn H4 (by omega);have he3:=D2 (Fu jZ mO) H4 (by omega:b<w.heap.size+1+1);have hh3:=(hh2.later mO).Cn H4 (by omega);have M8:k<=3:=by omega
  refine SZ rfl rfl ?_;refine Zak _ _ _ 22 rfl (w.heap.size+1+1) 3 i3i (.int J 0) 1 8 (Cz YE) (Dz i3h) i30 i31 i32 rfl (by decide) _ bs.length (bs.map (ZL J)) rfl (Ya Xi _) ⟨V1.heap.size,0,none⟩ 1 1 [.int J xb] rfl rfl (Dj _ _ _) (by simp[YT]) (by have:=cA.out.1;unfold maxLen;omega) (by have:=cA.out.1;omega) (by simp;omega) ?_;intro v1n V2 AX AG Gc;have Em:=J3 Xi;have Js:Ak (fun x=>(Zy a1 bs.length c1).ownBlock=some x) V1 V2:=((Ak.later (bA (Zh _ _))).mono fun _ x=>x).trans (Ak.grown AG fun x hx=>hx);have D3:=Kd.trans (Js.mono fun x hx=>LP x (by have:=(Em x hx).1;omega));have Rk:∀x,(Zy a1 bs.length c1).ownBlock=some x->w.heap.size<=x:=fun x hx=>by have:=(Em x hx).1;omega
  have rV:LW b lv w d3 V2:=⟨(Ue.alloc (C #[.int J xb] 3)).Cn.grown AG Rk,(Ue.alloc (C #[.int J xb] 3)).E4.of (AG.block b (Ue.alloc _).E4.lt (fun e=>by have:=(Em b e.symm).1;omega))⟩;refine⟨.inr (A5 D3),?_⟩;have UQ:Own V2 (w.heap.size+1+1) v1n (bs++ [xb]):=by
   unfold Own;rw[ZA,Zai];exact AX
  have he4:Ih V2 (w.heap.size+1+1) (U a2 es.length c2) es 49:=Fc he3 Js (fun x cs hx e=>by
   obtain⟨_,cs',h2⟩:=Em x e;rw[hx]at h2;cases h2)
  have hh4:=hh3.apart Js (fun x hx e=>kG.out.2.2.1 x e hx);have hap:∀x,v1n.ownBlock=some x->¬(Zy a3 DX.length c3).ownBlock=some x:=by
   by_cases kq:k=0
   .rw[kG.out.2.1 kq]
    intro x _ h;cases h
   refine Vp UQ hh4 (by simp) (by have:=cA.out.2.2;omega) ?_;have h1:20<=nth (bs++ [xb]) 0:=by
    have hm:nth (bs++ [xb]) 0∈bs++ [xb]:=Oi (by simp);rcases Zab.1 hm with h|h
    .exact(kG.out.2.2.2.1 _ h).1
    rw[Yh.1 h];exact ac9.1
   have h2:=(kG.out.2.2.2.2.2 _ (Oi (l:=DX) (i:=0) (by have:=cA.out.2.2;omega))).2;omega
  obtain⟨g1,q1,rfl⟩:=Zay AX;clear AX AG Gc Js Em Rk Xi he3 hh3 EC jZ hh2 aW Kd H4 Ue hL0 DR;refine Wz (v:=.pointer (some ⟨w.heap.size+1,0,none⟩)) (A5 D3) rfl rfl (fun w _=>by go_simp) ?_;refine Iy (f:=13) (args:= #[.pointer (some ⟨b,0,none⟩),.int J 4]) rfl rfl (by go_simp) ((iG.out V2 _ _ rV (by omega) (by omega)).mono ?_);rintro e V3 ⟨r4,d4,rfl,hr4,S5,hL3,hd4⟩;have Ou:=D3.trans (S5.CN fh);refine⟨_,rfl,.inr (A5 Ou),?_⟩;have xX:IntKind.i64.wrap (le+(r4:Int))=le+(r4:Int):=by rw[zE];omega
  refine EY (v:=.int J (le+(r4:Int))) (w':=V3) rfl rfl (by go_simp) (.inr (A5 Ou)) ?_;obtain⟨mo,hmo⟩:∃mo:Int,mo=le+(r4:Int):=⟨_,rfl⟩;have axv:le<=mo/\mo<=5:=by omega
  rw[<-hmo];clear hmo xX hr4;refine EY (v:=.agg #[.int J le,.int J mo]) (w':=V3) rfl rfl (by go_simp) (.inr (A5 Ou)) ?_;refine EY (v:=.slice (some ⟨V3.heap.size,0,none⟩) 1 1) (w':=V3.alloc (C #[.int J le,.int J mo] 49)) rfl rfl (by go_simp) (.inr (A5 (Ou.uJ (bA (Zh _ _))))) ?_;have Rb:=Ou.size;have wN:=UQ.Cn S5 (by omega);have he5:=D2 he4 S5 (by omega:b<w.heap.size+1+1);have hh5:=hh4.Cn S5 (by omega);refine SZ rfl rfl ?_;refine Zak _ _ _ 25 rfl (w.heap.size+1+1) 49 i8i (.agg #[.int J 0,.int J 0]) 2 16 (Cz Zdg) (Dz i8h) i80 i81 i82 rfl (by decide) _ es.length (es.flatMap fun p=> [ZL J p.1,.int J p.2]) (by go_simp) (Ya he5 _) ⟨V3.heap.size,0,none⟩ 1 1 [.int J le,.int J mo] (by go_simp) rfl (Hc _ _ _) (by intro u hu;simp at hu;rcases hu with rfl|rfl<;>rfl) (by have:=cA.out.2.1;unfold maxLen;omega) (by have:=cA.out.2.1;omega) (by simp;omega) ?_;intro v2n V4 AX AG Gc;have Em:=J3 he5;have Js:Ak (fun x=>(Zy a2 es.length c2).ownBlock=some x) V3 V4:=((Ak.later (bA (Zh _ _))).mono fun _ x=>x).trans (Ak.grown AG fun x hx=>hx);have fC:=Ou.trans (Js.mono fun x hx=>LP x (by have:=(Em x hx).1;omega));have Rk:∀x,(Zy a2 es.length c2).ownBlock=some x->w.heap.size<=x:=fun x hx=>by have:=(Em x hx).1;omega
  have hL4:LW b lv w d4 V4:=⟨(hL3.alloc (C #[.int J le,.int J mo] 49)).Cn.grown AG Rk,(hL3.alloc (C #[.int J le,.int J mo] 49)).E4.of (AG.block b (hL3.alloc _).E4.lt (fun e=>by have:=(Em b e.symm).1;omega))⟩;refine⟨.inr (A5 fC),?_⟩;have he6:Ih V4 (w.heap.size+1+1) v2n (es++ [(le,mo)]) 49:=by
   unfold Ih;rw[ZA,Zbe];exact AX
  have acd:∀x cs,V3.heap[x]?=some (Zbi cs 3 (0,0))->¬(Zy a2 es.length c2).ownBlock=some x:=fun x cs hx e=>by
   obtain⟨_,cs',h2⟩:=Em x e;rw[hx]at h2;cases h2
  have Xj:Own V4 (w.heap.size+1+1) (U (some ⟨g1,0,none⟩) (bs.length+1) q1) (bs++ [xb]):=Fc wN Js acd;have hh6:Own V4 (w.heap.size+1+1) (U a3 DX.length c3) DX:=Fc hh5 Js acd;obtain⟨g2,q2,rfl⟩:=Zay AX;clear AX AG Gc Js Em Rk wN he5 hh5 UQ he4 hh4 D3 Ou S5 hL3 rV Rb acd;refine Iy (f:=13) (args:= #[.pointer (some ⟨b,0,none⟩),.int J 5]) rfl rfl (by go_simp) ((iG.out V4 _ _ hL4 (by omega) (by omega)).mono ?_);rintro e V5 ⟨r5,d5,rfl,iK,cN,xZ,hd5⟩;have hT5:=fC.trans (cN.CN fh);refine⟨_,rfl,.inr (A5 hT5),?_⟩;have WQ:=hT5.uJ (bA (o:=.cells #[.int J 0,.int J 0,.int J 3,.int J r5] 3) (Zh _ _));refine EY (v:=.slice (some ⟨V5.heap.size,0,none⟩) 4 4) (w':=V5.alloc (C #[.int J 0,.int J 0,.int J 3,.int J r5] 3)) rfl rfl (by go_simp) (.inr (A5 WQ)) ?_;refine Iy (f:=14) (args:= #[.pointer (some ⟨b,0,none⟩),U (some ⟨V5.heap.size,0,none⟩) 4 4]) rfl rfl (by go_simp) ((H98.out V5 _ [0,0,3,(r5:Int)] xZ (by omega) (by simp) (by simp)).mono ?_);rintro e V6 ⟨r6,d6,rfl,hr6,Xp,hL6,hd6⟩;obtain⟨y,hy,hy2⟩:∃y,y=nth [0,0,3,(r5:Int)] r6/\(0<=y/\y<=5):=⟨_,rfl,ai0 (by omega) hr6⟩;rw[<-hy];clear hy;have hT6:=WQ.trans (Xp.CN fh);refine⟨_,rfl,.inr (A5 hT6),?_⟩;refine EY (v:=.slice (some ⟨V6.heap.size,0,none⟩) 1 1) (w':=V6.alloc (C #[.int J y] 3)) rfl rfl (by go_simp) (.inr (A5 (hT6.uJ (bA (Zh _ _))))) ?_;have hz6:=hT6.size;have Vn:Bl V5 (V5.alloc (C #[.int J 0,.int J 0,.int J 3,.int J r5] 3)):=bA (Zh _ _);have U3:=((Xj.Cn cN (by omega)).later Vn).Cn Xp (by omega);have he7:=D2 (Fu (D2 he6 cN (by omega:b<w.heap.size+1+1)) Vn) Xp (by omega:b<w.heap.size+1+1);have hh7:=((hh6.Cn cN (by omega)).later Vn).Cn Xp (by omega);refine SZ rfl rfl ?_;refine Zak _ _ _ 22 rfl (w.heap.size+1+1) 3 i3i (.int J 0) 1 8 (Cz YE) (Dz i3h) i30 i31 i32 rfl (by decide) _ DX.length (DX.map (ZL J)) (by go_simp) (Ya hh7 _) ⟨V6.heap.size,0,none⟩ 1 1 [.int J y] (by go_simp) rfl (Dj _ _ _) (by simp[YT]) (by have:=cA.out.2.2;unfold maxLen;omega) (by have:=cA.out.2.2;omega) (by simp;omega) ?_;intro v3n V7 AX AG Gc;have Em:=J3 hh7;have Js:Ak (fun x=>(Zy a3 DX.length c3).ownBlock=some x) V6 V7:=((Ak.later (bA (Zh _ _))).mono fun _ x=>x).trans (Ak.grown AG fun x hx=>hx);have hT7:=hT6.trans (Js.mono fun x hx=>LP x (by have:=(Em x hx).1;omega));have Rk:∀x,(Zy a3 DX.length c3).ownBlock=some x->w.heap.size<=x:=fun x hx=>by have:=(Em x hx).1;omega
  have hL7:LW b lv w d6 V7:=⟨(hL6.alloc (C #[.int J y] 3)).Cn.grown AG Rk,(hL6.alloc (C #[.int J y] 3)).E4.of (AG.block b (hL6.alloc _).E4.lt (fun e=>by have:=(Em b e.symm).1;omega))⟩;refine⟨.inr (A5 hT7),?_⟩;have hh8:Own V7 (w.heap.size+1+1) v3n (DX++ [y]):=by
   unfold Own;rw[ZA,Zai];exact AX
  have hb8:=U3.apart Js (fun x hx e=>hap x hx e);have he8:Ih V7 (w.heap.size+1+1) (U (some ⟨g2,0,none⟩) (es.length+1) q2) (es++ [(le,mo)]) 49:=Fc he7 Js (fun x cs hx e=>by
   obtain⟨_,cs',h2⟩:=Em x e;rw[hx]at h2;cases h2)
  obtain⟨g3,q3,rfl⟩:=Zay AX;have ai4:∀x,(Zy (some ⟨g1,0,none⟩) (bs.length+1) q1).ownBlock=some x->¬(Zy (some ⟨g3,0,none⟩) (DX.length+1) q3).ownBlock=some x:=by
   refine Vp hb8 hh8 (by simp) (by simp) ?_;have h1:20<=nth (bs++ [xb]) 0:=by
    have hm:nth (bs++ [xb]) 0∈bs++ [xb]:=Oi (by simp);rcases Zab.1 hm with h|h
    .exact(kG.out.2.2.2.1 _ h).1
    rw[Yh.1 h];exact ac9.1
   have h2:nth (DX++ [y]) 0<=5:=by
    have hm:nth (DX++ [y]) 0∈DX++ [y]:=Oi (by simp);rcases Zab.1 hm with h|h
    .exact(kG.out.2.2.2.2.2 _ h).2
    rw[Yh.1 h];exact hy2.2
   omega
  clear AX AG Gc Js Em Rk U3 he7 hh7 Xj he6 hh6 fC hT5 hT6 WQ cN Xp hL4 xZ hL6 hz6 hap Vn;have x_:=(hT7.block _ hqz Tg).trans qM;have hr7:=(hT7.block _ (Za.1 ai1).1 qF).trans ai1;have f0:=cf (i:=0) x_;have f1:=cf (i:=1) x_;have f2:=cf (i:=2) x_;have e0:=ch (i:=0) x_ (v:=.slice a1 bs.length c1) rfl;have e1:=ch (i:=1) x_ (v:=.slice a2 es.length c2) rfl;have e2:=ch (i:=2) x_ (v:=.slice a3 DX.length c3) rfl;refine N9 (w':=V7.setCell ⟨w.heap.size+1,0,none⟩ (U (some ⟨g1,0,none⟩) (bs.length+1) q1)) rfl rfl (by go_simp) (.inl rfl) ?_;refine EY (v:=.pointer (some ⟨w.heap.size+1,1,none⟩)) (w':=V7.setCell ⟨w.heap.size+1,0,none⟩ (U (some ⟨g1,0,none⟩) (bs.length+1) q1)) rfl rfl (by go_simp) (.inl rfl) ?_;refine N9 (w':=(V7.setCell ⟨w.heap.size+1,0,none⟩ (U (some ⟨g1,0,none⟩) (bs.length+1) q1)).setCell ⟨w.heap.size+1,1,none⟩ (U (some ⟨g2,0,none⟩) (es.length+1) q2)) rfl rfl (by go_simp) (.inl rfl) ?_;refine EY (v:=.pointer (some ⟨w.heap.size+1,2,none⟩)) (w':=(V7.setCell ⟨w.heap.size+1,0,none⟩ (U (some ⟨g1,0,none⟩) (bs.length+1) q1)).setCell ⟨w.heap.size+1,1,none⟩ (U (some ⟨g2,0,none⟩) (es.length+1) q2)) rfl rfl (by go_simp) (.inl rfl) ?_;obtain⟨V8,hV8⟩:∃V8,V8=((V7.setCell ⟨w.heap.size+1,0,none⟩ (U (some ⟨g1,0,none⟩) (bs.length+1) q1)).setCell ⟨w.heap.size+1,1,none⟩ (U (some ⟨g2,0,none⟩) (es.length+1) q2)).setCell ⟨w.heap.size+1,2,none⟩ (U (some ⟨g3,0,none⟩) (DX.length+1) q3):=⟨_,rfl⟩;refine N9 (w':=V8) rfl rfl (by rw[hV8];go_simp) (.inl rfl) ?_;have hG8:LG b lv w d6 (k+1) (U (some ⟨g1,0,none⟩) (bs.length+1) q1) (U (some ⟨g2,0,none⟩) (es.length+1) q2) (U (some ⟨g3,0,none⟩) (DX.length+1) q3) (bs++ [xb]) (es++ [(le,mo)]) (DX++ [y]) V8:=by
   have hT8:Ak (fun x=>x=w.heap.size+1) V7 V8:=by rw[hV8];exact(Ak.refl (fun x=>x=w.heap.size+1) V7).DT.DT.DT
   have hn8:∀x,w.heap.size+1+1<=x->¬x=w.heap.size+1:=fun x h1 h2=>by omega
   obtain⟨l1,l2,l3⟩:=cA.out;refine⟨by rw[hV8];exact((hL7.D4 GK (by omega)).D4 GK (by omega)).D4 GK (by omega),(hT8.block _ (Za.1 hr7).1 (by omega)).trans hr7,by rw[hV8];exact Ba (Ba (Ba x_ _) _) _,CO hT8 hn8 hb8,CO hT8 hn8 he8,CO hT8 hn8 hh8,⟨by simp[l1],by simp[l2],by simp[l3]⟩,fun h=>by omega,ai4,fun x hx=>?_,fun p hp=>?_,fun x hx=>?_⟩
   .rcases Zab.1 hx with h|h
    .exact kG.out.2.2.2.1 _ h
    rw[Yh.1 h];exact ac9
   .rcases Zab.1 hp with h|h
    .exact kG.out.2.2.2.2.1 _ h
    rw[Yh.1 h];simp only;omega
   rcases Zab.1 hx with h|h
   .exact kG.out.2.2.2.2.2 _ h
   rw[Yh.1 h];exact hy2
  have HG8:=Zd hG8;clear hG8 hV8 x_ hr7 f0 f1 f2 e0 e1 e2 hL7 hT7 hb8 he8 hh8 ai4;unfold H2
  go_simp
  go_wp2;go_roundg m'
  case rel=>exact⟨k+1,m',d6,_,_,_,_,_,_,by omega,rfl,by go_num,by omega,HG8.out⟩
  omega
 have hm0:m=0:=by omega
 subst hm0;have hkG:k=G:=by omega
 have hLx:=hG.lw;obtain⟨T2,Oq,Qm⟩:=hG.lens;go_wp2_with (go_at_call 6;refine(rW.out _ _ _ _ hLx (by omega) (by omega) (by omega)).mono ?_;rintro e W2 ⟨rn,dn,rfl,hrn,Ot,M7,hdn⟩);obtain⟨n,BL⟩:∃n,n=1+rn:=⟨_,rfl⟩;have Vl:1<=n/\n<=s:=by omega
 rw[show(1:Int)+(rn:Int)=(n:Int) by omega];clear BL hrn;have HB:=Zd (ZY hG.cb (ZY hG.ce (ZY hG.chk (ZY T2 (ZY Oq Qm)))));have aW:LT2 b lv w dn bs.length n (U a1 bs.length c1) (U a2 es.length c2) (U a3 DX.length c3) (U none 0 0) bs es DX [] W2:=
  ⟨M7,Ot.at_ hG.res (by omega),Ot.at_ hG.qx (by omega),hG.base.Cn Ot (by omega),D2 hG.Af Ot (by omega),hG.hooks.Cn Ot (by omega),⟨[],zq _ _ _ _,fun i x hx=>by cases hx⟩,fun i hi=>absurd hi (by simp)⟩
 have oX:1<=bs.length/\bs.length<=3:=by omega
 have axA:dn<=d+50:=by omega
 clear hG hLx Ot M7 T2 Oq Qm;go_loopg [9] n (fun gg i wr=>∃(k dk:Nat) (v4:Zf) (sl:List Ay),k<=n/\gg=n - k/\i=.int J k/\dk<=dn+20*k/\sl.length=k/\LT2 b lv w dk bs.length n (U a1 bs.length c1) (U a2 es.length c2) (U a3 DX.length c3) v4 bs es DX sl wr)
 case atStart=>exact⟨0,dn,_,[],Zp _,rfl,rfl,Zj _,rfl,aW⟩
 obtain⟨k,dk,v4,sl,hk,rfl,rfl,jF,NK,hT⟩:=hrel;obtain⟨va,vc,rfl,_⟩:=hT.row.val;by_cases Az:k<n
 .have iD:=Zd NK
  clear NK;obtain⟨K,Ig⟩:∃K:Nat->Prop,K=fun x=>x=b\/w.heap.size+1<x:=⟨_,rfl⟩;have fh:K b:=by rw[Ig];exact .inl rfl
  have LP:∀x,w.heap.size+1<x->K x:=fun x hx=>by rw[Ig];exact .inr hx
  have Tg:¬K (w.heap.size+1):=by rw[Ig];intro x;omega
  have qF:¬K w.heap.size:=by rw[Ig];intro x;omega
  clear Ig;have z0:=fun p:Tw K wr=>p.cell (ch (i:=0) hT.qx (v:=.slice a1 bs.length c1) rfl) Tg;have z3:=fun p:Tw K wr=>p.cell (ch (i:=3) hT.qx (v:=.slice va sl.length vc) rfl) Tg;have hqz:w.heap.size+1<wr.heap.size:=(Za.1 hT.qx).1;have TB:(k:Int)<(n:Int):=by omega
  have kZ:=hT.lw;go_wp2;refine G7 (S:=fun W=>∃p:Tw K wr,W=p.v) 13 [12] [(false,8),(false,9),(false,10),(false,11),(false,12)] [0,1,2,3,4,5,6,7] (by kernel_rfl) (fun _ _ d _ _ h=>by cases d<;>exact h) (by kernel_rfl) (A5 (Ak.later (Zh _ _).drew)) ?_;refine K9 [0,1,2,3,4] [5,6,7] _ ?_;refine A4 _ _ (by kernel_rfl) ?_;simp only[Z6,zd,ZG,ZD,ZC]
  repeat (first|go_big_quiet_step (fail)|quiet_step (fail))
  refine Z4 ?_;clear z0 z3;refine CB (v:=.int J bs.length) rfl rfl (fun w _=>by go_simp) ?_;refine CB (v:=.int J n) rfl rfl (fun w _=>by go_simp) ?_;refine CB (v:=.int J k) rfl rfl (fun w _=>by go_simp) ?_;change H2 _ _ _ _ _ _ _ _;obtain⟨V,hV⟩:∃V,V=wr.drew:=⟨_,rfl⟩;have Ui:Bl wr V:=by rw[hV];exact(Zh _ _).drew
  rw[<-hV];clear hV;have xT:=kZ.below Ui;have hTV:Ak K wr V:=Ak.later Ui;refine Iy (f:=15) (args:= #[.pointer (some ⟨b,0,none⟩),.int J bs.length,.int J n,.int J k]) rfl rfl (by go_simp) ((aoS (g:=bs.length) (n:=n) (o:=k) (hn.Cn xT.Cn E8) (Li xT.Cn E8) xT.E4 (by omega) oX Az (by omega)).mono ?_);rintro e V1 ⟨sm,v2,v3,d',rfl,hLm,cM,VK,wA,yd,xz⟩;have hU:=hLm.Cn;have Ue:LW b lv w d' V1:=xT.step hU hLm.E4;have Kd:=hTV.trans (hU.CN fh);obtain⟨p2,t2,rfl,_⟩:=VK.val;obtain⟨p3,t3,rfl,_⟩:=wA.val;refine⟨_,rfl,.inr (A5 Kd),?_⟩;obtain⟨V2,gF⟩:∃V2,V2=V1.alloc (C #[.int J sm.low,.int J sm.high,U p2 sm.Ap.length t2,U p3 sm.over.length t3,.int J sm.left] 53):=⟨_,rfl⟩;have Bb:Bl V1 V2:=by rw[gF];exact bA (Zh _ _)
  have D3:=Kd.uJ Bb;refine EY (v:=.slice (some ⟨V1.heap.size,0,none⟩) 1 1) (w':=V2) rfl rfl (by rw[gF];go_simp) (.inr (A5 D3)) ?_;have EB:=D3.size;obtain⟨vals,AX,DF⟩:=hT.row;have iP:=Fu (D2 (Fu AX Ui) hU (by omega:b<w.heap.size+1+1)) Bb;obtain⟨i6i,i6h,i60,i61,i62⟩:=zp eI;refine SZ rfl rfl ?_;refine Zak _ _ _ 26 rfl (w.heap.size+1+1) 53 i6i (.agg #[.int J 0,.int J 0,U none 0 0,U none 0 0,.int J 0]) 5 72 (Cz Tryz.underlying26) (Dz i6h) i60 i61 i62 rfl (by decide) _ sl.length vals (by go_simp) iP ⟨V1.heap.size,0,none⟩ 1 1 [.int J sm.low,.int J sm.high,U p2 sm.Ap.length t2,U p3 sm.over.length t3,.int J sm.left] (by go_simp) rfl (by rw[gF];exact Hc _ _ _) (by intro u hu;simp at hu;rcases hu with rfl|rfl|rfl|rfl|rfl<;>rfl) (by have:=iD.out;unfold maxLen;omega) (by have:=iD.out;omega) (by omega) ?_;intro v4n V3 Cm AG Gc;have Em:=J3 iP;have Js:Ak (fun x=>(Zy va sl.length vc).ownBlock=some x) V2 V3:=Ak.grown AG fun x hx=>hx;have Ou:=D3.trans (Js.mono fun x hx=>LP x (by have:=(Em x hx).1;omega));refine⟨.inr (A5 Ou),?_⟩;obtain⟨g4,q4,rfl⟩:=Zay Cm;have JA:=(Ou.block _ hqz Tg).trans hT.qx;have f3:=cf (i:=3) JA;have e3:=ch (i:=3) JA (v:=.slice va sl.length vc) rfl;refine EY (v:=.pointer (some ⟨w.heap.size+1,3,none⟩)) (w':=V3) rfl rfl (by go_simp) (.inr (A5 Ou)) ?_;obtain⟨V4,Wq⟩:∃V4,V4=V3.setCell ⟨w.heap.size+1,3,none⟩ (U (some ⟨g4,0,none⟩) (sl.length+1) q4):=⟨_,rfl⟩;refine N9 (w':=V4) rfl rfl (by rw[Wq];go_simp) (.inl rfl) ?_;have cx:∀ {A:Zb} {e:Zs} (he:e≠53) (hA:∀g cs,V2.heap[g]?=some (Zbi cs 53 (0,0))->A.heap[g]?=some (Zbi cs 53 (0,0))) x cs,A.heap[x]?=some (Zbi cs e (0,0))->¬(Zy va sl.length vc).ownBlock=some x:=fun he hA x cs hx e0=>by
   obtain⟨_,cs',h2⟩:=Em x e0;rw[hA x cs' h2]at hx;cases hx;exact he rfl
  have Th:Ak (fun x=>x=w.heap.size+1) V3 V4:=by rw[Wq];exact(Ak.refl (fun x=>x=w.heap.size+1) V3).DT
  have hn8:∀x,w.heap.size+1+1<=x->¬x=w.heap.size+1:=fun x h1 h2=>by omega
  have gM:Own V4 (w.heap.size+1+1) (U a1 bs.length c1) bs:=CO Th hn8 (Fc ((((hT.base.later Ui).Cn hU (by omega)).later Bb):Own V2 _ _ _) Js (cx (by decide) fun _ _ h=>h));have bF:Own V4 (w.heap.size+1+1) (U a3 DX.length c3) DX:=CO Th hn8 (Fc ((((hT.hooks.later Ui).Cn hU (by omega)).later Bb):Own V2 _ _ _) Js (cx (by decide) fun _ _ h=>h));have ye:Ih V4 (w.heap.size+1+1) (U a2 es.length c2) es 49:=CO Th hn8 (Fc (Fu (D2 (Fu hT.Af Ui) hU (by omega:b<w.heap.size+1+1)) Bb) Js (cx (by decide) fun _ _ h=>h));have acg:∀x,TT (w.heap.size+1+1) V2 x->¬(Zy va sl.length vc).ownBlock=some x:=fun x hx e0=>by
   obtain⟨_,cs',h2⟩:=Em x e0;exact TT.not hx h2 ⟨by decide,by decide,by decide⟩
  have ai6:∀x,TT (w.heap.size+1+1) V3 x->¬x=w.heap.size+1:=fun x hx e0=>by have:=hx.1;omega
  have yf:En (w.heap.size+1+1) V4 (w.heap.size+1+1) (U (some ⟨g4,0,none⟩) (sl.length+1) q4) (sl++ [sm]):=by
   have hTb:Ak (fun x=>x=b) wr V2:=((Ak.later Ui).mono fun _ x=>x).trans ((hU.CN (K:=fun x=>x=b) rfl).trans ((Ak.later Bb).mono fun _ x=>x));have EC:∀x,TT (w.heap.size+1+1) wr x->¬x=b:=fun x hx e0=>by have:=hx.1;omega
   have Bp:Rs (TT (w.heap.size+1+1) V2) V2 [.int J sm.low,.int J sm.high,U p2 sm.Ap.length t2,U p3 sm.over.length t3,.int J sm.left] sm:=⟨_,_,rfl,Ug (M6 VK Bb) (by have:=Ui.size;omega),LQ (Ei wA Bb) (by have:=Ui.size;omega)⟩;have h3:En (w.heap.size+1+1) V3 (w.heap.size+1+1) (U (some ⟨g4,0,none⟩) (sl.length+1) q4) (sl++ [sm]):=En.snoc (fun i x hi=>xR (xR (DF i x hi) hTb EC) Js acg) (by have:=iP.1;exact this) rfl (xR Bp Js acg) Cm;refine h3.CN Th ai6 (fun g hg e0=>?_);have:=(h3.own g hg).1;omega
  have hL4:LW b lv w d' V4:=by
   rw[Wq];exact(LW.D4 ⟨(Ue.below Bb).Cn.grown AG (fun x hx=>by have:=(Em x hx).1;omega),(Ue.below Bb).E4.of (AG.block b (Ue.below Bb).E4.lt (fun e0=>by have:=(Em b e0.symm).1;omega))⟩ GK (by omega))
  have fC:LT2 b lv w d' bs.length n (U a1 bs.length c1) (U a2 es.length c2) (U a3 DX.length c3) (U (some ⟨g4,0,none⟩) (sl.length+1) q4) bs es DX (sl++ [sm]) V4:=
   ⟨hL4,(Th.block _ (by have:=(Za.1 hT.res).1;have:=Ou.size;omega) (by omega)).trans ((Ou.block _ (Za.1 hT.res).1 qF).trans hT.res),by rw[Wq];exact Ba JA _,gM,ye,bF,yf,ve hT.up (by rw[iD.out];exact yd) (by rw[iD.out];exact xz)⟩
  have HT4:=Zd fC;clear fC hT hL4 yf gM bF ye Th Wq JA f3 e3 Js Ou D3 Kd hTV AX iP Cm DF AG Gc Em gF Bb hLm hU Ue xT Ui VK wA cx acg ai6 yd xz kZ;unfold H2
  go_simp
  go_wp2;go_roundg (n - (k+1))
  case rel=>exact⟨k+1,d',_,sl++ [sm],Az,rfl,by go_num,by omega,by have:=iD.out;simp;omega,HT4.out⟩
  omega
 have T5:k=n:=by omega
 subst T5;obtain⟨c0,Qi⟩:∃c0:A_,c0=⟨bs,es,DX,sl,[]⟩:=⟨_,rfl⟩;have hCT:CT (w.heap.size+1+1) wr (U a1 bs.length c1) (U a2 es.length c2) (U a3 DX.length c3) (U va sl.length vc) (U none 0 0) c0:=by
  rw[Qi];exact⟨hT.base.tt,hT.Af.tt (.inr (.inr rfl)),hT.hooks.tt,⟨none,0,rfl,Zj _,Zp _,fun i x hx=>by cases hx⟩,hT.row⟩
 have H_:=hT.qx;have Ko:=hT.res;have kZ:=hT.lw;obtain⟨kb,ke,kh,l1,l2,l3⟩:=HB.out;have HC:c0.base=bs/\c0.Af=es/\c0.hooks=DX/\c0.Aa=sl/\c0.now=[]:=by rw[Qi];exact⟨rfl,rfl,rfl,rfl,rfl⟩
 have xz:J4 bs.length sl:=fun i hi=>by rw[NK];exact hT.up i hi
 have HUP:=Zd xz;have Tk:=Zd HC;have iD:=Zd NK;have yg:=Zd (ZY l1 (ZY l2 l3));clear hT Qi xz HC NK l1 l2 l3 kb ke kh;have hGG:G<=3:=mB.2;have ach:=Zd (fun(W:Zb) (hR:RC (Cb (w.heap.size+1+1) W) W (U a1 bs.length c1) (U a2 es.length c2) (U a3 DX.length c3) (U va sl.length vc) (U none 0 0) c0)=>ap6 hR (fun b hb=>hb.2) Tk.out.2.2.2.2 (by rw[Tk.out.1];omega) (by rw[Tk.out.2.1];have:=yg.out;omega) (by rw[Tk.out.2.2.1];have:=yg.out;omega) (by rw[Tk.out.2.2.2.1];have:=iD.out;omega) (fun i hi=>by
  rw[Tk.out.2.2.2.1]at hi⊢;have hm:=(HUP.out i hi).1;exact⟨by have:=hm.few;omega,by
   have h1:=qK hm.rising (fun x hx=>by have:=hm.over x hx;exact⟨this.1,this.2.1⟩);have:=iD.out;omega⟩) (fun i hi x hx=>by
  rw[Tk.out.2.2.2.1]at hi hx;have:=(HUP.out i hi).1.over x hx;have:=iD.out;omega))
 have Gv:(Pg c0).base.length=bs.length:=by rw[show(Pg c0).base=c0.base from rfl,Tk.out.1]
 have hme:(Pg c0).Af.length=es.length:=by rw[show(Pg c0).Af=c0.Af from rfl,Tk.out.2.1]
 have hmh:(Pg c0).hooks.length=DX.length:=by rw[show(Pg c0).hooks=c0.hooks from rfl,Tk.out.2.2.1]
 have hms:(Pg c0).Aa.length=sl.length:=by rw[show(Pg c0).Aa=Pf c0.Aa from rfl,GD,Tk.out.2.2.2.1]
 have hmn:(Pg c0).now.length=0:=by rw[show(Pg c0).now=c0.now from rfl,Tk.out.2.2.2.2];rfl
 go_wp2_with (first|(go_at_call 16;refine(H99.out _ _ _ kZ (by omega) (by omega)).mono ?_;rintro e W5 ⟨rb,d5,rfl,cN,xZ,hd5⟩;have kE:=cN.at_ H_ (by omega);have iK:=cN.at_ Ko (by omega);have hC5:=hCT.CN (cN.CN (K:=fun x=>x=b) rfl) (fun x hx e=>by have:=hx.1;omega) (fun g hg e=>by have:=(hCT.row.own g hg).1;omega);have s0:=ch (i:=0) kE rfl;have s1:=ch (i:=1) kE rfl;have s2:=ch (i:=2) kE rfl;have s3:=ch (i:=3) kE rfl;have s4:=ch (i:=4) kE rfl;have p9:=xZ.Cn.size)|(go_at_call 17;refine(ach.out _ hC5.rc).mono ?_;rintro e W6 ⟨u1,u2,u3,u4,u5,rfl,DM,rX⟩;obtain⟨x1,y1,rfl,_⟩:=rX.base.val;obtain⟨x2,y2,rfl,_⟩:=rX.Af.val;obtain⟨x3,y3,rfl,_⟩:=rX.hooks.val;obtain⟨x4,y4,rfl,_⟩:=rX.row.val;obtain⟨x5,y5,rfl,_⟩:=rX.now.val;rw[Gv,hme,hmh,hms,hmn]at rX⊢;have iB:=(DM.block _ (Za.1 kE).1).trans kE;have hr6:=(DM.block _ (Za.1 iK).1).trans iK;have e0:=ch (i:=0) iB rfl;have e1:=ch (i:=1) iB rfl;have e2:=ch (i:=2) iB rfl;have e3:=ch (i:=3) iB rfl;have e4:=ch (i:=4) iB rfl;have f0:=cf (i:=0) iB;have f1:=cf (i:=1) iB;have f2:=cf (i:=2) iB;have f3:=cf (i:=3) iB;have f4:=cf (i:=4) iB))
 .have apq:=rX
  obtain⟨X,lg⟩:∃X,X=((((W6.setCell ⟨w.heap.size+1,0,none⟩ (U x1 bs.length y1)).setCell ⟨w.heap.size+1,1,none⟩ (U x2 es.length y2)).setCell ⟨w.heap.size+1,2,none⟩ (U x3 DX.length y3)).setCell ⟨w.heap.size+1,3,none⟩ (U x4 sl.length y4)).setCell ⟨w.heap.size+1,4,none⟩ (U x5 0 y5):=⟨_,rfl⟩;have Pc:Ak (fun x=>x=w.heap.size+1) W6 X:=by rw[lg];exact(Ak.refl (fun x=>x=w.heap.size+1) W6).DT.DT.DT.DT.DT
  have xS:X.heap[w.heap.size+1]?=some (C #[U x1 bs.length y1,U x2 es.length y2,U x3 DX.length y3,U x4 sl.length y4,U x5 0 y5] 28 (0,0)):=by rw[lg];exact Ba (Ba (Ba (Ba (Ba iB _) _) _) _) _
  have hrX:=(Pc.block _ (Za.1 hr6).1 (by omega)).trans hr6;have qN:LW b lv w d5 X:=by rw[lg];exact((((((xZ.below DM).D4 GK (by omega)).D4 GK (by omega)).D4 GK (by omega)).D4 GK (by omega)).D4 GK (by omega))
  have axF:=(Za.1 kE).1;have rY:=rX.CN Pc (fun x hx e=>by have:=hx.1;omega) (fun g hg e=>by have:=(rX.row.own g hg).1;omega);obtain⟨cX,hcX⟩:∃cX,cX=Pg c0:=⟨_,rfl⟩;obtain⟨mX,hmX⟩:∃mX,mX=W5.heap.size:=⟨_,rfl⟩;have aps:w.heap.size+1+1<=mX:=by omega
  have HQ:cX.base=bs/\cX.Af=es/\cX.hooks=DX/\cX.now=[]/\cX.Aa.length=k/\(J4 bs.length cX.Aa\/F6 bs.length cX.Aa):=by
   rw[hcX];refine⟨Tk.out.1,Tk.out.2.1,Tk.out.2.2.1,Tk.out.2.2.2.2,by rw[hms];exact iD.out,.inr ?_⟩;show F6 bs.length (Pf c0.Aa);rw[Tk.out.2.2.2.1];exact qJ HUP.out
  rw[<-hcX, <-hmX]at rY;rw[<-lg];clear lg Pc rX apq iB hr6 DM hcX hmX e0 e1 e2 e3 e4 f0 f1 f2 f3 f4;clear kE iK xZ hC5 cN hCT H_ Ko kZ s0 s1 s2 s3 s4 ach;have HQ':=Zd HQ;have M8:k<=3:=by omega
  have B_:∀i,i<cX.Aa.length->Mh bs.length k i (Aj cX.Aa i):=fun i hi=>by
   rcases HQ.2.2.2.2.2 with h|h
   .have:=(h i hi).1;rwa[HQ.2.2.2.2.1]at this
   have:=(h i hi).1;rwa[HQ.2.2.2.2.1]at this
  have hqk:=HQ.2.2.2.2.1;refine(c30 (S:=Cb mX X) rY.rc (fun x hx=>⟨hx.2,by have:=hx.1;omega⟩) (hn.Cn qN.Cn E8) (Li qN.Cn E8) qN.E4 (by omega) (by omega) (fun i hi=>by have:=(B_ i hi).step;omega)).mono ?_;rintro e Y ⟨vn,ln,dn2,rfl,lr,xU,hdY,hsY,hlY,hbY⟩;obtain⟨pn,qn,rfl,_⟩:=hsY.val;have fD:=lr.at_ xS (by omega);have Uj:=lr.at_ hrX (by omega);have s0:=ch (i:=0) fD rfl;have s1:=ch (i:=1) fD rfl;have s2:=ch (i:=2) fD rfl;have s3:=ch (i:=3) fD rfl;have s4:=ch (i:=4) fD rfl;have f4:=cf (i:=4) fD;have r0:=ch (i:=0) Uj (v:=.slice none 0 0) rfl;have r1:=ch (i:=1) Uj (v:=.slice none 0 0) rfl;have r2:=ch (i:=2) Uj (v:=.slice none 0 0) rfl;have r3:=ch (i:=3) Uj (v:=.slice none 0 0) rfl;have r4:=ch (i:=4) Uj (v:=.slice none 0 0) rfl;have g0:=cf (i:=0) Uj;have g1:=cf (i:=1) Uj;have g2:=cf (i:=2) Uj;have g3:=cf (i:=3) Uj;have g4:=cf (i:=4) Uj;have hzX:=qN.Cn.size;have hzY:=lr.size;have apv:=(Za.1 fD).1;have apw:=(Za.1 xS).1;have cA:=Zd hlY;have HBY:=Zd hbY;have qO:=Zd B_;clear hlY hbY B_ HQ hqk;dsimp only;go_wp2;refine ZN (v:=.agg #[U x1 bs.length y1,U x2 es.length y2,U x3 DX.length y3,U x4 sl.length y4,U pn ln.length qn]) (by rw[A8 rfl];go_simp) rfl ?_;have key:∀Z,LW b lv w dn2 Z->Ak (fun x=>x=w.heap.size\/x=w.heap.size+1) Y Z->fB w b lv d s (.returned (.agg #[U x1 bs.length y1,U x2 es.length y2,U x3 DX.length y3,U x4 sl.length y4,U pn ln.length qn])) Z:=fun Z hLZ mN=>by
   obtain⟨q1,q2,q3,q4,q5,q6⟩:=HQ'.out;have tR:CE (Cb mX X) X Y:=lr.same fun x hx e=>by have:=hx.1;omega
   have Ts:CE (Cb mX X) Y Z:=mN.same fun x hx e=>by have:=hx.1;rcases e with e|e<;>omega
   have hR:=(rY.rc.Ar tR).Ar Ts;have hzZ:=mN.size;have hN:∀x,Cb mX X x->Cb w.heap.size Z x:=fun x hx=>⟨by have:=hx.1;omega,by have:=hx.2;omega⟩;have hRN:=hR.imp hN;have hCW:=xY (n:=w.heap.size) (k:=w.heap.size+1+1) (ln:=ln) rY lr mN (by omega) (fun x hx e=>by rcases e with e|e<;>omega) (by omega) (by omega) hsY (by omega);have hsZ:SI (Cb w.heap.size Z) Z (U pn ln.length qn) ln:=Sl.imp (hsY.Ar (mN.same fun x hx e=>by have:=hx.1;rcases e with e|e<;>omega)) (fun x hx=>⟨by have:=hx.1;omega,by have:=hx.2;omega⟩) fun _ _ x=>x;obtain⟨kb,ke,kh,_⟩:=HB.out;refine⟨{cX with now:=ln},_,_,_,_,_,dn2,rfl,hLZ,by omega,hCW,?_,by show cX.Aa.length<=s;omega⟩;have T2:=yg.out;refine iO (by show 1<=cX.base.length/\_;rw[q1];exact oX) (by show∀x∈cX.base,_;rw[q1];exact kb) (by show cX.Af.length=cX.base.length;rw[q1,q2];omega) (by show∀p∈cX.Af,_;rw[q2];exact ke) (by show cX.hooks.length=cX.base.length;rw[q1,q3];omega) (by show∀x∈cX.hooks,_;rw[q3];exact kh) (by show 1<=cX.Aa.length/\cX.Aa.length<=3;omega) (by show J4 cX.base.length cX.Aa\/F6 cX.base.length cX.Aa;rw[q1];exact q6) ⟨cA.out,fun i hi=>?_⟩;have DN:i<cX.Aa.length:=by rw[<-cA.out];exact hi
   exact⟨(HBY.out i DN).1,(HBY.out i DN).2 (qO.out i DN).step.2.1⟩
  refine key _ ?_ ?_
  .exact(((((qN.step lr xU).D4 GK (by omega)).D4 GK (Zj _)).D4 GK (Zj _)).D4 GK (Zj _)).D4 GK (Zj _)|>.D4 GK (Zj _)
  refine Ak.set (Ak.set (Ak.set (Ak.set (Ak.set (Ak.set (Ak.refl _ _) (.inr rfl)) (.inl rfl)) (.inl rfl)) (.inl rfl)) (.inl rfl)) (.inl rfl)
 obtain⟨X,lg⟩:∃X,X=W5:=⟨_,rfl⟩;subst lg;have xS:=kE;have hrX:=iK;have qN:=xZ;have rY:=hC5;obtain⟨cX,hcX⟩:∃cX,cX=c0:=⟨_,rfl⟩;have HQ:cX.base=bs/\cX.Af=es/\cX.hooks=DX/\cX.now=[]/\cX.Aa.length=k/\(J4 bs.length cX.Aa\/F6 bs.length cX.Aa):=by
  rw[hcX];exact⟨Tk.out.1,Tk.out.2.1,Tk.out.2.2.1,Tk.out.2.2.2.2,by rw[Tk.out.2.2.2.1];exact iD.out,.inl (by rw[Tk.out.2.2.2.1];exact HUP.out)⟩
 rw[<-hcX]at rY;clear hcX;obtain⟨mX,hmX⟩:∃mX,mX=w.heap.size+1+1:=⟨_,rfl⟩;have aps:w.heap.size+1+1<=mX:=by omega
 rw[<-hmX]at rY;clear hmX;clear kE iK xZ hC5 cN hCT H_ Ko kZ s0 s1 s2 s3 s4 ach;have HQ':=Zd HQ;have M8:k<=3:=by omega
 have B_:∀i,i<cX.Aa.length->Mh bs.length k i (Aj cX.Aa i):=fun i hi=>by
  rcases HQ.2.2.2.2.2 with h|h
  .have:=(h i hi).1;rwa[HQ.2.2.2.2.1]at this
  have:=(h i hi).1;rwa[HQ.2.2.2.2.1]at this
 have hqk:=HQ.2.2.2.2.1;refine(c30 (S:=Cb mX X) rY.rc (fun x hx=>⟨hx.2,by have:=hx.1;omega⟩) (hn.Cn qN.Cn E8) (Li qN.Cn E8) qN.E4 (by omega) (by omega) (fun i hi=>by have:=(B_ i hi).step;omega)).mono ?_;rintro e Y ⟨vn,ln,dn2,rfl,lr,xU,hdY,hsY,hlY,hbY⟩;obtain⟨pn,qn,rfl,_⟩:=hsY.val;have fD:=lr.at_ xS (by omega);have Uj:=lr.at_ hrX (by omega);have s0:=ch (i:=0) fD rfl;have s1:=ch (i:=1) fD rfl;have s2:=ch (i:=2) fD rfl;have s3:=ch (i:=3) fD rfl;have s4:=ch (i:=4) fD rfl;have f4:=cf (i:=4) fD;have r0:=ch (i:=0) Uj (v:=.slice none 0 0) rfl;have r1:=ch (i:=1) Uj (v:=.slice none 0 0) rfl;have r2:=ch (i:=2) Uj (v:=.slice none 0 0) rfl;have r3:=ch (i:=3) Uj (v:=.slice none 0 0) rfl;have r4:=ch (i:=4) Uj (v:=.slice none 0 0) rfl;have g0:=cf (i:=0) Uj;have g1:=cf (i:=1) Uj;have g2:=cf (i:=2) Uj;have g3:=cf (i:=3) Uj;have g4:=cf (i:=4) Uj;have hzX:=qN.Cn.size;have hzY:=lr.size;have apv:=(Za.1 fD).1;have apw:=(Za.1 xS).1;have cA:=Zd hlY;have HBY:=Zd hbY;have qO:=Zd B_;clear hlY hbY B_ HQ hqk;dsimp only;go_wp2;refine ZN (v:=.agg #[U a1 bs.length c1,U a2 es.length c2,U a3 DX.length c3,U va sl.length vc,U pn ln.length qn]) (by rw[A8 rfl];go_simp) rfl ?_;have key:∀Z,LW b lv w dn2 Z->Ak (fun x=>x=w.heap.size\/x=w.heap.size+1) Y Z->fB w b lv d s (.returned (.agg #[U a1 bs.length c1,U a2 es.length c2,U a3 DX.length c3,U va sl.length vc,U pn ln.length qn])) Z:=fun Z hLZ mN=>by
  obtain⟨q1,q2,q3,q4,q5,q6⟩:=HQ'.out;have tR:CE (Cb mX X) X Y:=lr.same fun x hx e=>by have:=hx.1;omega
  have Ts:CE (Cb mX X) Y Z:=mN.same fun x hx e=>by have:=hx.1;rcases e with e|e<;>omega
  have hR:=(rY.rc.Ar tR).Ar Ts;have hzZ:=mN.size;have hN:∀x,Cb mX X x->Cb w.heap.size Z x:=fun x hx=>⟨by have:=hx.1;omega,by have:=hx.2;omega⟩;have hRN:=hR.imp hN;have hCW:=xY (n:=w.heap.size) (k:=w.heap.size+1+1) (ln:=ln) rY lr mN (by omega) (fun x hx e=>by rcases e with e|e<;>omega) (by omega) (by omega) hsY (by omega);have hsZ:SI (Cb w.heap.size Z) Z (U pn ln.length qn) ln:=Sl.imp (hsY.Ar (mN.same fun x hx e=>by have:=hx.1;rcases e with e|e<;>omega)) (fun x hx=>⟨by have:=hx.1;omega,by have:=hx.2;omega⟩) fun _ _ x=>x;obtain⟨kb,ke,kh,_⟩:=HB.out;refine⟨{cX with now:=ln},_,_,_,_,_,dn2,rfl,hLZ,by omega,hCW,?_,by show cX.Aa.length<=s;omega⟩;have T2:=yg.out;refine iO (by show 1<=cX.base.length/\_;rw[q1];exact oX) (by show∀x∈cX.base,_;rw[q1];exact kb) (by show cX.Af.length=cX.base.length;rw[q1,q2];omega) (by show∀p∈cX.Af,_;rw[q2];exact ke) (by show cX.hooks.length=cX.base.length;rw[q1,q3];omega) (by show∀x∈cX.hooks,_;rw[q3];exact kh) (by show 1<=cX.Aa.length/\cX.Aa.length<=3;omega) (by show J4 cX.base.length cX.Aa\/F6 cX.base.length cX.Aa;rw[q1];exact q6) ⟨cA.out,fun i hi=>?_⟩;have DN:i<cX.Aa.length:=by rw[<-cA.out];exact hi
  exact⟨(HBY.out i DN).1,(HBY.out i DN).2 (qO.out i DN).step.2.1⟩
 refine key _ ?_ ?_
 .exact(((((qN.step lr xU).D4 GK (by omega)).D4 GK (Zj _)).D4 GK (Zj _)).D4 GK (Zj _)).D4 GK (Zj _)|>.D4 GK (Zj _)
 refine Ak.set (Ak.set (Ak.set (Ak.set (Ak.set (Ak.set (Ak.refl _ _) (.inr rfl)) (.inl rfl)) (.inl rfl)) (.inl rfl)) (.inl rfl)) (.inl rfl)
def c44 {s:Nat}(hn:SI Sn w lv nums)(E8:∀x,Sn x->x<w.heap.size/\x≠b)(hL:BK w b lv d)(hd:d+1000<4611686018427387904)(hs:1<=s/\s<=3):
  Calls Lp 5 #[.pointer (some ⟨b,0,none⟩),.int J s] w (qL w b lv d s):=(aph hn E8 hL hd hs).mono fun e w' ⟨c,u1,u2,u3,u4,u5,d',h1,h2,h3,h4,h5⟩=>⟨c,u1,u2,u3,u4,u5,d',h1,h2,h3,h4.rc,h5⟩
end Go.Proofs.Fit
