/- Part of a proof. -/
import Derived.Test.YtbhpocnedbajlaaGreatDoorQ09
set_option maxRecDepth 100000
set_option maxHeartbeats 6400000
noncomputable section
set_option linter.all false
open And renaming intro->ZY
open Array renaming getElem?_eq_some_iff->Za,toList_setIfInBounds->ZcM,getElem?_eq_getElem->Zx
open Go renaming TypeId->Zs,World->Zb,Value->Zf,info_parts->zp,wpList_append_own->Yc,wpQuiet_nil->Z4,wp_append_own->Zak,bodyPost_ret->ZN,undef->Ze,ownsRow_succ->Zay
open Go.Addr renaming add->Zcu
open Go.Ending renaming returned->Zbx
open Go.IntKind renaming wrap_i64->zE,i64->J
open Go.Lib renaming hid->Zd
open Go.Obj renaming cells->Zbi,cells->C
open Go.Proofs.Tryz renaming underlying22->YE,underlying23->Zdg,underlying47->Zcz
open Go.RowKit.Below renaming heap_alloc->zD,refl->Zh
open Go.Value renaming int->ZL,oneCell'->YT,slice->Zy,slice->U,int->I
open Go.World renaming ownsRow_made->YC,ownsRow_nil->zq,block_lt_of_cell?->ZH,size_alloc->ZB
open Go.World.ownsRow renaming alloc->Ya,lt->Zcm
open List renaming getElem?_take_of_lt->Z2,getElem?_map->YL,length_set->ZcC,ext_getElem?->YA,getElem?_eq_none_iff->ZcZ,getElem?_eq_some_iff->Zm,getElem?_drop->Yl,nil_append->zP,getD_eq_getElem?_getD->Y6,getElem?_append_left->zl,filterMap_cons->Z6,filterMap_nil->zd,getElem?_toArray->ZG,getElem?_cons_succ->ZD,getElem?_cons_zero->ZC,length_append->ZA,map_append->Zai,drop_eq_getElem_cons->ZO,length_cons->zb,length_nil->zR,getElem?_concat_length->Y1,take_of_length_le->Zb3,take_add_one->ZbH,take_length->ZcU,mem_append->Zab,mem_singleton->Yh,range->Yr,getElem?_set_self->Ys,getElem?_set_ne->ZS,getElem?_append_right->Zbr,drop_eq_nil_iff->Z7,append_nil->ZaA,getElem?_eq_none->ZP,take_zero->ZdB,mem_of_getElem?->Z3,pairwise_iff_getElem->ZdK,getElem?_eq_getElem->zf,mem_cons_self->zC,mem_cons_of_mem->zm,flatMap_append->Zbe
open Nat renaming le_trans->Zr,lt_of_lt_of_le->Zl,le_refl->Zj,zero_le->Zp,zero_add->zN
open Option.some renaming inj->ZW
open True renaming intro->Yz
namespace Go.Proofs.Fit
open Go Go.RowKit
variable {q n k b i d r m x g gi:Nat}
variable {e:Zs}
variable {A B w W:Zb}
variable {v u v1 v2 v3 v4 v5 lv u1 u2 u4 u5:Zf}
variable {xs:List Zf}
def D2 {base:Nat}(h:A.ownsRow base e k v n xs)(f:B3 q A B)(l:q<base):B.ownsRow base e k v n xs:=by
 refine⟨h.1,?_⟩;rcases h.2 with a|⟨g,c,b,a,j,d,i⟩
 .exact .inl a
 exact .inr ⟨g,c,b,a,j,(f.block g (Za.1 d).1 o!).trans d,i⟩
def Fu {base:Nat}(h:A.ownsRow base e k v n xs)(f:Bl A B):B.ownsRow base e k v n xs:=by
 refine⟨h.1,?_⟩;rcases h.2 with a|⟨g,c,b,a,j,d,i⟩
 .exact .inl a
 exact .inr ⟨g,c,b,a,j,(f.block g (Za.1 d).1).trans d,i⟩
def B3.grown {row:Option Nat}(h:B3 q w A)(a:A.grownBy B row)(c:∀k,row=some k->w.heap.size<=k):B3 q w B:=
 ⟨a.os.trans h.os,a.tape.trans h.tape,a.output.trans h.output,Zr h.size a.size,λk b d=>(a.block k (Zl b h.size) (λe=>absurd (c k e.symm) o!)).trans (h.block k b d)⟩
def B3.trans {w' c:Zb}(h:B3 b w w')(k:B3 b w' c):B3 b w c:=⟨k.os.trans h.os,k.tape.trans h.tape,k.output.trans h.output,Zr h.size k.size,λq a d=>(k.block q (Zl a h.size) d).trans (h.block q a d)⟩
def B3.D4 (h:B3 b w W)(d:w<=q):B3 b w (W.setCell ⟨q,i,none⟩ v):=⟨h.os,h.tape,h.output,by simpa using h.size,λx c a=>(AZ o! _).trans (h.block x c a)⟩
def Ak.DT (h:Ak (λx=>x=q) w W):Ak (λx=>x=q) w (W.setCell ⟨q,i,none⟩ v):=h.set rfl
def B3.at_ {o:Obj}(h:B3 q w W)(a:w.heap[k]?=some o)(b:k≠q):W.heap[k]?=some o:=(h.block k (Za.1 a).1 b).trans a
def BK.lt {w:Zb}{b d:Nat}{v:Zf}(h:BK w b v d):b<w:=by
 obtain⟨a,h⟩:=h;exact(Za.1 h).1
def BK.later (h:BK w b v d)(e:Bl w W):BK W b v d:=by
 have c:=h.lt;obtain⟨a,h⟩:=h;exact⟨a,(e.block b c).trans h⟩
def BK.of (h:BK w b v d)(c:W.heap[b]?=w.heap[b]?):BK W b v d:=by
 obtain⟨a,h⟩:=h;exact⟨a,c.trans h⟩
variable {α:Type}
variable {S K Sn T:Nat->Prop}
def Sl.Cn {R:Zb->List Zf->α->Prop}{l:List α}(h:Sl S R k w v l)(e:B3 b w W)(c:∀x,S x->x<w.heap.size/\x≠b)(d:∀cs x,R w cs x->R W cs x):Sl S R k W v l:=
 h.Ar (e.same λx a=>(c x a).2) d
variable {o l nums over:List Int}
def SI.Cn (h:SI S w v l)(c:B3 b w W)(a:∀x,S x->x<w.heap.size/\x≠b):SI S W v l:=Sl.Cn h c a λ_ _ x=>x
def Li (d:B3 b w W)(c:∀x,S x->x<w.heap.size/\x≠b):∀x,S x->x<W.heap.size/\x≠b:=λx a=>⟨Zl (c x a).1 d.size,(c x a).2⟩
structure Tw (K:Nat->Prop)(w:Zb)where
 v:Zb
 CN:Ak K w v
instance {K:Nat->Prop}{w:Zb}:Nonempty (Tw K w):=⟨⟨w,Ak.refl K w⟩⟩
def Tw.cell (p:Tw K w){a:Addr}(h:w.cell? a=some u)(c:¬K a.block):p.v.cell? a=some u:=(p.CN.same (S:=λb=>¬K b) (λb d=>d)).cell c h
def A5 (h:Ak K w W):∃p:Tw K w,W=p.v:=⟨⟨W,h⟩,rfl⟩
def B3.CN (h:B3 q w W)(c:K q):Ak K w W:=⟨h.os,h.tape,h.output,h.size,λk b a=>h.block k b λe=>a (e▸c)⟩
def kX {o:Obj}(h:b<w):(w.alloc o).heap[b]?=w.heap[b]? :=zD w o b h
def Dj (w:Zb)(v:Zf)(t:Zs):∀j u,[v][j]?=some u->(w.alloc (C #[v] t)).cell? ((w:Addr).add j)=some u:=by
 intro j u a;cases j with
 |zero=>
  cases a;exact cn _ _ _ rfl
 |succ j=>cases a
def Own (w:Zb)(base:Nat)(v:Zf)(l:List Int):Prop:=w.ownsRow base 3 1 v l.length (l.map (ZL J))
def Own.val {base:Nat}(h:Own w base v l)(hp:0<l.length):∃g b a,v=.slice (some ⟨g,0,none⟩) l.length b/\base<=g/\w.heap[g]?=some (.cells a 3 (0,0))/\l.length<=b/\b<=maxLen/\(∀i,i<l.length->a[i]?=some (.int J (nth l i)))/\
  ∀i x,i<l.length->Own (w.setCell ⟨g,i,none⟩ (.int J x)) base v (l.set i x):=by
 rcases h.2 with⟨_,c⟩|⟨g,b,a,rfl,c,m,k,j,o,f⟩
 .omega
 have n:∀i,i<l.length->a[i]?=some (.int J (nth l i)):=λi d=>by
  have e:(a.toList.take (l.length*1))[i]?=(l.map (ZL J))[i]? :=by rw[f]
  rw[Z2 o!,YL,Bn d]at e;simpa using e
 refine⟨g,b,a,rfl,c,m,k,j,n,λi x d=>⟨i!,.inr ⟨g,b,a.setIfInBounds i (.int J x),i!,c,Ba m _,by simpa using k,j,by simpa using o,?_⟩⟩⟩;rw[ZcM,ZcC,List.take_set,f,List.map_set]
def Own.si {base:Nat}(h:Own w base v l):SI (Cb base w) w v l:=eC h
def Own.Cn {base:Nat}(h:Own w base v l)(b:B3 q w W)(a:q<base):Own W base v l:=D2 h b a
def Own.later {base:Nat}(h:Own w base v l)(a:Bl w W):Own W base v l:=Fu h a
def kY {R:Zb->List Zf->Int->Prop}{news:List Zf}(b:news.length=l.length*1)(h:∀i x,l[i]?=some x->(news.drop (i*1)).take 1=[.int J x]):news=l.map (ZL J):=by
 apply YA;intro i;rw[YL];cases a:l[i]? with
 |none=>
  rw[ZcZ]at a;rw[ZcZ.2 o!]
  rfl
 |some x=>
  have:=h i x a;have c:=(Zm.1 a).1;have e:((news.drop (i*1)).take 1)[0]?=some (.int J x):=by rw[this];rfl
  rw[Z2 o!,Yl]at e;simpa using e
def WO (h:Sl S Ri 1 w v l)(n:l.length<=1000):Calls Lp 11 #[v] w λe w'=>∃u,e=.returned u/\Bl w w'/\Own w' w u l:=by
 obtain⟨a,c,rfl,P,O⟩:=h.val;obtain⟨y,D,K,M,L⟩:=zp KY;have z:=Cz YE;cases a with
 |none=>
  have A:l=[]:=by
   cases l with
   |nil=>rfl
   |cons x r=>
    obtain⟨U,T,i,_,_,F⟩:=h;cases i;obtain⟨b,o,Q,e,_⟩:=F 0 x rfl;cases e
  subst A;go_enter Lp.func32,n32;go_wp2;go_ret;exact⟨_,rfl,bA (Zh _ _),YC w #[] 0 (Zj _) (Zp _) rfl⟩
 |some q=>
  obtain⟨d,f,g,p⟩:=Sl.row h d! q rfl;have i:=row_one d! f g pJ;have H:=Zd p;have t:=kY (R:=Ri) f g;clear p g;go_enter Lp.func32,n32;go_wp2_with (at_builtin;refine Yc _ rfl _ _ 22 rfl w 3 y (.int J 0) 1 8 z (Dz D) K M L rfl d! _ 0 [] rfl (YC w #[] 0 (Zj _) (Zp _) rfl) q l.length c d rfl f (λj u C=>ca (H.out j u C) _) i u! o! i! ?_;intro N w1 m s I);have E:Bl w w1:=Bm (bA (Zh _ _)) s (λk B=>by cases B;exact Zj _) i!;rw[zN,zP,t]at m;have G:=Zd m;clear m s I;go_ret;exact⟨_,rfl,E,G.out⟩
def ahI (w:Zb)(b:Nat)(lv:Zf)(d:Nat)(c:A_)(e:Ending)(w':Zb):Prop:=∃(v:Zf) (l:List Int) (a:Nat),e=.returned v/\B3 b w w'/\BK w' b lv a/\a<=d+c.Aa.length/\SI (Cb w w') w' v l/\l.length=c.Aa.length/\
 ∀i,i<c.Aa.length->(Aj c.Aa i).low<=nth l i/\((Aj c.Aa i).low<=(Aj c.Aa i).high->nth l i<=(Aj c.Aa i).high)
def qE (l:List Int)(x:Int):nth (l++ [x]) l.length=x:=by simp[nth]
def uQ {r:List Int}(h:i<l.length):nth (l++r) i=nth l i:=by simp[nth,Y6,zl h]
def ahU {base a:Nat}(h:Own w base v l)(d:a<=base):Own w a v l:=⟨h.1,h.2.imp id λ⟨g,c,b,e,i,f⟩=>⟨g,c,b,e,Zr d i,f⟩⟩
def ahV (w:Zb)(b:Nat)(lv:Zf)(d:Nat)(c:A_)(e:Ending)(w':Zb):Prop:=∃(v:Zf) (l:List Int) (a:Nat),e=.returned v/\B3 b w w'/\BK w' b lv a/\a<=d+c.Aa.length/\Own w' w v l/\l.length=c.Aa.length/\
 ∀i,i<c.Aa.length->(Aj c.Aa i).low<=nth l i/\((Aj c.Aa i).low<=(Aj c.Aa i).high->nth l i<=(Aj c.Aa i).high)
variable {c:A_}
def ajk (h:RC S w v1 v2 v3 v4 v5 c)(hS:∀x,S x->x<w.heap.size/\x≠b)(hn:SI Sn w lv nums)(E8:∀x,Sn x->x<w.heap.size/\x≠b)(hL:BK w b lv d)(hd:d+c.Aa.length<4611686018427387904)(Xm:c.Aa.length<=1000)
 (mK:∀i,i<c.Aa.length->(-1000000<=(Aj c.Aa i).low/\(Aj c.Aa i).low<=1000000)/\-1000000<=(Aj c.Aa i).high/\(Aj c.Aa i).high<=1000000):
  Calls Lp 9 #[.pointer b,.agg #[v1,v2,v3,v4,v5]] w (ahV w b lv d c):=by
 obtain⟨a1,V,a2,U,Z,R,Y,u,X,Q,rfl,rfl,rfl,rfl,rfl,l1,m1,l2,m2,l3,m3,l4,m4,l5,m5⟩:=h.vs;have IX:=DJ;obtain⟨i0,hi,Fl,DR,EB⟩:=zp KY;have hu:=Cz YE;have GK:=hL.lt;go_enter Lp.func30,n30;go_wp2;obtain⟨W,O⟩:=Qnm (w.alloc (C (Qe6 c a1 V a2 U Z R Y u X Q) 26));have hB:Bl w W:=by rw[O];exact bA (Zh _ _)
 have hX:W.heap[w.heap.size]?=some (C (Qe6 c a1 V a2 U Z R Y u X Q) 26 (0,0)):=by rw[O];exact Bp _ _
 rw[<-O];clear O;go_loopg [5,6] c.Aa.length (λg v i wr=>∃(k:Nat) (a:List Int) (P:Nat),k<=c.Aa.length/\g=c.Aa.length - k/\i=.int J k/\a.length=k/\(∀j,j<k->(Aj c.Aa j).low<=nth a j/\((Aj c.Aa j).low<=(Aj c.Aa j).high->nth a j<=(Aj c.Aa j).high))/\Own wr (w+1) v a/\B3 b w wr/\BK wr b lv P/\P<=d+k/\
  wr.heap[w.heap.size]?=some (C (Qe6 c a1 V a2 U Z R Y u X Q) 26 (0,0)))
 case atStart=>exact⟨0,[],d,Zp _,rfl,rfl,rfl,λj hj=>absurd hj o!,zq _ _ _ _,(B3.refl _ _).below hB,hL.later hB,o!,hX⟩
 obtain⟨k,a,P,hk,rfl,rfl,H,n,E,o,N,Pv,D⟩:=hrel;have B:=Zd H;clear H;by_cases Az:k<c.Aa.length
 .obtain⟨s,F,s2,s3,rfl,UQ,x0,x1,x2,x3,x4,hp,ho⟩:=h.Aa.at_ (i:=k) Az
  have xP:=o.same (T:=S) (λx hx=>(hS x hx).2);have y0:=xP.cell (p:=⟨s,F+k*5,none⟩) UQ x0;have y1:=xP.cell (p:=⟨s,F+k*5+1,none⟩) UQ x1;clear x0 x1 x2 x3 x4 hp ho;obtain⟨T2,Oq⟩:=mK k Az;have ai:=Zd n;have HX:∃m hi,m=(Aj c.Aa k).low/\hi=(Aj c.Aa k).high:=⟨_,_,rfl,rfl⟩;obtain⟨m,hg,A,z⟩:=HX;rw[<-A]at y0 T2;rw[<-z]at y1 Oq;have HE:=Zd (ZY A z);clear A z n;have TB:(k:Int)<(c.Aa.length:Int):=o!
  have bc:(0:Int)<=(k:Int):=o!
  have ap:=N.lt;have ba:=(hS s UQ).2;have mr:w≠b:=o!
  obtain⟨K,M⟩:∃K:Nat->Prop,K=λx=>x=b\/w<x:=⟨_,rfl⟩;have fh:K b:=by rw[M];exact .inl rfl
  have LP:∀x,w.heap.size<x->K x:=λx hx=>by rw[M];exact .inr hx
  have qF:¬K w:=by rw[M];intro x;omega
  have Qn:¬K s:=by rw[M];intro x;have:=(hS s UQ).1;omega
  clear M;have z0:=λp:Tw K wr=>p.cell (ch (i:=3) D (v:=.slice (some ⟨s,F,none⟩) c.Aa.length u) rfl) qF;have z1:=λp:Tw K wr=>p.cell y0 Qn;have z2:=λp:Tw K wr=>p.cell y1 Qn;obtain⟨va,vc,rfl,_⟩:=E.si.val;have am:=o.size;have ac:w<wr.heap.size:=(Za.1 D).1;have kx:=ch (i:=3) D (v:=.slice (some ⟨s,F,none⟩) c.Aa.length u) rfl;go_wp2;clear kx;refine B0 (S:=λW=>∃p:Tw K wr,W=p.v) [] [(false,14),(false,15),(false,16),(false,17)] [0,1,2,3,4,5,6,7,8,9,10,11,12,13] k! (λ_ _ d _ _ h=>by cases d<;>exact h) k! (A5 (Ak.later (Zh _ _).drew)) ?_;refine A4 _ _ k! ?_;simp only[Z6,zd,ZG,ZD,ZC]
  repeat (first|go_big_quiet_step (fail)|quiet_step (fail))
  refine Z4 ?_;clear z0 z1 z2 y0 y1;change Dl _ _ _ _ _ _ _;have t:B3 b wr wr.drew:=(B3.refl b wr).below (Zh _ _).drew;have I:=(hn.Cn o E8).later (Zh wr wr).drew;refine Dd (f:=36) (args:= #[.pointer b,.int J m,.int J hg]) rfl rfl g! ((c61 I (Li (o.trans t) E8) (N.later (Zh wr wr).drew) o! T2 Oq).mono ?_);rintro e w1 ⟨r,d2,rfl,hr,Na,Ue,an⟩;have l:=t.trans Na;have Kd:Ak K wr w1:=l.CN fh;refine⟨_,rfl,.inr (A5 Kd),?_⟩;have qG:=E.Cn l o!;have y:Ak K wr (w1.alloc (C #[.int J (m+r)] 3)):=Kd.uJ (bA (Zh _ _));refine JZ (v:=.slice w1 1 1) (w':=w1.alloc (C #[.int J (m+r)] 3)) rfl rfl g! (.inr (A5 y)) ?_;refine PW rfl rfl ?_;have k9:=l.size;refine Zak _ _ _ 22 rfl (w+1) 3 i0 (.int J 0) 1 8 hu (Dz hi) Fl DR EB rfl d! _ a.length (a.map (ZL J)) rfl (Ya qG _) w1 1 1 [.int J (m+r)] rfl rfl (Dj _ _ _) (by simp[YT]) (by have:=B.out;unfold maxLen;omega) (by have:=B.out;omega) j! ?_;intro v' w2 Cm AG Gc;have Em:∀q,(Zy va a.length vc).ownBlock=some q->w.heap.size+1<=q:=λq G=>(Zcm qG q G).1;have Ot:B3 b w w2:=((o.trans l).below (bA (Zh _ _))).grown AG (λq G=>by have:=Em q G;omega);have D3:Ak K wr w2:=y.trans (Ak.grown AG λq G=>LP q (by have:=Em q G;omega));refine⟨.inr (A5 D3),?_⟩;refine Dw (v:=v') rfl rfl g! (.inr (A5 D3)) ?_;have xQ:w2.heap[w.heap.size]?=some (C (Qe6 c a1 V a2 U Z R (some ⟨s,F,none⟩) u X Q) 26 (0,0)):=(D3.block _ ac qF).trans D;have rV:BK w2 b lv d2:=Ue.of ((AG.block b (by have:=Ue.lt;simp;omega) (λe=>by have:=Em b e.symm;omega)).trans (kX Ue.lt));have L:Own w2 (w+1) v' (a++ [m+r]):=by unfold Own;rw[ZA,Zai];exact Cm
  have HH:=Zd (ZY Ot (ZY rV (ZY L xQ)));clear Ot rV L xQ D3 y Kd l t Na Ue qG Cm AG Gc Em E o N D I;unfold Dl
  go_simp
  go_wp2;go_roundg (c.Aa.length - (k+1))
  case rel=>
   obtain⟨q1,q2,q3,q4⟩:=HH.out;refine⟨k+1,a++ [m+r],d2,Az,rfl,v!,by have:=B.out;simp;omega,λj hj=>?_,q3,q1,q2,o!,q4⟩;obtain⟨e1,e2⟩:=HE.out;by_cases eG:j<k
   .rw[uQ (by have:=B.out;omega)]
    exact ai.out j eG
   obtain rfl:j=k:=o!
   rw[show nth (a++ [m+(r:Int)]) j=m+r by rw[<-B.out];exact qE _ _, <-e1, <-e2];exact⟨o!,λ_=>o!⟩
  omega
 have T5:k=c.Aa.length:=o!
 subst T5;have hs:=Zd (ahU E (Nat.le_succ w));obtain⟨va,vc,rfl,_⟩:=E.si.val;have kx:=ch (i:=3) D (v:=.slice Y c.Aa.length u) rfl;have HO:=Zd n;have D':=o.size;clear n E;go_wp2;go_ret;exact⟨_,a,P,rfl,o,N,Pv,hs.out,B.out,HO.out⟩
def c30 (h:RC S w v1 v2 v3 v4 v5 c)(g:∀x,S x->x<w.heap.size/\x≠b)(e:SI Sn w lv nums)(t:∀x,Sn x->x<w.heap.size/\x≠b)(j:BK w b lv d)(f:d+c.Aa.length<4611686018427387904)(s:c.Aa.length<=1000)
 (a:∀i,i<c.Aa.length->(-1000000<=(Aj c.Aa i).low/\(Aj c.Aa i).low<=1000000)/\-1000000<=(Aj c.Aa i).high/\(Aj c.Aa i).high<=1000000):
  Calls Lp 9 #[.pointer b,.agg #[v1,v2,v3,v4,v5]] w (ahI w b lv d c):=
 (ajk h g e t j f s a).mono λ_ _ ⟨v,l,r,q,p,o,n,m,k⟩=>⟨v,l,r,q,p,o,n,m.si,k⟩
end Go.Proofs.Fit
