/- Part of a proof. -/
import Derived.Test.YtkkjobdfheidkaaGreatDoorQ09
set_option maxRecDepth 100000
set_option maxHeartbeats 6400000
noncomputable section
set_option linter.all false
open And renaming intro->ZX
open Array renaming getElem?_eq_some_iff->Za,toList_setIfInBounds->Zdl,getElem?_eq_getElem->ZC
open Go renaming TypeId->Zr,World->Zc,Value->Ze,info_parts->zq,wpList_append_own->Yj,wpQuiet_nil->zD,wp_append_own->Zam,bodyPost_ret->ZU,undef->Zf,ownsRow_succ->ZbD
open Go.Addr renaming add->Zcz
open Go.Ending renaming returned->ZbP
open Go.IntKind renaming wrap_i64->Yp,i64->J
open Go.Lib renaming hid->Zb
open Go.Obj renaming cells->ZbM,cells->C
open Go.Proofs.Tryz renaming underlying22->Yg,underlying60->ZcC
open Go.RowKit.Below renaming heap_alloc->zJ,refl->Zg
open Go.Value renaming int->ZS,oneCell'->Yv,slice->ZA,slice->U,int->I
open Go.World renaming ownsRow_made->YK,ownsRow_nil->zh,block_lt_of_cell?->Zy,size_alloc->ZG
open Go.World.ownsRow renaming alloc->zO,lt->Yq
open List renaming getElem?_take_of_lt->ZV,getElem?_map->zU,length_set->Za6,take_set->ZdY,ext_getElem?->zM,getElem?_eq_none_iff->ZcY,getElem?_eq_some_iff->Zl,getElem?_drop->Yi,nil_append->zZ,getD_eq_getElem?_getD->ZR,getElem?_append_left->Z4,filterMap_cons->zr,filterMap_nil->zL,getElem?_toArray->Z1,getElem?_cons_succ->ZQ,getElem?_cons_zero->ZP,length_append->ZF,map_append->Zaa,drop_eq_getElem_cons->Zu,length_cons->zp,length_nil->Yt,getElem?_concat_length->Zd9,take_of_length_le->ZaQ,take_add_one->ZbN,mem_append->Zas,mem_singleton->YB,range->ZL,getElem?_set_self->ze,getElem?_set_ne->ZD,getElem?_append_right->zx,drop_eq_nil_iff->Zz,append_nil->Zap,getElem?_eq_none->ZJ,drop_zero->Zb9,mem_of_getElem?->Z8,mem_map->Zby,getElem?_eq_getElem->ZE,mem_cons_self->zo,mem_cons_of_mem->Z9
open Nat renaming le_trans->Zt,lt_of_lt_of_le->Zm,le_refl->Zj,zero_le->Zn,zero_add->zK
open Option.some renaming inj->ZK
open True renaming intro->YI
namespace Go.Proofs.Fit
open Go Go.RowKit
variable {q n k b i d r m x g gi:Nat}
variable {e:Zr}
variable {A B w W:Zc}
variable {v u v1 v2 v3 v4 v5 lv u1 u2 u4 u5:Ze}
variable {xs:List Ze}
def Gm {base:Nat}(h:A.ownsRow base e k v n xs)(hB:Cj q A B)(hq:q<base):B.ownsRow base e k v n xs:=by
 refine⟨h.1,?_⟩;rcases h.2 with h1|⟨g,cap,cur,h1,h2,h3,h4⟩
 .exact .inl h1
 .exact .inr ⟨g,cap,cur,h1,h2,(hB.block g (Za.1 h3).1 (by omega)).trans h3,h4⟩
def Ey {base:Nat}(h:A.ownsRow base e k v n xs)(hB:Bl A B):B.ownsRow base e k v n xs:=by
 refine⟨h.1,?_⟩;rcases h.2 with h1|⟨g,cap,cur,h1,h2,h3,h4⟩
 .exact .inl h1
 .exact .inr ⟨g,cap,cur,h1,h2,(hB.block g (Za.1 h3).1).trans h3,h4⟩
def Cj.grown {row:Option Nat}(h:Cj q w A)(hg:A.grownBy B row)(hr:∀k,row=some k->w.heap.size<=k):Cj q w B:=
 ⟨hg.os.trans h.os,hg.tape.trans h.tape,hg.output.trans h.output,Zt h.size hg.size,fun k hk hq=>(hg.block k (Zm hk h.size) (fun e=>absurd (hr k e.symm) (by omega))).trans (h.block k hk hq)⟩
def Cj.trans {w' aB:Zc}(h:Cj b w w')(k:Cj b w' aB):Cj b w aB:=⟨k.os.trans h.os,k.tape.trans h.tape,k.output.trans h.output,Zt h.size k.size,fun q hq Bn=>(k.block q (Zm hq h.size) Bn).trans (h.block q hq Bn)⟩
def Cj.Ed (h:Cj b w W)(hq:w.heap.size<=q):Cj b w (W.setCell ⟨q,i,none⟩ v):=⟨h.os,h.tape,h.output,by simpa using h.size,fun x hx hnx=>(AY (by omega) _).trans (h.block x hx hnx)⟩
def Am.DJ (h:Am (fun x=>x=q) w W):Am (fun x=>x=q) w (W.setCell ⟨q,i,none⟩ v):=h.set rfl
def Cj.at_ {o:Obj}(h:Cj q w W)(hk:w.heap[k]?=some o)(hq:k≠q):W.heap[k]?=some o:=(h.block k (Za.1 hk).1 hq).trans hk
def BQ.lt {w:Zc}{b d:Nat}{v:Ze}(h:BQ w b v d):b<w.heap.size:=by
 obtain⟨st,h⟩:=h;exact(Za.1 h).1
def BQ.later (h:BQ w b v d)(hB:Bl w W):BQ W b v d:=by
 have hl:=h.lt;obtain⟨st,h⟩:=h;exact⟨st,(hB.block b hl).trans h⟩
def BQ.of (h:BQ w b v d)(hB:W.heap[b]?=w.heap[b]?):BQ W b v d:=by
 obtain⟨st,h⟩:=h;exact⟨st,hB.trans h⟩
variable {α:Type}
variable {S K Sn T:Nat->Prop}
def Sl.Cg {R:Zc->List Ze->α->Prop}{l:List α}(h:Sl S R k w v l)(hB:Cj b w W)(hS:∀x,S x->x<w.heap.size/\x≠b)(hR:∀cs x,R w cs x->R W cs x):Sl S R k W v l:=
 h.Aw (hB.same fun x hx=>(hS x hx).2) hR
variable {o l nums over:List Int}
def SI.Cg (h:SI S w v l)(hB:Cj b w W)(hS:∀x,S x->x<w.heap.size/\x≠b):SI S W v l:=Sl.Cg h hB hS fun _ _ x=>x
def LN (hB:Cj b w W)(hS:∀x,S x->x<w.heap.size/\x≠b):∀x,S x->x<W.heap.size/\x≠b:=fun x hx=>⟨Zm (hS x hx).1 hB.size,(hS x hx).2⟩
structure Tw (K:Nat->Prop)(w:Zc)where
 v:Zc
 CX:Am K w v
instance {K:Nat->Prop}{w:Zc}:Nonempty (Tw K w):=⟨⟨w,Am.refl K w⟩⟩
def Tw.cell (p:Tw K w){a:Addr}(h:w.cell? a=some u)(hk:¬K a.block):p.v.cell? a=some u:=(p.CX.same (S:=fun b=>¬K b) (fun b hb=>hb)).cell hk h
def BU (h:Am K w W):∃p:Tw K w,W=p.v:=⟨⟨W,h⟩,rfl⟩
def Cj.CX (h:Cj q w W)(hK:K q):Am K w W:=⟨h.os,h.tape,h.output,h.size,fun k hk hn=>h.block k hk fun e=>hn (e▸hK)⟩
def om {o:Obj}(h:b<w.heap.size):(w.alloc o).heap[b]?=w.heap[b]? :=zJ w o b h
def BR (w:Zc)(v:Ze)(t:Zr):∀j u,[v][j]?=some u->(w.alloc (C #[v] t)).cell? ((⟨w.heap.size,0,none⟩:Addr).add j)=some u:=by
 intro j u hj;cases j with
 |zero=>
  cases hj;exact cn _ _ _ rfl
 |succ j=>cases hj
def Own (w:Zc)(base:Nat)(v:Ze)(l:List Int):Prop:=w.ownsRow base 3 1 v l.length (l.map (ZS J))
def Own.val {base:Nat}(h:Own w base v l)(hp:0<l.length):∃g cap cur,v=.slice (some ⟨g,0,none⟩) l.length cap/\base<=g/\w.heap[g]?=some (.cells cur 3 (0,0))/\l.length<=cap/\cap<=maxLen/\(∀i,i<l.length->cur[i]?=some (.int J (nth l i)))/\
  ∀i x,i<l.length->Own (w.setCell ⟨g,i,none⟩ (.int J x)) base v (l.set i x):=by
 rcases h.2 with⟨_,h2⟩|⟨g,cap,cur,rfl,h2,h3,h4,h5,h6,h7⟩
 .omega
 .have hc:∀i,i<l.length->cur[i]?=some (.int J (nth l i)):=fun i hi=>by
   have e:(cur.toList.take (l.length*1))[i]?=(l.map (ZS J))[i]? :=by rw[h7]
   rw[ZV (by omega),zU,A_ hi]at e;simpa using e
  refine⟨g,cap,cur,rfl,h2,h3,h4,h5,hc,fun i x hi=>⟨by simp,.inr ⟨g,cap,cur.setIfInBounds i (.int J x),by simp,h2,A8 h3 _,by simpa using h4,h5,by simpa using h6,?_⟩⟩⟩;rw[Zdl,Za6,ZdY,h7,List.map_set]
def Own.si {base:Nat}(h:Own w base v l):SI (Cf base w) w v l:=g9 h
def Own.Cg {base:Nat}(h:Own w base v l)(hB:Cj q w W)(hq:q<base):Own W base v l:=Gm h hB hq
def Own.later {base:Nat}(h:Own w base v l)(hB:Bl w W):Own W base v l:=Ey h hB
def oq {R:Zc->List Ze->Int->Prop}{news:List Ze}(hn:news.length=l.length*1)(h:∀i x,l[i]?=some x->(news.drop (i*1)).take 1=[.int J x]):news=l.map (ZS J):=by
 apply zM;intro i;rw[zU];cases hx:l[i]? with
 |none=>
  rw[ZcY]at hx;rw[ZcY.2 (by omega)]
  rfl
 |some x=>
  have:=h i x hx;have hi:=(Zl.1 hx).1;have e:((news.drop (i*1)).take 1)[0]?=some (.int J x):=by rw[this];rfl
  rw[ZV (by omega),Yi]at e;simpa using e
def Ue (h:Sl S Ri 1 w v l)(hlen:l.length<=1000):Calls Lp 32 #[v] w fun e w'=>∃u,e=.returned u/\Bl w w'/\Own w' w.heap.size u l:=by
 obtain⟨a,c,rfl,l1,m1⟩:=h.val;obtain⟨i0,hi,Fo,DX,EI⟩:=zq Jx;have hu:=CG Yg;cases a with
 |none=>
  have hl:l=[]:=by
   cases l with
   |nil=>rfl
   |cons x r=>
    obtain⟨a',c',h1,_,_,h4⟩:=h;cases h1;obtain⟨b,o,cs,e,_⟩:=h4 0 x rfl;cases e
  subst hl;go_enter Lp.func32,n32;go_wp2;go_ret;exact⟨_,rfl,bA (Zg _ _),YK w #[] 0 (Zj _) (Zn _) rfl⟩
 |some ad=>
  obtain⟨news,hn,hR,hc⟩:=Sl.row h (by decide) ad rfl;have h1:=row_one (by decide) hn hR sj;have HC:=Zb hc;have sD:=oq (R:=Ri) hn hR;clear hc hR;go_enter Lp.func32,n32;go_wp2_with (at_builtin;refine Yj _ rfl _ _ 22 rfl w.heap.size 3 i0 (.int J 0) 1 8 hu (DC hi) Fo DX EI rfl (by decide) _ 0 [] rfl (YK w #[] 0 (Zj _) (Zn _) rfl) ad l.length c news rfl hn (fun j u hj=>ca (HC.out j u hj) _) h1 (by unfold maxLen;omega) (by omega) (by simp) ?_;intro v' w1 Bq AJ FI);have hB:Bl w w1:=Ba (bA (Zg _ _)) AJ (fun k hk=>by cases hk;exact Zj _) (by simp);rw[zK,zZ,sD]at Bq;have HO:=Zb Bq;clear Bq AJ FI;go_ret;exact⟨_,rfl,hB,HO.out⟩
def ajM (w:Zc)(b:Nat)(lv:Ze)(d:Nat)(c:A4)(e:Ending)(w':Zc):Prop:=∃(v:Ze) (l:List Int) (d':Nat),e=.returned v/\Cj b w w'/\BQ w' b lv d'/\d'<=d+c.Aa.length/\SI (Cf w.heap.size w') w' v l/\l.length=c.Aa.length/\
 ∀i,i<c.Aa.length->(Ah c.Aa i).low<=nth l i/\((Ah c.Aa i).low<=(Ah c.Aa i).high->nth l i<=(Ah c.Aa i).high)
def tu (l:List Int)(x:Int):nth (l++ [x]) l.length=x:=by simp[nth]
def xO {r:List Int}(h:i<l.length):nth (l++r) i=nth l i:=by simp[nth,ZR,Z4 h]
variable {c:A4}
def c30 (h:RC S w v1 v2 v3 v4 v5 c)(hS:∀x,S x->x<w.heap.size/\x≠b)(hn:SI Sn w lv nums)(EP:∀x,Sn x->x<w.heap.size/\x≠b)(hL:BQ w b lv d)(hd:d+c.Aa.length<4611686018427387904)(aH:c.Aa.length<=1000)
 (hlo:∀i,i<c.Aa.length->(-1000000<=(Ah c.Aa i).low/\(Ah c.Aa i).low<=1000000)/\-1000000<=(Ah c.Aa i).high/\(Ah c.Aa i).high<=1000000):
  Calls Lp 30 #[.pointer (some ⟨b,0,none⟩),.agg #[v1,v2,v3,v4,v5]] w (ajM w b lv d c):=by
 obtain⟨a1,c1,rfl,l1,m1⟩:=h.base.val;obtain⟨a2,c2,rfl,l2,m2⟩:=h.Af.val;obtain⟨a3,c3,rfl,l3,m3⟩:=h.hooks.val;obtain⟨a4,c4,rfl,l4,m4⟩:=h.Aa.val;obtain⟨a5,c5,rfl,l5,m5⟩:=h.now.val;have Gx:=CI;obtain⟨i0,hi,Fo,DX,EI⟩:=zq Jx;have hu:=CG Yg;have G0:=hL.lt;go_enter Lp.func30,n30;go_wp2;obtain⟨W,hW⟩:∃W,W=w.alloc (C #[U a1 c.base.length c1,U a2 c.Af.length c2,U a3 c.hooks.length c3,U a4 c.Aa.length c4,U a5 c.now.length c5] 26):=⟨_,rfl⟩;have hB:Bl w W:=by rw[hW];exact bA (Zg _ _)
 have hX:W.heap[w.heap.size]?=some (C #[U a1 c.base.length c1,U a2 c.Af.length c2,U a3 c.hooks.length c3,U a4 c.Aa.length c4,U a5 c.now.length c5] 26 (0,0)):=by rw[hW];exact Bt _ _
 rw[<-hW];clear hW;go_loopg [5,6] c.Aa.length (fun g v i wr=>∃(k:Nat) (out:List Int) (d':Nat),k<=c.Aa.length/\g=c.Aa.length - k/\i=.int J k/\out.length=k/\(∀j,j<k->(Ah c.Aa j).low<=nth out j/\((Ah c.Aa j).low<=(Ah c.Aa j).high->nth out j<=(Ah c.Aa j).high))/\Own wr (w.heap.size+1) v out/\Cj b w wr/\BQ wr b lv d'/\d'<=d+k/\
  wr.heap[w.heap.size]?=some (C #[U a1 c.base.length c1,U a2 c.Af.length c2,U a3 c.hooks.length c3,U a4 c.Aa.length c4,U a5 c.now.length c5] 26 (0,0)))
 case atStart=>exact⟨0,[],d,Zn _,rfl,rfl,rfl,fun j hj=>absurd hj (by omega),zh _ _ _ _,(Cj.refl _ _).below hB,hL.later hB,by omega,hX⟩
 case round=>
  obtain⟨k,out,d',hk,rfl,rfl,tw,uR,A3,hU,ot,Qo,Ms⟩:=hrel;have HOL:=Zb tw;clear tw;by_cases AA:k<c.Aa.length
  .obtain⟨b4,o4,s2,s3,rfl,Uv,x0,x1,x2,x3,x4,hp,ho⟩:=h.Aa.at_ (i:=k) AA
   have aba:=hU.same (T:=S) (fun x hx=>(hS x hx).2);have y0:=aba.cell (p:=⟨b4,o4+k*5,none⟩) Uv x0;have y1:=aba.cell (p:=⟨b4,o4+k*5+1,none⟩) Uv x1;clear x0 x1 x2 x3 x4 hp ho;obtain⟨TG,MI⟩:=hlo k AA;have aqZ:=Zb uR;have HX:∃lo hi,lo=(Ah c.Aa k).low/\hi=(Ah c.Aa k).high:=⟨_,_,rfl,rfl⟩;obtain⟨lo,hg,adU,adV⟩:=HX;rw[<-adU]at y0 TG;rw[<-adV]at y1 MI;have HE:=Zb (ZX adU adV);clear adU adV uR;have Rh:(k:Int)<(c.Aa.length:Int):=by omega
   have adW:(0:Int)<=(k:Int):=by omega
   have hbr:=ot.lt;have azY:=(hS b4 Uv).2;have nB:w.heap.size≠b:=by omega
   obtain⟨K,Ml⟩:∃K:Nat->Prop,K=fun x=>x=b\/w.heap.size<x:=⟨_,rfl⟩;have uS:K b:=by rw[Ml];exact .inl rfl
   have kt:∀x,w.heap.size<x->K x:=fun x hx=>by rw[Ml];exact .inr hx
   have tx:¬K w.heap.size:=by rw[Ml];intro x;omega
   have Kz:¬K b4:=by rw[Ml];intro x;have:=(hS b4 Uv).1;omega
   clear Ml;have z0:=fun p:Tw K wr=>p.cell (ch (i:=3) Ms (v:=.slice (some ⟨b4,o4,none⟩) c.Aa.length c4) rfl) tx;have z1:=fun p:Tw K wr=>p.cell y0 Kz;have z2:=fun p:Tw K wr=>p.cell y1 Kz;obtain⟨va,vc,rfl,_⟩:=A3.si.val;have hzw:=hU.size;have hzb:w.heap.size<wr.heap.size:=(Za.1 Ms).1;have kx:=ch (i:=3) Ms (v:=.slice (some ⟨b4,o4,none⟩) c.Aa.length c4) rfl;go_wp2;clear kx;refine Dm (S:=fun W=>∃p:Tw K wr,W=p.v) [] [(false,14),(false,15),(false,16),(false,17)] [0,1,2,3,4,5,6,7,8,9,10,11,12,13] (by kernel_rfl) (fun _ _ d _ _ h=>by cases d<;>exact h) (by kernel_rfl) (BU (Am.later (Zg _ _).drew)) ?_;refine Br _ _ (by kernel_rfl) ?_;simp only[zr,zL,Z1,ZQ,ZP]
   repeat (first|go_big_quiet_step (fail)|quiet_step (fail))
   refine zD ?_;clear z0 z1 z2 y0 y1;change Ec _ _ _ _ _ _ _;have hUd:Cj b wr wr.drew:=(Cj.refl b wr).below (Zg _ _).drew;have hn':=(hn.Cg hU EP).later (Zg wr.heap.size wr).drew;refine Ex (f:=61) (args:= #[.pointer (some ⟨b,0,none⟩),.int J lo,.int J hg]) rfl rfl (by go_simp) ((c61 hn' (LN (hU.trans hUd) EP) (ot.later (Zg wr.heap.size wr).drew) (by omega) TG MI).mono ?_);rintro e w1 ⟨r,d2,rfl,hr,Rm,LK,hd1⟩;have hUr:=hUd.trans Rm;have Mr:Am K wr w1:=hUr.CX uS;refine⟨_,rfl,.inr (BU Mr),?_⟩;have tz:=A3.Cg hUr (by omega);have adX:Am K wr (w1.alloc (C #[.int J (lo+r)] 3)):=Mr.uQ (bA (Zg _ _));refine Kg (v:=.slice (some ⟨w1.heap.size,0,none⟩) 1 1) (w':=w1.alloc (C #[.int J (lo+r)] 3)) rfl rfl (by go_simp) (.inr (BU adX)) ?_;refine QN rfl rfl ?_;have xP:=hUr.size;refine Zam _ _ _ 22 rfl (w.heap.size+1) 3 i0 (.int J 0) 1 8 hu (DC hi) Fo DX EI rfl (by decide) _ out.length (out.map (ZS J)) rfl (zO tz _) ⟨w1.heap.size,0,none⟩ 1 1 [.int J (lo+r)] rfl rfl (BR _ _ _) (by simp[Yv]) (by have:=HOL.out;unfold maxLen;omega) (by have:=HOL.out;omega) (by simp;omega) ?_;intro v' w2 CQ AJ FI;have Fq:∀q,(ZA va out.length vc).ownBlock=some q->w.heap.size+1<=q:=fun q hq=>(Yq tz q hq).1;have T6:Cj b w w2:=((hU.trans hUr).below (bA (Zg _ _))).grown AJ (fun q hq=>by have:=Fq q hq;omega);have Ff:Am K wr w2:=adX.trans (Am.grown AJ fun q hq=>kt q (by have:=Fq q hq;omega));refine⟨.inr (BU Ff),?_⟩;refine FC (v:=v') rfl rfl (by go_simp) (.inr (BU Ff)) ?_;have abb:w2.heap[w.heap.size]?=some (C #[U a1 c.base.length c1,U a2 c.Af.length c2,U a3 c.hooks.length c3,U (some ⟨b4,o4,none⟩) c.Aa.length c4,U a5 c.now.length c5] 26 (0,0)):=(Ff.block _ hzb tx).trans Ms;have ou:BQ w2 b lv d2:=LK.of ((AJ.block b (by have:=LK.lt;simp;omega) (fun e=>by have:=Fq b e.symm;omega)).trans (om LK.lt));have uT:Own w2 (w.heap.size+1) v' (out++ [lo+r]):=by unfold Own;rw[ZF,Zaa];exact CQ
   have HH:=Zb (ZX T6 (ZX ou (ZX uT abb)));clear T6 ou uT abb Ff adX Mr hUr hUd Rm LK tz CQ AJ FI Fq A3 hU ot Ms hn';unfold Ec
   go_simp
   go_wp2;go_roundg (c.Aa.length - (k+1))
   case rel=>
    obtain⟨q1,q2,q3,q4⟩:=HH.out;refine⟨k+1,out++ [lo+r],d2,AA,rfl,by go_num,by have:=HOL.out;simp;omega,fun j hj=>?_,q3,q1,q2,by omega,q4⟩;obtain⟨e1,e2⟩:=HE.out;by_cases di:j<k
    .rw[xO (by have:=HOL.out;omega)]
     exact aqZ.out j di
    .obtain rfl:j=k:=by omega
     rw[show nth (out++ [lo+(r:Int)]) j=lo+r by rw[<-HOL.out];exact tu _ _, <-e1, <-e2];exact⟨by omega,fun _=>by omega⟩
   case measure=>omega
  .have aI:k=c.Aa.length:=by omega
   subst aI;have hs:=A3.si;obtain⟨va,vc,rfl,_⟩:=hs.val;have kx:=ch (i:=3) Ms (v:=.slice a4 c.Aa.length c4) rfl;have HO:=Zb uR;have Ek:=hU.size;clear uR A3;go_wp2;go_ret;exact⟨_,out,d',rfl,hU,ot,Qo,Sl.imp hs (fun x (hx:Cf (w.heap.size+1) wr x)=>⟨by have:=hx.1;omega,hx.2⟩) (fun _ _ x=>x),HOL.out,HO.out⟩
def TT (n:Nat)(w:Zc)(x:Nat):Prop:=n<=x/\∃cs e,w.heap[x]?=some (.cells cs e (0,0))/\(e=3\/e=64\/e=80)
def TT.lt {n:Nat}{w:Zc}{x:Nat}(h:TT n w x):x<w.heap.size:=by
 obtain⟨_,cs,e,h,_⟩:=h;exact(Za.1 h).1
def TT.new {n:Nat}{w:Zc}{x:Nat}(h:TT n w x):Cf n w x:=⟨h.1,h.lt⟩
def TT.mono (h:TT n w x)(hm:m<=n):TT m w x:=⟨Zt hm h.1,h.2⟩
variable {cs:Array Ze}
def TT.not (h:TT n w x)(hx:w.heap[x]?=some (.cells cs e (0,0)))(he:e≠3/\e≠64/\e≠80):False:=by
 obtain⟨_,cs',e',h1,h2⟩:=h;rw[hx]at h1;cases h1;rcases h2 with h|h|h
 .exact he.1 h
 .exact he.2.1 h
 .exact he.2.2 h
def TT.of (h:TT n w x)(hx:W.heap[x]?=w.heap[x]?):TT n W x:=⟨h.1,by rw[hx];exact h.2⟩
section
variable {n:Nat}{A B:Zc}{T:Nat->Prop}
def O9 (h:SI (TT n A) A u l)(hT:Am T A B)(hx:∀x,TT n A x->¬T x):SI (TT n B) B u l:=
 Sl.imp (h.Aw (hT.same hx)) (fun b hb=>hb.of (hT.block b hb.lt (hx b hb))) fun _ _ x=>x
def kU {l:List (Int×Int)}(h:SP (TT n A) A u l)(hT:Am T A B)(hx:∀x,TT n A x->¬T x):SP (TT n B) B u l:=
 Sl.imp (SP.Aw h (hT.same hx)) (fun b hb=>hb.of (hT.block b hb.lt (hx b hb))) fun _ _ x=>x
variable {s:Aq}
def uU {cs:List Ze}(h:Rs (TT n A) A cs s)(hT:Am T A B)(hx:∀x,TT n A x->¬T x):Rs (TT n B) B cs s:=by
 obtain⟨v2,v3,h1,h2,h3⟩:=h;exact⟨v2,v3,h1,kU h2 hT hx,O9 h3 hT hx⟩
def Es (h:SI (TT n A) A u l)(hB:Bl A B):SI (TT n B) B u l:=O9 (T:=fun _=>False) h ((Am.later hB).mono fun _ x=>x) fun _ _ x=>x
def Ny {l:List (Int×Int)}(h:SP (TT n A) A u l)(hB:Bl A B):SP (TT n B) B u l:=kU (T:=fun _=>False) h ((Am.later hB).mono fun _ x=>x) fun _ _ x=>x
def Mt (h:SI (TT n A) A u l)(hm:m<=n):SI (TT m A) A u l:=Sl.imp h (fun _ hb=>hb.mono hm) fun _ _ x=>x
def Ve {l:List (Int×Int)}(h:SP (TT n A) A u l)(hm:m<=n):SP (TT m A) A u l:=Sl.imp h (fun _ hb=>hb.mono hm) fun _ _ x=>x
end
def Own.tt {base:Nat}(h:Own w base v l):SI (TT base w) w v l:=
 Sl.imp (Nw (R:=Ri) (by decide) h fun i x hx=>by
  rw[Nat.mul_one];obtain⟨hi,e⟩:=Zl.1 hx;rw[Zu (by simpa using hi)];simp[Ri,e]) (fun b hb=>⟨hb.1.1,by obtain⟨cs,h⟩:=hb.2;exact⟨cs,3,h,.inl rfl⟩⟩) fun _ _ x=>x
def Own.mono {base:Nat}(h:Own w base v l)(hm:m<=base):Own w m v l:=by
 refine⟨h.1,?_⟩;rcases h.2 with h1|⟨g,cap,cur,h1,h2,h3⟩
 .exact .inl h1
 .exact .inr ⟨g,cap,cur,h1,Zt hm h2,h3⟩
def Own.CX {base:Nat}(h:Own A base v l)(hT:Am T A B)(hx:∀b,base<=b->¬T b):Own B base v l:=D2 hT hx h
def ar2 {l:List (Int×Int)}(h:Sl S Rp 2 w v l)(hlen:l.length<=1000):Calls Lp 40 #[v] w fun e w'=>∃u,e=.returned u/\Bl w w'/\SP (TT w.heap.size w') w' u l:=by
 obtain⟨a,c,rfl,l1,m1⟩:=h.val;obtain⟨i0,hi,Fo,DX,EI⟩:=zq ia;have hu:=CG Tryz.underlying23;cases a with
 |none=>
  have hl:l=[]:=by
   cases l with
   |nil=>rfl
   |cons x r=>
    obtain⟨a',c',h1,_,_,h4⟩:=h;cases h1;obtain⟨b,o,cs,e,_⟩:=h4 0 x rfl;cases e
  subst hl;go_enter Lp.func40,n40;go_wp2;go_ret;exact⟨_,rfl,bA (Zg _ _),_,0,rfl,Zj _,Zn _,fun i x hx=>by cases hx⟩
 |some ad=>
  obtain⟨news,hn,hR,hc⟩:=Sl.row h (by decide) ad rfl;have h1:=row_one (by decide) hn hR dj;have HC:=Zb hc;have HR:=Zb hR;clear hc hR;go_enter Lp.func40,n40;go_wp2_with (at_builtin;refine Yj _ rfl _ _ 23 rfl w.heap.size 80 i0 (.agg #[.int J 0,.int J 0]) 2 16 hu (DC hi) Fo DX EI rfl (by decide) _ 0 [] rfl (YK w #[] 0 (Zj _) (Zn _) rfl) ad l.length c news rfl hn (fun j u hj=>ca (HC.out j u hj) _) h1 (by unfold maxLen;omega) (by omega) (by simp) ?_;intro v' w1 Bq AJ FI);have hB:Bl w w1:=Ba (bA (Zg _ _)) AJ (fun k hk=>by cases hk;exact Zj _) (by simp);rw[zK,zZ]at Bq;have WX:SP (TT w.heap.size w1) w1 v' l:=Sl.imp (Nw (by decide) Bq fun i x hx=>HR.out i x hx) (fun b hb=>⟨hb.1.1,by obtain⟨cs,h⟩:=hb.2;exact⟨cs,80,h,.inr (.inr rfl)⟩⟩) fun _ _ x=>x;clear Bq AJ FI;go_ret;exact⟨_,rfl,hB,WX⟩
variable {lo hi y:Int}
variable {Ak:List (Int×Int)}
def ar3 {left:Int}(hp:SP S w v2 Ak)(ho:SI S w v3 over)(h2:Ak.length<=1000)(h3:over.length<=1000):
  Calls Lp 86 #[.agg #[.int J lo,.int J hi,v2,v3,.int J left]] w fun e w'=>∃u2 u3,e=.returned (.agg #[.int J lo,.int J hi,u2,u3,.int J left])/\Bl w w'/\SP (TT w.heap.size w') w' u2 Ak/\Own w' w.heap.size u3 over:=by
 obtain⟨a2,c2,rfl,l2,m2⟩:=hp.val;obtain⟨a3,c3,rfl,l3,m3⟩:=ho.val;have Gx:=CI;go_enter Lp.func86,n86;go_wp2;obtain⟨W3,H3⟩:∃W3,W3=(w.alloc (C #[.int J lo,.int J hi,U a2 Ak.length c2,U a3 over.length c3,.int J left] 62)).alloc (C #[.int J 0,.int J 0,U none 0 0,U none 0 0,.int J 0] 62):=⟨_,rfl⟩;have Bg:Bl w W3:=by rw[H3];exact bA (bA (Zg _ _))
 have Ep:W3.heap[w.heap.size]?=some (C #[.int J lo,.int J hi,U a2 Ak.length c2,U a3 over.length c3,.int J left] 62 (0,0)):=by rw[H3];exact Bo (Bt _ _) _
 have O6:W3.heap[w.heap.size+1]?=some (C #[.int J 0,.int J 0,U none 0 0,U none 0 0,.int J 0] 62 (0,0)):=by rw[H3];exact IJ _ _ _
 rw[<-H3];clear H3;have z2:=fun p=>Al p (ch (i:=2) Ep (v:=.slice a2 Ak.length c2) rfl);have z3:=fun p=>Al p (ch (i:=3) Ep (v:=.slice a3 over.length c3) rfl);refine Dm (S:=fun W=>∃p,W=calm W3 p) [7,8,9,10] [(false,0),(false,3),(true,7),(false,6),(false,8),(false,9),(false,10)] [1,2,4,5] (by kernel_rfl) (fun _ _ d _ _ h=>by cases d<;>exact h) (by kernel_rfl) (AO (Zg _ _).drew) ?_;refine Br _ _ (by kernel_rfl) ?_;simp only[zr,zL,Z1,ZQ,ZP]
 repeat (first|go_big_quiet_step (fail)|quiet_step (fail))
 refine zD ?_;clear z2 z3;change Ec _ _ _ _ _ _ _;have xQ:Bl W3 (W3.drew.alloc (C #[] 64)):=bA (Zg _ _).drew;refine Kg (v:=.slice (some ⟨W3.heap.size,0,none⟩) 0 0) (w':=W3.drew.alloc (C #[] 64)) rfl rfl (by go_simp) (.inr (AO xQ)) ?_;cases ha2:a2 with
 |none=>
  subst ha2;have hl:Ak=[]:=by
   cases Ak with
   |nil=>rfl
   |cons x r=>obtain⟨b,o,e,_⟩:=hp.at_ (i:=0) (by simp);cases e
  subst hl;refine Kg (v:=.slice (some ⟨W3.heap.size,0,none⟩) 0 0) (w':=W3.drew.alloc (C #[] 64)) rfl rfl (by go_simp) (.inr (AO xQ)) ?_;obtain⟨W5,JO⟩:∃W5,W5=W3.drew.alloc (C #[] 64):=⟨_,rfl⟩;obtain⟨u2,iM⟩:∃u2:Ze,u2=.slice (some ⟨W3.heap.size,0,none⟩) 0 0:=⟨_,rfl⟩;have LD:SP (TT W3.heap.size W5) W5 u2 []:=⟨_,0,iM,Zj _,Zn _,fun i x hx=>by cases hx⟩;have BS:Bl W3 W5:=by rw[JO];exact xQ
  rw[<-JO, <-iM];clear JO iM;have Uf:=Bg.trans (BS.mono Bg.size);refine OC (v:=.pointer (some ⟨w.heap.size,2,none⟩)) rfl rfl (fun w=>by go_simp) ?_;refine Ex (f:=32) (args:= #[U a3 over.length c3]) rfl rfl (by go_simp) ((Ue (ho.later Uf) h3).mono ?_);rintro e W6 ⟨u3,rfl,Dv,NF⟩;have Ki:=BS.trans (Dv.mono BS.size);refine⟨u3,rfl,.inr (AO Ki),?_⟩;obtain⟨p2,d2,rfl,_⟩:=LD.val;obtain⟨p3,d3,rfl,_⟩:=NF.si.val;have Rn:=Bg.trans (Ki.mono Bg.size);have Jb:=(Ki.block _ (Za.1 Ep).1).trans Ep;have IP:=(Ki.block _ (Za.1 O6).1).trans O6;have Sa:w.heap.size+1<W3.heap.size:=(Za.1 O6).1;have sL:W3.heap.size<=W5.heap.size:=BS.size;have n2:SP (TT W3.heap.size W6) W6 (U p2 0 d2) []:=Ny LD Dv;have n3:Own W6 W3.heap.size (U p3 over.length d3) over:=NF.mono sL;refine Me _ _ _ (by kernel_rfl) (fun x hx w=>.inl ?_) ?_
  .revert x;decide
  simp only[Gl,Z1,ZQ,ZP];have g0:=ch (i:=0) Jb (v:=.int J lo) rfl;have g1:=ch (i:=1) Jb (v:=.int J hi) rfl;have g2:=ch (i:=2) Jb (v:=.slice none 0 c2) rfl;have g3:=ch (i:=3) Jb (v:=.slice a3 over.length c3) rfl;have g4:=ch (i:=4) Jb (v:=.int J left) rfl;have f2:=cf (i:=2) Jb;have f3:=cf (i:=3) Jb;have x0:=ch (i:=0) IP (v:=.int J 0) rfl;have x1:=ch (i:=1) IP (v:=.int J 0) rfl;have x2:=ch (i:=2) IP (v:=.slice none 0 0) rfl;have x3:=ch (i:=3) IP (v:=.slice none 0 0) rfl;have x4:=ch (i:=4) IP (v:=.int J 0) rfl;have y0:=cf (i:=0) IP;have y1:=cf (i:=1) IP;have y2:=cf (i:=2) IP;have y3:=cf (i:=3) IP;have y4:=cf (i:=4) IP;clear Dv LD NF;go_wp2;refine ZU (v:=.agg #[.int J lo,.int J hi,U p2 0 d2,U p3 over.length d3,.int J left]) (by rw[A6 rfl];go_simp) rfl ?_;have key:∀X,Bl w X->Am (fun x=>x<W3.heap.size) W6 X->∃u2 u3,ZbP (.agg #[.int J lo,.int J hi,U p2 0 d2,U p3 over.length d3,.int J left])=.returned (.agg #[.int J lo,.int J hi,u2,u3,.int J left])/\Bl w X/\SP (TT w.heap.size X) X u2 []/\Own X w.heap.size u3 over:=fun X Io PY=>
   ⟨_,_,rfl,Io,Ve (kU n2 PY fun x hx h=>by have:=hx.1;omega) (by omega),(n3.CX PY fun x hx h=>by omega).mono (by omega)⟩
  refine key _ ?_ ?_
  .repeat (with_reducible first|exact Rn|(refine bS ?_ (by omega)))
  .repeat (with_reducible first|exact Am.refl _ _|(refine Am.set ?_ (show _<_ by omega)))
 |some ad=>
  obtain⟨news,hn,hR,hc⟩:=Sl.row hp (by decide) ad ha2;have h1:=row_one (by decide) hn hR dj;obtain⟨i0,Da,Fo,DX,EI⟩:=zq XK;have hu:=CG ZcC;refine QN rfl rfl ?_;refine Zam _ _ _ 60 rfl W3.heap.size 64 i0 (.agg #[.int J 0,.int J 0]) 2 16 hu (DC Da) Fo DX EI rfl (by decide) _ 0 [] rfl (YK W3.drew #[] 0 (Zj _) (Zn _) rfl) ad Ak.length c2 news (by rw[<-ha2];rfl) hn (fun j u hj=>?_) h1 (by unfold maxLen;omega) (by omega) (by simp) ?_
  .exact ca (show W3.cell? _=_ from(Bg.cell (Zy w _ (hc j u hj))).trans (hc j u hj)) _
  intro u2 W5 A3 AJ FI;have BS:Bl W3 W5:=Ba xQ AJ (fun k hk=>by cases hk;exact Zj _) (by simp);refine⟨.inr (AO BS),?_⟩;have LD:SP (TT W3.heap.size W5) W5 u2 Ak:=Sl.imp (Nw (by decide) (by rw[zK,zZ]at A3;exact A3) (fun i x hx=>hR i x hx)) (fun b hb=>⟨hb.1.1,by obtain⟨cs,h⟩:=hb.2;exact⟨cs,64,h,.inr (.inl rfl)⟩⟩) fun _ _ x=>x;clear A3 AJ FI;have Uf:=Bg.trans (BS.mono Bg.size);refine OC (v:=.pointer (some ⟨w.heap.size,2,none⟩)) rfl rfl (fun w=>by go_simp) ?_;refine Ex (f:=32) (args:= #[U a3 over.length c3]) rfl rfl (by go_simp) ((Ue (ho.later Uf) h3).mono ?_);rintro e W6 ⟨u3,rfl,Dv,NF⟩;have Ki:=BS.trans (Dv.mono BS.size);refine⟨u3,rfl,.inr (AO Ki),?_⟩;obtain⟨p2,d2,rfl,_⟩:=LD.val;obtain⟨p3,d3,rfl,_⟩:=NF.si.val;have Rn:=Bg.trans (Ki.mono Bg.size);have Jb:=(Ki.block _ (Za.1 Ep).1).trans Ep;have IP:=(Ki.block _ (Za.1 O6).1).trans O6;have Sa:w.heap.size+1<W3.heap.size:=(Za.1 O6).1;have sL:W3.heap.size<=W5.heap.size:=BS.size;have n2:SP (TT W3.heap.size W6) W6 (U p2 Ak.length d2) Ak:=Ny LD Dv;have n3:Own W6 W3.heap.size (U p3 over.length d3) over:=NF.mono sL;refine Me _ _ _ (by kernel_rfl) (fun x hx w=>.inl ?_) ?_
  .revert x;decide
  simp only[Gl,Z1,ZQ,ZP];have g0:=ch (i:=0) Jb (v:=.int J lo) rfl;have g1:=ch (i:=1) Jb (v:=.int J hi) rfl;have g2:=ch (i:=2) Jb (v:=.slice a2 Ak.length c2) rfl;have g3:=ch (i:=3) Jb (v:=.slice a3 over.length c3) rfl;have g4:=ch (i:=4) Jb (v:=.int J left) rfl;have f2:=cf (i:=2) Jb;have f3:=cf (i:=3) Jb;have x0:=ch (i:=0) IP (v:=.int J 0) rfl;have x1:=ch (i:=1) IP (v:=.int J 0) rfl;have x2:=ch (i:=2) IP (v:=.slice none 0 0) rfl;have x3:=ch (i:=3) IP (v:=.slice none 0 0) rfl;have x4:=ch (i:=4) IP (v:=.int J 0) rfl;have y0:=cf (i:=0) IP;have y1:=cf (i:=1) IP;have y2:=cf (i:=2) IP;have y3:=cf (i:=3) IP;have y4:=cf (i:=4) IP;clear Dv LD NF;go_wp2;refine ZU (v:=.agg #[.int J lo,.int J hi,U p2 Ak.length d2,U p3 over.length d3,.int J left]) (by rw[A6 rfl];go_simp) rfl ?_;have key:∀X,Bl w X->Am (fun x=>x<W3.heap.size) W6 X->∃u2 u3,ZbP (.agg #[.int J lo,.int J hi,U p2 Ak.length d2,U p3 over.length d3,.int J left])=.returned (.agg #[.int J lo,.int J hi,u2,u3,.int J left])/\Bl w X/\SP (TT w.heap.size X) X u2 Ak/\Own X w.heap.size u3 over:=fun X Io PY=>
   ⟨_,_,rfl,Io,Ve (kU n2 PY fun x hx h=>by have:=hx.1;omega) (by omega),(n3.CX PY fun x hx h=>by omega).mono (by omega)⟩
  refine key _ ?_ ?_
  .repeat (with_reducible first|exact Rn|(refine bS ?_ (by omega)))
  .repeat (with_reducible first|exact Am.refl _ _|(refine Am.set ?_ (show _<_ by omega)))
def D' (n:Nat)(w:Zc)(base:Nat)(v:Ze)(l:List Aq):Prop:=∃vals,w.ownsRow base 62 5 v l.length vals/\∀(i:Nat) (x:Aq),l[i]?=some x->Rs (TT n w) w ((vals.drop (i*5)).take 5) x
def D'.CX {base:Nat}{l:List Aq}(h:D' n A base v l)(hT:Am T A B)(hx:∀x,TT n A x->¬T x)(hg:∀g,v.ownBlock=some g->¬T g):D' n B base v l:=by
 obtain⟨vals,h1,h2⟩:=h;refine⟨vals,⟨h1.1,?_⟩,fun i x hi=>uU (h2 i x hi) hT hx⟩;rcases h1.2 with h|⟨g,cap,cur,e,h3,h4,h5⟩
 .exact .inl h
 .exact .inr ⟨g,cap,cur,e,h3,(hT.block g (Za.1 h4).1 (hg g (by rw[e];rfl))).trans h4,h5⟩
def D'.later {base:Nat}{l:List Aq}(h:D' n A base v l)(hB:Bl A B):D' n B base v l:=h.CX (T:=fun _=>False) ((Am.later hB).mono fun _ x=>x) (fun _ _ x=>x) fun _ _ x=>x
def D'.val {base:Nat}{l:List Aq}(h:D' n w base v l):∃a c,v=.slice a l.length c/\l.length<=c/\c<=maxLen:=by
 obtain⟨vals,h1,_⟩:=h;rcases h1.2 with⟨e,h2⟩|⟨g,cap,cur,e,h3,h4,h5,h6,_⟩
 .exact⟨none,0,by rw[e,h2],by omega,Zn _⟩
 .exact⟨_,cap,e,h5,h6⟩
def D'.own {base:Nat}{l:List Aq}(h:D' n w base v l):∀g,v.ownBlock=some g->base<=g/\∃cs,w.heap[g]?=some (.cells cs 62 (0,0)):=by
 obtain⟨vals,h1,_⟩:=h;intro g hg;rcases h1.2 with⟨e,_⟩|⟨g',cap,cur,e,h3,h4,h5⟩
 .rw[e]at hg;cases hg
 .rw[e]at hg
  cases hg;exact⟨h3,cur,h4⟩
def D'.ss {base:Nat}{l:List Aq}(h:D' n w base v l)(hn:n<=base):SS (Cf n w) w v l:=by
 obtain⟨vals,h1,h2⟩:=h;refine Sl.imp (PL (R:=Rs (Cf n w)) (by decide) h1 fun i x hx=>?_) (fun b hb=>⟨Zt hn hb.1,hb.2⟩) fun _ _ x=>x;obtain⟨v2,v3,e,x2,x3⟩:=h2 i x hx;exact⟨v2,v3,e,Sl.imp x2 (fun b hb=>hb.new) fun _ _ x=>x,Sl.imp x3 (fun b hb=>hb.new) fun _ _ x=>x⟩
variable {s:Aq}
def D'.snoc {base:Nat}{v':Ze}{l:List Aq}{vals cells:List Ze}(h2:∀(i:Nat) (x:Aq),l[i]?=some x->Rs (TT n B) B ((vals.drop (i*5)).take 5) x)(hl:vals.length=l.length*5)(hc:cells.length=5)(hs:Rs (TT n B) B cells s)(ho:B.ownsRow base 62 5 v' (l.length+1) (vals++cells)):D' n B base v' (l++ [s]):=by
 refine⟨vals++cells,by rw[ZF];exact ho,fun i x hi=>?_⟩;by_cases h:i<l.length
 .rw[Z4 h]at hi
  have:=h2 i x hi;rwa[List.drop_append_of_le_length (by omega),List.take_append_of_le_length (by simp;omega)]
 .have m_:=(Zl.1 hi).1
  rw[ZF,zp,Yt]at m_;obtain rfl:i=l.length:=by omega
  rw[Zd9]at hi;cases hi;rw[<-hl,List.drop_left,ZaQ (by omega)];exact hs
structure CT (n:Nat)(w:Zc)(u1 u2 u3 u4 u5:Ze)(c:A4):Prop where
 base:SI (TT n w) w u1 c.base
 Af:SP (TT n w) w u2 c.Af
 hooks:SI (TT n w) w u3 c.hooks
 now:SI (TT n w) w u5 c.now
 row:D' n w n u4 c.Aa
def CT.rc {u3:Ze}(h:CT n w u1 u2 u3 u4 u5 c):RC (Cf n w) w u1 u2 u3 u4 u5 c:=
 ⟨Sl.imp h.base (fun b hb=>hb.new) fun _ _ x=>x,Sl.imp h.Af (fun b hb=>hb.new) fun _ _ x=>x,Sl.imp h.hooks (fun b hb=>hb.new) fun _ _ x=>x,h.row.ss (Zj _),Sl.imp h.now (fun b hb=>hb.new) fun _ _ x=>x⟩
def CT.CX {u3:Ze}(h:CT n A u1 u2 u3 u4 u5 c)(hT:Am T A B)(hx:∀x,TT n A x->¬T x)(hg:∀g,u4.ownBlock=some g->¬T g):CT n B u1 u2 u3 u4 u5 c:=
 ⟨O9 h.base hT hx,kU h.Af hT hx,O9 h.hooks hT hx,O9 h.now hT hx,h.row.CX hT hx hg⟩
def Si (w:Zc)(c:A4)(e:Ending)(w':Zc):Prop:=∃u1 u2 u3 u4 u5,e=.returned (.agg #[u1,u2,u3,u4,u5])/\Bl w w'/\CT w.heap.size w' u1 u2 u3 u4 u5 c
def D'.mono {l:List Aq}(h:D' n w n v l)(hm:m<=n):D' m w m v l:=by
 obtain⟨vals,h1,h2⟩:=h;refine⟨vals,⟨h1.1,?_⟩,fun i x hi=>?_⟩
 .rcases h1.2 with h|⟨g,cap,cur,e,h3,h4⟩
  .exact .inl h
  .exact .inr ⟨g,cap,cur,e,Zt hm h3,h4⟩
 .obtain⟨v2,v3,e,x2,x3⟩:=h2 i x hi
  exact⟨v2,v3,e,Ve x2 hm,Mt x3 hm⟩
def Mm (w:Zc)(l:List Ze)(t:Zr):∀j u,l[j]?=some u->(w.alloc (.cells l.toArray t)).cell? ((⟨w.heap.size,0,none⟩:Addr).add j)=some u:=by
 intro j u hj;rw[show(⟨w.heap.size,0,none⟩:Addr).add j=⟨w.heap.size,j,none⟩ by unfold Zcz;split<;>simp_all];exact cn _ _ _ (by simpa using hj)
structure CR (w:Zc)(n0 q:Nat)(xs:Array Ze)(s1 s2 s3 s5:Ze)(c:A4)(k:Nat)(v4:Ze)(wr:Zc):Prop where
 below:Bl w wr
 box:wr.heap[w.heap.size]?=some (.cells xs 26 (0,0))
 res:wr.heap[w.heap.size+1]?=some (C #[U none 0 0,U none 0 0,U none 0 0,U none 0 0,U none 0 0] 26 (0,0))
 qx:wr.heap[q]?=some (C #[s1,s2,s3,v4,s5] 26 (0,0))
 base:SI (TT n0 wr) wr s1 c.base
 Af:SP (TT n0 wr) wr s2 c.Af
 hooks:SI (TT n0 wr) wr s3 c.hooks
 now:SI (TT n0 wr) wr s5 c.now
 row:D' n0 wr n0 v4 (c.Aa.take k)
 z:n0<=wr.heap.size
def ar4 (h:RC S w v1 v2 v3 v4 v5 c)(hS:∀b,S b->b<w.heap.size)(Ni:c.base.length<=1000)(hle:c.Af.length<=1000)(hlh:c.hooks.length<=1000)(aH:c.Aa.length<=1000)(Tl:c.now.length<=1000)(iw:∀i,i<c.Aa.length->(Ah c.Aa i).Ak.length<=1000/\(Ah c.Aa i).over.length<=1000):
  Calls Lp 33 #[.agg #[v1,v2,v3,v4,v5]] w (Si w c):=by
 obtain⟨a1,c1,rfl,l1,m1⟩:=h.base.val;obtain⟨a2,c2,rfl,l2,m2⟩:=h.Af.val;obtain⟨a3,c3,rfl,l3,m3⟩:=h.hooks.val;obtain⟨a4,c4,rfl,l4,m4⟩:=h.Aa.val;obtain⟨a5,c5,rfl,l5,m5⟩:=h.now.val;have Gx:=CI;go_enter Lp.func33,n33;go_wp2;obtain⟨W3,H3⟩:∃W3,W3=(w.alloc (C #[U a1 c.base.length c1,U a2 c.Af.length c2,U a3 c.hooks.length c3,U a4 c.Aa.length c4,U a5 c.now.length c5] 26)).alloc (C #[U none 0 0,U none 0 0,U none 0 0,U none 0 0,U none 0 0] 26):=⟨_,rfl⟩;have Bg:Bl w W3:=by rw[H3];exact bA (bA (Zg _ _))
 have Ep:W3.heap[w.heap.size]?=some (C #[U a1 c.base.length c1,U a2 c.Af.length c2,U a3 c.hooks.length c3,U a4 c.Aa.length c4,U a5 c.now.length c5] 26 (0,0)):=by rw[H3];exact Bo (Bt _ _) _
 have O6:W3.heap[w.heap.size+1]?=some (C #[U none 0 0,U none 0 0,U none 0 0,U none 0 0,U none 0 0] 26 (0,0)):=by rw[H3];exact IJ _ _ _
 rw[<-H3];clear H3;have hm3:w.heap.size+1<W3.heap.size:=(Za.1 O6).1;refine Code.wp_mono (Q:=fun e a' V=>e=.normal/\∃(q:Nat) (p1 p2 p3 p5:Option Addr) (d1 d2 d3 d5:Nat) (x5 x6 x7 x8 x9 mS Rc x12 Nc L8 L9 Lm Ln:Ze),a'= {tmps:= #[.agg #[U a1 c.base.length c1,U a2 c.Af.length c2,U a3 c.hooks.length c3,U a4 c.Aa.length c4,U a5 c.now.length c5],.pointer (some ⟨w.heap.size,0,none⟩),.pointer (some ⟨w.heap.size+1,0,none⟩),.pointer (some ⟨q,0,none⟩),Zf,x5,x6,x7,x8,x9,mS,Rc,x12,Nc,L8,L9,Lm,Ln,Zf,Zf,Zf,Zf,Zf,Zf,Zf,Zf,Zf,Zf,Zf,Zf,Zf,Zf,Zf,Zf,Zf,Zf,Zf],defers:=[]}/\w.heap.size+1<q/\Bl W3 V/\V.heap[q]?=some (C #[U p1 c.base.length d1,U p2 c.Af.length d2,U p3 c.hooks.length d3,U none 0 0,U p5 c.now.length d5] 26 (0,0))/\SI (TT W3.heap.size V) V (U p1 c.base.length d1) c.base/\SP (TT W3.heap.size V) V (U p2 c.Af.length d2) c.Af/\SI (TT W3.heap.size V) V (U p3 c.hooks.length d3) c.hooks/\SI (TT W3.heap.size V) V (U p5 c.now.length d5) c.now) ?rest ?first
 case first=>
  have z0:=fun p=>Al p (ch (i:=0) Ep (v:=.slice a1 c.base.length c1) rfl);have z1:=fun p=>Al p (ch (i:=1) Ep (v:=.slice a2 c.Af.length c2) rfl);have z2:=fun p=>Al p (ch (i:=2) Ep (v:=.slice a3 c.hooks.length c3) rfl);have z4:=fun p=>Al p (ch (i:=4) Ep (v:=.slice a5 c.now.length c5) rfl);refine Hh (S:=fun W=>∃p,W=calm W3 p) [0,1,3,4,6,7,9,10] 7 #[true,true,false,true,true,false,true,true,false,true,true,false,false,false,false] (by kernel_rfl) (fun _ _ _ _ _ h=>nomatch h.1) (by kernel_rfl) (AO (Zg _ _).drew) ?_;refine Br _ _ (by kernel_rfl) ?_;simp only[zr,zL,Z1,ZQ,ZP]
  repeat (first|go_big_quiet_step (fail)|quiet_step (fail))
  refine zD ?_;clear z0 z1 z2 z4;change CH _ _ _ _ _ _ _ _ _;obtain⟨V,hV⟩:∃V,V=W3.drew:=⟨_,rfl⟩;have hX:Bl W3 V:=by rw[hV];exact(Zg _ _).drew
  rw[<-hV];clear hV;have hq:=YI;have n1:=YI;have n2:=YI;have n3:=YI;have n5:=YI;refine AM [2,13] (by kernel_rfl) (by simp) (II ?gA2 ?gB2)
  case' gB2=>
   refine Fe (v:=.pointer (some ⟨V.heap.size,0,none⟩)) (w':=V.alloc (C #[U none 0 0,U none 0 0,U none 0 0,U none 0 0,U none 0 0] 26)) rfl rfl (by go_simp) ?_;obtain⟨V',Mn⟩:∃V',V'=V.alloc (C #[U none 0 0,U none 0 0,U none 0 0,U none 0 0,U none 0 0] 26):=⟨_,rfl⟩;have Ee:Bl V V':=by rw[Mn];exact bA (Zg _ _)
   have hq:V'.heap[V.heap.size]?=some (C #[U none 0 0,U none 0 0,U none 0 0,U none 0 0,U none 0 0] 26 (0,0)):=by rw[Mn];exact Bt _ _
   have Wm:=hX.size;obtain⟨q,PZ⟩:∃q,q=V.heap.size:=⟨_,rfl⟩;rw[<-PZ]at hq Wm
   try (have n1:=Es n1 Ee)
   try (have n2:=Ny n2 Ee)
   try (have n3:=Es n3 Ee)
   try (have n5:=Es n5 Ee)
   have hX:=hX.trans (Ee.mono hX.size);rw[<-Mn, <-PZ];refine⟨AO hX,?_⟩;clear Ee PZ Mn;obtain⟨V,tA⟩:∃V2,V2=V':=⟨_,rfl⟩;subst tA;refine AM [2] (by kernel_rfl) (by simp) (BL ?_)
  all_goals
   refine DS (f:=32) (args:= #[U a1 c.base.length c1]) rfl rfl (by go_simp) ((Ue (h.later (Bg.trans (hX.mono Bg.size))).base Ni).mono ?_);rintro e V ⟨u,rfl,Ee,hu⟩;have n1:=Mt hu.tt hX.size;obtain⟨p1,d1,rfl,_,_⟩:=n1.val;clear hu
   try (have hq:=(Ee.block _ (Za.1 hq).1).trans hq)
   try (have n2:=Ny n2 Ee)
   try (have n3:=Es n3 Ee)
   try (have n5:=Es n5 Ee)
   have hX:=hX.trans (Ee.mono hX.size);refine .inl ⟨_,rfl,AO hX,?_⟩;clear Ee
  all_goals first
   |(have sO:=Za.1 hq;clear sO;refine AM [5] (by kernel_rfl) (by simp) (BL ?_))
   |(refine AM [5,13] (by kernel_rfl) (by simp) (II ?gA5 ?gB5)
     case' gB5=>
      refine Fe (v:=.pointer (some ⟨V.heap.size,0,none⟩)) (w':=V.alloc (C #[U none 0 0,U none 0 0,U none 0 0,U none 0 0,U none 0 0] 26)) rfl rfl (by go_simp) ?_;obtain⟨V',Mn⟩:∃V',V'=V.alloc (C #[U none 0 0,U none 0 0,U none 0 0,U none 0 0,U none 0 0] 26):=⟨_,rfl⟩;have Ee:Bl V V':=by rw[Mn];exact bA (Zg _ _)
      have hq:V'.heap[V.heap.size]?=some (C #[U none 0 0,U none 0 0,U none 0 0,U none 0 0,U none 0 0] 26 (0,0)):=by rw[Mn];exact Bt _ _
      have Wm:=hX.size;obtain⟨q,PZ⟩:∃q,q=V.heap.size:=⟨_,rfl⟩;rw[<-PZ]at hq Wm
      try (have n1:=Es n1 Ee)
      try (have n2:=Ny n2 Ee)
      try (have n3:=Es n3 Ee)
      try (have n5:=Es n5 Ee)
      have hX:=hX.trans (Ee.mono hX.size);rw[<-Mn, <-PZ];refine⟨AO hX,?_⟩;clear Ee PZ Mn;obtain⟨V,tA⟩:∃V2,V2=V':=⟨_,rfl⟩;subst tA;refine AM [5] (by kernel_rfl) (by simp) (BL ?_))
  all_goals
   refine DS (f:=40) (args:= #[U a2 c.Af.length c2]) rfl rfl (by go_simp) ((ar2 (h.later (Bg.trans (hX.mono Bg.size))).Af hle).mono ?_);rintro e V ⟨u,rfl,Ee,hu⟩;have n2:=Ve hu hX.size;obtain⟨p2,d2,rfl,_,_⟩:=n2.val;clear hu
   try (have hq:=(Ee.block _ (Za.1 hq).1).trans hq)
   try (have n1:=Es n1 Ee)
   try (have n3:=Es n3 Ee)
   try (have n5:=Es n5 Ee)
   have hX:=hX.trans (Ee.mono hX.size);refine .inl ⟨_,rfl,AO hX,?_⟩;clear Ee
  all_goals first
   |(have sO:=Za.1 hq;clear sO;refine AM [8] (by kernel_rfl) (by simp) (BL ?_))
   |(refine AM [8,13] (by kernel_rfl) (by simp) (II ?gA8 ?gB8)
     case' gB8=>
      refine Fe (v:=.pointer (some ⟨V.heap.size,0,none⟩)) (w':=V.alloc (C #[U none 0 0,U none 0 0,U none 0 0,U none 0 0,U none 0 0] 26)) rfl rfl (by go_simp) ?_;obtain⟨V',Mn⟩:∃V',V'=V.alloc (C #[U none 0 0,U none 0 0,U none 0 0,U none 0 0,U none 0 0] 26):=⟨_,rfl⟩;have Ee:Bl V V':=by rw[Mn];exact bA (Zg _ _)
      have hq:V'.heap[V.heap.size]?=some (C #[U none 0 0,U none 0 0,U none 0 0,U none 0 0,U none 0 0] 26 (0,0)):=by rw[Mn];exact Bt _ _
      have Wm:=hX.size;obtain⟨q,PZ⟩:∃q,q=V.heap.size:=⟨_,rfl⟩;rw[<-PZ]at hq Wm
      try (have n1:=Es n1 Ee)
      try (have n2:=Ny n2 Ee)
      try (have n3:=Es n3 Ee)
      try (have n5:=Es n5 Ee)
      have hX:=hX.trans (Ee.mono hX.size);rw[<-Mn, <-PZ];refine⟨AO hX,?_⟩;clear Ee PZ Mn;obtain⟨V,tA⟩:∃V2,V2=V':=⟨_,rfl⟩;subst tA;refine AM [8] (by kernel_rfl) (by simp) (BL ?_))
  all_goals
   refine DS (f:=32) (args:= #[U a3 c.hooks.length c3]) rfl rfl (by go_simp) ((Ue (h.later (Bg.trans (hX.mono Bg.size))).hooks hlh).mono ?_);rintro e V ⟨u,rfl,Ee,hu⟩;have n3:=Mt hu.tt hX.size;obtain⟨p3,d3,rfl,_,_⟩:=n3.val;clear hu
   try (have hq:=(Ee.block _ (Za.1 hq).1).trans hq)
   try (have n1:=Es n1 Ee)
   try (have n2:=Ny n2 Ee)
   try (have n5:=Es n5 Ee)
   have hX:=hX.trans (Ee.mono hX.size);refine .inl ⟨_,rfl,AO hX,?_⟩;clear Ee
  all_goals first
   |(have sO:=Za.1 hq;clear sO;refine AM [11] (by kernel_rfl) (by simp) (BL ?_))
   |(refine AM [11,13] (by kernel_rfl) (by simp) (II ?gA11 ?gB11)
     case' gB11=>
      refine Fe (v:=.pointer (some ⟨V.heap.size,0,none⟩)) (w':=V.alloc (C #[U none 0 0,U none 0 0,U none 0 0,U none 0 0,U none 0 0] 26)) rfl rfl (by go_simp) ?_;obtain⟨V',Mn⟩:∃V',V'=V.alloc (C #[U none 0 0,U none 0 0,U none 0 0,U none 0 0,U none 0 0] 26):=⟨_,rfl⟩;have Ee:Bl V V':=by rw[Mn];exact bA (Zg _ _)
      have hq:V'.heap[V.heap.size]?=some (C #[U none 0 0,U none 0 0,U none 0 0,U none 0 0,U none 0 0] 26 (0,0)):=by rw[Mn];exact Bt _ _
      have Wm:=hX.size;obtain⟨q,PZ⟩:∃q,q=V.heap.size:=⟨_,rfl⟩;rw[<-PZ]at hq Wm
      try (have n1:=Es n1 Ee)
      try (have n2:=Ny n2 Ee)
      try (have n3:=Es n3 Ee)
      try (have n5:=Es n5 Ee)
      have hX:=hX.trans (Ee.mono hX.size);rw[<-Mn, <-PZ];refine⟨AO hX,?_⟩;clear Ee PZ Mn;obtain⟨V,tA⟩:∃V2,V2=V':=⟨_,rfl⟩;subst tA;refine AM [11] (by kernel_rfl) (by simp) (BL ?_))
  all_goals
   refine DS (f:=32) (args:= #[U a5 c.now.length c5]) rfl rfl (by go_simp) ((Ue (h.later (Bg.trans (hX.mono Bg.size))).now Tl).mono ?_);rintro e V ⟨u,rfl,Ee,hu⟩;have n5:=Mt hu.tt hX.size;obtain⟨p5,d5,rfl,_,_⟩:=n5.val;clear hu
   try (have hq:=(Ee.block _ (Za.1 hq).1).trans hq)
   try (have n1:=Es n1 Ee)
   try (have n2:=Ny n2 Ee)
   try (have n3:=Es n3 Ee)
   have hX:=hX.trans (Ee.mono hX.size);refine .inl ⟨_,rfl,AO hX,?_⟩;clear Ee
  all_goals first
   |(have sO:=Za.1 hq;clear sO;refine AM [12] (by kernel_rfl) (by simp) (BL ?_)
     refine Fe (v:=.agg #[U p1 c.base.length d1,U p2 c.Af.length d2,U p3 c.hooks.length d3,U none 0 0,U p5 c.now.length d5]) (w':=V) rfl rfl (by go_simp) ?_;refine⟨AO hX,?_⟩)
   |(refine AM [12,13] (by kernel_rfl) (by simp) (II ?gA12 ?gB12)
     case' gB12=>
      refine Fe (v:=.pointer (some ⟨V.heap.size,0,none⟩)) (w':=V.alloc (C #[U none 0 0,U none 0 0,U none 0 0,U none 0 0,U none 0 0] 26)) rfl rfl (by go_simp) ?_;obtain⟨V',Mn⟩:∃V',V'=V.alloc (C #[U none 0 0,U none 0 0,U none 0 0,U none 0 0,U none 0 0] 26):=⟨_,rfl⟩;have Ee:Bl V V':=by rw[Mn];exact bA (Zg _ _)
      have hq:V'.heap[V.heap.size]?=some (C #[U none 0 0,U none 0 0,U none 0 0,U none 0 0,U none 0 0] 26 (0,0)):=by rw[Mn];exact Bt _ _
      have Wm:=hX.size;obtain⟨q,PZ⟩:∃q,q=V.heap.size:=⟨_,rfl⟩;rw[<-PZ]at hq Wm
      try (have n1:=Es n1 Ee)
      try (have n2:=Ny n2 Ee)
      try (have n3:=Es n3 Ee)
      try (have n5:=Es n5 Ee)
      have hX:=hX.trans (Ee.mono hX.size);rw[<-Mn, <-PZ];refine⟨AO hX,?_⟩;clear Ee PZ Mn;obtain⟨V,tA⟩:∃V2,V2=V':=⟨_,rfl⟩;subst tA;refine AM [12] (by kernel_rfl) (by simp) (BL ?_);refine Fe (v:=.agg #[U p1 c.base.length d1,U p2 c.Af.length d2,U p3 c.hooks.length d3,U none 0 0,U p5 c.now.length d5]) (w':=V) rfl rfl (by go_simp) ?_;refine⟨AO hX,?_⟩
     case' gA12=>
      refine Fe (v:=.agg #[U p1 c.base.length d1,U p2 c.Af.length d2,U p3 c.hooks.length d3,U none 0 0,U p5 c.now.length d5]) (w':=V) rfl rfl (by go_simp) ?_;refine⟨AO hX,?_⟩;refine AM [13] (by kernel_rfl) (by simp) (BL ?_);refine Fe (v:=.pointer (some ⟨V.heap.size,0,none⟩)) (w':=V.alloc (C #[U none 0 0,U none 0 0,U none 0 0,U none 0 0,U none 0 0] 26)) rfl rfl (by go_simp) ?_;obtain⟨V',Mn⟩:∃V',V'=V.alloc (C #[U none 0 0,U none 0 0,U none 0 0,U none 0 0,U none 0 0] 26):=⟨_,rfl⟩;have Ee:Bl V V':=by rw[Mn];exact bA (Zg _ _)
      have hq:V'.heap[V.heap.size]?=some (C #[U none 0 0,U none 0 0,U none 0 0,U none 0 0,U none 0 0] 26 (0,0)):=by rw[Mn];exact Bt _ _
      have Wm:=hX.size;obtain⟨q,PZ⟩:∃q,q=V.heap.size:=⟨_,rfl⟩;rw[<-PZ]at hq Wm
      try (have n1:=Es n1 Ee)
      try (have n2:=Ny n2 Ee)
      try (have n3:=Es n3 Ee)
      try (have n5:=Es n5 Ee)
      have hX:=hX.trans (Ee.mono hX.size);rw[<-Mn, <-PZ];refine⟨AO hX,?_⟩;clear Ee PZ Mn;obtain⟨V,tA⟩:∃V2,V2=V':=⟨_,rfl⟩;subst tA)
  all_goals
   refine AM [14] (by kernel_rfl) (by simp) (BL ?_);have g0:=ch (i:=0) hq (v:=.slice none 0 0) rfl;have g1:=ch (i:=1) hq (v:=.slice none 0 0) rfl;have g2:=ch (i:=2) hq (v:=.slice none 0 0) rfl;have g3:=ch (i:=3) hq (v:=.slice none 0 0) rfl;have g4:=ch (i:=4) hq (v:=.slice none 0 0) rfl;have f0:=cf (i:=0) hq;have f1:=cf (i:=1) hq;have f2:=cf (i:=2) hq;have f3:=cf (i:=3) hq;have f4:=cf (i:=4) hq;obtain⟨V',Mn⟩:∃V',V'=((((V.setCell ⟨q,0,none⟩ (U p1 c.base.length d1)).setCell ⟨q,1,none⟩ (U p2 c.Af.length d2)).setCell ⟨q,2,none⟩ (U p3 c.hooks.length d3)).setCell ⟨q,3,none⟩ (U none 0 0)).setCell ⟨q,4,none⟩ (U p5 c.now.length d5):=⟨_,rfl⟩;refine Se (w':=V') rfl rfl (by rw[Mn];go_simp) ?_;have hX':Bl W3 V':=by rw[Mn];exact bS (bS (bS (bS (bS hX Wm) Wm) Wm) Wm) Wm
   have hT:Am (fun x=>x=q) V V':=by rw[Mn];exact(Am.refl (fun x=>x=q) V).DJ.DJ.DJ.DJ.DJ
   have Bn:∀x,TT W3.heap.size V x->¬x=q:=fun x hx e=>TT.not (e▸hx) hq ⟨by decide,by decide,by decide⟩;refine⟨AO hX',rfl,?_⟩;exact⟨rfl,q,p1,p2,p3,p5,d1,d2,d3,d5,_,_,_,_,_,_,_,_,_,_,_,_,_,rfl,by omega,hX',by rw[Mn];exact A8 (A8 (A8 (A8 (A8 hq _) _) _) _) _,O9 n1 hT Bn,kU n2 hT Bn,O9 n3 hT Bn,O9 n5 hT Bn⟩
 case rest=>
  rintro e a' V ⟨rfl,q,p1,p2,p3,p5,d1,d2,d3,d5,x5,x6,x7,x8,x9,mS,Rc,x12,Nc,L8,L9,Lm,Ln,rfl,Wm,hX,hq,n1,n2,n3,n5⟩;have hC0:CR w W3.heap.size q #[U a1 c.base.length c1,U a2 c.Af.length c2,U a3 c.hooks.length c3,U a4 c.Aa.length c4,U a5 c.now.length c5] (U p1 c.base.length d1) (U p2 c.Af.length d2) (U p3 c.hooks.length d3) (U p5 c.now.length d5) c 0 (U none 0 0) V:=
   ⟨Bg.trans (hX.mono Bg.size),(hX.block _ (Za.1 Ep).1).trans Ep,(hX.block _ hm3).trans O6,hq,n1,n2,n3,n5,⟨[],zh _ _ _ _,fun i x hx=>by cases hx⟩,hX.size⟩
  clear hX hq n1 n2 n3 n5 Ep O6 Bg;dsimp only;go_wp2;go_loopg [4] c.Aa.length (fun g i wr=>∃(k:Nat) (v4:Ze),k<=c.Aa.length/\g=c.Aa.length - k/\i=.int J k/\CR w W3.heap.size q #[U a1 c.base.length c1,U a2 c.Af.length c2,U a3 c.hooks.length c3,U a4 c.Aa.length c4,U a5 c.now.length c5] (U p1 c.base.length d1) (U p2 c.Af.length d2) (U p3 c.hooks.length d3) (U p5 c.now.length d5) c k v4 wr)
  case atStart=>exact⟨0,_,Zn _,rfl,rfl,hC0⟩
  case round=>
   obtain⟨k,v4,hk,rfl,rfl,hC⟩:=hrel;obtain⟨sl,KI⟩:∃sl,sl=c.Aa.take k:=⟨_,rfl⟩;have hsk:sl.length=k:=by rw[KI];simp;omega
   have Cr:=hC.row;rw[<-KI]at Cr;obtain⟨va,vc,rfl,_⟩:=Cr.val;rw[hsk]at hC Cr;by_cases AA:k<c.Aa.length
   .obtain⟨b4,o4,s2,s3,rfl,Uv,x0,x1,x2,x3,x4,hp,ho⟩:=h.Aa.at_ (i:=k) AA
    have Gj:∀j u,w.cell? ⟨b4,j,none⟩=some u->wr.cell? ⟨b4,j,none⟩=some u:=fun j u hu=>(hC.below.cell (p:=⟨b4,j,none⟩) (hS b4 Uv)).trans hu;replace x0:=Gj _ _ x0;replace x1:=Gj _ _ x1;replace x2:=Gj _ _ x2;replace x3:=Gj _ _ x3;replace x4:=Gj _ _ x4;clear Gj;replace hp:=hp.later hC.below;replace ho:=ho.later hC.below;obtain⟨MI,Nn⟩:=iw k AA;obtain⟨sm,Nb⟩:∃sm,sm=Ah c.Aa k:=⟨_,rfl⟩;have HTK:=Zb (show c.Aa.take (k+1)=sl++ [sm] by rw[KI,Nb,ZbN,Ct AA];rfl);rw[<-Nb]at x0 x1 x4 hp ho MI Nn;clear Nb KI;obtain⟨low,high,Ak,over,left⟩:=sm;dsimp only at x0 x1 x4 hp ho MI Nn;obtain⟨a6,c6,rfl,l6,m6⟩:=hp.val;obtain⟨a7,c7,rfl,l7,m7⟩:=ho.val;obtain⟨K,Ml⟩:∃K:Nat->Prop,K=fun x=>x≠q/\w.heap.size+1<x:=⟨_,rfl⟩;have kt:∀x,w.heap.size+1<x->x≠q->K x:=fun x hx hq=>by rw[Ml];exact⟨hq,hx⟩
    have tx:¬K w.heap.size:=by rw[Ml];intro x;omega
    have pj:¬K (w.heap.size+1):=by rw[Ml];intro x;omega
    have kV:¬K q:=by rw[Ml];exact fun x=>x.1 rfl
    have Kz:¬K b4:=by rw[Ml];intro x;have:=hS b4 Uv;omega
    clear Ml;have z0:=fun p:Tw K wr=>p.cell (ch (i:=3) hC.box (v:=.slice (some ⟨b4,o4,none⟩) c.Aa.length c4) rfl) tx;have z1:=fun p:Tw K wr=>p.cell (ch (i:=3) hC.qx (v:=.slice va k vc) rfl) kV;have y0:=fun p:Tw K wr=>p.cell x0 Kz;have y1:=fun p:Tw K wr=>p.cell x1 Kz;have y2:=fun p:Tw K wr=>p.cell x2 Kz;have y3:=fun p:Tw K wr=>p.cell x3 Kz;have y4:=fun p:Tw K wr=>p.cell x4 Kz;have Rh:(k:Int)<(c.Aa.length:Int):=by omega
    have adW:(0:Int)<=(k:Int):=by omega
    have nN:q<wr.heap.size:=(Za.1 hC.qx).1;have kx:=ch (i:=3) hC.box (v:=.slice (some ⟨b4,o4,none⟩) c.Aa.length c4) rfl;have XM:=hC.below.size;have DX:w.heap.size+1<wr.heap.size:=(Za.1 hC.res).1;have Sa:W3.heap.size<=wr.heap.size:=hC.z;go_wp2;clear kx;refine Dm (S:=fun W=>∃p:Tw K wr,W=p.v) [11] [(false,7),(false,8),(false,9),(false,10),(false,11)] [0,1,2,3,4,5,6] (by kernel_rfl) (fun _ _ d _ _ h=>by cases d<;>exact h) (by kernel_rfl) (BU (Am.later (Zg _ _).drew)) ?_;refine Br _ _ (by kernel_rfl) ?_;simp only[zr,zL,Z1,ZQ,ZP]
    repeat (first|go_big_quiet_step (fail)|quiet_step (fail))
    refine zD ?_;clear z0 z1 y0 y1 y2 y3 y4 x0 x1 x2 x3 x4;change Ec _ _ _ _ _ _ _;have hBd:Bl wr wr.drew:=(Zg _ _).drew;refine Ex (f:=86) (args:= #[.agg #[.int J low,.int J high,U a6 Ak.length c6,U a7 over.length c7,.int J left]]) rfl rfl (by go_simp) ((ar3 (hp.later hBd) (ho.later hBd) MI Nn).mono ?_);rintro e w1 ⟨u2,u3,rfl,Bb,LD,NF⟩;have dM:Bl wr w1:=hBd.trans (Bb.mono (Zj _));have Mr:Am K wr w1:=Am.later dM;refine⟨_,rfl,.inr (BU Mr),?_⟩;have LD:SP (TT wr.heap.size w1) w1 u2 Ak:=LD;have NF:SI (TT wr.heap.size w1) w1 u3 over:=Own.tt NF;obtain⟨p6,t6,rfl,_⟩:=LD.val;obtain⟨p7,t7,rfl,_⟩:=NF.val;obtain⟨xR,xS⟩:∃xR,xR=w1.alloc (C #[.int J low,.int J high,U p6 Ak.length t6,U p7 over.length t7,.int J left] 62):=⟨_,rfl⟩;have eP:Bl w1 xR:=by rw[xS];exact bA (Zg _ _)
    have LC:=dM.trans (eP.mono dM.size);have iN:Am K wr xR:=Am.later LC;refine Kg (v:=.slice (some ⟨w1.heap.size,0,none⟩) 1 1) (w':=xR) rfl rfl (by rw[xS];go_simp) (.inr (BU iN)) ?_;obtain⟨vals,A3,Ha⟩:=Cr.later LC;rw[hsk]at A3;obtain⟨i0,hi,iu,xP,ae0⟩:=zq ib;have ar5:=CG Tryz.underlying24;refine QN rfl rfl ?_;refine Zam _ _ _ 24 rfl W3.heap.size 62 i0 (.agg #[.int J 0,.int J 0,U none 0 0,U none 0 0,.int J 0]) 5 72 ar5 (DC hi) iu xP ae0 rfl (by decide) _ k vals rfl A3 ⟨w1.heap.size,0,none⟩ 1 1 [.int J low,.int J high,U p6 Ak.length t6,U p7 over.length t7,.int J left] rfl rfl (by rw[xS];exact Mm _ _ _) (by intro u hu;simp at hu;rcases hu with rfl|rfl|rfl|rfl|rfl<;>rfl) (by unfold maxLen;omega) (by omega) (by have:=LC.size;omega) ?_;intro v' w2 CQ AJ FI;have Fq:∀g,(ZA va k vc).ownBlock=some g->W3.heap.size<=g/\∃cs,wr.heap[g]?=some (.cells cs 62 (0,0)):=Cr.own;have JJ:Am (fun x=>(ZA va k vc).ownBlock=some x) xR w2:=Am.grown AJ fun g hg=>hg;have Ff:Am K wr w2:=iN.trans (Am.grown AJ fun g hg=>by
     obtain⟨h1,cs,h2⟩:=Fq g hg;exact kt g (by omega) (fun e=>by subst e;rw[hC.qx]at h2;cases h2))
    refine⟨.inr (BU Ff),?_⟩;obtain⟨g',GR,rfl⟩:=ZbD CQ;have Nk:=(Ff.block q nN kV).trans hC.qx;have f3:=cf (i:=3) Nk;have e3:=ch (i:=3) Nk (v:=.slice va k vc) rfl;refine FC (v:=.pointer (some ⟨q,3,none⟩)) rfl rfl (by go_simp) (.inr (BU Ff)) ?_;refine Ly (w':=w2.setCell ⟨q,3,none⟩ (U (some ⟨g',0,none⟩) (k+1) GR)) rfl rfl (by go_simp) (.inl rfl) ?_;have dy:CR w W3.heap.size q #[U a1 c.base.length c1,U a2 c.Af.length c2,U a3 c.hooks.length c3,U (some ⟨b4,o4,none⟩) c.Aa.length c4,U a5 c.now.length c5] (U p1 c.base.length d1) (U p2 c.Af.length d2) (U p3 c.hooks.length d3) (U p5 c.now.length d5) c (k+1) (U (some ⟨g',0,none⟩) (k+1) GR) (w2.setCell ⟨q,3,none⟩ (U (some ⟨g',0,none⟩) (k+1) GR)):=by
     have Ro:Am (fun x=>x=q) w2 (w2.setCell ⟨q,3,none⟩ (U (some ⟨g',0,none⟩) (k+1) GR)):=(Am.refl (fun x=>x=q) w2).DJ;have hnq:∀x,TT W3.heap.size w2 x->¬x=q:=fun x hx e=>TT.not (e▸hx) Nk ⟨by decide,by decide,by decide⟩;have hng:∀ {A:Zc} (hA:∀g cs,wr.heap[g]?=some (ZbM cs 62 (0,0))->A.heap[g]?=some (ZbM cs 62 (0,0))) x,TT W3.heap.size A x->¬(ZA va k vc).ownBlock=some x:=fun hA x hx e=>by
      obtain⟨_,cs,h2⟩:=Fq x e;exact TT.not hx (hA x cs h2) ⟨by decide,by decide,by decide⟩
     have hTw:Am (fun x=>(ZA va k vc).ownBlock=some x) wr w2:=((Am.later LC).mono fun _ x=>x).trans JJ;have sD:=hng (A:=wr) (fun g cs h=>h);have uz:=hng (A:=xR) (fun g cs h=>(LC.block g (Za.1 h).1).trans h);refine⟨?_,?_,?_,A8 Nk _,O9 (O9 hC.base hTw sD) Ro hnq,kU (kU hC.Af hTw sD) Ro hnq,O9 (O9 hC.hooks hTw sD) Ro hnq,O9 (O9 hC.now hTw sD) Ro hnq,?_,by have:=hTw.size;simp;omega⟩
     .exact bS ((hC.below.trans (LC.mono hC.below.size)).trans (JJ.below (fun g hg=>by have:=(Fq g hg).1;omega) (by have:=LC.size;omega))) (by omega)
     .exact(AY (by omega) _).trans ((Ff.block _ (by omega) tx).trans hC.box)
     .exact(AY (by omega) _).trans ((Ff.block _ DX pj).trans hC.res)
     .rw[HTK.out]
      refine D'.CX (A:=w2) ?_ Ro hnq (fun g hg e=>by
       cases hg;subst e;rcases CQ.2 with⟨e,_⟩|⟨g,cap,cur,e,_,h3,_⟩
       .cases e
       .cases e
        rw[Nk]at h3;cases h3)
      rw[show k+1=sl.length+1 by rw[hsk]]at*;have hRn:Rs (TT W3.heap.size xR) xR [.int J low,.int J high,U p6 Ak.length t6,U p7 over.length t7,.int J left] ⟨low,high,Ak,over,left⟩:=⟨_,_,rfl,Ve (Ny LD eP) Sa,Mt (Es NF eP) Sa⟩;exact D'.snoc (fun i x hi=>uU (Ha i x hi) JJ uz) (by have:=A3.1;rw[this,hsk]) rfl (uU hRn JJ uz) CQ
    have HC2:=Zb dy;clear dy hC Ff JJ iN Mr LC eP xS Bb dM LD NF A3 CQ Ha AJ FI Fq Cr f3 e3 Nk hp ho;unfold Ec
    go_simp
    go_wp2;go_roundg (c.Aa.length - (k+1))
    case rel=>exact⟨k+1,_,AA,rfl,by go_num,HC2.out⟩
    case measure=>omega
   .have aI:k=c.Aa.length:=by omega
    rw[aI,List.take_length]at KI;subst KI;subst aI;have kx:=ch (i:=3) hC.box (v:=.slice a4 c.Aa.length c4) rfl;have s0:=ch (i:=0) hC.qx (v:=.slice p1 c.base.length d1) rfl;have s1:=ch (i:=1) hC.qx (v:=.slice p2 c.Af.length d2) rfl;have s2:=ch (i:=2) hC.qx (v:=.slice p3 c.hooks.length d3) rfl;have s3:=ch (i:=3) hC.qx (v:=.slice va c.Aa.length vc) rfl;have s4:=ch (i:=4) hC.qx (v:=.slice p5 c.now.length d5) rfl;have f0:=cf (i:=0) hC.res;have f1:=cf (i:=1) hC.res;have f2:=cf (i:=2) hC.res;have f3:=cf (i:=3) hC.res;have f4:=cf (i:=4) hC.res;have r0:=ch (i:=0) hC.res (v:=.slice none 0 0) rfl;have r1:=ch (i:=1) hC.res (v:=.slice none 0 0) rfl;have r2:=ch (i:=2) hC.res (v:=.slice none 0 0) rfl;have r3:=ch (i:=3) hC.res (v:=.slice none 0 0) rfl;have r4:=ch (i:=4) hC.res (v:=.slice none 0 0) rfl;have nN:q<wr.heap.size:=(Za.1 hC.qx).1;have XM:=hC.below.size;have DX:w.heap.size+1<wr.heap.size:=(Za.1 hC.res).1;have HC:=Zb hC;have HR:=Zb Cr;clear hC Cr;go_wp2;refine ZU (v:=.agg #[U p1 c.base.length d1,U p2 c.Af.length d2,U p3 c.hooks.length d3,U va c.Aa.length vc,U p5 c.now.length d5]) (by rw[A6 rfl];go_simp) rfl ?_;have key:∀X,Bl w X->Am (fun x=>x=w.heap.size+1) wr X->Si w c (.returned (.agg #[U p1 c.base.length d1,U p2 c.Af.length d2,U p3 c.hooks.length d3,U va c.Aa.length vc,U p5 c.now.length d5])) X:=fun X Io PY=>by
     have hn:∀x,TT W3.heap.size wr x->¬x=w.heap.size+1:=fun x hx e=>by have:=hx.1;omega
     have ox:w.heap.size<=W3.heap.size:=by omega
     have hg:∀g,(ZA va c.Aa.length vc).ownBlock=some g->¬g=w.heap.size+1:=fun g hg e=>by have:=(HR.out.own g hg).1;omega
     exact⟨_,_,_,_,_,rfl,Io,Mt (O9 HC.out.base PY hn) ox,Ve (kU HC.out.Af PY hn) ox,Mt (O9 HC.out.hooks PY hn) ox,Mt (O9 HC.out.now PY hn) ox,(HR.out.CX PY hn hg).mono ox⟩
    have EV:=HC.out.below;refine key _ ?_ ?_
    .repeat (with_reducible first|exact EV|(refine bS ?_ (by omega)))
    .repeat (with_reducible first|exact Am.refl _ _|(refine Am.DJ ?_))
structure LW (b:Nat)(lv:Ze)(w:Zc)(d:Nat)(W:Zc):Prop where
 Cg:Cj b w W
 FH:BQ W b lv d
def LW.alloc (h:LW b lv w d W)(o:Obj):LW b lv w d (W.alloc o):=⟨h.Cg.below (bA (Zg _ _)),h.FH.later (bA (Zg _ _))⟩
def LW.drew (h:LW b lv w d W):LW b lv w d W.drew:=⟨h.Cg.below (Zg _ _).drew,h.FH.later (Zg _ _).drew⟩
def LW.step {b d d':Nat}{lv:Ze}{w W W':Zc}(h:LW b lv w d W)(hU:Cj b W W')(hL:BQ W' b lv d'):LW b lv w d' W':=⟨h.Cg.trans hU,hL⟩
def LW.refl (h:BQ w b lv d):LW b lv w d w:=⟨Cj.refl _ _,h⟩
def LW.below {W':Zc}(h:LW b lv w d W)(hB:Bl W W'):LW b lv w d W':=⟨h.Cg.below hB,h.FH.later hB⟩
section
variable {Sn:Nat->Prop}{w:Zc}{lv:Ze}{nums:List Int}{b:Nat}
def Dr (b:Nat)(lv:Ze)(w:Zc)(d m:Nat)(lo:Int)(W:Zc)(e:Ending)(W':Zc):Prop:=∃(r d':Nat),e=.returned (.int J (lo+r))/\r<=m/\Cj b W W'/\LW b lv w d' W'/\d'<=d+1
def ajR (hn:SI Sn w lv nums)(EP:∀x,Sn x->x<w.heap.size/\x≠b)(hL:LW b lv w d W)(hd:d<4611686018427387904)(h1: -1000000<=lo/\lo<=1000000)(h2: -1000000<=hi/\hi<=1000000):
  Calls Lp 61 #[.pointer (some ⟨b,0,none⟩),.int J lo,.int J hi] W (Dr b lv w d (hi - lo).toNat lo W):=
 (c61 (hn.Cg hL.Cg EP) (LN hL.Cg EP) hL.FH hd h1 h2).mono fun _ _ ⟨r,d',he,hr,hU,Ut,eN⟩=>⟨r,d',he,hr,hU,hL.step hU Ut,eN⟩
def ajS (hn:SI Sn w lv nums)(EP:∀x,Sn x->x<w.heap.size/\x≠b){n:Int}(hL:LW b lv w d W)(hd:d<4611686018427387904)(h2:n<=1000000):
  Calls Lp 29 #[.pointer (some ⟨b,0,none⟩),.int J n] W fun e W'=>∃(r d':Nat),e=.returned (.int J r)/\r<=n.toNat/\Cj b W W'/\LW b lv w d' W'/\d'<=d+1:=
 (c29 (hn.Cg hL.Cg EP) (LN hL.Cg EP) hL.FH hd (by omega)).mono fun _ _ ⟨r,d',he,hr,hU,Ut,eN⟩=>⟨r,d',he,hr,hU,hL.step hU Ut,eN⟩
def ajT (hn:SI Sn w lv nums)(EP:∀x,Sn x->x<w.heap.size/\x≠b){n:Int}(hL:LW b lv w d W)(hd:d<4611686018427387904)(h2: -1000000<=n/\n<=1000000):
  Calls Lp 99 #[.pointer (some ⟨b,0,none⟩),.int J n] W fun e W'=>∃(r:Bool) (d':Nat),e=.returned (.bool r)/\Cj b W W'/\LW b lv w d' W'/\d'<=d+1:=
 (c99 (hn.Cg hL.Cg EP) (LN hL.Cg EP) hL.FH hd h2).mono fun _ _ ⟨r,d',he,hU,Ut,eN⟩=>⟨r,d',he,hU,hL.step hU Ut,eN⟩
def ajU (hn:SI Sn w lv nums)(EP:∀x,Sn x->x<w.heap.size/\x≠b){s:List Int}(hL:LW b lv w d W)(hd:d<4611686018427387904)(h1:1<=s.length)(h2:s.length<=1000):
  Calls Lp 98 #[.pointer (some ⟨b,0,none⟩),U (some ⟨W.heap.size,0,none⟩) s.length s.length] (W.alloc (.cells (s.map (ZS J)).toArray 3)) fun e W'=>∃(r d':Nat),e=.returned (.int J (nth s r))/\r<s.length/\Cj b (W.alloc (.cells (s.map (ZS J)).toArray 3)) W'/\LW b lv w d' W'/\d'<=d+1:=by
 have Ut:=hL.alloc (.cells (s.map (ZS J)).toArray 3);refine(c98 (T:=fun x=>x=W.heap.size) (hn.Cg Ut.Cg EP) (LN Ut.Cg EP) Ut.FH hd (Ns s (Bt _ _) rfl (by unfold maxLen;omega)) (fun x hx=>by have:=hL.FH.lt;subst hx;simp;omega) h1 h2).mono ?_;rintro _ _ ⟨r,d',he,hr,hU,ou,eN⟩;exact⟨r,d',he,hr,hU,Ut.step hU ou,eN⟩
end
def Mv (w:Zc)(base:Nat)(v:Ze)(l:List (Int×Int))(e:Zr):Prop:=w.ownsRow base e 2 v l.length (l.flatMap fun p=> [ZS J p.1,.int J p.2])
def iO (l:List (Int×Int))(i:Nat)(p:Int×Int)(h:l[i]?=some p):((l.flatMap fun p=> [ZS J p.1,.int J p.2]).drop (i*2)).take 2=[.int J p.1,.int J p.2]:=by
 induction l generalizing i with
 |nil=>cases h
 |cons q r ih=>
  cases i with
  |zero=>cases h;rfl
  |succ i=>
   have:=ih i (by simpa using h);rw[List.flatMap_cons,show(i+1)*2=i*2+2 by omega,show([ZS J q.1,.int J q.2]++r.flatMap fun p=> [ZS J p.1,.int J p.2]).drop (i*2+2)=(r.flatMap fun p=> [ZS J p.1,.int J p.2]).drop (i*2) by rw[show i*2+2=2+i*2 by omega, <-List.drop_drop];rfl];exact this
def Mv.tt {base:Nat}{l:List (Int×Int)}(h:Mv w base v l e)(he:e=3\/e=64\/e=80):SP (TT base w) w v l:=
 Sl.imp (Nw (R:=Rp) (by decide) h fun i x hx=>iO l i x hx) (fun b hb=>⟨hb.1.1,by obtain⟨cs,h⟩:=hb.2;exact⟨cs,e,h,he⟩⟩) fun _ _ x=>x
def five (h:r<5):nth [1,2,3,-1,-2] r≠0/\-4<=nth [1,2,3,-1,-2] r/\nth [1,2,3,-1,-2] r<=4:=by
 have:r=0\/r=1\/r=2\/r=3\/r=4:=by omega
 rcases this with rfl|rfl|rfl|rfl|rfl<;>decide
def ajV (h:r<5):nth [1,2,-1,-4,4] r≠0/\-4<=nth [1,2,-1,-4,4] r/\nth [1,2,-1,-4,4] r<=4:=by
 have:r=0\/r=1\/r=2\/r=3\/r=4:=by omega
 rcases this with rfl|rfl|rfl|rfl|rfl<;>decide
def four (hm:m<=4)(h:r<4):0<=nth [1,2,4,(m:Int)] r/\nth [1,2,4,(m:Int)] r<=4:=by
 have:r=0\/r=1\/r=2\/r=3:=by omega
 rcases this with rfl|rfl|rfl|rfl<;>simp[nth]<;>omega
def Mv.Cg {base:Nat}{l:List (Int×Int)}(h:Mv w base v l e)(hB:Cj q w W)(hq:q<base):Mv W base v l e:=Gm h hB hq
def LW.Ed (h:LW b lv w d W)(hb:b<w.heap.size)(hq:w.heap.size<=q):LW b lv w d (W.setCell ⟨q,i,none⟩ v):=
 ⟨h.Cg.Ed hq,h.FH.of (AY (by omega) _)⟩
def ae2 (g:Nat)(pl:List (Int×Int)):Prop:=(1<=pl.length/\pl.length<=2)/\(∀p∈pl,0<=p.1/\p.1<g/\p.2≠0/\-4<=p.2/\p.2<=4)/\(pl.length=2->(BF pl 1).1≠(BF pl 0).1)
def ae3 (h:gi<g)(hy:y≠0/\-4<=y/\y<=4):ae2 g [((gi:Int),y)]:=
 ⟨⟨by simp,by simp⟩,fun p hp=>by simp at hp;subst hp;simp only;omega,fun h=>by simp at h⟩
def ae4 {o2:Nat}{z:Int}(h:gi<g)(hy:y≠0/\-4<=y/\y<=4)(h2:o2<g)(Bn:o2≠gi)(hz:z≠0/\-4<=z/\z<=4):ae2 g [((gi:Int),y),((o2:Int),z)]:=
 ⟨⟨by simp,by simp⟩,fun p hp=>by simp at hp;rcases hp with rfl|rfl<;>simp only<;>omega,fun _=>by simp[BF];omega⟩
def Ug {base:Nat}{e':Zr}(h:A.ownsRow base e k v n xs)(hq:A.heap[q]?=some (.cells cs e' (0,0)))(he:e≠e'):(A.setCell ⟨q,i,none⟩ u).ownsRow base e k v n xs:=by
 refine⟨h.1,?_⟩;rcases h.2 with h1|⟨g,cap,cur,h1,h2,h3,h4⟩
 .exact .inl h1
 .exact .inr ⟨g,cap,cur,h1,h2,(AY (fun e0=>by subst e0;rw[h3]at hq;cases hq;exact he rfl) _).trans h3,h4⟩
def Hk {base:Nat}(h:A.ownsRow base e k v n xs):∀x,v.ownBlock=some x->base<=x/\∃cs,A.heap[x]?=some (.cells cs e (0,0)):=fun x hx=>by
 rcases h.2 with⟨e,_⟩|⟨g,cap,cur,e,h3,h4,_⟩
 .rw[e]at hx;cases hx
 .rw[e]at hx;cases hx;exact⟨h3,cur,h4⟩
def D7 {base:Nat}(h:A.ownsRow base e k v n xs)(hT:Am T A B)(hx:∀x cs,A.heap[x]?=some (ZbM cs e (0,0))->¬T x):B.ownsRow base e k v n xs:=by
 refine⟨h.1,?_⟩;rcases h.2 with h1|⟨g,cap,cur,h1,h2,h3,h4⟩
 .exact .inl h1
 .exact .inr ⟨g,cap,cur,h1,h2,(hT.block g (Za.1 h3).1 (hx g cur h3)).trans h3,h4⟩
def dN {base:Nat}{g:Int}(hR:w.heap[b]?=some (C #[.int J g,.int J y] 64 (0,0)))(hb:base<=b):Mv w base (U (some ⟨b,0,none⟩) 1 1) [(g,y)] 64:=
 ⟨rfl,.inr ⟨b,1,_,rfl,hb,hR,Zj _,by decide,rfl,rfl⟩⟩
def tB (w:Zc)(b:Nat)(lv:Ze)(d g n o:Nat)(e:Ending)(w':Zc):Prop:=∃(s:Aq) (v2 v3:Ze) (d':Nat),e=.returned (.agg #[.int J s.low,.int J s.high,v2,v3,.int J s.left])/\LW b lv w d' w'/\d'<=d+20/\SP (TT w.heap.size w') w' v2 s.Ak/\SI (TT w.heap.size w') w' v3 s.over/\LI g n o s/\∀x∈s.over,(o:Int)<x
def ar6 {o:Nat}(hn:SI Sn w lv nums)(EP:∀x,Sn x->x<w.heap.size/\x≠b)(hL:BQ w b lv d)(hd:d+20<4611686018427387904)(hg:1<=g/\g<=3)(K9:o<n)(hn3:n<=3):
  Calls Lp 110 #[.pointer (some ⟨b,0,none⟩),.int J g,.int J n,.int J o] w (tB w b lv d g n o):=by
 have Gx:=CI;have H61:=Zb (fun W d lo hi hL hd h1 h2=>ajR (W:=W) (d:=d) (lo:=lo) (hi:=hi) hn EP hL hd h1 h2);have pC:=Zb (fun W d n hL hd h2=>ajS (W:=W) (d:=d) (n:=n) hn EP hL hd h2);have H99:=Zb (fun W d n hL hd h2=>ajT (W:=W) (d:=d) (n:=n) hn EP hL hd h2);have H98:=Zb (fun W d s hL hd h1 h2=>ajU (W:=W) (d:=d) (s:=s) hn EP hL hd h1 h2);have hLW:=LW.refl hL;have G0:=hL.lt;have m1:=YI;have m2:=YI;have m3:=YI;have m4:=YI;have m5:=YI;have m6:=YI;have m7:=YI;have m8:=YI;have m9:=YI;have KN:=Bt w (C #[.int J 0,.int J 0,U none 0 0,U none 0 0,.int J 0] 62);go_enter Lp.func110,apu;go_wp2_with (first|(go_at_call 61;clear m1;refine(H61.out _ _ _ _ (hLW.alloc _) (by omega) (by omega) (by omega)).mono ?_;rintro e W1 ⟨r0,d1,rfl,wC,Rm,xT,hd1⟩;have KN:=Rm.at_ KN (by omega))|(go_at_call 61;clear m2;refine(H61.out _ _ _ _ xT (by omega) (by omega) (by omega)).mono ?_;rintro e W2 ⟨r1,d2,rfl,aE,T6,Hl,vK⟩;have KN:=T6.at_ KN (by omega))|(go_at_call 61;clear m3;refine(H61.out _ _ _ _ Hl (by omega) (by omega) (by omega)).mono ?_;rintro e W3 ⟨r2,d3,rfl,QX,Ho,ar7,hd3⟩;have KN:=Ho.at_ KN (by omega))|(go_at_call 29;clear m4;refine(pC.out _ _ _ ar7 (by omega) (by omega)).mono ?_;rintro e W4 ⟨gi,d4,rfl,oV,U_,ar8,hd4⟩;have KN:=U_.at_ KN (by omega))|(go_at_call 98;clear m5;refine(H98.out _ _ [1,2,3,-1,-2] ar8 (by omega) (by decide) (by decide)).mono ?_;rintro e W5 ⟨r5,d5,rfl,kW,kX,ar9,hd5⟩;obtain⟨y1,nD,px,hya,hyb⟩:∃y,y=nth [1,2,3,-1,-2] r5/\(y≠0/\-4<=y/\y<=4):=⟨_,rfl,five kW⟩;rw[<-nD];clear nD;have KN:=kX.at_ (Bo KN _) (by omega))|(go_at_call 29;clear m6;(have hw5:w.heap.size+1<=W5.heap.size:=by have h1:=Rm.size;have h2:=T6.size;have h3:=Ho.size;have h4:=U_.size;have h5:=kX.size;simp only[ZG]at h1 h5;omega);have hR:=Bt W5 (C #[.int J gi,.int J y1] 64);refine(pC.out _ _ _ (ar9.alloc _) (by omega) (by omega)).mono ?_;rintro e W6 ⟨r6,d6,rfl,hr6,kY,arb,hd6⟩;have hR:=kY.at_ hR (by omega);have KN:=kY.at_ (Bo KN _) (by omega))|(go_at_call 98;clear m7;refine(H98.out _ _ [1,2,4,(r6:Int)] arb (by omega) (by simp) (by simp)).mono ?_;rintro e W7 ⟨r7,d7,rfl,hr7,hU7,ard,hd7⟩;have hR:=hU7.at_ (Bo hR _) (by omega);have KN:=hU7.at_ (Bo KN _) (by omega);obtain⟨y2,hy2,hyc,hyd⟩:∃y,y=nth [1,2,4,(r6:Int)] r7/\(0<=y/\y<=4):=⟨_,rfl,four (by omega) hr7⟩;rw[<-hy2];clear hy2;have KN:=Bo KN (C #[.int J (-2+(r0:Int)),.int J (-2+(r0:Int)+(r2:Int)),U (some ⟨W5.heap.size,0,none⟩) 1 1,U none 0 0,.int J y2] 62);have hR:=Bo hR (C #[.int J (-2+(r0:Int)),.int J (-2+(r0:Int)+(r2:Int)),U (some ⟨W5.heap.size,0,none⟩) 1 1,U none 0 0,.int J y2] 62);have Il:=Bt W7 (C #[.int J (-2+(r0:Int)),.int J (-2+(r0:Int)+(r2:Int)),U (some ⟨W5.heap.size,0,none⟩) 1 1,U none 0 0,.int J y2] 62);have OO:=ard.alloc (C #[.int J (-2+(r0:Int)),.int J (-2+(r0:Int)+(r2:Int)),U (some ⟨W5.heap.size,0,none⟩) 1 1,U none 0 0,.int J y2] 62);obtain⟨dx,hdx⟩:∃dx,dx=d7:=⟨_,rfl⟩;rw[<-hdx]at OO;obtain⟨qb,hqb⟩:∃qb,qb=W7.heap.size:=⟨_,rfl⟩;(have hqw:W5.heap.size<qb:=by have h6:=kY.size;have h7:=hU7.size;simp only[ZG]at h6 h7;omega);rw[<-hqb]at Il;obtain⟨X,oy⟩:∃X,X=W7.alloc (C #[.int J (-2+(r0:Int)),.int J (-2+(r0:Int)+(r2:Int)),U (some ⟨W5.heap.size,0,none⟩) 1 1,U none 0 0,.int J y2] 62):=⟨_,rfl⟩;rw[<-oy]at hR Il OO KN)|(go_at_call 99;clear m8;rw[<-oy];refine(H99.out _ _ _ OO (by omega) (by omega)).mono ?_;rintro e X ⟨rb,d8,rfl,xy,OO,hd8⟩;have hR:=xy.at_ hR (by omega);have KN:=xy.at_ KN (by omega);have Il:=xy.at_ Il (by omega);obtain⟨dx,hdx⟩:∃dx,dx=d8:=⟨_,rfl⟩;rw[<-hdx]at OO)|(go_at_call 29;clear m9;refine(pC.out _ _ _ OO (by omega) (by omega)).mono ?_;rintro e X ⟨oi,d9,rfl,hoi,hU9,OO,hd9⟩;have hR:=hU9.at_ hR (by omega);have KN:=hU9.at_ KN (by omega);have Il:=hU9.at_ Il (by omega);obtain⟨dx,hdx⟩:∃dx,dx=d9:=⟨_,rfl⟩;rw[<-hdx]at OO;have cb:=ch (i:=2) Il (v:=.slice (some ⟨W5.heap.size,0,none⟩) 1 1) rfl;have cp:=ch (i:=0) hR (v:=.int J gi) rfl;rw[hqb]at cb))
 all_goals try (
  have o_:=cb;clear cb cp o_;have XC:2<=g:=by omega
  first
   |(have hgo:gi<=oi:=by assumption
     obtain⟨o2,qe,hoa,uR⟩:∃o2:Nat,(oi:Int)+1=(o2:Int)/\o2<g/\o2≠gi:=⟨oi+1,by omega,by omega,by omega⟩;rw[qe])
   |(obtain⟨o2,qe,hoa,uR⟩:∃o2:Nat,o2=oi/\o2<g/\o2≠gi:=⟨oi,rfl,by omega,by omega⟩
     rw[<-qe])
  clear qe;obtain⟨K,Ml⟩:∃K:Nat->Prop,K=fun x=>x=b\/w.heap.size<x/\x≠qb:=⟨_,rfl⟩;have uS:K b:=by rw[Ml];exact .inl rfl
  have kt:∀x,w.heap.size<x->x≠qb->K x:=fun x hx hq=>by rw[Ml];exact .inr ⟨hx,hq⟩
  have kV:¬K qb:=by rw[Ml];intro x;omega
  have tx:¬K w.heap.size:=by rw[Ml];intro x;omega
  clear Ml;rw[<-hqb];clear hqb oy;have z0:=fun p:Tw K X=>p.cell (ch (i:=2) Il (v:=.slice (some ⟨W5.heap.size,0,none⟩) 1 1) rfl) kV;have uV:qb<X.heap.size:=(Za.1 Il).1;have hbX:b<X.heap.size:=OO.FH.lt;refine Dm (S:=fun W=>∃p:Tw K X,W=p.v) [10] [(false,4),(false,5),(false,6),(false,7),(false,8),(false,9),(false,10)] [0,1,2,3] (by kernel_rfl) (fun _ _ d _ _ h=>by cases d<;>exact h) (by kernel_rfl) (BU (Am.later (Zg _ _).drew)) ?_;refine Br _ _ (by kernel_rfl) ?_;simp only[zr,zL,Z1,ZQ,ZP]
  repeat (first|go_big_quiet_step (fail)|quiet_step (fail))
  refine zD ?_;clear z0;change Ec _ _ _ _ _ _ _;obtain⟨V,hV⟩:∃V,V=X.drew:=⟨_,rfl⟩;have UG:Bl X V:=by rw[hV];exact(Zg _ _).drew
  have hLV:LW b lv w dx V:=by rw[hV];exact OO.drew
  rw[<-hV];clear hV;have eP:Bl V (V.alloc (C #[.int J 1,.int J 2,.int J (-1),.int J (-4),.int J 4] 3)):=bA (Zg _ _);have Io:=UG.trans (eP.mono UG.size);refine Kg (v:=.slice (some ⟨V.heap.size,0,none⟩) 5 5) (w':=V.alloc (C #[.int J 1,.int J 2,.int J (-1),.int J (-4),.int J 4] 3)) rfl rfl (by go_simp) (.inr (BU (Am.later Io))) ?_;refine Ex (f:=98) (args:= #[.pointer (some ⟨b,0,none⟩),U (some ⟨V.heap.size,0,none⟩) 5 5]) rfl rfl (by go_simp) ((H98.out V _ [1,2,-1,-4,4] hLV (by omega) (by decide) (by decide)).mono ?_);rintro e Y ⟨r9,d10,rfl,hr9,nQ,hLY,aA3⟩;obtain⟨y3,hy3,hyf,hyg,hyh⟩:∃y,y=nth [1,2,-1,-4,4] r9/\(y≠0/\-4<=y/\y<=4):=⟨_,rfl,ajV hr9⟩;rw[<-hy3];clear hy3;have hTY:Am K X Y:=(Am.later Io).trans (nQ.CX uS);refine⟨_,rfl,.inr (BU hTY),?_⟩;refine FC (v:=.agg #[.int J o2,.int J y3]) rfl rfl (by go_simp) (.inr (BU hTY)) ?_;have iN:Am K X (Y.alloc (C #[.int J o2,.int J y3] 64)):=hTY.uQ (bA (Zg _ _));refine Kg (v:=.slice (some ⟨Y.heap.size,0,none⟩) 1 1) (w':=Y.alloc (C #[.int J o2,.int J y3] 64)) rfl rfl (by go_simp) (.inr (BU iN)) ?_;have hRY:=nQ.at_ ((Io.block _ (Za.1 hR).1).trans hR) (by omega);have xU:=Bo hRY (C #[.int J o2,.int J y3] 64);obtain⟨i0,hi,Fo,DX,EI⟩:=zq XK;have ari:=CG ZcC;have hXY:=hTY.size;have hwX:=OO.Cg.size;refine QN rfl rfl ?_;refine Zam _ _ _ 60 rfl (w.heap.size+1) 64 i0 (.agg #[.int J 0,.int J 0]) 2 16 ari (DC hi) Fo DX EI rfl (by decide) _ 1 [.int J gi,.int J y1] rfl (dN xU hw5) ⟨Y.heap.size,0,none⟩ 1 1 [.int J o2,.int J y3] rfl rfl (Mm _ _ _) (by intro u hu;simp at hu;rcases hu with rfl|rfl<;>rfl) (by unfold maxLen;omega) (by omega) (by simp;omega) ?_;intro v' Y2 A3 AJ FI;have kM:∀k,(ZA (some ⟨W5.heap.size,0,none⟩) 1 1).ownBlock=some k->k=W5.heap.size:=fun k hk=>by cases hk;rfl
  have Ff:Am K X Y2:=iN.trans (Am.grown AJ fun k hk=>by rw[kM k hk];exact kt _ (by omega) (by omega));refine⟨.inr (BU Ff),?_⟩;obtain⟨g',GR,rfl⟩:=ZbD A3;have X':=(Ff.block qb uV kV).trans Il;have f2:=cf (i:=2) X';have e2:=ch (i:=2) X' (v:=.slice (some ⟨W5.heap.size,0,none⟩) 1 1) rfl;refine FC (v:=.pointer (some ⟨qb,2,none⟩)) rfl rfl (by go_simp) (.inr (BU Ff)) ?_;refine Ly (w':=Y2.setCell ⟨qb,2,none⟩ (U (some ⟨g',0,none⟩) 2 GR)) rfl rfl (by go_simp) (.inl rfl) ?_;obtain⟨X,hXX⟩:∃X,X=Y2.setCell ⟨qb,2,none⟩ (U (some ⟨g',0,none⟩) 2 GR):=⟨_,rfl⟩;have Il:X.heap[qb]?=some (C #[.int J (-2+(r0:Int)),.int J (-2+(r0:Int)+(r2:Int)),U (some ⟨g',0,none⟩) 2 GR,U none 0 0,.int J y2] 62 (0,0)):=by rw[hXX];exact A8 X' _
  have KN:X.heap[w.heap.size]?=some (C #[.int J 0,.int J 0,U none 0 0,U none 0 0,.int J 0] 62 (0,0)):=by rw[hXX];exact(AY (by omega) _).trans ((Ff.block _ (Za.1 KN).1 tx).trans KN)
  have ae7:LW b lv w d10 X:=by
   have h1:=(hLY.alloc (C #[.int J o2,.int J y3] 64)).Cg.grown AJ (fun k hk=>by rw[kM k hk];omega);rw[hXX];refine⟨h1.Ed (by omega),(hLY.alloc (C #[.int J o2,.int J y3] 64)).FH.of ?_⟩;exact(AY (by omega) _).trans (AJ.block b (hLY.alloc _).FH.lt (fun e=>by have:=kM b e.symm;omega))
  have aT:Mv X (w.heap.size+1) (U (some ⟨g',0,none⟩) 2 GR) [((gi:Int),y1),((o2:Int),y3)] 64:=by
   rw[hXX];exact Ug A3 X' (by decide)
  rw[<-hXX];clear OO hXX A3 AJ FI kM Ff iN hTY hRY xU Io eP UG hLV nQ hLY X' f2 e2;obtain⟨dx,hdx⟩:∃dx,dx=d10:=⟨_,rfl⟩;rw[<-hdx]at ae7;have OO:=ae7;clear ae7;unfold Ec
  go_simp
  go_wp2
  )
 all_goals
  have HB:∃(v2:Ze) (pl:List (Int×Int)),X.heap[qb]?=some (C #[.int J (-2+(r0:Int)),.int J (-2+(r0:Int)+(r2:Int)),v2,U none 0 0,.int J y2] 62 (0,0))/\Mv X (w.heap.size+1) v2 pl 64/\ae2 g pl:=by
   first
    |exact⟨_,_,Il,aT,ae4 (by omega) ⟨px,hya,hyb⟩ hoa uR ⟨hyf,hyg,hyh⟩⟩
    |exact⟨_,_,Il,dN hR hw5,ae3 (by omega) ⟨px,hya,hyb⟩⟩
  try rw[<-oy]
  try rw[<-hqb]
  try clear hqb
  try clear oy
  clear Il
  try clear aT
  obtain⟨v2,pl,Il,aT,abg⟩:=HB;obtain⟨p2,q2,rfl,_⟩:=J9 aT;obtain⟨i3,xH,arj,ark,arl⟩:=zq Jx;have arn:=CG Yg;have Qo:dx<=d+12:=by omega
  have aA7:w.heap.size+1<=qb:=by omega
  have HP:=Zb abg;clear abg;go_loopg [12] (n - (o+1)) (fun gg i wr=>∃(k:Nat) (ov:List Int) (v3:Ze) (dk:Nat),(o+1<=k/\k<=n)/\gg=n - k/\i=.int J k/\LW b lv w dk wr/\dk+(o+1)<=dx+k/\wr.heap[w.heap.size]?=some (C #[.int J 0,.int J 0,U none 0 0,U none 0 0,.int J 0] 62 (0,0))/\wr.heap[qb]?=some (C #[.int J (-2+(r0:Int)),.int J (-2+(r0:Int)+(r2:Int)),U p2 pl.length q2,v3,.int J y2] 62 (0,0))/\Mv wr (w.heap.size+1) (U p2 pl.length q2) pl 64/\Own wr (w.heap.size+1) v3 ov/\ov.length<=k/\(∀x∈ov,(o:Int)<x/\x<k)/\ov.Pairwise (· < ·))
  case atStart=>exact⟨o+1,[],U none 0 0,dx,⟨Zj _,K9⟩,rfl,by go_num,OO,Zj _,KN,Il,aT,zh _ _ _ _,Zn _,(fun x hx=>by cases hx),List.Pairwise.nil⟩
  case round=>
   obtain⟨k,ov,v3,dk,⟨hk1,hk2⟩,rfl,rfl,hLk,oX,oz,Gj,UZ,JN,aA8,ajZ,hpw⟩:=hrel;obtain⟨p3,q3,rfl,_⟩:=JN.si.val;have kZ:=Zb (ZX ajZ hpw);clear ajZ hpw;by_cases AA:k<n
   .have Rh:(k:Int)<(n:Int):=by omega
    have hzk:=hLk.Cg.size;go_wp2_with (first|(go_at_call 99;refine(H99.out _ _ _ hLk (by omega) (by omega)).mono ?_;rintro e Y ⟨rb,dk2,rfl,hUy,hLy,hdy⟩;have hry:=hUy.at_ oz (by omega);have hby:=hUy.at_ Gj (by omega);have hpy:=UZ.Cg hUy (by omega);have hoy:=JN.Cg hUy (by omega);have c3:=ch (i:=3) hby (v:=.slice p3 ov.length q3) rfl;have hzy:=hLy.Cg.size)|(at_builtin;refine Yj _ rfl _ _ 22 rfl (w.heap.size+1) 3 i3 (.int J 0) 1 8 arn (DC xH) arj ark arl rfl (by decide) _ ov.length (ov.map (ZS J)) rfl (zO hoy _) ⟨Y.heap.size,0,none⟩ 1 1 [.int J k] rfl rfl (BR _ _ _) (by simp[Yv]) (by unfold maxLen;omega) (by omega) (by have:=(Za.1 hry).1;simp;omega) ?_;intro v' Y2 A3 AJ FI;obtain⟨g3,oA,rfl⟩:=ZbD A3;(have Fq:∀x,(ZA p3 ov.length q3).ownBlock=some x->w.heap.size+1<=x/\∃cs,Y.heap[x]?=some (.cells cs 3 (0,0)):=Hk hoy);(have Ff:Am (fun x=>(ZA p3 ov.length q3).ownBlock=some x) Y Y2:=((Am.later (bA (Zg _ _))).mono fun _ x=>x).trans (Am.grown AJ fun x hx=>hx));(have dO:∀x cs,Y.heap[x]?=some (ZbM cs 62 (0,0))->¬(ZA p3 ov.length q3).ownBlock=some x:=fun x cs hx e=>by(obtain⟨_,cs',h2⟩:=Fq x e);rw[hx]at h2;cases h2);have EA:=(Ff.block _ (Za.1 hby).1 (dO _ _ hby)).trans hby;have QX:=(Ff.block _ (Za.1 hry).1 (dO _ _ hry)).trans hry;have e3:=ch (i:=3) EA (v:=.slice p3 ov.length q3) rfl;have f3:=cf (i:=3) EA))
    .have XL:w.heap.size≠qb:=by omega
     have hgb:∀x,(ZA p3 ov.length q3).ownBlock=some x->w.heap.size<=x:=fun x hx=>by have:=(Fq x hx).1;omega
     have ou:LW b lv w dk2 Y2:=⟨(hLy.alloc (C #[.int J k] 3)).Cg.grown AJ hgb,(hLy.alloc (C #[.int J k] 3)).FH.of (AJ.block b (hLy.alloc _).FH.lt (fun e=>by have:=(Fq b e.symm).1;omega))⟩;have WS:=D7 hpy Ff (fun x cs hx e=>by
      obtain⟨_,cs',h2⟩:=Fq x e;rw[hx]at h2;cases h2)
     have HQ:=Zb (ZX (ou.Ed (i:=3) (v:=.slice (some ⟨g3,0,none⟩) (ov.length+1) oA) G0 (show w.heap.size<=qb by omega)) (ZX ((AY (i:=3) XL (U (some ⟨g3,0,none⟩) (ov.length+1) oA)).trans QX) (ZX (A8 (i:=3) EA (U (some ⟨g3,0,none⟩) (ov.length+1) oA)) (ZX (Ug (i:=3) (u:=.slice (some ⟨g3,0,none⟩) (ov.length+1) oA) WS EA (by decide)) (Ug (i:=3) (u:=.slice (some ⟨g3,0,none⟩) (ov.length+1) oA) A3 EA (by decide))))));clear ou WS A3 AJ FI Ff dO EA QX e3 f3 Fq hgb;go_roundg (n - (k+1))
     case rel=>
      obtain⟨g1,g2,g4,g5,g6⟩:=HQ.out;refine⟨k+1,ov++ [(k:Int)],_,dk2,⟨by omega,by omega⟩,rfl,by go_num,g1,by omega,g2,g4,g5,?_,by simp;omega,fun x hx=>?_,?_⟩
      .unfold Own
       rw[ZF,Zaa];exact g6
      .rcases Zas.1 hx with hx|hx
       .have:=kZ.out.1 x hx;omega
       .rw[YB.1 hx];omega
      .refine List.pairwise_append.2 ⟨kZ.out.2,List.pairwise_singleton _ _,fun a ha c hc=>?_⟩
       rw[YB.1 hc];exact(kZ.out.1 a ha).2
     case measure=>omega
    .go_roundg (n - (k+1))
     case rel=>exact⟨k+1,ov,_,dk2,⟨by omega,by omega⟩,rfl,by go_num,hLy,by omega,hry,hby,hpy,hoy,by omega,(fun x hx=>⟨(kZ.out.1 x hx).1,by have:=(kZ.out.1 x hx).2;omega⟩),kZ.out.2⟩
     case measure=>omega
   .have hkn:k=n:=by omega
    subst hkn;have s0:=ch (i:=0) Gj (v:=.int J (-2+(r0:Int))) rfl;have s1:=ch (i:=1) Gj (v:=.int J (-2+(r0:Int)+(r2:Int))) rfl;have s2:=ch (i:=2) Gj (v:=.slice p2 pl.length q2) rfl;have s3:=ch (i:=3) Gj (v:=.slice p3 ov.length q3) rfl;have s4:=ch (i:=4) Gj (v:=.int J y2) rfl;have f0:=cf (i:=0) oz;have f1:=cf (i:=1) oz;have f2:=cf (i:=2) oz;have f3:=cf (i:=3) oz;have f4:=cf (i:=4) oz;have x0:=ch (i:=0) oz (v:=.int J 0) rfl;have x1:=ch (i:=1) oz (v:=.int J 0) rfl;have x2:=ch (i:=2) oz (v:=.slice none 0 0) rfl;have x3:=ch (i:=3) oz (v:=.slice none 0 0) rfl;have x4:=ch (i:=4) oz (v:=.int J 0) rfl;have hwk:w.heap.size<wr.heap.size:=(Za.1 oz).1;have hqk:qb<wr.heap.size:=(Za.1 Gj).1;have HK:=Zb (ZX UZ JN);clear UZ JN Gj oz;go_wp2;refine ZU (v:=.agg #[.int J (-2+(r0:Int)),.int J (-2+(r0:Int)+(r2:Int)),U p2 pl.length q2,U p3 ov.length q3,.int J y2]) (by rw[A6 rfl];go_simp) rfl ?_;have key:∀Z,LW b lv w dk Z->Am (fun x=>x=w.heap.size) wr Z->tB w b lv d g k o (.returned (.agg #[.int J (-2+(r0:Int)),.int J (-2+(r0:Int)+(r2:Int)),U p2 pl.length q2,U p3 ov.length q3,.int J y2])) Z:=fun Z hLZ pD=>by
     have FI:∀x,TT (w.heap.size+1) wr x->¬x=w.heap.size:=fun x hx e=>by have:=hx.1;omega
     refine⟨⟨-2+(r0:Int),-2+(r0:Int)+(r2:Int),pl,ov,y2⟩,_,_,dk,rfl,hLZ,by omega,Ve (kU (HK.out.1.tt (.inr (.inl rfl))) pD FI) (by omega),Mt (O9 HK.out.2.tt pD FI) (by omega),?_,fun x hx=>(kZ.out.1 x hx).1⟩;obtain⟨hf,uW,htw⟩:=HP.out;refine⟨by simp only;omega,hf,uW,htw,fun x hx=>?_,kZ.out.2,⟨hyc,hyd⟩⟩;have:=kZ.out.1 x hx;omega
    refine key _ ?_ ?_
    .exact((((hLk.Ed G0 (Zj _)).Ed G0 (Zj _)).Ed G0 (Zj _)).Ed G0 (Zj _)).Ed G0 (Zj _)
    .exact(Am.refl (fun x=>x=w.heap.size) wr).DJ.DJ.DJ.DJ.DJ
def P2 (n:Nat)(o:List Int):List Int:=(ZL o.length).map fun k=>(n:Int) - 1 - nth o (o.length - 1 - k)
def oB (n:Nat)(s:Aq):Aq:=⟨s.low,s.high,s.Ak,P2 n s.over,s.left⟩
def P3 (l:List Aq):List Aq:=(ZL l.length).map fun i=>oB l.length (Ah l (l.length - 1 - i))
def P4 (c:A4):A4:= {c with Aa:=P3 c.Aa}
def GK (n:Nat)(o:List Int):(P2 n o).length=o.length:=by simp[P2]
def GL (l:List Aq):(P3 l).length=l.length:=by simp[P3]
def Uh (h:k<o.length):(P2 n o)[k]?=some ((n:Int) - 1 - nth o (o.length - 1 - k)):=by simp[P2,h]
def dP {l:List Aq}(h:i<l.length):(P3 l)[i]?=some (oB l.length (Ah l (l.length - 1 - i))):=by simp[P3,h]
def k9 {a b:List α}{x:α}(h:a.length=b.length)(hx:a[k]?=some x):(a.take k++b.drop k).set k x=a.take (k+1)++b.drop (k+1):=by
 have hk:=(Zl.1 hx).1;apply zM;intro j;by_cases di:j=k
 .subst di
  rw[ze (by simp;omega),Z4 (by simp;omega),ZV (by omega)];exact hx.symm
 .rw[ZD (fun e=>di e.symm)]
  by_cases AA:j<k
  .rw[Z4 (by simp;omega),Z4 (by simp;omega),ZV AA,ZV (by omega)]
  .rw[zx (by simp;omega),zx (by simp;omega),Yi,Yi]
   congr 1
   simp;omega
def k_ {a b:List α}(h:a.length=b.length)(hk:a.length<=k):a.take k++b.drop k=a:=by
 rw[ZaQ hk,Zz.2 (by omega),Zap]
def ld {a b:List α}(h:a.length=b.length)(hk:k<=a.length):(a.take k++b.drop k).length=b.length:=by
 simp;omega
def D'.put {base cap:Nat}{l:List Aq}(h:D' n w base (U (some ⟨g,0,none⟩) l.length cap) l)(hi:i<l.length)(hs:Rs (TT n w) w [.int J s.low,.int J s.high,v2,v3,.int J s.left] s):
  D' n (((((w.setCell ⟨g,i*5,none⟩ (.int J s.low)).setCell ⟨g,i*5+1,none⟩ (.int J s.high)).setCell ⟨g,i*5+2,none⟩ v2).setCell ⟨g,i*5+3,none⟩ v3).setCell ⟨g,i*5+4,none⟩ (.int J s.left)) base (U (some ⟨g,0,none⟩) l.length cap) (l.set i s):=by
 obtain⟨vals,h1,h2⟩:=h;rcases h1.2 with⟨e,_⟩|⟨g',GR,cur,e,h3,h4,h5,h6,h7,h8⟩
 .cases e
 .cases e
  have hT:=(Am.refl (fun x=>x=g) w).DJ (i:=i*5) (v:=.int J s.low)|>.DJ (i:=i*5+1) (v:=.int J s.high)|>.DJ (i:=i*5+2) (v:=v2)|>.DJ (i:=i*5+3) (v:=v3)|>.DJ (i:=i*5+4) (v:=.int J s.left);have Bn:∀x,TT n w x->¬x=g:=fun x hx e=>TT.not (e▸hx) h4 ⟨by decide,by decide,by decide⟩;have hvl:=h1.1;refine⟨((((vals.set (i*5) (.int J s.low)).set (i*5+1) (.int J s.high)).set (i*5+2) v2).set (i*5+3) v3).set (i*5+4) (.int J s.left),⟨by simp[hvl],.inr ⟨g,cap,_,by simp,h3,A8 (A8 (A8 (A8 (A8 h4 _) _) _) _) _,by simpa using h5,h6,by simpa using h7,?_⟩⟩,fun j x hx=>?_⟩
  .simp only[Zdl,Za6,ZdY,h8]
  .have hj:=(Zl.1 hx).1
   rw[Za6]at hj;by_cases uX:i=j
   .subst uX
    rw[ze hi]at hx;cases hx;have e:((((((vals.set (i*5) (.int J s.low)).set (i*5+1) (.int J s.high)).set (i*5+2) v2).set (i*5+3) v3).set (i*5+4) (.int J s.left)).drop (i*5)).take 5=[.int J s.low,.int J s.high,v2,v3,.int J s.left]:=by
     apply zM;intro k;by_cases hk:k<5
     .rw[ZV hk,Yi]
      have:k=0\/k=1\/k=2\/k=3\/k=4:=by omega
      rcases this with rfl|rfl|rfl|rfl|rfl
      .rw[ZD (by omega),ZD (by omega),ZD (by omega),ZD (by omega),Nat.add_zero,ze (by omega)];rfl
      .rw[ZD (by omega),ZD (by omega),ZD (by omega),ze (by simp;omega)];rfl
      .rw[ZD (by omega),ZD (by omega),ze (by simp;omega)];rfl
      .rw[ZD (by omega),ze (by simp;omega)];rfl
      .rw[ze (by simp;omega)];rfl
     .rw[ZJ (by simp;omega),ZJ (by simp;omega)]
    rw[e];exact uU hs hT Bn
   .rw[ZD uX]at hx
    have e:((((((vals.set (i*5) (.int J s.low)).set (i*5+1) (.int J s.high)).set (i*5+2) v2).set (i*5+3) v3).set (i*5+4) (.int J s.left)).drop (j*5)).take 5=(vals.drop (j*5)).take 5:=by
     apply zM;intro k;by_cases hk:k<5
     .rw[ZV hk,Yi,ZV hk,Yi,ZD (by omega),ZD (by omega),ZD (by omega),ZD (by omega),ZD (by omega)]
     .rw[ZJ (by simp;omega),ZJ (by simp;omega)]
    rw[e];exact uU (h2 j x hx) hT Bn
def D'.ptr {base:Nat}{l:List Aq}(h:D' n w base v l)(hp:0<l.length):∃g cap,v=.slice (some ⟨g,0,none⟩) l.length cap/\base<=g:=by
 obtain⟨vals,h1,_⟩:=h;rcases h1.2 with⟨_,h2⟩|⟨g,cap,cur,e,h3,_⟩
 .omega
 .exact⟨g,cap,e,h3⟩
def D'.cells {n base g cap i:Nat}{w:Zc}{l:List Aq}(h:D' n w base (U (some ⟨g,0,none⟩) l.length cap) l)(hi:i<l.length):∃cur,w.heap[g]?=some (.cells cur 62 (0,0))/\∀j,j<5->∃u,cur[i*5+j]?=some u:=by
 obtain⟨vals,h1,_⟩:=h;rcases h1.2 with⟨e,_⟩|⟨g',GR,cur,e,h3,h4,h5,h6,h7,h8⟩
 .cases e
 .cases e
  exact⟨cur,h4,fun j hj=>⟨_,ZC (by omega)⟩⟩
def iP {l:List (Int×Int)}(h:SP (O8 e n A) A u l)(hT:Am T A B)(hx:∀b,O8 e n A b->¬T b):SP (O8 e n B) B u l:=
 Sl.imp (SP.Aw h (hT.same hx)) (fun b hb=>⟨⟨hb.1.1,Zm hb.1.2 hT.size⟩,by rw[hT.block b hb.1.2 (hx b hb)];exact hb.2⟩) fun _ _ x=>x
def arp {left:Int}(hp:SP S w v2 Ak)(ho:SI S w v3 over)(h2:Ak.length<=1000)(h3:over.length<=1000):
  Calls Lp 86 #[.agg #[.int J lo,.int J hi,v2,v3,.int J left]] w fun e w'=>∃u2 u3,e=.returned (.agg #[.int J lo,.int J hi,u2,u3,.int J left])/\Bl w w'/\SP (O8 64 w.heap.size w') w' u2 Ak/\Own w' w.heap.size u3 over:=by
 obtain⟨a2,c2,rfl,l2,m2⟩:=hp.val;obtain⟨a3,c3,rfl,l3,m3⟩:=ho.val;have Gx:=CI;go_enter Lp.func86,n86;go_wp2;obtain⟨W3,H3⟩:∃W3,W3=(w.alloc (C #[.int J lo,.int J hi,U a2 Ak.length c2,U a3 over.length c3,.int J left] 62)).alloc (C #[.int J 0,.int J 0,U none 0 0,U none 0 0,.int J 0] 62):=⟨_,rfl⟩;have Bg:Bl w W3:=by rw[H3];exact bA (bA (Zg _ _))
 have Ep:W3.heap[w.heap.size]?=some (C #[.int J lo,.int J hi,U a2 Ak.length c2,U a3 over.length c3,.int J left] 62 (0,0)):=by rw[H3];exact Bo (Bt _ _) _
 have O6:W3.heap[w.heap.size+1]?=some (C #[.int J 0,.int J 0,U none 0 0,U none 0 0,.int J 0] 62 (0,0)):=by rw[H3];exact IJ _ _ _
 rw[<-H3];clear H3;have z2:=fun p=>Al p (ch (i:=2) Ep (v:=.slice a2 Ak.length c2) rfl);have z3:=fun p=>Al p (ch (i:=3) Ep (v:=.slice a3 over.length c3) rfl);refine Dm (S:=fun W=>∃p,W=calm W3 p) [7,8,9,10] [(false,0),(false,3),(true,7),(false,6),(false,8),(false,9),(false,10)] [1,2,4,5] (by kernel_rfl) (fun _ _ d _ _ h=>by cases d<;>exact h) (by kernel_rfl) (AO (Zg _ _).drew) ?_;refine Br _ _ (by kernel_rfl) ?_;simp only[zr,zL,Z1,ZQ,ZP]
 repeat (first|go_big_quiet_step (fail)|quiet_step (fail))
 refine zD ?_;clear z2 z3;change Ec _ _ _ _ _ _ _;have xQ:Bl W3 (W3.drew.alloc (C #[] 64)):=bA (Zg _ _).drew;refine Kg (v:=.slice (some ⟨W3.heap.size,0,none⟩) 0 0) (w':=W3.drew.alloc (C #[] 64)) rfl rfl (by go_simp) (.inr (AO xQ)) ?_;cases ha2:a2 with
 |none=>
  subst ha2;have hl:Ak=[]:=by
   cases Ak with
   |nil=>rfl
   |cons x r=>obtain⟨b,o,e,_⟩:=hp.at_ (i:=0) (by simp);cases e
  subst hl;refine Kg (v:=.slice (some ⟨W3.heap.size,0,none⟩) 0 0) (w':=W3.drew.alloc (C #[] 64)) rfl rfl (by go_simp) (.inr (AO xQ)) ?_;obtain⟨W5,JO⟩:∃W5,W5=W3.drew.alloc (C #[] 64):=⟨_,rfl⟩;obtain⟨u2,iM⟩:∃u2:Ze,u2=.slice (some ⟨W3.heap.size,0,none⟩) 0 0:=⟨_,rfl⟩;have LD:SP (O8 64 W3.heap.size W5) W5 u2 []:=⟨_,0,iM,Zj _,Zn _,fun i x hx=>by cases hx⟩;have BS:Bl W3 W5:=by rw[JO];exact xQ
  rw[<-JO, <-iM];clear JO iM;have Uf:=Bg.trans (BS.mono Bg.size);refine OC (v:=.pointer (some ⟨w.heap.size,2,none⟩)) rfl rfl (fun w=>by go_simp) ?_;refine Ex (f:=32) (args:= #[U a3 over.length c3]) rfl rfl (by go_simp) ((Ue (ho.later Uf) h3).mono ?_);rintro e W6 ⟨u3,rfl,Dv,NF⟩;have Ki:=BS.trans (Dv.mono BS.size);refine⟨u3,rfl,.inr (AO Ki),?_⟩;obtain⟨p2,d2,rfl,_⟩:=LD.val;obtain⟨p3,d3,rfl,_⟩:=NF.si.val;have Rn:=Bg.trans (Ki.mono Bg.size);have Jb:=(Ki.block _ (Za.1 Ep).1).trans Ep;have IP:=(Ki.block _ (Za.1 O6).1).trans O6;have Sa:w.heap.size+1<W3.heap.size:=(Za.1 O6).1;have sL:W3.heap.size<=W5.heap.size:=BS.size;have n2:SP (O8 64 W3.heap.size W6) W6 (U p2 0 d2) []:=iP (T:=fun _=>False) LD ((Am.later Dv).mono fun _ x=>x) fun _ _ x=>x;have n3:Own W6 W3.heap.size (U p3 over.length d3) over:=NF.mono sL;refine Me _ _ _ (by kernel_rfl) (fun x hx w=>.inl ?_) ?_
  .revert x;decide
  simp only[Gl,Z1,ZQ,ZP];have g0:=ch (i:=0) Jb (v:=.int J lo) rfl;have g1:=ch (i:=1) Jb (v:=.int J hi) rfl;have g2:=ch (i:=2) Jb (v:=.slice none 0 c2) rfl;have g3:=ch (i:=3) Jb (v:=.slice a3 over.length c3) rfl;have g4:=ch (i:=4) Jb (v:=.int J left) rfl;have f2:=cf (i:=2) Jb;have f3:=cf (i:=3) Jb;have x0:=ch (i:=0) IP (v:=.int J 0) rfl;have x1:=ch (i:=1) IP (v:=.int J 0) rfl;have x2:=ch (i:=2) IP (v:=.slice none 0 0) rfl;have x3:=ch (i:=3) IP (v:=.slice none 0 0) rfl;have x4:=ch (i:=4) IP (v:=.int J 0) rfl;have y0:=cf (i:=0) IP;have y1:=cf (i:=1) IP;have y2:=cf (i:=2) IP;have y3:=cf (i:=3) IP;have y4:=cf (i:=4) IP;clear Dv LD NF;go_wp2;refine ZU (v:=.agg #[.int J lo,.int J hi,U p2 0 d2,U p3 over.length d3,.int J left]) (by rw[A6 rfl];go_simp) rfl ?_;have key:∀X,Bl w X->Am (fun x=>x<W3.heap.size) W6 X->∃u2 u3,ZbP (.agg #[.int J lo,.int J hi,U p2 0 d2,U p3 over.length d3,.int J left])=.returned (.agg #[.int J lo,.int J hi,u2,u3,.int J left])/\Bl w X/\SP (O8 64 w.heap.size X) X u2 []/\Own X w.heap.size u3 over:=fun X Io PY=>
   ⟨_,_,rfl,Io,Sl.imp (iP n2 PY fun x hx h=>by have:=hx.1.1;omega) (fun b hb=>⟨⟨by have:=hb.1.1;omega,hb.1.2⟩,hb.2⟩) (fun _ _ x=>x),(n3.CX PY fun x hx h=>by omega).mono (by omega)⟩
  refine key _ ?_ ?_
  .repeat (with_reducible first|exact Rn|(refine bS ?_ (by omega)))
  .repeat (with_reducible first|exact Am.refl _ _|(refine Am.set ?_ (show _<_ by omega)))
 |some ad=>
  obtain⟨news,hn,hR,hc⟩:=Sl.row hp (by decide) ad ha2;have h1:=row_one (by decide) hn hR dj;obtain⟨i0,Da,Fo,DX,EI⟩:=zq XK;have hu:=CG ZcC;refine QN rfl rfl ?_;refine Zam _ _ _ 60 rfl W3.heap.size 64 i0 (.agg #[.int J 0,.int J 0]) 2 16 hu (DC Da) Fo DX EI rfl (by decide) _ 0 [] rfl (YK W3.drew #[] 0 (Zj _) (Zn _) rfl) ad Ak.length c2 news (by rw[<-ha2];rfl) hn (fun j u hj=>?_) h1 (by unfold maxLen;omega) (by omega) (by simp) ?_
  .exact ca (show W3.cell? _=_ from(Bg.cell (Zy w _ (hc j u hj))).trans (hc j u hj)) _
  intro u2 W5 A3 AJ FI;have BS:Bl W3 W5:=Ba xQ AJ (fun k hk=>by cases hk;exact Zj _) (by simp);refine⟨.inr (AO BS),?_⟩;have LD:SP (O8 64 W3.heap.size W5) W5 u2 Ak:=Nw (by decide) (by rw[zK,zZ]at A3;exact A3) (fun i x hx=>hR i x hx);clear A3 AJ FI;have Uf:=Bg.trans (BS.mono Bg.size);refine OC (v:=.pointer (some ⟨w.heap.size,2,none⟩)) rfl rfl (fun w=>by go_simp) ?_;refine Ex (f:=32) (args:= #[U a3 over.length c3]) rfl rfl (by go_simp) ((Ue (ho.later Uf) h3).mono ?_);rintro e W6 ⟨u3,rfl,Dv,NF⟩;have Ki:=BS.trans (Dv.mono BS.size);refine⟨u3,rfl,.inr (AO Ki),?_⟩;obtain⟨p2,d2,rfl,_⟩:=LD.val;obtain⟨p3,d3,rfl,_⟩:=NF.si.val;have Rn:=Bg.trans (Ki.mono Bg.size);have Jb:=(Ki.block _ (Za.1 Ep).1).trans Ep;have IP:=(Ki.block _ (Za.1 O6).1).trans O6;have Sa:w.heap.size+1<W3.heap.size:=(Za.1 O6).1;have sL:W3.heap.size<=W5.heap.size:=BS.size;have n2:SP (O8 64 W3.heap.size W6) W6 (U p2 Ak.length d2) Ak:=iP (T:=fun _=>False) LD ((Am.later Dv).mono fun _ x=>x) fun _ _ x=>x;have n3:Own W6 W3.heap.size (U p3 over.length d3) over:=NF.mono sL;refine Me _ _ _ (by kernel_rfl) (fun x hx w=>.inl ?_) ?_
  .revert x;decide
  simp only[Gl,Z1,ZQ,ZP];have g0:=ch (i:=0) Jb (v:=.int J lo) rfl;have g1:=ch (i:=1) Jb (v:=.int J hi) rfl;have g2:=ch (i:=2) Jb (v:=.slice a2 Ak.length c2) rfl;have g3:=ch (i:=3) Jb (v:=.slice a3 over.length c3) rfl;have g4:=ch (i:=4) Jb (v:=.int J left) rfl;have f2:=cf (i:=2) Jb;have f3:=cf (i:=3) Jb;have x0:=ch (i:=0) IP (v:=.int J 0) rfl;have x1:=ch (i:=1) IP (v:=.int J 0) rfl;have x2:=ch (i:=2) IP (v:=.slice none 0 0) rfl;have x3:=ch (i:=3) IP (v:=.slice none 0 0) rfl;have x4:=ch (i:=4) IP (v:=.int J 0) rfl;have y0:=cf (i:=0) IP;have y1:=cf (i:=1) IP;have y2:=cf (i:=2) IP;have y3:=cf (i:=3) IP;have y4:=cf (i:=4) IP;clear Dv LD NF;go_wp2;refine ZU (v:=.agg #[.int J lo,.int J hi,U p2 Ak.length d2,U p3 over.length d3,.int J left]) (by rw[A6 rfl];go_simp) rfl ?_;have key:∀X,Bl w X->Am (fun x=>x<W3.heap.size) W6 X->∃u2 u3,ZbP (.agg #[.int J lo,.int J hi,U p2 Ak.length d2,U p3 over.length d3,.int J left])=.returned (.agg #[.int J lo,.int J hi,u2,u3,.int J left])/\Bl w X/\SP (O8 64 w.heap.size X) X u2 Ak/\Own X w.heap.size u3 over:=fun X Io PY=>
   ⟨_,_,rfl,Io,Sl.imp (iP n2 PY fun x hx h=>by have:=hx.1.1;omega) (fun b hb=>⟨⟨by have:=hb.1.1;omega,hb.1.2⟩,hb.2⟩) (fun _ _ x=>x),(n3.CX PY fun x hx h=>by omega).mono (by omega)⟩
  refine key _ ?_ ?_
  .repeat (with_reducible first|exact Rn|(refine bS ?_ (by omega)))
  .repeat (with_reducible first|exact Am.refl _ _|(refine Am.set ?_ (show _<_ by omega)))
structure MR (w:Zc)(q g cap:Nat)(xs:Array Ze)(s1 s2 s3 s5:Ze)(c:A4)(k:Nat)(wr:Zc):Prop where
 below:Bl w wr
 box:wr.heap[w.heap.size]?=some (.cells xs 26 (0,0))
 res:wr.heap[w.heap.size+1]?=some (C #[U none 0 0,U none 0 0,U none 0 0,U none 0 0,U none 0 0] 26 (0,0))
 qx:wr.heap[q]?=some (C #[s1,s2,s3,U (some ⟨g,0,none⟩) c.Aa.length cap,s5] 26 (0,0))
 base:SI (TT (w.heap.size+1+1) wr) wr s1 c.base
 Af:SP (TT (w.heap.size+1+1) wr) wr s2 c.Af
 hooks:SI (TT (w.heap.size+1+1) wr) wr s3 c.hooks
 now:SI (TT (w.heap.size+1+1) wr) wr s5 c.now
 row:D' (w.heap.size+1+1) wr (w.heap.size+1+1) (U (some ⟨g,0,none⟩) c.Aa.length cap) ((P3 c.Aa).take k++c.Aa.drop k)
def arq (h:RC S w v1 v2 v3 v4 v5 c)(hS:∀b,S b->b<w.heap.size)(xV:c.now=[])(Ni:c.base.length<=1000)(hle:c.Af.length<=1000)(hlh:c.hooks.length<=1000)(aH:1<=c.Aa.length/\c.Aa.length<=1000)(iw:∀i,i<c.Aa.length->(Ah c.Aa i).Ak.length<=1000/\(Ah c.Aa i).over.length<=1000)
 (UE:∀i,i<c.Aa.length->∀x∈(Ah c.Aa i).over,0<=x/\x<=1000000):
  Calls Lp 111 #[.agg #[v1,v2,v3,v4,v5]] w (Si w (P4 c)):=by
 obtain⟨a1,c1,rfl,l1,m1⟩:=h.base.val;obtain⟨a2,c2,rfl,l2,m2⟩:=h.Af.val;obtain⟨a3,c3,rfl,l3,m3⟩:=h.hooks.val;obtain⟨a4,c4,rfl,l4,m4⟩:=h.Aa.val;obtain⟨a5,c5,rfl,l5,m5⟩:=h.now.val;have Gx:=CI;have O4:c.now.length<=1000:=by rw[xV];simp
 have NG:¬((0:Int)<(c.now.length:Int)):=by rw[xV];simp
 have aAa:=Zb xV;clear xV;have Bb:Bl w ((w.alloc (C #[U a1 c.base.length c1,U a2 c.Af.length c2,U a3 c.hooks.length c3,U a4 c.Aa.length c4,U a5 c.now.length c5] 26)).alloc (C #[U none 0 0,U none 0 0,U none 0 0,U none 0 0,U none 0 0] 26)):=bA (bA (Zg _ _));have ak5:((w.alloc (C #[U a1 c.base.length c1,U a2 c.Af.length c2,U a3 c.hooks.length c3,U a4 c.Aa.length c4,U a5 c.now.length c5] 26)).alloc (C #[U none 0 0,U none 0 0,U none 0 0,U none 0 0,U none 0 0] 26)).heap[w.heap.size]?=some (C #[U a1 c.base.length c1,U a2 c.Af.length c2,U a3 c.hooks.length c3,U a4 c.Aa.length c4,U a5 c.now.length c5] 26 (0,0)):=Bo (Bt _ _) _;have iQ:((w.alloc (C #[U a1 c.base.length c1,U a2 c.Af.length c2,U a3 c.hooks.length c3,U a4 c.Aa.length c4,U a5 c.now.length c5] 26)).alloc (C #[U none 0 0,U none 0 0,U none 0 0,U none 0 0,U none 0 0] 26)).heap[w.heap.size+1]?=some (C #[U none 0 0,U none 0 0,U none 0 0,U none 0 0,U none 0 0] 26 (0,0)):=IJ _ _ _;have H33:=Zb (ar4 (h.later Bb) (AE hS Bb) Ni hle hlh aH.2 O4 iw);go_enter Lp.func111,apv;go_wp2_with (go_at_call 33;refine H33.out.mono ?_;rintro e w1 ⟨u1,u2,u3,u4,u5,rfl,AW,hC⟩;obtain⟨p1,d1,rfl,_⟩:=hC.base.val;obtain⟨p2,d2,rfl,_⟩:=hC.Af.val;obtain⟨p3,d3,rfl,_⟩:=hC.hooks.val;obtain⟨p5,d5,rfl,_⟩:=hC.now.val;obtain⟨g,cap,rfl,hgm⟩:=hC.row.ptr (by omega));have ak6:=(AW.block _ (by simp;omega)).trans ak5;have ak7:=(AW.block _ (by simp)).trans iQ;have Bg:=Bb.trans (AW.mono Bb.size);have DX:=AW.size;simp only[ZG]at DX hC hgm;obtain⟨W4,ER⟩:∃W4,W4=w1.alloc (C #[U p1 c.base.length d1,U p2 c.Af.length d2,U p3 c.hooks.length d3,U (some ⟨g,0,none⟩) c.Aa.length cap,U p5 c.now.length d5] 26):=⟨_,rfl⟩;have Mg:Bl w1 W4:=by rw[ER];exact bA (Zg _ _)
 have hM4:MR w w1.heap.size g cap #[U a1 c.base.length c1,U a2 c.Af.length c2,U a3 c.hooks.length c3,U a4 c.Aa.length c4,U a5 c.now.length c5] (U p1 c.base.length d1) (U p2 c.Af.length d2) (U p3 c.hooks.length d3) (U p5 c.now.length d5) c 0 W4:=by
  refine⟨Bg.trans (Mg.mono Bg.size),(Mg.block _ (by omega)).trans ak6,(Mg.block _ (by omega)).trans ak7,by rw[ER];exact Bt _ _,Es hC.base Mg,Ny hC.Af Mg,Es hC.hooks Mg,Es hC.now Mg,?_⟩;rw[List.take_zero,Zb9,zZ];exact hC.row.later Mg
 obtain⟨q,hq⟩:∃q,q=w1.heap.size:=⟨_,rfl⟩;have Wm:w.heap.size+1+1<=q:=by omega
 rw[<-ER, <-hq];rw[<-hq]at hM4;clear ER Mg hC AW ak6 ak7 ak5 iQ Bg Bb H33 hq DX;go_loopg [5] c.Aa.length (fun gg i wr=>∃k:Nat,k<=c.Aa.length/\gg=c.Aa.length - k/\i=.int J k/\MR w q g cap #[U a1 c.base.length c1,U a2 c.Af.length c2,U a3 c.hooks.length c3,U a4 c.Aa.length c4,U a5 c.now.length c5] (U p1 c.base.length d1) (U p2 c.Af.length d2) (U p3 c.hooks.length d3) (U p5 c.now.length d5) c k wr)
 case atStart=>exact⟨0,Zn _,rfl,rfl,hM4⟩
 case round=>
  obtain⟨k,hk,rfl,rfl,hM⟩:=hrel;have XM:=hM.below.size;have nN:q<wr.heap.size:=(Za.1 hM.qx).1;have q3:=ch (i:=3) hM.qx (v:=.slice (some ⟨g,0,none⟩) c.Aa.length cap) rfl;by_cases AA:k<c.Aa.length
  .obtain⟨m,hm⟩:∃m,m=c.Aa.length - 1 - k:=⟨_,rfl⟩
   have hmi:(c.Aa.length:Int) - 1 - (k:Int)=(m:Int):=by omega
   have xW:m<c.Aa.length:=by omega
   have hmI:(m:Int)<(c.Aa.length:Int):=by omega
   have Rh:(k:Int)<(c.Aa.length:Int):=by omega
   obtain⟨b4,o4,s2,s3,rfl,Uv,x0,x1,x2,x3,x4,hp,ho⟩:=h.Aa.at_ (i:=m) xW;have Gj:∀j u,w.cell? ⟨b4,j,none⟩=some u->wr.cell? ⟨b4,j,none⟩=some u:=fun j u hu=>(hM.below.cell (p:=⟨b4,j,none⟩) (hS b4 Uv)).trans hu;replace x0:=Gj _ _ x0;replace x1:=Gj _ _ x1;replace x2:=Gj _ _ x2;replace x3:=Gj _ _ x3;replace x4:=Gj _ _ x4;clear Gj;replace hp:=hp.later hM.below;have ho0:=ho;replace ho:=ho.later hM.below;obtain⟨MI,Nn⟩:=iw m xW;have hoz:=UE m xW;have hmr:(P3 c.Aa)[k]?=some (oB c.Aa.length (Ah c.Aa m)):=by rw[hm];exact dP AA
   obtain⟨sm,Nb⟩:∃sm,sm=Ah c.Aa m:=⟨_,rfl⟩;rw[<-Nb]at x0 x1 x4 hp ho ho0 MI Nn hoz hmr;have HMR:=Zb hmr;clear Nb hm hmr;obtain⟨low,high,Ak,over,left⟩:=sm;dsimp only at x0 x1 x4 hp ho ho0 MI Nn hoz;obtain⟨a6,c6,rfl,l6,m6⟩:=hp.val;obtain⟨a7,c7,rfl,l7,m7⟩:=ho.val;have b3:=ch (i:=3) hM.box (v:=.slice (some ⟨b4,o4,none⟩) c.Aa.length c4) rfl;go_wp2_with (go_at_call 86;refine(arp hp ho MI Nn).mono ?_;rintro e w2 ⟨u2,u3,rfl,Bg,LD,NF⟩;obtain⟨p6,t6,rfl,_⟩:=LD.val;obtain⟨p7,t7,rfl,_⟩:=NF.si.val);obtain⟨W5,JO⟩:∃W5,W5=w2.alloc (C #[.int J low,.int J high,U p6 Ak.length t6,U p7 over.length t7,.int J left] 62):=⟨_,rfl⟩;have sJ:Bl w2 W5:=by rw[JO];exact bA (Zg _ _)
   obtain⟨sb,kI⟩:∃sb,sb=w2.heap.size:=⟨_,rfl⟩;have hS5:W5.heap[sb]?=some (C #[.int J low,.int J high,U p6 Ak.length t6,U p7 over.length t7,.int J left] 62 (0,0)):=by rw[JO,kI];exact Bt _ _
   have BS:Bl wr W5:=Bg.trans (sJ.mono Bg.size);have hP5:=iP (T:=fun _=>False) LD ((Am.later sJ).mono fun _ x=>x) fun _ _ x=>x;have hO5:Own W5 wr.heap.size (U p7 over.length t7) ((P2 c.Aa.length over).take 0++over.drop 0):=by
    rw[List.take_zero,Zb9,zZ];exact NF.later sJ
   have aAf:wr.heap.size<=sb:=by rw[kI];exact Bg.size
   rw[<-JO, <-kI];clear JO sJ Bg LD NF kI;obtain⟨wo,hwo⟩:∃wo,wo=wr:=⟨_,rfl⟩;subst hwo;go_loopg [7] over.length (fun gg i wx=>∃j:Nat,j<=over.length/\gg=over.length - j/\i=.int J j/\Bl wo wx/\wx.heap[sb]?=some (C #[.int J low,.int J high,U p6 Ak.length t6,U p7 over.length t7,.int J left] 62 (0,0))/\Own wx wo.heap.size (U p7 over.length t7) ((P2 c.Aa.length over).take j++over.drop j)/\SP (O8 64 wo.heap.size wx) wx (U p6 Ak.length t6) Ak)
   case atStart=>exact⟨0,Zn _,rfl,rfl,BS,hS5,hO5,hP5⟩
   case round=>
    obtain⟨j,hj,rfl,rfl,JP,pz,hOj,hPj⟩:=hrel;have ak8:((P2 c.Aa.length over).take j++over.drop j).length=over.length:=ld (GK _ _) (by rw[GK];exact hj);have t3:=ch (i:=3) pz (v:=.slice p7 over.length t7) rfl;have Ek:=(Za.1 pz).1;have x3':=(JP.cell (p:=⟨b4,o4+m*5+3,none⟩) (Zy _ _ x3)).trans x3;have b3':=(JP.cell (p:=⟨w.heap.size,3,none⟩) (Zy _ _ b3)).trans b3;by_cases QQ:j<over.length
    .obtain⟨g3,oA,cur,e,hg3,xX,hn3,_,KB,dQ⟩:=hOj.val (by rw[ak8];omega)
     rw[ak8]at e KB dQ;cases e;obtain⟨jj,qd⟩:∃jj,jj=over.length - 1 - j:=⟨_,rfl⟩;have Ku:(over.length:Int) - 1 - (j:Int)=(jj:Int):=by omega
     have hjl:jj<over.length:=by omega
     have hjI:(jj:Int)<(over.length:Int):=by omega
     have aAg:(j:Int)<(over.length:Int):=by omega
     obtain⟨b7,o7,rfl,U2,hk7⟩:=ho.at_ hjl;have arv:=(JP.cell (p:=⟨b7,o7+jj,none⟩) (Zy _ _ hk7)).trans hk7;have hoy:=hoz _ (Z8 (A_ hjl));have hmo:=Zb (Uh (n:=c.Aa.length) QQ);rw[<-qd]at hmo;clear qd hk7;obtain⟨y,hy⟩:∃y,y=nth over jj:=⟨_,rfl⟩;rw[<-hy]at arv hoy hmo;clear hy;have Oo:=ch xX (KB j QQ);have Cn:=cf (i:=j) xX;have kM:g3<wr.heap.size:=(Za.1 xX).1;have KI:=aH.2;have hw1:IntKind.i64.wrap ((c.Aa.length:Int) - 1)=(c.Aa.length:Int) - 1:=by rw[Yp];omega
     have uw:IntKind.i64.wrap (m:Int)=(m:Int):=by rw[Yp];omega
     have hw3:IntKind.i64.wrap ((over.length:Int) - 1)=(over.length:Int) - 1:=by rw[Yp];omega
     have hw4:IntKind.i64.wrap (jj:Int)=(jj:Int):=by rw[Yp];omega
     have hw5:IntKind.i64.wrap ((c.Aa.length:Int) - 1 - y)=(c.Aa.length:Int) - 1 - y:=by rw[Yp];omega
     go_wp2;go_still_tail 24,(by kernel_rfl);change wpList _ _ _ _ _ wr.drew;go_wp2;have Ro:Am (fun x=>x=g3) wr.drew (wr.drew.setCell ⟨g3,j,none⟩ (.int J ((c.Aa.length:Int) - 1 - y))):=(Am.refl (fun x=>x=g3) wr.drew).DJ;have hgs:g3≠sb:=fun e=>by subst e;rw[pz]at xX;cases xX
     have uT:Own (wr.drew.setCell ⟨g3,j,none⟩ (.int J ((c.Aa.length:Int) - 1 - y))) wo.heap.size (U (some ⟨g3,0,none⟩) over.length t7) ((P2 c.Aa.length over).take (j+1)++over.drop (j+1)):=by
      rw[<-k9 (GK _ _) hmo.out];exact dQ j _ QQ
     have hPd:=iP (T:=fun _=>False) hPj ((Am.later (Zg wr.heap.size wr).drew).mono fun _ x=>x) fun _ _ x=>x;have hP2:=iP hPd Ro (fun x hx e=>by
      obtain⟨_,cs,h2⟩:=hx;rw[show x=g3 from e]at h2;rw[show wr.drew.heap[g3]?=wr.heap[g3]? from rfl,xX]at h2;cases h2)
     go_roundg (over.length - (j+1))
     case rel=>exact⟨j+1,QQ,rfl,by go_num,bS JP.drew hg3,(AY (fun e=>hgs e.symm) _).trans pz,uT,hP2⟩
     case measure=>omega
    .have hje:j=over.length:=by omega
     subst hje;rw[k_ (GK _ _) (by rw[GK];exact Zj _)]at hOj;have e0:=ch (i:=0) pz (v:=.int J low) rfl;have e1:=ch (i:=1) pz (v:=.int J high) rfl;have e2:=ch (i:=2) pz (v:=.slice p6 Ak.length t6) rfl;have e4:=ch (i:=4) pz (v:=.int J left) rfl;have hqx:=(JP.block q nN).trans hM.qx;have qq3:=ch (i:=3) hqx (v:=.slice (some ⟨g,0,none⟩) c.Aa.length cap) rfl;have xY:((P3 c.Aa).take k++c.Aa.drop k).length=c.Aa.length:=ld (GL _) (by rw[GL];exact hk);have Cr:=hM.row.later JP;rw[<-xY]at Cr;obtain⟨cur,P5,KB⟩:=Cr.cells (i:=k) (by rw[xY];exact AA);obtain⟨g0,xB⟩:=KB 0 (by omega);obtain⟨g1,ks⟩:=KB 1 (by omega);obtain⟨g2,XC⟩:=KB 2 (by omega);obtain⟨g3,hg3⟩:=KB 3 (by omega);obtain⟨g4,hg4⟩:=KB 4 (by omega);have c0:=ch P5 xB;have c1':=ch P5 ks;have c2':=ch P5 XC;have c3':=ch P5 hg3;have c4':=ch P5 hg4;have f0:=cf (i:=k*5) P5;have f1:=cf (i:=k*5+1) P5;have f2:=cf (i:=k*5+2) P5;have f3:=cf (i:=k*5+3) P5;have f4:=cf (i:=k*5+4) P5;rw[Nat.add_zero]at c0;have Sf:w.heap.size+1+1<=g:=hgm;have hgq:g≠q:=fun e=>by rw[e,hqx]at P5;cases P5
     have hzo:wo.heap.size<=wr.heap.size:=JP.size;have hRs:Rs (TT (w.heap.size+1+1) wr) wr [.int J low,.int J high,U p6 Ak.length t6,U p7 over.length t7,.int J left] (oB c.Aa.length ⟨low,high,Ak,over,left⟩):=by
      have hO':SI (TT wo.heap.size wr) wr (U p7 over.length t7) (P2 c.Aa.length over):=hOj.tt;exact⟨_,_,rfl,Sl.imp hPj (fun b hb=>⟨by have:=hb.1.1;omega,by obtain⟨cs,h⟩:=hb.2;exact⟨cs,64,h,.inr (.inl rfl)⟩⟩) (fun _ _ x=>x),Mt hO' (by omega)⟩
     have aeb:=Cr.put (i:=k) (s:=oB c.Aa.length ⟨low,high,Ak,over,left⟩) (by rw[xY];exact AA) hRs;rw[xY,k9 (GL _) HMR.out]at aeb;have JJ:Am (fun x=>x=g) wr (((((wr.setCell ⟨g,k*5,none⟩ (.int J low)).setCell ⟨g,k*5+1,none⟩ (.int J high)).setCell ⟨g,k*5+2,none⟩ (U p6 Ak.length t6)).setCell ⟨g,k*5+3,none⟩ (U p7 over.length t7)).setCell ⟨g,k*5+4,none⟩ (.int J left)):=(Am.refl (fun x=>x=g) wr).DJ.DJ.DJ.DJ.DJ;have Bn:∀x,TT (w.heap.size+1+1) wr x->¬x=g:=fun x hx e=>TT.not (e▸hx) P5 ⟨by decide,by decide,by decide⟩;have UF:MR w q g cap #[U a1 c.base.length c1,U a2 c.Af.length c2,U a3 c.hooks.length c3,U (some ⟨b4,o4,none⟩) c.Aa.length c4,U a5 c.now.length c5] (U p1 c.base.length d1) (U p2 c.Af.length d2) (U p3 c.hooks.length d3) (U p5 c.now.length d5) c (k+1) (((((wr.setCell ⟨g,k*5,none⟩ (.int J low)).setCell ⟨g,k*5+1,none⟩ (.int J high)).setCell ⟨g,k*5+2,none⟩ (U p6 Ak.length t6)).setCell ⟨g,k*5+3,none⟩ (U p7 over.length t7)).setCell ⟨g,k*5+4,none⟩ (.int J left)):=by
      refine⟨bS (bS (bS (bS (bS (hM.below.trans (JP.mono hM.below.size)) (by omega)) (by omega)) (by omega)) (by omega)) (by omega),?_,?_,?_,O9 (Es hM.base JP) JJ Bn,kU (Ny hM.Af JP) JJ Bn,O9 (Es hM.hooks JP) JJ Bn,O9 (Es hM.now JP) JJ Bn,aeb⟩
      .exact(JJ.block _ (by omega) (by omega)).trans ((JP.block _ (by omega)).trans hM.box)
      .exact(JJ.block _ (by omega) (by omega)).trans ((JP.block _ (by omega)).trans hM.res)
      .exact(JJ.block _ (by omega) (fun e=>hgq e.symm)).trans hqx
     have HM2:=Zb UF;clear UF aeb Cr hM hRs JJ Bn;go_wp2;go_roundg (c.Aa.length - (k+1))
     case rel=>exact⟨k+1,AA,rfl,by go_num,HM2.out⟩
     case measure=>omega
  .have aI:k=c.Aa.length:=by omega
   have Cr:=hM.row;rw[aI,k_ (GL _) (by rw[GL];exact Zj _)]at Cr;subst aI;have q0:=ch (i:=0) hM.qx (v:=.slice p1 c.base.length d1) rfl;have q1:=ch (i:=1) hM.qx (v:=.slice p2 c.Af.length d2) rfl;have q2:=ch (i:=2) hM.qx (v:=.slice p3 c.hooks.length d3) rfl;have q4:=ch (i:=4) hM.qx (v:=.slice p5 c.now.length d5) rfl;have f0:=cf (i:=0) hM.res;have f1:=cf (i:=1) hM.res;have f2:=cf (i:=2) hM.res;have f3:=cf (i:=3) hM.res;have f4:=cf (i:=4) hM.res;have r0:=ch (i:=0) hM.res (v:=.slice none 0 0) rfl;have r1:=ch (i:=1) hM.res (v:=.slice none 0 0) rfl;have r2:=ch (i:=2) hM.res (v:=.slice none 0 0) rfl;have r3:=ch (i:=3) hM.res (v:=.slice none 0 0) rfl;have r4:=ch (i:=4) hM.res (v:=.slice none 0 0) rfl;have DX:w.heap.size+1<wr.heap.size:=(Za.1 hM.res).1;have HM:=Zb hM;have HRW:=Zb Cr;clear hM Cr;go_wp2;obtain⟨wo,hwo⟩:∃wo,wo=wr:=⟨_,rfl⟩;have HWO:=Zb hwo;clear hwo;go_loopg [8] 0 (fun gg i wx=>i=.int J 0/\wx=wr)
   case atStart=>exact⟨rfl,rfl⟩
   case round=>
   obtain⟨rfl,hwx⟩:=hrel;obtain rfl:=hwx.symm;go_wp2;refine ZU (v:=.agg #[U p1 c.base.length d1,U p2 c.Af.length d2,U p3 c.hooks.length d3,U (some ⟨g,0,none⟩) c.Aa.length cap,U p5 c.now.length d5]) (by rw[A6 rfl];go_simp) rfl ?_;have key:∀X,Bl w X->Am (fun x=>x=w.heap.size+1) wr X->Si w (P4 c) (.returned (.agg #[U p1 c.base.length d1,U p2 c.Af.length d2,U p3 c.hooks.length d3,U (some ⟨g,0,none⟩) c.Aa.length cap,U p5 c.now.length d5])) X:=fun X Io PY=>by
    have hn:∀x,TT (w.heap.size+1+1) wr x->¬x=w.heap.size+1:=fun x hx e=>by have:=hx.1;omega
    have ox:w.heap.size<=w.heap.size+1+1:=by omega
    have hg:∀x,(ZA (some ⟨g,0,none⟩) c.Aa.length cap).ownBlock=some x->¬x=w.heap.size+1:=fun x hx e=>by have:=(HRW.out.own x hx).1;omega
    exact⟨_,_,_,_,_,rfl,Io,Mt (O9 HM.out.base PY hn) ox,Ve (kU HM.out.Af PY hn) ox,Mt (O9 HM.out.hooks PY hn) ox,Mt (O9 HM.out.now PY hn) ox,(HRW.out.CX PY hn hg).mono ox⟩
   have EV:=HM.out.below;refine key _ ?_ ?_
   .repeat (with_reducible first|exact EV|(refine bS ?_ (by omega)))
   .repeat (with_reducible first|exact Am.refl _ _|(refine Am.DJ ?_))
def Kj (g:Nat)(l:List Aq):Prop:=∀i,i<l.length->LI g l.length i (Ah l i)/\∀x∈(Ah l i).over,(i:Int)<x
def Ge (g:Nat)(l:List Aq):Prop:=∀i,i<l.length->LI g l.length i (Ah l i)/\∀x∈(Ah l i).over,x<(i:Int)
def dR (h:y∈P2 n o):∃x∈o,y=(n:Int) - 1 - x:=by
 unfold P2 at h;obtain⟨k,hk,rfl⟩:=Zby.1 h;have JY:k<o.length:=by simpa using hk
 exact⟨_,Z8 (A_ (show o.length - 1 - k<o.length by omega)),rfl⟩
def xZ (h:o.Pairwise (· < ·)):(P2 n o).Pairwise (· < ·):=by
 rw[List.pairwise_iff_getElem];intro i j hi hj uX;rw[GK]at hi hj;have h1:=Uh (n:=n) hi;have h2:=Uh (n:=n) hj;rw[ZE (by rw[GK];exact hi)]at h1;rw[ZE (by rw[GK];exact hj)]at h2;rw[ZK h1,ZK h2];have:=List.pairwise_iff_getElem.1 h (o.length - 1 - j) (o.length - 1 - i) (by omega) (by omega) (by omega);have e1:=A_ (l:=o) (show o.length - 1 - j<o.length by omega);have e2:=A_ (l:=o) (show o.length - 1 - i<o.length by omega);rw[ZE (by omega)]at e1 e2;rw[ZK e1,ZK e2]at this;omega
def tC {l:List Aq}(h:Kj g l):Ge g (P3 l):=by
 intro i hi;rw[GL]at hi⊢;have e:Ah (P3 l) i=oB l.length (Ah l (l.length - 1 - i)):=by
  have:=Ct (l:=P3 l) (by rw[GL];exact hi);rw[dP hi]at this;exact(ZK this).symm
 obtain⟨hm,hu⟩:=h (l.length - 1 - i) (by omega);rw[e];refine⟨⟨hm.step,hm.few,hm.pull,hm.twice,fun y hy=>?_,xZ hm.rising,hm.left⟩,fun y hy=>?_⟩
 .obtain⟨x,hx,rfl⟩:=dR hy
  have h1:=hm.over x hx;have h2:=hu x hx;omega
 .obtain⟨x,hx,rfl⟩:=dR hy
  have h2:=hu x hx;omega
def lg (h1:1<=c.base.length/\c.base.length<=3)(h2:∀x∈c.base,20<=x/\x<=30)(h3:c.Af.length=c.base.length)(h4:∀p∈c.Af,-2<=p.1/\p.1<=p.2/\p.2<=5)(h5:c.hooks.length=c.base.length)(h6:∀x∈c.hooks,0<=x/\x<=5)(h7:1<=c.Aa.length/\c.Aa.length<=3)
 (h8:Kj c.base.length c.Aa\/Ge c.base.length c.Aa) (h9:Ig c c.now):FG c:=by
 refine⟨h1,h2,h3,h4,h5,h6,h7,fun i hi=>?_,?_,h9⟩
 .rcases h8 with h|h
  .exact(h i hi).1
  .exact(h i hi).1
 .rcases h8 with h|h
  .exact .inl fun i hi=>(h i hi).2
  .exact .inr fun i hi=>(h i hi).2
def x_ {l:List Aq}(h:∀i,i<l.length->LI g n i (Ah l i)/\∀x∈(Ah l i).over,(i:Int)<x)(hs:LI g n l.length s)(ho:∀x∈s.over,(l.length:Int)<x):∀i,i<(l++ [s]).length->LI g n i (Ah (l++ [s]) i)/\∀x∈(Ah (l++ [s]) i).over,(i:Int)<x:=by
 intro i hi;rw[ZF,zp,Yt]at hi;by_cases hl:i<l.length
 .rw[show Ah (l++ [s]) i=Ah l i by simp[Ah,ZR,Z4 hl]]
  exact h i hl
 .obtain rfl:i=l.length:=by omega
  rw[show Ah (l++ [s]) l.length=s by simp[Ah]];exact⟨hs,ho⟩
def Wn {b1 b3:Nat}{l1 l3:List Int}(h1:Own A b1 v1 l1)(h3:Own A b3 v3 l3)(p1:0<l1.length)(p3:0<l3.length)(Bn:nth l1 0≠nth l3 0):∀x,v1.ownBlock=some x->¬v3.ownBlock=some x:=by
 intro x hx eJ;obtain⟨g,cap,cur,e,_,hg,_,_,hc,_⟩:=h1.val p1;obtain⟨g',GR,gj,e',_,G2,_,_,Pl,_⟩:=h3.val p3;subst e e';cases hx;cases eJ;rw[hg]at G2;cases G2;have a:=hc 0 p1;have b:=Pl 0 p3;rw[a]at b;have hb:=ZK b;simp only[Value.int.injEq,true_and]at hb;exact Bn hb
def Own.apart {base:Nat}(h:Own A base v l)(hT:Am T A B)(hx:∀x,v.ownBlock=some x->¬T x):Own B base v l:=by
 refine⟨h.1,?_⟩;rcases h.2 with h1|⟨g,cap,cur,h1,h2,h3,h4⟩
 .exact .inl h1
 .exact .inr ⟨g,cap,cur,h1,h2,(hT.block g (Za.1 h3).1 (hx g (by rw[h1];rfl))).trans h3,h4⟩
structure LG (b:Nat)(lv:Ze)(w:Zc)(d k:Nat)(v1 v2 v3:Ze)(bs:List Int)(es:List (Int×Int))(hs:List Int)(wr:Zc):Prop where
 lw:LW b lv w d wr
 res:wr.heap[w.heap.size]?=some (C #[U none 0 0,U none 0 0,U none 0 0,U none 0 0,U none 0 0] 26 (0,0))
 qx:wr.heap[w.heap.size+1]?=some (C #[v1,v2,v3,U none 0 0,U none 0 0] 26 (0,0))
 base:Own wr (w.heap.size+1+1) v1 bs
 Af:Mv wr (w.heap.size+1+1) v2 es 80
 hooks:Own wr (w.heap.size+1+1) v3 hs
 lens:bs.length=k/\es.length=k/\hs.length=k
 arx:k=0->v3=.slice none 0 0
 apart:∀x,v1.ownBlock=some x->¬v3.ownBlock=some x
 cb:∀x∈bs,20<=x/\x<=30
 ce:∀p∈es,-2<=p.1/\p.1<=p.2/\p.2<=5
 chk:∀x∈hs,0<=x/\x<=5
structure LT2 (b:Nat)(lv:Ze)(w:Zc)(d g n:Nat)(v1 v2 v3 v4:Ze)(bs:List Int)(es:List (Int×Int))(hs:List Int)(sl:List Aq)(wr:Zc):Prop where
 lw:LW b lv w d wr
 res:wr.heap[w.heap.size]?=some (C #[U none 0 0,U none 0 0,U none 0 0,U none 0 0,U none 0 0] 26 (0,0))
 qx:wr.heap[w.heap.size+1]?=some (C #[v1,v2,v3,v4,U none 0 0] 26 (0,0))
 base:Own wr (w.heap.size+1+1) v1 bs
 Af:Mv wr (w.heap.size+1+1) v2 es 80
 hooks:Own wr (w.heap.size+1+1) v3 hs
 row:D' (w.heap.size+1+1) wr (w.heap.size+1+1) v4 sl
 up:∀i,i<sl.length->LI g n i (Ah sl i)/\∀x∈(Ah sl i).over,(i:Int)<x
def aka (hm:m<=5)(h:r<4):0<=nth [0,0,3,(m:Int)] r/\nth [0,0,3,(m:Int)] r<=5:=by
 have:r=0\/r=1\/r=2\/r=3:=by omega
 rcases this with rfl|rfl|rfl|rfl<;>simp[nth]<;>omega
def OP (h:i<l.length):nth l i∈l:=Z8 (A_ h)
def tD (h:o.Pairwise (· < ·))(hx:∀x∈o,0<=x/\x<(n:Int)):o.length<=n:=by
 have key:∀(l:List Int) (m:Int),l.Pairwise (· < ·)->(∀x∈l,m<=x/\x<(n:Int))->m<=n->(l.length:Int)<=n - m:=by
  intro l
  induction l with
  |nil=>intro m _ _ hm;simp;omega
  |cons y r ih=>
   intro m hp hm xW;obtain⟨h1,h2⟩:=List.pairwise_cons.1 hp;have hy:=hm y (zo ..);have:=ih (y+1) h2 (fun x hx=>⟨by have:=h1 x hx;omega,(hm x (Z9 _ hx)).2⟩) (by omega);simp only[zp];omega
 have:=key o 0 h hx (by omega);omega
structure uY (n:Nat)(w:Zc)(u1 u2 u3 u4 u5:Ze)(c:A4):Prop where
 base:SI (TT n w) w u1 c.base
 Af:SP (TT n w) w u2 c.Af
 hooks:SI (TT n w) w u3 c.hooks
 row:D' n w n u4 c.Aa
 now:SI (fun x=>Cf n w x/\¬u4.ownBlock=some x) w u5 c.now
def uY.rc {u3:Ze}(h:uY n w u1 u2 u3 u4 u5 c):RC (Cf n w) w u1 u2 u3 u4 u5 c:=
 ⟨Sl.imp h.base (fun b hb=>hb.new) fun _ _ x=>x,Sl.imp h.Af (fun b hb=>hb.new) fun _ _ x=>x,Sl.imp h.hooks (fun b hb=>hb.new) fun _ _ x=>x,h.row.ss (Zj _),Sl.imp h.now (fun b hb=>hb.1) fun _ _ x=>x⟩
def abj {X Y Z:Zc}{u3:Ze}{ln:List Int}(h:CT m X u1 u2 u3 u4 u5 c)(hU:Cj b X Y)(hT:Am T Y Z)(hb:b<m)(hx:∀x,k<=x->¬T x)(hn:n<=k)(hk:k<=m)
 (hl:SI (Cf X.heap.size Y) Y v ln) (hX:k<=X.heap.size):uY n Z u1 u2 u3 u4 v {c with now:=ln}:=by
 have hXY:Am (fun x=>x=b) X Y:=⟨hU.os,hU.tape,hU.output,hU.size,fun k hk ht=>hU.block k hk ht⟩;have hY:=h.CX hXY (fun x hx e=>by have:=hx.1;omega) (fun g hg e=>by have:=(h.row.own g hg).1;omega);have hZ:=hY.CX hT (fun x h=>hx x (by have:=h.1;omega)) (fun g hg=>hx g (by have:=(hY.row.own g hg).1;omega));have hzT:=hT.size;refine⟨Mt hZ.base (Zt hn hk),Ve hZ.Af (Zt hn hk),Mt hZ.hooks (Zt hn hk),hZ.row.mono (Zt hn hk),?_⟩;refine Sl.imp (hl.Aw (hT.same fun x (hh:Cf _ _ x)=>hx x (by have:=hh.1;omega))) (fun x (hh:Cf _ _ x)=>⟨⟨by have:=hh.1;omega,by have:=hh.2;omega⟩,fun e=>?_⟩) fun _ _ x=>x;obtain⟨_,cs,hc⟩:=h.row.own x e;have:=(Za.1 hc).1;have:=hh.1;omega
def iR (w:Zc)(b:Nat)(lv:Ze)(d s:Nat)(e:Ending)(w':Zc):Prop:=∃(c:A4) (u1 u2 u3 u4 u5:Ze) (d':Nat),e=.returned (.agg #[u1,u2,u3,u4,u5])/\LW b lv w d' w'/\d'<=d+1000/\uY w.heap.size w' u1 u2 u3 u4 u5 c/\FG c/\c.Aa.length<=s
def ae (w:Zc)(b:Nat)(lv:Ze)(d s:Nat)(e:Ending)(w':Zc):Prop:=∃(c:A4) (u1 u2 u3 u4 u5:Ze) (d':Nat),e=.returned (.agg #[u1,u2,u3,u4,u5])/\LW b lv w d' w'/\d'<=d+1000/\RC (Cf w.heap.size w') w' u1 u2 u3 u4 u5 c/\FG c/\c.Aa.length<=s
def arz {s:Nat}(hn:SI Sn w lv nums)(EP:∀x,Sn x->x<w.heap.size/\x≠b)(hL:BQ w b lv d)(hd:d+1000<4611686018427387904)(hs:1<=s/\s<=3):
  Calls Lp 44 #[.pointer (some ⟨b,0,none⟩),.int J s] w (iR w b lv d s):=by
 have Gx:=CI;have H61:=Zb (fun W d lo hi hL hd h1 h2=>ajR (W:=W) (d:=d) (lo:=lo) (hi:=hi) hn EP hL hd h1 h2);have pC:=Zb (fun W d n hL hd h2=>ajS (W:=W) (d:=d) (n:=n) hn EP hL hd h2);have H99:=Zb (fun W d n hL hd h2=>ajT (W:=W) (d:=d) (n:=n) hn EP hL hd h2);have H98:=Zb (fun W d s hL hd h1 h2=>ajU (W:=W) (d:=d) (s:=s) hn EP hL hd h1 h2);have G0:=hL.lt;have KN:=IJ w (C #[U none 0 0,U none 0 0,U none 0 0,U none 0 0,U none 0 0] 26) (C #[U none 0 0,U none 0 0,U none 0 0,U none 0 0,U none 0 0] 26);have iQ:=Bo (Bt w (C #[U none 0 0,U none 0 0,U none 0 0,U none 0 0,U none 0 0] 26)) (C #[U none 0 0,U none 0 0,U none 0 0,U none 0 0,U none 0 0] 26);have hLW:=((LW.refl hL).alloc (C #[U none 0 0,U none 0 0,U none 0 0,U none 0 0,U none 0 0] 26)).alloc (C #[U none 0 0,U none 0 0,U none 0 0,U none 0 0,U none 0 0] 26);go_enter Lp.func44,n44;go_wp2_with (go_at_call 61;refine(H61.out _ _ _ _ hLW (by omega) (by omega) (by omega)).mono ?_;rintro e W1 ⟨r0,d1,rfl,wC,Rm,xT,hd1⟩;have KN:=Rm.at_ KN (by omega);have iQ:=Rm.at_ iQ (by omega));have hG0:LG b lv w d1 0 (U none 0 0) (U none 0 0) (U none 0 0) [] [] [] W1:=⟨xT,iQ,KN,zh _ _ _ _,zh _ _ _ _,zh _ _ _ _,⟨rfl,rfl,rfl⟩,fun _=>rfl,(fun x hx=>by cases hx),(fun x hx=>by cases hx),(fun x hx=>by cases hx),(fun x hx=>by cases hx)⟩;clear KN iQ hLW Rm xT;obtain⟨G,hGe⟩:∃G,G=1+r0:=⟨_,rfl⟩;have uI:1<=G/\G<=3:=by omega
 rw[show(1:Int)+(r0:Int)=(G:Int) by omega];clear hGe wC;go_loopg [6] G (fun gg i wr=>∃(k m dk:Nat) (v1 v2 v3:Ze) (bs:List Int) (es:List (Int×Int)) (hs:List Int),k+m=G/\gg=m/\i=.int J m/\dk<=d1+5*k/\LG b lv w dk k v1 v2 v3 bs es hs wr)
 case atStart=>exact⟨0,G,d1,_,_,_,_,_,_,zK _,rfl,rfl,Zj _,hG0⟩
 case round=>
  obtain⟨k,m,dk,v1,v2,v3,bs,es,D5,hkm,hgm,rfl,oX,hG⟩:=hrel;obtain⟨a1,c1,rfl,_⟩:=hG.base.si.val;obtain⟨a2,c2,rfl,_⟩:=J9 hG.Af;obtain⟨a3,c3,rfl,_⟩:=hG.hooks.si.val;by_cases AA:0<m
  .obtain⟨m',rfl⟩:∃m',m=m'+1:=⟨m - 1,by omega⟩
   have hLx:=hG.lw;go_wp2_with (go_at_call 61;refine(H61.out _ _ _ _ hLx (by omega) (by omega) (by omega)).mono ?_;rintro e W2 ⟨r1,d2,rfl,aE,T6,Hl,vK⟩);obtain⟨le,hle⟩:∃le:Int,le= -2+(r1:Int):=⟨_,rfl⟩;have aAo: -2<=le/\le<=1:=by omega
   rw[<-hle];clear hle aE;have hwx:=hLx.Cg.size;have tE:=T6.at_ hG.qx (by omega);have akb:=T6.at_ hG.res (by omega);have EA:=hG.base.Cg T6 (by omega);have he2:=Gm hG.Af T6 (by omega:b<w.heap.size+1+1);have hh2:=hG.hooks.Cg T6 (by omega);have nR:=Zb (ZX hG.lens (ZX hG.arx (ZX hG.apart (ZX hG.cb (ZX hG.ce hG.chk)))));have TG:=hG.lens.1;have MI:=hG.lens.2.1;have Nn:=hG.lens.2.2;have iT:=Zb (ZX TG (ZX MI Nn));clear hG TG MI Nn hLx T6;obtain⟨K,Ml⟩:∃K:Nat->Prop,K=fun x=>x=b\/w.heap.size+1<x:=⟨_,rfl⟩;have uS:K b:=by rw[Ml];exact .inl rfl
   have kt:∀x,w.heap.size+1<x->K x:=fun x hx=>by rw[Ml];exact .inr hx
   have kV:¬K (w.heap.size+1):=by rw[Ml];intro x;omega
   have tx:¬K w.heap.size:=by rw[Ml];intro x;omega
   clear Ml;have z0:=fun p:Tw K W2=>p.cell (ch (i:=0) tE (v:=.slice a1 bs.length c1) rfl) kV;have z1:=fun p:Tw K W2=>p.cell (ch (i:=1) tE (v:=.slice a2 es.length c2) rfl) kV;have z2:=fun p:Tw K W2=>p.cell (ch (i:=2) tE (v:=.slice a3 D5.length c3) rfl) kV;have hqz:w.heap.size+1<W2.heap.size:=(Za.1 tE).1;refine OD (S:=fun W=>∃p:Tw K W2,W=p.v) 31 [26,27,28,29,30] [(false,3),(false,4),(false,5),(true,25),(false,11),(false,12),(false,13),(false,14),(false,15),(false,20),(false,21),(false,22),(false,23),(false,24),(false,26),(false,27),(false,28),(false,29),(false,30)] [0,1,2,6,7,8,9,10,16,17,18,19] (by kernel_rfl) (fun _ _ d _ _ h=>by cases d<;>exact h) (by kernel_rfl) (BU (Am.later (Zg _ _).drew)) ?_;refine Br _ _ (by kernel_rfl) ?_;simp only[zr,zL,Z1,ZQ,ZP]
   repeat (first|go_big_quiet_step (fail)|quiet_step (fail))
   refine zD ?_;clear z0 z1 z2;change Ka _ _ _ _ _ _ _ _;obtain⟨V0,hV0⟩:∃V0,V0=W2.drew:=⟨_,rfl⟩;have hB0:Bl W2 V0:=by rw[hV0];exact(Zg _ _).drew
   rw[<-hV0];clear hV0;have mZ:Am K W2 V0:=Am.later hB0;have hL0:=Hl.below hB0;obtain⟨i3i,i3h,i30,i31,i32⟩:=zq Jx;obtain⟨i8i,i8h,i80,i81,i82⟩:=zq ia;refine OE (f:=61) (args:= #[.pointer (some ⟨b,0,none⟩),.int J 20,.int J 30]) rfl rfl (by go_simp) ((H61.out V0 _ _ _ hL0 (by omega) (by omega) (by omega)).mono ?_);rintro e V1 ⟨r2,d3,rfl,QX,Ho,LK,hd3⟩;obtain⟨xb,vq⟩:∃xb:Int,xb=20+(r2:Int):=⟨_,rfl⟩;have aec:20<=xb/\xb<=30:=by omega
   rw[<-vq];clear vq QX;have Mr:=mZ.trans (Ho.CX uS);refine⟨_,rfl,.inr (BU Mr),?_⟩;refine I_ (v:=.slice (some ⟨V1.heap.size,0,none⟩) 1 1) (w':=V1.alloc (C #[.int J xb] 3)) rfl rfl (by go_simp) (.inr (BU (Mr.uQ (bA (Zg _ _))))) ?_;have DX:=Mr.size;have Xr:=(EA.later hB0).Cg Ho (by omega);have he3:=Gm (Ey he2 hB0) Ho (by omega:b<w.heap.size+1+1);have hh3:=(hh2.later hB0).Cg Ho (by omega);have Ow:k<=3:=by omega
   refine TS rfl rfl ?_;refine Zam _ _ _ 22 rfl (w.heap.size+1+1) 3 i3i (.int J 0) 1 8 (CG Yg) (DC i3h) i30 i31 i32 rfl (by decide) _ bs.length (bs.map (ZS J)) rfl (zO Xr _) ⟨V1.heap.size,0,none⟩ 1 1 [.int J xb] rfl rfl (BR _ _ _) (by simp[Yv]) (by have:=iT.out.1;unfold maxLen;omega) (by have:=iT.out.1;omega) (by simp;omega) ?_;intro v1n V2 A3 AJ FI;have Fq:=Hk Xr;have JJ:Am (fun x=>(ZA a1 bs.length c1).ownBlock=some x) V1 V2:=((Am.later (bA (Zg _ _))).mono fun _ x=>x).trans (Am.grown AJ fun x hx=>hx);have Ff:=Mr.trans (JJ.mono fun x hx=>kt x (by have:=(Fq x hx).1;omega));have Sf:∀x,(ZA a1 bs.length c1).ownBlock=some x->w.heap.size<=x:=fun x hx=>by have:=(Fq x hx).1;omega
   have ou:LW b lv w d3 V2:=⟨(LK.alloc (C #[.int J xb] 3)).Cg.grown AJ Sf,(LK.alloc (C #[.int J xb] 3)).FH.of (AJ.block b (LK.alloc _).FH.lt (fun e=>by have:=(Fq b e.symm).1;omega))⟩;refine⟨.inr (BU Ff),?_⟩;have Uv:Own V2 (w.heap.size+1+1) v1n (bs++ [xb]):=by
    unfold Own;rw[ZF,Zaa];exact A3
   have he4:Mv V2 (w.heap.size+1+1) (U a2 es.length c2) es 80:=D7 he3 JJ (fun x cs hx e=>by
    obtain⟨_,cs',h2⟩:=Fq x e;rw[hx]at h2;cases h2)
   have hh4:=hh3.apart JJ (fun x hx e=>nR.out.2.2.1 x e hx);have hap:∀x,v1n.ownBlock=some x->¬(ZA a3 D5.length c3).ownBlock=some x:=by
    by_cases eH:k=0
    .rw[nR.out.2.1 eH]
     intro x _ h;cases h
    .refine Wn Uv hh4 (by simp) (by have:=iT.out.2.2;omega) ?_
     have h1:20<=nth (bs++ [xb]) 0:=by
      have hm:nth (bs++ [xb]) 0∈bs++ [xb]:=OP (by simp);rcases Zas.1 hm with h|h
      .exact(nR.out.2.2.2.1 _ h).1
      .rw[YB.1 h];exact aec.1
     have h2:=(nR.out.2.2.2.2.2 _ (OP (l:=D5) (i:=0) (by have:=iT.out.2.2;omega))).2;omega
   obtain⟨g1,q1,rfl⟩:=ZbD A3;clear A3 AJ FI JJ Fq Sf Xr he3 hh3 EA he2 hh2 mZ Mr Ho LK hL0 DX;refine xq (v:=.pointer (some ⟨w.heap.size+1,0,none⟩)) (BU Ff) rfl rfl (fun w _=>by go_simp) ?_;refine OE (f:=29) (args:= #[.pointer (some ⟨b,0,none⟩),.int J 4]) rfl rfl (by go_simp) ((pC.out V2 _ _ ou (by omega) (by omega)).mono ?_);rintro e V3 ⟨r4,d4,rfl,hr4,U_,uZ,hd4⟩;have Ub:=Ff.trans (U_.CX uS);refine⟨_,rfl,.inr (BU Ub),?_⟩;have hw4:IntKind.i64.wrap (le+(r4:Int))=le+(r4:Int):=by rw[Yp];omega
   refine I_ (v:=.int J (le+(r4:Int))) (w':=V3) rfl rfl (by go_simp) (.inr (BU Ub)) ?_;obtain⟨mo,hmo⟩:∃mo:Int,mo=le+(r4:Int):=⟨_,rfl⟩;have aAr:le<=mo/\mo<=5:=by omega
   rw[<-hmo];clear hmo hw4 hr4;refine I_ (v:=.agg #[.int J le,.int J mo]) (w':=V3) rfl rfl (by go_simp) (.inr (BU Ub)) ?_;refine I_ (v:=.slice (some ⟨V3.heap.size,0,none⟩) 1 1) (w':=V3.alloc (C #[.int J le,.int J mo] 80)) rfl rfl (by go_simp) (.inr (BU (Ub.uQ (bA (Zg _ _))))) ?_;have Sa:=Ub.size;have wD:=Uv.Cg U_ (by omega);have he5:=Gm he4 U_ (by omega:b<w.heap.size+1+1);have hh5:=hh4.Cg U_ (by omega);refine TS rfl rfl ?_;refine Zam _ _ _ 23 rfl (w.heap.size+1+1) 80 i8i (.agg #[.int J 0,.int J 0]) 2 16 (CG Tryz.underlying23) (DC i8h) i80 i81 i82 rfl (by decide) _ es.length (es.flatMap fun p=> [ZS J p.1,.int J p.2]) (by go_simp) (zO he5 _) ⟨V3.heap.size,0,none⟩ 1 1 [.int J le,.int J mo] (by go_simp) rfl (Mm _ _ _) (by intro u hu;simp at hu;rcases hu with rfl|rfl<;>rfl) (by have:=iT.out.2.1;unfold maxLen;omega) (by have:=iT.out.2.1;omega) (by simp;omega) ?_;intro v2n V4 A3 AJ FI;have Fq:=Hk he5;have JJ:Am (fun x=>(ZA a2 es.length c2).ownBlock=some x) V3 V4:=((Am.later (bA (Zg _ _))).mono fun _ x=>x).trans (Am.grown AJ fun x hx=>hx);have hT4:=Ub.trans (JJ.mono fun x hx=>kt x (by have:=(Fq x hx).1;omega));have Sf:∀x,(ZA a2 es.length c2).ownBlock=some x->w.heap.size<=x:=fun x hx=>by have:=(Fq x hx).1;omega
   have hL4:LW b lv w d4 V4:=⟨(uZ.alloc (C #[.int J le,.int J mo] 80)).Cg.grown AJ Sf,(uZ.alloc (C #[.int J le,.int J mo] 80)).FH.of (AJ.block b (uZ.alloc _).FH.lt (fun e=>by have:=(Fq b e.symm).1;omega))⟩;refine⟨.inr (BU hT4),?_⟩;have he6:Mv V4 (w.heap.size+1+1) v2n (es++ [(le,mo)]) 80:=by
    unfold Mv;rw[ZF,List.flatMap_append];exact A3
   have aed:∀x cs,V3.heap[x]?=some (ZbM cs 3 (0,0))->¬(ZA a2 es.length c2).ownBlock=some x:=fun x cs hx e=>by
    obtain⟨_,cs',h2⟩:=Fq x e;rw[hx]at h2;cases h2
   have Xt:Own V4 (w.heap.size+1+1) (U (some ⟨g1,0,none⟩) (bs.length+1) q1) (bs++ [xb]):=D7 wD JJ aed;have hh6:Own V4 (w.heap.size+1+1) (U a3 D5.length c3) D5:=D7 hh5 JJ aed;obtain⟨g2,q2,rfl⟩:=ZbD A3;clear A3 AJ FI JJ Fq Sf wD he5 hh5 Uv he4 hh4 Ff Ub U_ uZ ou Sa aed;refine OE (f:=29) (args:= #[.pointer (some ⟨b,0,none⟩),.int J 5]) rfl rfl (by go_simp) ((pC.out V4 _ _ hL4 (by omega) (by omega)).mono ?_);rintro e V5 ⟨r5,d5,rfl,kW,kX,hL5,hd5⟩;have hT5:=hT4.trans (kX.CX uS);refine⟨_,rfl,.inr (BU hT5),?_⟩;have iN:=hT5.uQ (bA (o:=.cells #[.int J 0,.int J 0,.int J 3,.int J r5] 3) (Zg _ _));refine I_ (v:=.slice (some ⟨V5.heap.size,0,none⟩) 4 4) (w':=V5.alloc (C #[.int J 0,.int J 0,.int J 3,.int J r5] 3)) rfl rfl (by go_simp) (.inr (BU iN)) ?_;refine OE (f:=98) (args:= #[.pointer (some ⟨b,0,none⟩),U (some ⟨V5.heap.size,0,none⟩) 4 4]) rfl rfl (by go_simp) ((H98.out V5 _ [0,0,3,(r5:Int)] hL5 (by omega) (by simp) (by simp)).mono ?_);rintro e V6 ⟨r6,d6,rfl,hr6,kY,hL6,hd6⟩;obtain⟨y,hy,hy2⟩:∃y,y=nth [0,0,3,(r5:Int)] r6/\(0<=y/\y<=5):=⟨_,rfl,aka (by omega) hr6⟩;rw[<-hy];clear hy;have hT6:=iN.trans (kY.CX uS);refine⟨_,rfl,.inr (BU hT6),?_⟩;refine I_ (v:=.slice (some ⟨V6.heap.size,0,none⟩) 1 1) (w':=V6.alloc (C #[.int J y] 3)) rfl rfl (by go_simp) (.inr (BU (hT6.uQ (bA (Zg _ _))))) ?_;have hz6:=hT6.size;have eP:Bl V5 (V5.alloc (C #[.int J 0,.int J 0,.int J 3,.int J r5] 3)):=bA (Zg _ _);have U2:=((Xt.Cg kX (by omega)).later eP).Cg kY (by omega);have he7:=Gm (Ey (Gm he6 kX (by omega:b<w.heap.size+1+1)) eP) kY (by omega:b<w.heap.size+1+1);have hh7:=((hh6.Cg kX (by omega)).later eP).Cg kY (by omega);refine TS rfl rfl ?_;refine Zam _ _ _ 22 rfl (w.heap.size+1+1) 3 i3i (.int J 0) 1 8 (CG Yg) (DC i3h) i30 i31 i32 rfl (by decide) _ D5.length (D5.map (ZS J)) (by go_simp) (zO hh7 _) ⟨V6.heap.size,0,none⟩ 1 1 [.int J y] (by go_simp) rfl (BR _ _ _) (by simp[Yv]) (by have:=iT.out.2.2;unfold maxLen;omega) (by have:=iT.out.2.2;omega) (by simp;omega) ?_;intro v3n V7 A3 AJ FI;have Fq:=Hk hh7;have JJ:Am (fun x=>(ZA a3 D5.length c3).ownBlock=some x) V6 V7:=((Am.later (bA (Zg _ _))).mono fun _ x=>x).trans (Am.grown AJ fun x hx=>hx);have hT7:=hT6.trans (JJ.mono fun x hx=>kt x (by have:=(Fq x hx).1;omega));have Sf:∀x,(ZA a3 D5.length c3).ownBlock=some x->w.heap.size<=x:=fun x hx=>by have:=(Fq x hx).1;omega
   have hL7:LW b lv w d6 V7:=⟨(hL6.alloc (C #[.int J y] 3)).Cg.grown AJ Sf,(hL6.alloc (C #[.int J y] 3)).FH.of (AJ.block b (hL6.alloc _).FH.lt (fun e=>by have:=(Fq b e.symm).1;omega))⟩;refine⟨.inr (BU hT7),?_⟩;have hh8:Own V7 (w.heap.size+1+1) v3n (D5++ [y]):=by
    unfold Own;rw[ZF,Zaa];exact A3
   have hb8:=U2.apart JJ (fun x hx e=>hap x hx e);have he8:Mv V7 (w.heap.size+1+1) (U (some ⟨g2,0,none⟩) (es.length+1) q2) (es++ [(le,mo)]) 80:=D7 he7 JJ (fun x cs hx e=>by
    obtain⟨_,cs',h2⟩:=Fq x e;rw[hx]at h2;cases h2)
   obtain⟨g3,q3,rfl⟩:=ZbD A3;have iU:∀x,(ZA (some ⟨g1,0,none⟩) (bs.length+1) q1).ownBlock=some x->¬(ZA (some ⟨g3,0,none⟩) (D5.length+1) q3).ownBlock=some x:=by
    refine Wn hb8 hh8 (by simp) (by simp) ?_;have h1:20<=nth (bs++ [xb]) 0:=by
     have hm:nth (bs++ [xb]) 0∈bs++ [xb]:=OP (by simp);rcases Zas.1 hm with h|h
     .exact(nR.out.2.2.2.1 _ h).1
     .rw[YB.1 h];exact aec.1
    have h2:nth (D5++ [y]) 0<=5:=by
     have hm:nth (D5++ [y]) 0∈D5++ [y]:=OP (by simp);rcases Zas.1 hm with h|h
     .exact(nR.out.2.2.2.2.2 _ h).2
     .rw[YB.1 h];exact hy2.2
    omega
   clear A3 AJ FI JJ Fq Sf U2 he7 hh7 Xt he6 hh6 hT4 hT5 hT6 iN kX kY hL4 hL5 hL6 hz6 hap eP;have hq7:=(hT7.block _ hqz kV).trans tE;have hr7:=(hT7.block _ (Za.1 akb).1 tx).trans akb;have f0:=cf (i:=0) hq7;have f1:=cf (i:=1) hq7;have f2:=cf (i:=2) hq7;have e0:=ch (i:=0) hq7 (v:=.slice a1 bs.length c1) rfl;have e1:=ch (i:=1) hq7 (v:=.slice a2 es.length c2) rfl;have e2:=ch (i:=2) hq7 (v:=.slice a3 D5.length c3) rfl;refine OG (w':=V7.setCell ⟨w.heap.size+1,0,none⟩ (U (some ⟨g1,0,none⟩) (bs.length+1) q1)) rfl rfl (by go_simp) (.inl rfl) ?_;refine I_ (v:=.pointer (some ⟨w.heap.size+1,1,none⟩)) (w':=V7.setCell ⟨w.heap.size+1,0,none⟩ (U (some ⟨g1,0,none⟩) (bs.length+1) q1)) rfl rfl (by go_simp) (.inl rfl) ?_;refine OG (w':=(V7.setCell ⟨w.heap.size+1,0,none⟩ (U (some ⟨g1,0,none⟩) (bs.length+1) q1)).setCell ⟨w.heap.size+1,1,none⟩ (U (some ⟨g2,0,none⟩) (es.length+1) q2)) rfl rfl (by go_simp) (.inl rfl) ?_;refine I_ (v:=.pointer (some ⟨w.heap.size+1,2,none⟩)) (w':=(V7.setCell ⟨w.heap.size+1,0,none⟩ (U (some ⟨g1,0,none⟩) (bs.length+1) q1)).setCell ⟨w.heap.size+1,1,none⟩ (U (some ⟨g2,0,none⟩) (es.length+1) q2)) rfl rfl (by go_simp) (.inl rfl) ?_;obtain⟨V8,hV8⟩:∃V8,V8=((V7.setCell ⟨w.heap.size+1,0,none⟩ (U (some ⟨g1,0,none⟩) (bs.length+1) q1)).setCell ⟨w.heap.size+1,1,none⟩ (U (some ⟨g2,0,none⟩) (es.length+1) q2)).setCell ⟨w.heap.size+1,2,none⟩ (U (some ⟨g3,0,none⟩) (D5.length+1) q3):=⟨_,rfl⟩;refine OG (w':=V8) rfl rfl (by rw[hV8];go_simp) (.inl rfl) ?_;have hG8:LG b lv w d6 (k+1) (U (some ⟨g1,0,none⟩) (bs.length+1) q1) (U (some ⟨g2,0,none⟩) (es.length+1) q2) (U (some ⟨g3,0,none⟩) (D5.length+1) q3) (bs++ [xb]) (es++ [(le,mo)]) (D5++ [y]) V8:=by
    have hT8:Am (fun x=>x=w.heap.size+1) V7 V8:=by rw[hV8];exact(Am.refl (fun x=>x=w.heap.size+1) V7).DJ.DJ.DJ
    have hn8:∀x,w.heap.size+1+1<=x->¬x=w.heap.size+1:=fun x h1 h2=>by omega
    obtain⟨l1,l2,l3⟩:=iT.out;refine⟨by rw[hV8];exact((hL7.Ed G0 (by omega)).Ed G0 (by omega)).Ed G0 (by omega),(hT8.block _ (Za.1 hr7).1 (by omega)).trans hr7,by rw[hV8];exact A8 (A8 (A8 hq7 _) _) _,D2 hT8 hn8 hb8,D2 hT8 hn8 he8,D2 hT8 hn8 hh8,⟨by simp[l1],by simp[l2],by simp[l3]⟩,fun h=>by omega,iU,fun x hx=>?_,fun p hp=>?_,fun x hx=>?_⟩
    .rcases Zas.1 hx with h|h
     .exact nR.out.2.2.2.1 _ h
     .rw[YB.1 h];exact aec
    .rcases Zas.1 hp with h|h
     .exact nR.out.2.2.2.2.1 _ h
     .rw[YB.1 h];simp only;omega
    .rcases Zas.1 hx with h|h
     .exact nR.out.2.2.2.2.2 _ h
     .rw[YB.1 h];exact hy2
   have HG8:=Zb hG8;clear hG8 hV8 hq7 hr7 f0 f1 f2 e0 e1 e2 hL7 hT7 hb8 he8 hh8 iU;unfold Ka
   go_simp
   go_wp2;go_roundg m'
   case rel=>exact⟨k+1,m',d6,_,_,_,_,_,_,by omega,rfl,by go_num,by omega,HG8.out⟩
   case measure=>omega
  .have hm0:m=0:=by omega
   subst hm0;have hkG:k=G:=by omega
   have hLx:=hG.lw;obtain⟨TG,MI,Nn⟩:=hG.lens;go_wp2_with (go_at_call 61;refine(H61.out _ _ _ _ hLx (by omega) (by omega) (by omega)).mono ?_;rintro e W2 ⟨rn,dn,rfl,hrn,T6,Hl,hdn⟩);obtain⟨n,Bn⟩:∃n,n=1+rn:=⟨_,rfl⟩;have oa:1<=n/\n<=s:=by omega
   rw[show(1:Int)+(rn:Int)=(n:Int) by omega];clear Bn hrn;have HB:=Zb (ZX hG.cb (ZX hG.ce (ZX hG.chk (ZX TG (ZX MI Nn)))));have mZ:LT2 b lv w dn bs.length n (U a1 bs.length c1) (U a2 es.length c2) (U a3 D5.length c3) (U none 0 0) bs es D5 [] W2:=
    ⟨Hl,T6.at_ hG.res (by omega),T6.at_ hG.qx (by omega),hG.base.Cg T6 (by omega),Gm hG.Af T6 (by omega),hG.hooks.Cg T6 (by omega),⟨[],zh _ _ _ _,fun i x hx=>by cases hx⟩,fun i hi=>absurd hi (by simp)⟩
   have rG:1<=bs.length/\bs.length<=3:=by omega
   have aAw:dn<=d+50:=by omega
   clear hG hLx T6 Hl TG MI Nn;go_loopg [9] n (fun gg i wr=>∃(k dk:Nat) (v4:Ze) (sl:List Aq),k<=n/\gg=n - k/\i=.int J k/\dk<=dn+20*k/\sl.length=k/\LT2 b lv w dk bs.length n (U a1 bs.length c1) (U a2 es.length c2) (U a3 D5.length c3) v4 bs es D5 sl wr)
   case atStart=>exact⟨0,dn,_,[],Zn _,rfl,rfl,Zj _,rfl,mZ⟩
   case round=>
    obtain⟨k,dk,v4,sl,hk,rfl,rfl,oX,KI,hT⟩:=hrel;obtain⟨va,vc,rfl,_⟩:=hT.row.val;by_cases AA:k<n
    .have O7:=Zb KI
     clear KI;obtain⟨K,Ml⟩:∃K:Nat->Prop,K=fun x=>x=b\/w.heap.size+1<x:=⟨_,rfl⟩;have uS:K b:=by rw[Ml];exact .inl rfl
     have kt:∀x,w.heap.size+1<x->K x:=fun x hx=>by rw[Ml];exact .inr hx
     have kV:¬K (w.heap.size+1):=by rw[Ml];intro x;omega
     have tx:¬K w.heap.size:=by rw[Ml];intro x;omega
     clear Ml;have z0:=fun p:Tw K wr=>p.cell (ch (i:=0) hT.qx (v:=.slice a1 bs.length c1) rfl) kV;have z3:=fun p:Tw K wr=>p.cell (ch (i:=3) hT.qx (v:=.slice va sl.length vc) rfl) kV;have hqz:w.heap.size+1<wr.heap.size:=(Za.1 hT.qx).1;have Rh:(k:Int)<(n:Int):=by omega
     have ot:=hT.lw;go_wp2;refine OD (S:=fun W=>∃p:Tw K wr,W=p.v) 13 [12] [(false,8),(false,9),(false,10),(false,11),(false,12)] [0,1,2,3,4,5,6,7] (by kernel_rfl) (fun _ _ d _ _ h=>by cases d<;>exact h) (by kernel_rfl) (BU (Am.later (Zg _ _).drew)) ?_;refine Lz [0,1,2,3,4] [5,6,7] _ ?_;refine Br _ _ (by kernel_rfl) ?_;simp only[zr,zL,Z1,ZQ,ZP]
     repeat (first|go_big_quiet_step (fail)|quiet_step (fail))
     refine zD ?_;clear z0 z3;refine CJ (v:=.int J bs.length) rfl rfl (fun w _=>by go_simp) ?_;refine CJ (v:=.int J n) rfl rfl (fun w _=>by go_simp) ?_;refine CJ (v:=.int J k) rfl rfl (fun w _=>by go_simp) ?_;change Ka _ _ _ _ _ _ _ _;obtain⟨V,hV⟩:∃V,V=wr.drew:=⟨_,rfl⟩;have UG:Bl wr V:=by rw[hV];exact(Zg _ _).drew
     rw[<-hV];clear hV;have hLV:=ot.below UG;have hTV:Am K wr V:=Am.later UG;refine OE (f:=110) (args:= #[.pointer (some ⟨b,0,none⟩),.int J bs.length,.int J n,.int J k]) rfl rfl (by go_simp) ((ar6 (g:=bs.length) (n:=n) (o:=k) (hn.Cg hLV.Cg EP) (LN hLV.Cg EP) hLV.FH (by omega) rG AA (by omega)).mono ?_);rintro e V1 ⟨sm,v2,v3,d',rfl,hLm,eN,WS,ho3,abn,hup⟩;have hU:=hLm.Cg;have LK:LW b lv w d' V1:=hLV.step hU hLm.FH;have Mr:=hTV.trans (hU.CX uS);obtain⟨p2,t2,rfl,_⟩:=WS.val;obtain⟨p3,t3,rfl,_⟩:=ho3.val;refine⟨_,rfl,.inr (BU Mr),?_⟩;obtain⟨V2,jU⟩:∃V2,V2=V1.alloc (C #[.int J sm.low,.int J sm.high,U p2 sm.Ak.length t2,U p3 sm.over.length t3,.int J sm.left] 62):=⟨_,rfl⟩;have AW:Bl V1 V2:=by rw[jU];exact bA (Zg _ _)
     have Ff:=Mr.uQ AW;refine I_ (v:=.slice (some ⟨V1.heap.size,0,none⟩) 1 1) (w':=V2) rfl rfl (by rw[jU];go_simp) (.inr (BU Ff)) ?_;have EI:=Ff.size;obtain⟨vals,A3,Ha⟩:=hT.row;have lh:=Ey (Gm (Ey A3 UG) hU (by omega:b<w.heap.size+1+1)) AW;obtain⟨i6i,i6h,i60,i61,i62⟩:=zq ib;refine TS rfl rfl ?_;refine Zam _ _ _ 24 rfl (w.heap.size+1+1) 62 i6i (.agg #[.int J 0,.int J 0,U none 0 0,U none 0 0,.int J 0]) 5 72 (CG Tryz.underlying24) (DC i6h) i60 i61 i62 rfl (by decide) _ sl.length vals (by go_simp) lh ⟨V1.heap.size,0,none⟩ 1 1 [.int J sm.low,.int J sm.high,U p2 sm.Ak.length t2,U p3 sm.over.length t3,.int J sm.left] (by go_simp) rfl (by rw[jU];exact Mm _ _ _) (by intro u hu;simp at hu;rcases hu with rfl|rfl|rfl|rfl|rfl<;>rfl) (by have:=O7.out;unfold maxLen;omega) (by have:=O7.out;omega) (by omega) ?_;intro v4n V3 CQ AJ FI;have Fq:=Hk lh;have JJ:Am (fun x=>(ZA va sl.length vc).ownBlock=some x) V2 V3:=Am.grown AJ fun x hx=>hx;have Ub:=Ff.trans (JJ.mono fun x hx=>kt x (by have:=(Fq x hx).1;omega));refine⟨.inr (BU Ub),?_⟩;obtain⟨g4,q4,rfl⟩:=ZbD CQ;have JH:=(Ub.block _ hqz kV).trans hT.qx;have f3:=cf (i:=3) JH;have e3:=ch (i:=3) JH (v:=.slice va sl.length vc) rfl;refine I_ (v:=.pointer (some ⟨w.heap.size+1,3,none⟩)) (w':=V3) rfl rfl (by go_simp) (.inr (BU Ub)) ?_;obtain⟨V4,XH⟩:∃V4,V4=V3.setCell ⟨w.heap.size+1,3,none⟩ (U (some ⟨g4,0,none⟩) (sl.length+1) q4):=⟨_,rfl⟩;refine OG (w':=V4) rfl rfl (by rw[XH];go_simp) (.inl rfl) ?_;have dO:∀ {A:Zc} {e:Zr} (he:e≠62) (hA:∀g cs,V2.heap[g]?=some (ZbM cs 62 (0,0))->A.heap[g]?=some (ZbM cs 62 (0,0))) x cs,A.heap[x]?=some (ZbM cs e (0,0))->¬(ZA va sl.length vc).ownBlock=some x:=fun he hA x cs hx e0=>by
      obtain⟨_,cs',h2⟩:=Fq x e0;rw[hA x cs' h2]at hx;cases hx;exact he rfl
     have Ro:Am (fun x=>x=w.heap.size+1) V3 V4:=by rw[XH];exact(Am.refl (fun x=>x=w.heap.size+1) V3).DJ
     have hn8:∀x,w.heap.size+1+1<=x->¬x=w.heap.size+1:=fun x h1 h2=>by omega
     have j5:Own V4 (w.heap.size+1+1) (U a1 bs.length c1) bs:=D2 Ro hn8 (D7 ((((hT.base.later UG).Cg hU (by omega)).later AW):Own V2 _ _ _) JJ (dO (by decide) fun _ _ h=>h));have dp:Own V4 (w.heap.size+1+1) (U a3 D5.length c3) D5:=D2 Ro hn8 (D7 ((((hT.hooks.later UG).Cg hU (by omega)).later AW):Own V2 _ _ _) JJ (dO (by decide) fun _ _ h=>h));have abo:Mv V4 (w.heap.size+1+1) (U a2 es.length c2) es 80:=D2 Ro hn8 (D7 (Ey (Gm (Ey hT.Af UG) hU (by omega:b<w.heap.size+1+1)) AW) JJ (dO (by decide) fun _ _ h=>h));have aeh:∀x,TT (w.heap.size+1+1) V2 x->¬(ZA va sl.length vc).ownBlock=some x:=fun x hx e0=>by
      obtain⟨_,cs',h2⟩:=Fq x e0;exact TT.not hx h2 ⟨by decide,by decide,by decide⟩
     have akf:∀x,TT (w.heap.size+1+1) V3 x->¬x=w.heap.size+1:=fun x hx e0=>by have:=hx.1;omega
     have abp:D' (w.heap.size+1+1) V4 (w.heap.size+1+1) (U (some ⟨g4,0,none⟩) (sl.length+1) q4) (sl++ [sm]):=by
      have hTb:Am (fun x=>x=b) wr V2:=((Am.later UG).mono fun _ x=>x).trans ((hU.CX (K:=fun x=>x=b) rfl).trans ((Am.later AW).mono fun _ x=>x));have EA:∀x,TT (w.heap.size+1+1) wr x->¬x=b:=fun x hx e0=>by have:=hx.1;omega
      have Bt:Rs (TT (w.heap.size+1+1) V2) V2 [.int J sm.low,.int J sm.high,U p2 sm.Ak.length t2,U p3 sm.over.length t3,.int J sm.left] sm:=⟨_,_,rfl,Ve (Ny WS AW) (by have:=UG.size;omega),Mt (Es ho3 AW) (by have:=UG.size;omega)⟩;have h3:D' (w.heap.size+1+1) V3 (w.heap.size+1+1) (U (some ⟨g4,0,none⟩) (sl.length+1) q4) (sl++ [sm]):=D'.snoc (fun i x hi=>uU (uU (Ha i x hi) hTb EA) JJ aeh) (by have:=lh.1;exact this) rfl (uU Bt JJ aeh) CQ;refine h3.CX Ro akf (fun g hg e0=>?_);have:=(h3.own g hg).1;omega
     have hL4:LW b lv w d' V4:=by
      rw[XH];exact(LW.Ed ⟨(LK.below AW).Cg.grown AJ (fun x hx=>by have:=(Fq x hx).1;omega),(LK.below AW).FH.of (AJ.block b (LK.below AW).FH.lt (fun e0=>by have:=(Fq b e0.symm).1;omega))⟩ G0 (by omega))
     have hT4:LT2 b lv w d' bs.length n (U a1 bs.length c1) (U a2 es.length c2) (U a3 D5.length c3) (U (some ⟨g4,0,none⟩) (sl.length+1) q4) bs es D5 (sl++ [sm]) V4:=
      ⟨hL4,(Ro.block _ (by have:=(Za.1 hT.res).1;have:=Ub.size;omega) (by omega)).trans ((Ub.block _ (Za.1 hT.res).1 tx).trans hT.res),by rw[XH];exact A8 JH _,j5,abo,dp,abp,x_ hT.up (by rw[O7.out];exact abn) (by rw[O7.out];exact hup)⟩
     have HT4:=Zb hT4;clear hT4 hT hL4 abp j5 dp abo Ro XH JH f3 e3 JJ Ub Ff Mr hTV A3 lh CQ Ha AJ FI Fq jU AW hLm hU LK hLV UG WS ho3 dO aeh akf abn hup ot;unfold Ka
     go_simp
     go_wp2;go_roundg (n - (k+1))
     case rel=>exact⟨k+1,d',_,sl++ [sm],AA,rfl,by go_num,by omega,by have:=O7.out;simp;omega,HT4.out⟩
     case measure=>omega
    .have aI:k=n:=by omega
     subst aI;obtain⟨c0,Oo⟩:∃c0:A4,c0=⟨bs,es,D5,sl,[]⟩:=⟨_,rfl⟩;have hCT:CT (w.heap.size+1+1) wr (U a1 bs.length c1) (U a2 es.length c2) (U a3 D5.length c3) (U va sl.length vc) (U none 0 0) c0:=by
      rw[Oo];exact⟨hT.base.tt,hT.Af.tt (.inr (.inr rfl)),hT.hooks.tt,⟨none,0,rfl,Zj _,Zn _,fun i x hx=>by cases hx⟩,hT.row⟩
     have Il:=hT.qx;have KN:=hT.res;have ot:=hT.lw;obtain⟨kb,ke,kh,l1,l2,l3⟩:=HB.out;have HC:c0.base=bs/\c0.Af=es/\c0.hooks=D5/\c0.Aa=sl/\c0.now=[]:=by rw[Oo];exact⟨rfl,rfl,rfl,rfl,rfl⟩
     have hup:Kj bs.length sl:=fun i hi=>by rw[KI];exact hT.up i hi
     have HUP:=Zb hup;have Ui:=Zb HC;have O7:=Zb KI;have lj:=Zb (ZX l1 (ZX l2 l3));clear hT Oo hup HC KI l1 l2 l3 kb ke kh;have hGG:G<=3:=uI.2;have aei:=Zb (fun(W:Zc) (hR:RC (Cf (w.heap.size+1+1) W) W (U a1 bs.length c1) (U a2 es.length c2) (U a3 D5.length c3) (U va sl.length vc) (U none 0 0) c0)=>arq hR (fun b hb=>hb.2) Ui.out.2.2.2.2 (by rw[Ui.out.1];omega) (by rw[Ui.out.2.1];have:=lj.out;omega) (by rw[Ui.out.2.2.1];have:=lj.out;omega) (by rw[Ui.out.2.2.2.1];have:=O7.out;omega) (fun i hi=>by
      rw[Ui.out.2.2.2.1]at hi⊢;have hm:=(HUP.out i hi).1;exact⟨by have:=hm.few;omega,by
       have h1:=tD hm.rising (fun x hx=>by have:=hm.over x hx;exact⟨this.1,this.2.1⟩);have:=O7.out;omega⟩) (fun i hi x hx=>by
      rw[Ui.out.2.2.2.1]at hi hx;have:=(HUP.out i hi).1.over x hx;have:=O7.out;omega))
     have GN:(P4 c0).base.length=bs.length:=by rw[show(P4 c0).base=c0.base from rfl,Ui.out.1]
     have hme:(P4 c0).Af.length=es.length:=by rw[show(P4 c0).Af=c0.Af from rfl,Ui.out.2.1]
     have hmh:(P4 c0).hooks.length=D5.length:=by rw[show(P4 c0).hooks=c0.hooks from rfl,Ui.out.2.2.1]
     have yK:(P4 c0).Aa.length=sl.length:=by rw[show(P4 c0).Aa=P3 c0.Aa from rfl,GL,Ui.out.2.2.2.1]
     have xW:(P4 c0).now.length=0:=by rw[show(P4 c0).now=c0.now from rfl,Ui.out.2.2.2.2];rfl
     go_wp2_with (first|(go_at_call 99;refine(H99.out _ _ _ ot (by omega) (by omega)).mono ?_;rintro e W5 ⟨rb,d5,rfl,kX,hL5,hd5⟩;have nP:=kX.at_ Il (by omega);have kW:=kX.at_ KN (by omega);have hC5:=hCT.CX (kX.CX (K:=fun x=>x=b) rfl) (fun x hx e=>by have:=hx.1;omega) (fun g hg e=>by have:=(hCT.row.own g hg).1;omega);have s0:=ch (i:=0) nP rfl;have s1:=ch (i:=1) nP rfl;have s2:=ch (i:=2) nP rfl;have s3:=ch (i:=3) nP rfl;have s4:=ch (i:=4) nP rfl;have sL:=hL5.Cg.size)|(go_at_call 111;refine(aei.out _ hC5.rc).mono ?_;rintro e W6 ⟨u1,u2,u3,u4,u5,rfl,Dv,u_⟩;obtain⟨x1,y1,rfl,_⟩:=u_.base.val;obtain⟨x2,y2,rfl,_⟩:=u_.Af.val;obtain⟨x3,y3,rfl,_⟩:=u_.hooks.val;obtain⟨x4,y4,rfl,_⟩:=u_.row.val;obtain⟨x5,y5,rfl,_⟩:=u_.now.val;rw[GN,hme,hmh,yK,xW]at u_⊢;have kN:=(Dv.block _ (Za.1 nP).1).trans nP;have hr6:=(Dv.block _ (Za.1 kW).1).trans kW;have e0:=ch (i:=0) kN rfl;have e1:=ch (i:=1) kN rfl;have e2:=ch (i:=2) kN rfl;have e3:=ch (i:=3) kN rfl;have e4:=ch (i:=4) kN rfl;have f0:=cf (i:=0) kN;have f1:=cf (i:=1) kN;have f2:=cf (i:=2) kN;have f3:=cf (i:=3) kN;have f4:=cf (i:=4) kN))
     .have arG:=u_
      obtain⟨X,oy⟩:∃X,X=((((W6.setCell ⟨w.heap.size+1,0,none⟩ (U x1 bs.length y1)).setCell ⟨w.heap.size+1,1,none⟩ (U x2 es.length y2)).setCell ⟨w.heap.size+1,2,none⟩ (U x3 D5.length y3)).setCell ⟨w.heap.size+1,3,none⟩ (U x4 sl.length y4)).setCell ⟨w.heap.size+1,4,none⟩ (U x5 0 y5):=⟨_,rfl⟩;have PY:Am (fun x=>x=w.heap.size+1) W6 X:=by rw[oy];exact(Am.refl (fun x=>x=w.heap.size+1) W6).DJ.DJ.DJ.DJ.DJ
      have uV:X.heap[w.heap.size+1]?=some (C #[U x1 bs.length y1,U x2 es.length y2,U x3 D5.length y3,U x4 sl.length y4,U x5 0 y5] 26 (0,0)):=by rw[oy];exact A8 (A8 (A8 (A8 (A8 kN _) _) _) _) _
      have hrX:=(PY.block _ (Za.1 hr6).1 (by omega)).trans hr6;have tF:LW b lv w d5 X:=by rw[oy];exact((((((hL5.below Dv).Ed G0 (by omega)).Ed G0 (by omega)).Ed G0 (by omega)).Ed G0 (by omega)).Ed G0 (by omega))
      have aAC:=(Za.1 nP).1;have ve:=u_.CX PY (fun x hx e=>by have:=hx.1;omega) (fun g hg e=>by have:=(u_.row.own g hg).1;omega);obtain⟨cX,hcX⟩:∃cX,cX=P4 c0:=⟨_,rfl⟩;obtain⟨mX,hmX⟩:∃mX,mX=W5.heap.size:=⟨_,rfl⟩;have arI:w.heap.size+1+1<=mX:=by omega
      have HQ:cX.base=bs/\cX.Af=es/\cX.hooks=D5/\cX.now=[]/\cX.Aa.length=k/\(Kj bs.length cX.Aa\/Ge bs.length cX.Aa):=by
       rw[hcX];refine⟨Ui.out.1,Ui.out.2.1,Ui.out.2.2.1,Ui.out.2.2.2.2,by rw[yK];exact O7.out,.inr ?_⟩;show Ge bs.length (P3 c0.Aa);rw[Ui.out.2.2.2.1];exact tC HUP.out
      rw[<-hcX, <-hmX]at ve;rw[<-oy];clear oy PY u_ arG kN hr6 Dv hcX hmX e0 e1 e2 e3 e4 f0 f1 f2 f3 f4;clear nP kW hL5 hC5 kX hCT Il KN ot s0 s1 s2 s3 s4 aei;have HQ':=Zb HQ;have Ow:k<=3:=by omega
      have B5:∀i,i<cX.Aa.length->LI bs.length k i (Ah cX.Aa i):=fun i hi=>by
       rcases HQ.2.2.2.2.2 with h|h
       .have:=(h i hi).1;rwa[HQ.2.2.2.2.1]at this
       .have:=(h i hi).1;rwa[HQ.2.2.2.2.1]at this
      have hqk:=HQ.2.2.2.2.1;refine(c30 (S:=Cf mX X) ve.rc (fun x hx=>⟨hx.2,by have:=hx.1;omega⟩) (hn.Cg tF.Cg EP) (LN tF.Cg EP) tF.FH (by omega) (by omega) (fun i hi=>by have:=(B5 i hi).step;omega)).mono ?_;rintro e Y ⟨vn,ln,dn2,rfl,oC,hLY,hdY,hsY,hlY,hbY⟩;obtain⟨pn,qn,rfl,_⟩:=hsY.val;have eQ:=oC.at_ uV (by omega);have Vf:=oC.at_ hrX (by omega);have s0:=ch (i:=0) eQ rfl;have s1:=ch (i:=1) eQ rfl;have s2:=ch (i:=2) eQ rfl;have s3:=ch (i:=3) eQ rfl;have s4:=ch (i:=4) eQ rfl;have f4:=cf (i:=4) eQ;have r0:=ch (i:=0) Vf (v:=.slice none 0 0) rfl;have r1:=ch (i:=1) Vf (v:=.slice none 0 0) rfl;have r2:=ch (i:=2) Vf (v:=.slice none 0 0) rfl;have r3:=ch (i:=3) Vf (v:=.slice none 0 0) rfl;have r4:=ch (i:=4) Vf (v:=.slice none 0 0) rfl;have g0:=cf (i:=0) Vf;have g1:=cf (i:=1) Vf;have g2:=cf (i:=2) Vf;have g3:=cf (i:=3) Vf;have g4:=cf (i:=4) Vf;have hzX:=tF.Cg.size;have hzY:=oC.size;have arK:=(Za.1 eQ).1;have arL:=(Za.1 uV).1;have iT:=Zb hlY;have HBY:=Zb hbY;have vg:=Zb B5;clear hlY hbY B5 HQ hqk;dsimp only;go_wp2;refine ZU (v:=.agg #[U x1 bs.length y1,U x2 es.length y2,U x3 D5.length y3,U x4 sl.length y4,U pn ln.length qn]) (by rw[A6 rfl];go_simp) rfl ?_;have key:∀Z,LW b lv w dn2 Z->Am (fun x=>x=w.heap.size\/x=w.heap.size+1) Y Z->iR w b lv d s (.returned (.agg #[U x1 bs.length y1,U x2 es.length y2,U x3 D5.length y3,U x4 sl.length y4,U pn ln.length qn])) Z:=fun Z hLZ pD=>by
       obtain⟨q1,q2,q3,q4,q5,q6⟩:=HQ'.out;have wQ:CC (Cf mX X) X Y:=oC.same fun x hx e=>by have:=hx.1;omega
       have WX:CC (Cf mX X) Y Z:=pD.same fun x hx e=>by have:=hx.1;rcases e with e|e<;>omega
       have hR:=(ve.rc.Aw wQ).Aw WX;have hzZ:=pD.size;have hN:∀x,Cf mX X x->Cf w.heap.size Z x:=fun x hx=>⟨by have:=hx.1;omega,by have:=hx.2;omega⟩;have hRN:=hR.imp hN;have hCW:=abj (n:=w.heap.size) (k:=w.heap.size+1+1) (ln:=ln) ve oC pD (by omega) (fun x hx e=>by rcases e with e|e<;>omega) (by omega) (by omega) hsY (by omega);have hsZ:SI (Cf w.heap.size Z) Z (U pn ln.length qn) ln:=Sl.imp (hsY.Aw (pD.same fun x hx e=>by have:=hx.1;rcases e with e|e<;>omega)) (fun x hx=>⟨by have:=hx.1;omega,by have:=hx.2;omega⟩) fun _ _ x=>x;obtain⟨kb,ke,kh,_⟩:=HB.out;refine⟨{cX with now:=ln},_,_,_,_,_,dn2,rfl,hLZ,by omega,hCW,?_,by show cX.Aa.length<=s;omega⟩;have TG:=lj.out;refine lg (by show 1<=cX.base.length/\_;rw[q1];exact rG) (by show∀x∈cX.base,_;rw[q1];exact kb) (by show cX.Af.length=cX.base.length;rw[q1,q2];omega) (by show∀p∈cX.Af,_;rw[q2];exact ke) (by show cX.hooks.length=cX.base.length;rw[q1,q3];omega) (by show∀x∈cX.hooks,_;rw[q3];exact kh) (by show 1<=cX.Aa.length/\cX.Aa.length<=3;omega) (by show Kj cX.base.length cX.Aa\/Ge cX.base.length cX.Aa;rw[q1];exact q6) ⟨iT.out,fun i hi=>?_⟩;have Da:i<cX.Aa.length:=by rw[<-iT.out];exact hi
       exact⟨(HBY.out i Da).1,(HBY.out i Da).2 (vg.out i Da).step.2.1⟩
      refine key _ ?_ ?_
      .exact(((((tF.step oC hLY).Ed G0 (by omega)).Ed G0 (Zj _)).Ed G0 (Zj _)).Ed G0 (Zj _)).Ed G0 (Zj _)|>.Ed G0 (Zj _)
      .refine Am.set (Am.set (Am.set (Am.set (Am.set (Am.set (Am.refl _ _) (.inr rfl)) (.inl rfl)) (.inl rfl)) (.inl rfl)) (.inl rfl)) (.inl rfl)
     .obtain⟨X,oy⟩:∃X,X=W5:=⟨_,rfl⟩
      subst oy;have uV:=nP;have hrX:=kW;have tF:=hL5;have ve:=hC5;obtain⟨cX,hcX⟩:∃cX,cX=c0:=⟨_,rfl⟩;have HQ:cX.base=bs/\cX.Af=es/\cX.hooks=D5/\cX.now=[]/\cX.Aa.length=k/\(Kj bs.length cX.Aa\/Ge bs.length cX.Aa):=by
       rw[hcX];exact⟨Ui.out.1,Ui.out.2.1,Ui.out.2.2.1,Ui.out.2.2.2.2,by rw[Ui.out.2.2.2.1];exact O7.out,.inl (by rw[Ui.out.2.2.2.1];exact HUP.out)⟩
      rw[<-hcX]at ve;clear hcX;obtain⟨mX,hmX⟩:∃mX,mX=w.heap.size+1+1:=⟨_,rfl⟩;have arI:w.heap.size+1+1<=mX:=by omega
      rw[<-hmX]at ve;clear hmX;clear nP kW hL5 hC5 kX hCT Il KN ot s0 s1 s2 s3 s4 aei;have HQ':=Zb HQ;have Ow:k<=3:=by omega
      have B5:∀i,i<cX.Aa.length->LI bs.length k i (Ah cX.Aa i):=fun i hi=>by
       rcases HQ.2.2.2.2.2 with h|h
       .have:=(h i hi).1;rwa[HQ.2.2.2.2.1]at this
       .have:=(h i hi).1;rwa[HQ.2.2.2.2.1]at this
      have hqk:=HQ.2.2.2.2.1;refine(c30 (S:=Cf mX X) ve.rc (fun x hx=>⟨hx.2,by have:=hx.1;omega⟩) (hn.Cg tF.Cg EP) (LN tF.Cg EP) tF.FH (by omega) (by omega) (fun i hi=>by have:=(B5 i hi).step;omega)).mono ?_;rintro e Y ⟨vn,ln,dn2,rfl,oC,hLY,hdY,hsY,hlY,hbY⟩;obtain⟨pn,qn,rfl,_⟩:=hsY.val;have eQ:=oC.at_ uV (by omega);have Vf:=oC.at_ hrX (by omega);have s0:=ch (i:=0) eQ rfl;have s1:=ch (i:=1) eQ rfl;have s2:=ch (i:=2) eQ rfl;have s3:=ch (i:=3) eQ rfl;have s4:=ch (i:=4) eQ rfl;have f4:=cf (i:=4) eQ;have r0:=ch (i:=0) Vf (v:=.slice none 0 0) rfl;have r1:=ch (i:=1) Vf (v:=.slice none 0 0) rfl;have r2:=ch (i:=2) Vf (v:=.slice none 0 0) rfl;have r3:=ch (i:=3) Vf (v:=.slice none 0 0) rfl;have r4:=ch (i:=4) Vf (v:=.slice none 0 0) rfl;have g0:=cf (i:=0) Vf;have g1:=cf (i:=1) Vf;have g2:=cf (i:=2) Vf;have g3:=cf (i:=3) Vf;have g4:=cf (i:=4) Vf;have hzX:=tF.Cg.size;have hzY:=oC.size;have arK:=(Za.1 eQ).1;have arL:=(Za.1 uV).1;have iT:=Zb hlY;have HBY:=Zb hbY;have vg:=Zb B5;clear hlY hbY B5 HQ hqk;dsimp only;go_wp2;refine ZU (v:=.agg #[U a1 bs.length c1,U a2 es.length c2,U a3 D5.length c3,U va sl.length vc,U pn ln.length qn]) (by rw[A6 rfl];go_simp) rfl ?_;have key:∀Z,LW b lv w dn2 Z->Am (fun x=>x=w.heap.size\/x=w.heap.size+1) Y Z->iR w b lv d s (.returned (.agg #[U a1 bs.length c1,U a2 es.length c2,U a3 D5.length c3,U va sl.length vc,U pn ln.length qn])) Z:=fun Z hLZ pD=>by
       obtain⟨q1,q2,q3,q4,q5,q6⟩:=HQ'.out;have wQ:CC (Cf mX X) X Y:=oC.same fun x hx e=>by have:=hx.1;omega
       have WX:CC (Cf mX X) Y Z:=pD.same fun x hx e=>by have:=hx.1;rcases e with e|e<;>omega
       have hR:=(ve.rc.Aw wQ).Aw WX;have hzZ:=pD.size;have hN:∀x,Cf mX X x->Cf w.heap.size Z x:=fun x hx=>⟨by have:=hx.1;omega,by have:=hx.2;omega⟩;have hRN:=hR.imp hN;have hCW:=abj (n:=w.heap.size) (k:=w.heap.size+1+1) (ln:=ln) ve oC pD (by omega) (fun x hx e=>by rcases e with e|e<;>omega) (by omega) (by omega) hsY (by omega);have hsZ:SI (Cf w.heap.size Z) Z (U pn ln.length qn) ln:=Sl.imp (hsY.Aw (pD.same fun x hx e=>by have:=hx.1;rcases e with e|e<;>omega)) (fun x hx=>⟨by have:=hx.1;omega,by have:=hx.2;omega⟩) fun _ _ x=>x;obtain⟨kb,ke,kh,_⟩:=HB.out;refine⟨{cX with now:=ln},_,_,_,_,_,dn2,rfl,hLZ,by omega,hCW,?_,by show cX.Aa.length<=s;omega⟩;have TG:=lj.out;refine lg (by show 1<=cX.base.length/\_;rw[q1];exact rG) (by show∀x∈cX.base,_;rw[q1];exact kb) (by show cX.Af.length=cX.base.length;rw[q1,q2];omega) (by show∀p∈cX.Af,_;rw[q2];exact ke) (by show cX.hooks.length=cX.base.length;rw[q1,q3];omega) (by show∀x∈cX.hooks,_;rw[q3];exact kh) (by show 1<=cX.Aa.length/\cX.Aa.length<=3;omega) (by show Kj cX.base.length cX.Aa\/Ge cX.base.length cX.Aa;rw[q1];exact q6) ⟨iT.out,fun i hi=>?_⟩;have Da:i<cX.Aa.length:=by rw[<-iT.out];exact hi
       exact⟨(HBY.out i Da).1,(HBY.out i Da).2 (vg.out i Da).step.2.1⟩
      refine key _ ?_ ?_
      .exact(((((tF.step oC hLY).Ed G0 (by omega)).Ed G0 (Zj _)).Ed G0 (Zj _)).Ed G0 (Zj _)).Ed G0 (Zj _)|>.Ed G0 (Zj _)
      .refine Am.set (Am.set (Am.set (Am.set (Am.set (Am.set (Am.refl _ _) (.inr rfl)) (.inl rfl)) (.inl rfl)) (.inl rfl)) (.inl rfl)) (.inl rfl)
def c44 {s:Nat}(hn:SI Sn w lv nums)(EP:∀x,Sn x->x<w.heap.size/\x≠b)(hL:BQ w b lv d)(hd:d+1000<4611686018427387904)(hs:1<=s/\s<=3):
  Calls Lp 44 #[.pointer (some ⟨b,0,none⟩),.int J s] w (ae w b lv d s):=(arz hn EP hL hd hs).mono fun e w' ⟨c,u1,u2,u3,u4,u5,d',h1,h2,h3,h4,h5⟩=>⟨c,u1,u2,u3,u4,u5,d',h1,h2,h3,h4.rc,h5⟩
end Go.Proofs.Fit
