/- Part of a proof. -/
import Derived.Test.YtkkjobdfheidkaaGreatDoorQ10
set_option maxRecDepth 100000
set_option maxHeartbeats 6400000
noncomputable section
set_option linter.all false
open And renaming intro->ZY
open Array renaming getElem?_eq_some_iff->Za,toList_setIfInBounds->ZcM,getElem?_eq_getElem->Zx
open Go renaming TypeId->Zs,World->Zb,Value->Zf,info_parts->zp,wpList_append_own->Yc,wpQuiet_nil->Z4,wp_append_own->Zak,bodyPost_ret->ZN,undef->Ze,ownsRow_succ->Zay
open Go.Addr renaming add->Zcu
open Go.Ending renaming returned->Zbx
open Go.IntKind renaming wrap_i64->zE,i64->J
open Go.Lib renaming hid->Zd
open Go.Obj renaming cells->Zbi,cells->C
open Go.Proofs.Tryz renaming underlying22->YE,underlying23->Zdg,underlying60->Zcz
open Go.RowKit.Below renaming heap_alloc->zD,refl->Zh
open Go.Value renaming int->ZL,oneCell'->YT,slice->Zy,slice->U,int->I
open Go.World renaming ownsRow_made->YC,ownsRow_nil->zq,block_lt_of_cell?->ZH,size_alloc->ZB
open Go.World.ownsRow renaming alloc->Ya,lt->Zcm
open List renaming getElem?_take_of_lt->Z2,getElem?_map->YL,length_set->ZcC,ext_getElem?->YA,getElem?_eq_none_iff->ZcZ,getElem?_eq_some_iff->Zm,getElem?_drop->Yl,nil_append->zP,getD_eq_getElem?_getD->Y6,getElem?_append_left->zl,filterMap_cons->Z6,filterMap_nil->zd,getElem?_toArray->ZG,getElem?_cons_succ->ZD,getElem?_cons_zero->ZC,length_append->ZA,map_append->Zai,drop_eq_getElem_cons->ZO,length_cons->zb,length_nil->zR,getElem?_concat_length->Y1,take_of_length_le->Zb3,take_add_one->ZbH,take_length->ZcU,mem_append->Zab,mem_singleton->Yh,range->Yr,getElem?_set_self->Ys,getElem?_set_ne->ZS,getElem?_append_right->Zbr,drop_eq_nil_iff->Z7,append_nil->ZaA,getElem?_eq_none->ZP,take_zero->ZdB,mem_of_getElem?->Z3,pairwise_iff_getElem->ZdK,getElem?_eq_getElem->zf,mem_cons_self->zC,mem_cons_of_mem->zm,flatMap_append->Zbe
open Nat renaming le_trans->Zr,lt_of_lt_of_le->Zl,le_refl->Zj,zero_le->Zp,zero_add->zN
open Option.some renaming inj->ZW
open True renaming intro->Yz
namespace Go.Proofs.Fit
open Go Go.RowKit
variable {q n k b i d r m x g gi:Nat}
variable {e:Zs}
variable {A B w W:Zb}
variable {v u v1 v2 v3 v4 v5 lv u1 u2 u4 u5:Zf}
variable {xs:List Zf}
variable {α:Type}
variable {S K Sn T:Nat->Prop}
variable {o l nums over:List Int}
variable {c:A_}
def TT (n:Nat)(w:Zb)(x:Nat):Prop:=n<=x/\∃a e,w.heap[x]?=some (.cells a e (0,0))/\(e=3\/e=64\/e=80)
def TT.lt {n:Nat}{w:Zb}{x:Nat}(h:TT n w x):x<w:=by
 obtain⟨_,a,e,h,_⟩:=h;exact(Za.1 h).1
def TT.new {n:Nat}{w:Zb}{x:Nat}(h:TT n w x):Cb n w x:=⟨h.1,h.lt⟩
def TT.mono (h:TT n w x)(a:m<=n):TT m w x:=⟨Zr a h.1,h.2⟩
variable {cs:Array Zf}
def TT.not (h:TT n w x)(c:w.heap[x]?=some (.cells cs e (0,0)))(a:e≠3/\e≠64/\e≠80):False:=by
 obtain⟨_,f,g,b,d⟩:=h;rw[c]at b;cases b;rcases d with h|h|h
 .exact a.1 h
 .exact a.2.1 h
 exact a.2.2 h
def TT.of (h:TT n w x)(a:W.heap[x]?=w.heap[x]?):TT n W x:=⟨h.1,by rw[a];exact h.2⟩
section
variable {n:Nat}{A B:Zb}{T:Nat->Prop}
def Rn (h:SI (TT n A) A u l)(d:Ak T A B)(c:∀x,TT n A x->¬T x):SI (TT n B) B u l:=
 Sl.imp (h.Ar (d.same c)) (λb a=>a.of (d.block b a.lt (c b a))) λ_ _ x=>x
def mL {l:List (Int×Int)}(h:SP (TT n A) A u l)(d:Ak T A B)(c:∀x,TT n A x->¬T x):SP (TT n B) B u l:=
 Sl.imp (SP.Ar h (d.same c)) (λb a=>a.of (d.block b a.lt (c b a))) λ_ _ x=>x
variable {s:Ay}
def xR {cs:List Zf}(h:Rs (TT n A) A cs s)(b:Ak T A B)(a:∀x,TT n A x->¬T x):Rs (TT n B) B cs s:=by
 obtain⟨v2,v3,e,d,c⟩:=h;exact⟨v2,v3,e,mL d b a,Rn c b a⟩
def Ei (h:SI (TT n A) A u l)(a:Bl A B):SI (TT n B) B u l:=Rn (T:=λ_=>False) h ((Ak.later a).mono λ_ x=>x) λ_ _ x=>x
def M6 {l:List (Int×Int)}(h:SP (TT n A) A u l)(a:Bl A B):SP (TT n B) B u l:=mL (T:=λ_=>False) h ((Ak.later a).mono λ_ x=>x) λ_ _ x=>x
def LQ (h:SI (TT n A) A u l)(a:m<=n):SI (TT m A) A u l:=Sl.imp h (λ_ b=>b.mono a) λ_ _ x=>x
def Ug {l:List (Int×Int)}(h:SP (TT n A) A u l)(a:m<=n):SP (TT m A) A u l:=Sl.imp h (λ_ b=>b.mono a) λ_ _ x=>x
end
def Own.tt {base:Nat}(h:Own w base v l):SI (TT base w) w v l:=
 Sl.imp (Lg (R:=Ri) d! h λi x c=>by
  rw[Nat.mul_one];obtain⟨d,e⟩:=Zm.1 c;rw[ZO (by simpa using d)];simp[Ri,e]) (λb a=>⟨a.1.1,by obtain⟨cs,h⟩:=a.2;exact⟨cs,3,h,.inl rfl⟩⟩) λ_ _ x=>x
def Own.mono {base:Nat}(h:Own w base v l)(d:m<=base):Own w m v l:=by
 refine⟨h.1,?_⟩;rcases h.2 with a|⟨g,c,b,a,f,e⟩
 .exact .inl a
 exact .inr ⟨g,c,b,a,Zr d f,e⟩
def Own.CN {base:Nat}(h:Own A base v l)(c:Ak T A B)(a:∀b,base<=b->¬T b):Own B base v l:=CO c a h
def aoO {l:List (Int×Int)}(h:Sl S Rp 2 w v l)(q:l.length<=1000):Calls Lp 40 #[v] w λe w'=>∃u,e=.returned u/\Bl w w'/\SP (TT w w') w' u l:=by
 obtain⟨a,c,rfl,T,R⟩:=h.val;obtain⟨B,G,O,Q,P⟩:=zp Wu;have C:=Cz Zdg;cases a with
 |none=>
  have D:l=[]:=by
   cases l with
   |nil=>rfl
   |cons x r=>
    obtain⟨V,U,m,_,_,I⟩:=h;cases m;obtain⟨b,o,cs,e,_⟩:=I 0 x rfl;cases e
  subst D;go_enter Lp.func40,n40;go_wp2;go_ret;exact⟨_,rfl,bA (Zh _ _),_,0,rfl,Zj _,Zp _,λi x f=>by cases f⟩
 |some y=>
  obtain⟨d,p,g,s⟩:=Sl.row h d! y rfl;have m:=row_one d! p g bC;have M:=Zd s;have L:=Zd g;clear s g;go_enter Lp.func40,n40;go_wp2_with (at_builtin;refine Yc _ rfl _ _ 23 rfl w 80 B (.agg #[.int J 0,.int J 0]) 2 16 C (Dz G) O Q P rfl d! _ 0 [] rfl (YC w #[] 0 (Zj _) (Zp _) rfl) y l.length c d rfl p (λj u F=>ca (M.out j u F) _) m u! o! i! ?_;intro A w1 n z N);have H:Bl w w1:=Bm (bA (Zh _ _)) z (λk E=>by cases E;exact Zj _) i!;rw[zN,zP]at n;have K:SP (TT w w1) w1 A l:=Sl.imp (Lg d! n λi x f=>L.out i x f) (λb t=>⟨t.1.1,by obtain⟨cs,h⟩:=t.2;exact⟨cs,80,h,.inr (.inr rfl)⟩⟩) λ_ _ x=>x;clear n z N;go_ret;exact⟨_,rfl,H,K⟩
variable {lo hi y:Int}
variable {Ap:List (Int×Int)}
def aoP {left:Int}(hp:SP S w v2 Ap)(V:SI S w v3 over)(h2:Ap.length<=1000)(h3:over.length<=1000):
  Calls Lp 86 #[.agg #[.int J lo,.int J hi,v2,v3,.int J left]] w λe w'=>∃u2 u3,e=.returned (.agg #[.int J lo,.int J hi,u2,u3,.int J left])/\Bl w w'/\SP (TT w w') w' u2 Ap/\Own w' w u3 over:=by
 obtain⟨Q,P,rfl,l2,m2⟩:=hp.val;obtain⟨K,I,rfl,l3,m3⟩:=V.val;have IX:=DJ;go_enter Lp.func86,n86;go_wp2;obtain⟨a,N⟩:=Qnm ((w.alloc (C #[.int J lo,.int J hi,U Q Ap.length P,U K over.length I,.int J left] 62)).alloc (C #[.int J 0,.int J 0,(),(),.int J 0] 62));have q:Bl w a:=by rw[N];exact bA (bA (Zh _ _))
 have G:a.heap[w.heap.size]?=some (C #[.int J lo,.int J hi,U Q Ap.length P,U K over.length I,.int J left] 62 (0,0)):=by rw[N];exact Bf (Bp _ _) _
 have F:a.heap[w.heap.size+1]?=some (C #[.int J 0,.int J 0,(),(),.int J 0] 62 (0,0)):=by rw[N];exact Jq _ _ _
 rw[<-N];clear N;have z2:=λp=>Al p (ch (i:=2) G (v:=.slice Q Ap.length P) rfl);have z3:=λp=>Al p (ch (i:=3) G (v:=.slice K over.length I) rfl);refine B0 (S:=λW=>∃p,W=calm a p) [7,8,9,10] [(false,0),(false,3),(true,7),(false,6),(false,8),(false,9),(false,10)] [1,2,4,5] k! (λ_ _ d _ _ h=>by cases d<;>exact h) k! (AL (Zh _ _).drew) ?_;refine A4 _ _ k! ?_;simp only[Z6,zd,ZG,ZD,ZC]
 repeat (first|go_big_quiet_step (fail)|quiet_step (fail))
 refine Z4 ?_;clear z2 z3;change Dl _ _ _ _ _ _ _;have O:Bl a (a.drew.alloc (C #[] 64)):=bA (Zh _ _).drew;refine JZ (v:=.slice a 0 0) (w':=a.drew.alloc (C #[] 64)) rfl rfl g! (.inr (AL O)) ?_;cases z:Q with
 |none=>
  subst z;have hl:Ap=[]:=by
   cases Ap with
   |nil=>rfl
   |cons x r=>obtain⟨b,o,e,_⟩:=hp.at_ (i:=0) i!;cases e
  subst hl;refine JZ (v:=.slice a 0 0) (w':=a.drew.alloc (C #[] 64)) rfl rfl g! (.inr (AL O)) ?_;obtain⟨m,Jy⟩:=Qnm (a.drew.alloc (C #[] 64));obtain⟨u2,Y⟩:∃u2:Zf,u2=.slice a 0 0:=⟨_,rfl⟩;have D:SP (TT a m) m u2 []:=⟨_,0,Y,Zj _,Zp _,λi x c=>by cases c⟩;have g:Bl a m:=by rw[Jy];exact O
  rw[<-Jy, <-Y];clear Jy Y;have Z:=q.trans (g.mono q.size);refine NZ (v:=.pointer (some ⟨w,2,none⟩)) rfl rfl (λw=>g!) ?_;refine Dd (f:=32) (args:= #[U K over.length I]) rfl rfl g! ((WO (V.later Z) h3).mono ?_);rintro e l ⟨u3,rfl,E,A⟩;have n:=g.trans (E.mono g.size);refine⟨u3,rfl,.inr (AL n),?_⟩;obtain⟨t,d2,rfl,_⟩:=D.val;obtain⟨s,d3,rfl,_⟩:=A.si.val;have Qo:=q.trans (n.mono q.size);have B:=(n.block _ (Za.1 G).1).trans G;have M:=(n.block _ (Za.1 F).1).trans F;have Rb:w+1<a.heap.size:=(Za.1 F).1;have R:a<=m.heap.size:=g.size;have T:SP (TT a l) l (U t 0 d2) []:=M6 D E;have n3:Own l a (U s over.length d3) over:=A.mono R;refine LD _ _ _ k! (λx c w=>.inl ?_) ?_
  .revert x;decide
  simp only[Gd,ZG,ZD,ZC];obtain⟨g0,g1,g2,g3,g4⟩:=Qc5 B;have f2:=cf (i:=2) B;have f3:=cf (i:=3) B;obtain⟨x0,x1,x2,x3,x4⟩:=Qc5 M;obtain⟨y0,y1,y2,y3,y4⟩:=Qf5 M;clear E D A;go_wp2;refine ZN (v:=.agg #[.int J lo,.int J hi,U t 0 d2,U s over.length d3,.int J left]) (by rw[A8 rfl];go_simp) rfl ?_;have y:∀X,Bl w X->Ak (λx=>x<a.heap.size) l X->∃u2 u3,Zbx (.agg #[.int J lo,.int J hi,U t 0 d2,U s over.length d3,.int J left])=.returned (.agg #[.int J lo,.int J hi,u2,u3,.int J left])/\Bl w X/\SP (TT w X) X u2 []/\Own X w u3 over:=λX Ov L=>
   ⟨_,_,rfl,Ov,Ug (mL T L λx c h=>by have:=c.1;omega) o!,(n3.CN L λx c h=>o!).mono o!⟩
  refine y _ ?_ ?_
  .repeat (with_reducible first|exact Qo|(refine bS ?_ o!))
  .repeat (with_reducible first|exact Ak.refl _ _|(refine Ak.set ?_ (show _<_ by omega)))
 |some ad=>
  obtain⟨H,hn,hR,hc⟩:=Sl.row hp d! ad z;have h1:=row_one d! hn hR bC;obtain⟨i0,DN,Fl,DR,EB⟩:=zp Wv;have hu:=Cz Zcz;refine PW rfl rfl ?_;refine Zak _ _ _ 60 rfl a 64 i0 (.agg #[.int J 0,.int J 0]) 2 16 hu (Dz DN) Fl DR EB rfl d! _ 0 [] rfl (YC a.drew #[] 0 (Zj _) (Zp _) rfl) ad Ap.length P H (by rw[<-z];rfl) hn (λj u hj=>?_) h1 u! o! i! ?_
  .exact ca (show a.cell? _=_ from(q.cell (ZH w _ (hc j u hj))).trans (hc j u hj)) _
  intro u2 m AX AG Gc;have g:Bl a m:=Bm O AG (λk hk=>by cases hk;exact Zj _) i!;refine⟨.inr (AL g),?_⟩;have D:SP (TT a m) m u2 Ap:=Sl.imp (Lg d! (by rw[zN,zP]at AX;exact AX) (λi x c=>hR i x c)) (λb hb=>⟨hb.1.1,by obtain⟨cs,h⟩:=hb.2;exact⟨cs,64,h,.inr (.inl rfl)⟩⟩) λ_ _ x=>x;clear AX AG Gc;have Z:=q.trans (g.mono q.size);refine NZ (v:=.pointer (some ⟨w,2,none⟩)) rfl rfl (λw=>g!) ?_;refine Dd (f:=32) (args:= #[U K over.length I]) rfl rfl g! ((WO (V.later Z) h3).mono ?_);rintro e l ⟨u3,rfl,E,A⟩;have n:=g.trans (E.mono g.size);refine⟨u3,rfl,.inr (AL n),?_⟩;obtain⟨t,d2,rfl,_⟩:=D.val;obtain⟨s,d3,rfl,_⟩:=A.si.val;have Qo:=q.trans (n.mono q.size);have B:=(n.block _ (Za.1 G).1).trans G;have M:=(n.block _ (Za.1 F).1).trans F;have Rb:w+1<a.heap.size:=(Za.1 F).1;have R:a<=m.heap.size:=g.size;have T:SP (TT a l) l (U t Ap.length d2) Ap:=M6 D E;have n3:Own l a (U s over.length d3) over:=A.mono R;refine LD _ _ _ k! (λx c w=>.inl ?_) ?_
  .revert x;decide
  simp only[Gd,ZG,ZD,ZC];obtain⟨g0,g1,g2,g3,g4⟩:=Qc5 B;have f2:=cf (i:=2) B;have f3:=cf (i:=3) B;obtain⟨x0,x1,x2,x3,x4⟩:=Qc5 M;obtain⟨y0,y1,y2,y3,y4⟩:=Qf5 M;clear E D A;go_wp2;refine ZN (v:=.agg #[.int J lo,.int J hi,U t Ap.length d2,U s over.length d3,.int J left]) (by rw[A8 rfl];go_simp) rfl ?_;have y:∀X,Bl w X->Ak (λx=>x<a.heap.size) l X->∃u2 u3,Zbx (.agg #[.int J lo,.int J hi,U t Ap.length d2,U s over.length d3,.int J left])=.returned (.agg #[.int J lo,.int J hi,u2,u3,.int J left])/\Bl w X/\SP (TT w X) X u2 Ap/\Own X w u3 over:=λX Ov L=>
   ⟨_,_,rfl,Ov,Ug (mL T L λx c h=>by have:=c.1;omega) o!,(n3.CN L λx c h=>o!).mono o!⟩
  refine y _ ?_ ?_
  .repeat (with_reducible first|exact Qo|(refine bS ?_ o!))
  repeat (with_reducible first|exact Ak.refl _ _|(refine Ak.set ?_ (show _<_ by omega)))
def En (n:Nat)(w:Zb)(base:Nat)(v:Zf)(l:List Ay):Prop:=∃a,w.ownsRow base 62 5 v l.length a/\∀(i:Nat) (x:Ay),l[i]?=some x->Rs (TT n w) w ((a.drop (i*5)).take 5) x
def En.CN {base:Nat}{l:List Ay}(h:En n A base v l)(d:Ak T A B)(k:∀x,TT n A x->¬T x)(m:∀g,v.ownBlock=some g->¬T g):En n B base v l:=by
 obtain⟨a,j,q⟩:=h;refine⟨a,⟨j.1,?_⟩,λi x hi=>xR (q i x hi) d k⟩;rcases j.2 with h|⟨g,c,b,e,p,f,o⟩
 .exact .inl h
 exact .inr ⟨g,c,b,e,p,(d.block g (Za.1 f).1 (m g (by rw[e];rfl))).trans f,o⟩
def En.later {base:Nat}{l:List Ay}(h:En n A base v l)(a:Bl A B):En n B base v l:=h.CN (T:=λ_=>False) ((Ak.later a).mono λ_ x=>x) (λ_ _ x=>x) λ_ _ x=>x
def En.val {base:Nat}{l:List Ay}(h:En n w base v l):∃a c,v=.slice a l.length c/\l.length<=c/\c<=maxLen:=by
 obtain⟨d,k,_⟩:=h;rcases k.2 with⟨e,j⟩|⟨g,b,m,e,p,o,i,f,_⟩
 .exact⟨none,0,by rw[e,j],o!,Zp _⟩
 exact⟨_,b,e,i,f⟩
def En.own {base:Nat}{l:List Ay}(h:En n w base v l):∀g,v.ownBlock=some g->base<=g/\∃cs,w.heap[g]?=some (.cells cs 62 (0,0)):=by
 obtain⟨c,i,_⟩:=h;intro g a;rcases i.2 with⟨e,_⟩|⟨m,j,b,e,f,d,k⟩
 .rw[e]at a;cases a
 rw[e]at a;cases a;exact⟨f,b,d⟩
def En.ss {base:Nat}{l:List Ay}(h:En n w base v l)(j:n<=base):SS (Cb n w) w v l:=by
 obtain⟨c,m,k⟩:=h;refine Sl.imp (O6 (R:=Rs (Cb n w)) d! m λi x g=>?_) (λb a=>⟨Zr j a.1,a.2⟩) λ_ _ x=>x;obtain⟨v2,v3,e,f,d⟩:=k i x g;exact⟨v2,v3,e,Sl.imp f (λb a=>a.new) λ_ _ x=>x,Sl.imp d (λb a=>a.new) λ_ _ x=>x⟩
variable {s:Ay}
def En.snoc {base:Nat}{v':Zf}{l:List Ay}{vals cells:List Zf}(c:∀(i:Nat) (x:Ay),l[i]?=some x->Rs (TT n B) B ((vals.drop (i*5)).take 5) x)(hl:vals.length=l.length*5)(e:cells.length=5)(a:Rs (TT n B) B cells s)(b:B.ownsRow base 62 5 v' (l.length+1) (vals++cells)):En n B base v' (l++ [s]):=by
 refine⟨vals++cells,by rw[ZA];exact b,λi x hi=>?_⟩;by_cases h:i<l.length
 .rw[zl h]at hi
  have:=c i x hi;rwa[List.drop_append_of_le_length o!,List.take_append_of_le_length j!]
 have d:=(Zm.1 hi).1;rw[ZA,zb,zR]at d;obtain rfl:i=l.length:=o!
 rw[Y1]at hi;cases hi;rw[<-hl,List.drop_left,Zb3 o!];exact a
structure CT (n:Nat)(w:Zb)(u1 u2 u3 u4 u5:Zf)(c:A_):Prop where
 base:SI (TT n w) w u1 c.base
 Af:SP (TT n w) w u2 c.Af
 hooks:SI (TT n w) w u3 c.hooks
 now:SI (TT n w) w u5 c.now
 row:En n w n u4 c.Aa
def CT.rc {u3:Zf}(h:CT n w u1 u2 u3 u4 u5 c):RC (Cb n w) w u1 u2 u3 u4 u5 c:=
 ⟨Sl.imp h.base (λb a=>a.new) λ_ _ x=>x,Sl.imp h.Af (λb a=>a.new) λ_ _ x=>x,Sl.imp h.hooks (λb a=>a.new) λ_ _ x=>x,h.row.ss (Zj _),Sl.imp h.now (λb a=>a.new) λ_ _ x=>x⟩
def CT.CN {u3:Zf}(h:CT n A u1 u2 u3 u4 u5 c)(b:Ak T A B)(a:∀x,TT n A x->¬T x)(d:∀g,u4.ownBlock=some g->¬T g):CT n B u1 u2 u3 u4 u5 c:=
 ⟨Rn h.base b a,mL h.Af b a,Rn h.hooks b a,Rn h.now b a,h.row.CN b a d⟩
def Ro (w:Zb)(c:A_)(e:Ending)(w':Zb):Prop:=∃u1 u2 u3 u4 u5,e=.returned (.agg #[u1,u2,u3,u4,u5])/\Bl w w'/\CT w w' u1 u2 u3 u4 u5 c
def En.mono {l:List Ay}(h:En n w n v l)(b:m<=n):En m w m v l:=by
 obtain⟨a,f,q⟩:=h;refine⟨a,⟨f.1,?_⟩,λi x hi=>?_⟩
 .rcases f.2 with h|⟨g,d,c,e,p,o⟩
  .exact .inl h
  exact .inr ⟨g,d,c,e,Zr b p,o⟩
 obtain⟨v2,v3,e,k,j⟩:=q i x hi;exact⟨v2,v3,e,Ug k b,LQ j b⟩
def Hc (w:Zb)(l:List Zf)(t:Zs):∀j u,l[j]?=some u->(w.alloc (.cells l.toArray t)).cell? ((w:Addr).add j)=some u:=by
 intro j u a;rw[show(w:Addr).add j=⟨w,j,none⟩ by unfold Zcu;split<;>simp_all];exact cn _ _ _ (by simpa using a)
structure CR (w:Zb)(n0 q:Nat)(xs:Array Zf)(s1 s2 s3 s5:Zf)(c:A_)(k:Nat)(v4:Zf)(wr:Zb):Prop where
 below:Bl w wr
 box:wr.heap[w.heap.size]?=some (.cells xs 26 (0,0))
 res:wr.heap[w.heap.size+1]?=some (C Qz6 26 (0,0))
 qx:wr.heap[q]?=some (C #[s1,s2,s3,v4,s5] 26 (0,0))
 base:SI (TT n0 wr) wr s1 c.base
 Af:SP (TT n0 wr) wr s2 c.Af
 hooks:SI (TT n0 wr) wr s3 c.hooks
 now:SI (TT n0 wr) wr s5 c.now
 row:En n0 wr n0 v4 (c.Aa.take k)
 z:n0<=wr.heap.size
def aoQ (h:RC S w v1 v2 v3 v4 v5 c)(hS:Ql6 S w)(ig:c.base.length<=1000)(b8:c.Af.length<=1000)(bV:c.hooks.length<=1000)(Xm:c.Aa.length<=1000)(UO:c.now.length<=1000)(xB:∀i,i<c.Aa.length->(Aj c.Aa i).Ap.length<=1000/\(Aj c.Aa i).over.length<=1000):
  Calls Lp 33 #[.agg #[v1,v2,v3,v4,v5]] w (Ro w c):=by
 obtain⟨a1,c1,a2,c2,a3,c3,a4,c4,a5,c5,rfl,rfl,rfl,rfl,rfl,l1,m1,l2,m2,l3,m3,l4,m4,l5,m5⟩:=h.vs;have IX:=DJ;go_enter Lp.func33,n33;go_wp2;obtain⟨r,Hv⟩:=Qnm ((w.alloc (C (Qe6 c a1 c1 a2 c2 a3 c3 a4 c4 a5 c5) 26)).alloc (C Qz6 26));have T:Bl w r:=by rw[Hv];exact bA (bA (Zh _ _))
 have F1:r.heap[w.heap.size]?=some (C (Qe6 c a1 c1 a2 c2 a3 c3 a4 c4 a5 c5) 26 (0,0)):=by rw[Hv];exact Bf (Bp _ _) _
 have O9:r.heap[w.heap.size+1]?=some (C Qz6 26 (0,0)):=by rw[Hv];exact Jq _ _ _
 rw[<-Hv];clear Hv;have bv:w+1<r.heap.size:=(Za.1 O9).1;refine Code.wp_mono (Q:=λe a' V=>e=.normal/\∃(q:Nat) (H G F E:Option Addr) (d1 d2 d3 I:Nat) (x5 x6 x7 x8 x9 jX Qj am MH Lx Ly K0 K1:Zf),a'= {tmps:= #[.agg #[U a1 c.base.length c1,U a2 c.Af.length c2,U a3 c.hooks.length c3,U a4 c.Aa.length c4,U a5 c.now.length c5],.pointer w,.pointer (w+1:Nat),.pointer q,Ze,x5,x6,x7,x8,x9,jX,Qj,am,MH,Lx,Ly,K0,K1,Ze,Ze,Ze,Ze,Ze,Ze,Ze,Ze,Ze,Ze,Ze,Ze,Ze,Ze,Ze,Ze,Ze,Ze,Ze],defers:=[]}/\w+1<q/\Bl r V/\V.heap[q]?=some (C #[U H c.base.length d1,U G c.Af.length d2,U F c.hooks.length d3,(),U E c.now.length I] 26 (0,0))/\SI (TT r V) V (U H c.base.length d1) c.base/\SP (TT r V) V (U G c.Af.length d2) c.Af/\SI (TT r V) V (U F c.hooks.length d3) c.hooks/\SI (TT r V) V (U E c.now.length I) c.now) ?rest ?first
 case first=>
  have z0:=λp=>Al p (ch (i:=0) F1 (v:=.slice a1 c.base.length c1) rfl);have z1:=λp=>Al p (ch (i:=1) F1 (v:=.slice a2 c.Af.length c2) rfl);have z2:=λp=>Al p (ch (i:=2) F1 (v:=.slice a3 c.hooks.length c3) rfl);have z4:=λp=>Al p (ch (i:=4) F1 (v:=.slice a5 c.now.length c5) rfl);refine G6 (S:=λW=>∃p,W=calm r p) [0,1,3,4,6,7,9,10] 7 #[true,true,false,true,true,false,true,true,false,true,true,false,false,false,false] k! (λ_ _ _ _ _ h=>nomatch h.1) k! (AL (Zh _ _).drew) ?_;refine A4 _ _ k! ?_;simp only[Z6,zd,ZG,ZD,ZC]
  repeat (first|go_big_quiet_step (fail)|quiet_step (fail))
  refine Z4 ?_;clear z0 z1 z2 z4;change Cy _ _ _ _ _ _ _ _ _;obtain⟨V,hV⟩:=Qnm r.drew;have b:Bl r V:=by rw[hV];exact(Zh _ _).drew
  rw[<-hV];clear hV;have l:=Yz;have t:=Yz;have s:=Yz;have n3:=Yz;have n5:=Yz;refine AK [2,13] k! i! (Ix ?gA2 ?gB2)
  case' gB2=>
   refine EX (v:=.pointer V) (w':=V.alloc (C Qz6 26)) rfl rfl g! ?_;obtain⟨o,m⟩:=Qnm (V.alloc (C Qz6 26));have a:Bl V o:=by rw[m];exact bA (Zh _ _)
   have l:o.heap[V.heap.size]?=some (C Qz6 26 (0,0)):=by rw[m];exact Bp _ _
   have B:=b.size;obtain⟨q,y⟩:=Qnm V.heap.size;rw[<-y]at l B
   try (have t:=Ei t a)
   try (have s:=M6 s a)
   try (have n3:=Ei n3 a)
   try (have n5:=Ei n5 a)
   have b:=b.trans (a.mono b.size);rw[<-m, <-y];refine⟨AL b,?_⟩;clear a y m;obtain⟨V,L⟩:∃R,R=o:=⟨_,rfl⟩;subst L;refine AK [2] k! i! (BF ?_)
  all_goals
   refine DK (f:=32) (args:= #[U a1 c.base.length c1]) rfl rfl g! ((WO (h.later (T.trans (b.mono T.size))).base ig).mono ?_);rintro e V ⟨u,rfl,a,D⟩;have t:=LQ D.tt b.size;obtain⟨H,d1,rfl,_,_⟩:=t.val;clear D
   try (have l:=(a.block _ (Za.1 l).1).trans l)
   try (have s:=M6 s a)
   try (have n3:=Ei n3 a)
   try (have n5:=Ei n5 a)
   have b:=b.trans (a.mono b.size);refine .inl ⟨_,rfl,AL b,?_⟩;clear a
  all_goals first
   |(have kL:=Za.1 l;clear kL;refine AK [5] k! i! (BF ?_))
   |(refine AK [5,13] k! i! (Ix ?gA5 ?gB5)
     case' gB5=>
      refine EX (v:=.pointer V) (w':=V.alloc (C Qz6 26)) rfl rfl g! ?_;obtain⟨o,m⟩:=Qnm (V.alloc (C Qz6 26));have a:Bl V o:=by rw[m];exact bA (Zh _ _)
      have l:o.heap[V.heap.size]?=some (C Qz6 26 (0,0)):=by rw[m];exact Bp _ _
      have B:=b.size;obtain⟨q,y⟩:=Qnm V.heap.size;rw[<-y]at l B
      try (have t:=Ei t a)
      try (have s:=M6 s a)
      try (have n3:=Ei n3 a)
      try (have n5:=Ei n5 a)
      have b:=b.trans (a.mono b.size);rw[<-m, <-y];refine⟨AL b,?_⟩;clear a y m;obtain⟨V,L⟩:∃R,R=o:=⟨_,rfl⟩;subst L;refine AK [5] k! i! (BF ?_))
  all_goals
   refine DK (f:=40) (args:= #[U a2 c.Af.length c2]) rfl rfl g! ((aoO (h.later (T.trans (b.mono T.size))).Af b8).mono ?_);rintro e V ⟨u,rfl,a,D⟩;have s:=Ug D b.size;obtain⟨G,d2,rfl,_,_⟩:=s.val;clear D
   try (have l:=(a.block _ (Za.1 l).1).trans l)
   try (have t:=Ei t a)
   try (have n3:=Ei n3 a)
   try (have n5:=Ei n5 a)
   have b:=b.trans (a.mono b.size);refine .inl ⟨_,rfl,AL b,?_⟩;clear a
  all_goals first
   |(have kL:=Za.1 l;clear kL;refine AK [8] k! i! (BF ?_))
   |(refine AK [8,13] k! i! (Ix ?gA8 ?gB8)
     case' gB8=>
      refine EX (v:=.pointer V) (w':=V.alloc (C Qz6 26)) rfl rfl g! ?_;obtain⟨o,m⟩:=Qnm (V.alloc (C Qz6 26));have a:Bl V o:=by rw[m];exact bA (Zh _ _)
      have l:o.heap[V.heap.size]?=some (C Qz6 26 (0,0)):=by rw[m];exact Bp _ _
      have B:=b.size;obtain⟨q,y⟩:=Qnm V.heap.size;rw[<-y]at l B
      try (have t:=Ei t a)
      try (have s:=M6 s a)
      try (have n3:=Ei n3 a)
      try (have n5:=Ei n5 a)
      have b:=b.trans (a.mono b.size);rw[<-m, <-y];refine⟨AL b,?_⟩;clear a y m;obtain⟨V,L⟩:∃R,R=o:=⟨_,rfl⟩;subst L;refine AK [8] k! i! (BF ?_))
  all_goals
   refine DK (f:=32) (args:= #[U a3 c.hooks.length c3]) rfl rfl g! ((WO (h.later (T.trans (b.mono T.size))).hooks bV).mono ?_);rintro e V ⟨u,rfl,a,D⟩;have n3:=LQ D.tt b.size;obtain⟨F,d3,rfl,_,_⟩:=n3.val;clear D
   try (have l:=(a.block _ (Za.1 l).1).trans l)
   try (have t:=Ei t a)
   try (have s:=M6 s a)
   try (have n5:=Ei n5 a)
   have b:=b.trans (a.mono b.size);refine .inl ⟨_,rfl,AL b,?_⟩;clear a
  all_goals first
   |(have kL:=Za.1 l;clear kL;refine AK [11] k! i! (BF ?_))
   |(refine AK [11,13] k! i! (Ix ?gA11 ?gB11)
     case' gB11=>
      refine EX (v:=.pointer V) (w':=V.alloc (C Qz6 26)) rfl rfl g! ?_;obtain⟨o,m⟩:=Qnm (V.alloc (C Qz6 26));have a:Bl V o:=by rw[m];exact bA (Zh _ _)
      have l:o.heap[V.heap.size]?=some (C Qz6 26 (0,0)):=by rw[m];exact Bp _ _
      have B:=b.size;obtain⟨q,y⟩:=Qnm V.heap.size;rw[<-y]at l B
      try (have t:=Ei t a)
      try (have s:=M6 s a)
      try (have n3:=Ei n3 a)
      try (have n5:=Ei n5 a)
      have b:=b.trans (a.mono b.size);rw[<-m, <-y];refine⟨AL b,?_⟩;clear a y m;obtain⟨V,L⟩:∃R,R=o:=⟨_,rfl⟩;subst L;refine AK [11] k! i! (BF ?_))
  all_goals
   refine DK (f:=32) (args:= #[U a5 c.now.length c5]) rfl rfl g! ((WO (h.later (T.trans (b.mono T.size))).now UO).mono ?_);rintro e V ⟨u,rfl,a,D⟩;have n5:=LQ D.tt b.size;obtain⟨E,I,rfl,_,_⟩:=n5.val;clear D
   try (have l:=(a.block _ (Za.1 l).1).trans l)
   try (have t:=Ei t a)
   try (have s:=M6 s a)
   try (have n3:=Ei n3 a)
   have b:=b.trans (a.mono b.size);refine .inl ⟨_,rfl,AL b,?_⟩;clear a
  all_goals first
   |(have kL:=Za.1 l;clear kL;refine AK [12] k! i! (BF ?_)
     refine EX (v:=.agg #[U H c.base.length d1,U G c.Af.length d2,U F c.hooks.length d3,(),U E c.now.length I]) (w':=V) rfl rfl g! ?_;refine⟨AL b,?_⟩)
   |(refine AK [12,13] k! i! (Ix ?gA12 ?gB12)
     case' gB12=>
      refine EX (v:=.pointer V) (w':=V.alloc (C Qz6 26)) rfl rfl g! ?_;obtain⟨o,m⟩:=Qnm (V.alloc (C Qz6 26));have a:Bl V o:=by rw[m];exact bA (Zh _ _)
      have l:o.heap[V.heap.size]?=some (C Qz6 26 (0,0)):=by rw[m];exact Bp _ _
      have B:=b.size;obtain⟨q,y⟩:=Qnm V.heap.size;rw[<-y]at l B
      try (have t:=Ei t a)
      try (have s:=M6 s a)
      try (have n3:=Ei n3 a)
      try (have n5:=Ei n5 a)
      have b:=b.trans (a.mono b.size);rw[<-m, <-y];refine⟨AL b,?_⟩;clear a y m;obtain⟨V,L⟩:∃R,R=o:=⟨_,rfl⟩;subst L;refine AK [12] k! i! (BF ?_);refine EX (v:=.agg #[U H c.base.length d1,U G c.Af.length d2,U F c.hooks.length d3,(),U E c.now.length I]) (w':=V) rfl rfl g! ?_;refine⟨AL b,?_⟩
     case' gA12=>
      refine EX (v:=.agg #[U H c.base.length d1,U G c.Af.length d2,U F c.hooks.length d3,(),U E c.now.length I]) (w':=V) rfl rfl g! ?_;refine⟨AL b,?_⟩;refine AK [13] k! i! (BF ?_);refine EX (v:=.pointer V) (w':=V.alloc (C Qz6 26)) rfl rfl g! ?_;obtain⟨o,m⟩:=Qnm (V.alloc (C Qz6 26));have a:Bl V o:=by rw[m];exact bA (Zh _ _)
      have l:o.heap[V.heap.size]?=some (C Qz6 26 (0,0)):=by rw[m];exact Bp _ _
      have B:=b.size;obtain⟨q,y⟩:=Qnm V.heap.size;rw[<-y]at l B
      try (have t:=Ei t a)
      try (have s:=M6 s a)
      try (have n3:=Ei n3 a)
      try (have n5:=Ei n5 a)
      have b:=b.trans (a.mono b.size);rw[<-m, <-y];refine⟨AL b,?_⟩;clear a y m;obtain⟨V,L⟩:∃R,R=o:=⟨_,rfl⟩;subst L)
  all_goals
   refine AK [14] k! i! (BF ?_);obtain⟨g0,g1,g2,g3,g4⟩:=Qc5 l;obtain⟨f0,f1,f2,f3,f4⟩:=Qf5 l;obtain⟨o,m⟩:=Qnm (((((V.setCell q (U H c.base.length d1)).setCell ⟨q,1,none⟩ (U G c.Af.length d2)).setCell ⟨q,2,none⟩ (U F c.hooks.length d3)).setCell ⟨q,3,none⟩ ()).setCell ⟨q,4,none⟩ (U E c.now.length I));refine Rj (w':=o) rfl rfl (by rw[m];go_simp) ?_;have be:Bl r o:=by rw[m];exact bS (bS (bS (bS (bS b B) B) B) B) B
   have hT:Ak (λx=>x=q) V o:=by rw[m];exact(Ak.refl (λx=>x=q) V).DT.DT.DT.DT.DT
   have BL:∀x,TT r V x->¬x=q:=λx M e=>TT.not (e▸M) l ⟨d!,d!,d!⟩;refine⟨AL be,rfl,?_⟩;exact⟨rfl,q,H,G,F,E,d1,d2,d3,I,_,_,_,_,_,_,_,_,_,_,_,_,_,rfl,o!,be,by rw[m];exact Ba (Ba (Ba (Ba (Ba l _) _) _) _) _,Rn t hT BL,mL s hT BL,Rn n3 hT BL,Rn n5 hT BL⟩
 rintro e a' V ⟨rfl,q,H,G,F,E,d1,d2,d3,I,x5,x6,x7,x8,x9,jX,Qj,am,MH,Lx,Ly,K0,K1,rfl,B,b,l,t,s,n3,n5⟩;have b9:CR w r q #[U a1 c.base.length c1,U a2 c.Af.length c2,U a3 c.hooks.length c3,U a4 c.Aa.length c4,U a5 c.now.length c5] (U H c.base.length d1) (U G c.Af.length d2) (U F c.hooks.length d3) (U E c.now.length I) c 0 () V:=
  ⟨T.trans (b.mono T.size),(b.block _ (Za.1 F1).1).trans F1,(b.block _ bv).trans O9,l,t,s,n3,n5,⟨[],zq _ _ _ _,λi x M=>by cases M⟩,b.size⟩
 clear b l t s n3 n5 F1 O9 T;dsimp only;go_wp2;go_loopg [4] c.Aa.length (λg i wr=>∃(k:Nat) (v4:Zf),k<=c.Aa.length/\g=c.Aa.length - k/\i=.int J k/\CR w r q #[U a1 c.base.length c1,U a2 c.Af.length c2,U a3 c.hooks.length c3,U a4 c.Aa.length c4,U a5 c.now.length c5] (U H c.base.length d1) (U G c.Af.length d2) (U F c.hooks.length d3) (U E c.now.length I) c k v4 wr)
 case atStart=>exact⟨0,_,Zp _,rfl,rfl,b9⟩
 obtain⟨k,v4,hk,rfl,rfl,n⟩:=hrel;obtain⟨sl,NK⟩:=Qnm (c.Aa.take k);have ai:sl.length=k:=by rw[NK];simp;omega
 have Ci:=n.row;rw[<-NK]at Ci;obtain⟨Z,Y,rfl,_⟩:=Ci.val;rw[ai]at n Ci;by_cases Az:k<c.Aa.length
 .obtain⟨b4,o4,s2,s3,rfl,UQ,x0,x1,x2,x3,x4,hp,ho⟩:=h.Aa.at_ (i:=k) Az
  have Ga:∀j u,w.cell? ⟨b4,j,none⟩=some u->wr.cell? ⟨b4,j,none⟩=some u:=λj u D=>(n.below.cell (p:=⟨b4,j,none⟩) (hS b4 UQ)).trans D;replace x0:=Ga _ _ x0;replace x1:=Ga _ _ x1;replace x2:=Ga _ _ x2;replace x3:=Ga _ _ x3;replace x4:=Ga _ _ x4;clear Ga;replace hp:=hp.later n.below;replace ho:=ho.later n.below;obtain⟨Oq,Qm⟩:=xB k Az;obtain⟨sm,Qh⟩:=Qnm (Aj c.Aa k);have ct:=Zd (show c.Aa.take (k+1)=sl++ [sm] by rw[NK,Qh,ZbH,Db Az];rfl);rw[<-Qh]at x0 x1 x4 hp ho Oq Qm;clear Qh NK;obtain⟨low,z,Ap,over,left⟩:=sm;dsimp only at x0 x1 x4 hp ho Oq Qm;obtain⟨a6,c6,rfl,l6,m6⟩:=hp.val;obtain⟨a7,c7,rfl,l7,m7⟩:=ho.val;obtain⟨K,Ig⟩:∃K:Nat->Prop,K=λx=>x≠q/\w+1<x:=⟨_,rfl⟩;have LP:∀x,w.heap.size+1<x->x≠q->K x:=λx M l=>by rw[Ig];exact⟨l,M⟩
  have qF:¬K w:=by rw[Ig];intro x;omega
  have l_:¬K (w+1):=by rw[Ig];intro x;omega
  have Tg:¬K q:=by rw[Ig];exact λx=>x.1 rfl
  have Qn:¬K b4:=by rw[Ig];intro x;have:=hS b4 UQ;omega
  clear Ig;have z0:=λp:Tw K wr=>p.cell (ch (i:=3) n.box (v:=.slice (some ⟨b4,o4,none⟩) c.Aa.length c4) rfl) qF;have z1:=λp:Tw K wr=>p.cell (ch (i:=3) n.qx (v:=.slice Z k Y) rfl) Tg;have y0:=λp:Tw K wr=>p.cell x0 Qn;have y1:=λp:Tw K wr=>p.cell x1 Qn;have y2:=λp:Tw K wr=>p.cell x2 Qn;have y3:=λp:Tw K wr=>p.cell x3 Qn;have y4:=λp:Tw K wr=>p.cell x4 Qn;have TB:(k:Int)<(c.Aa.length:Int):=o!
  have fd:(0:Int)<=(k:Int):=o!
  have kD:q<wr:=(Za.1 n.qx).1;have kx:=ch (i:=3) n.box (v:=.slice (some ⟨b4,o4,none⟩) c.Aa.length c4) rfl;have bG:=n.below.size;have DR:w+1<wr.heap.size:=(Za.1 n.res).1;have Rb:r<=wr.heap.size:=n.z;go_wp2;clear kx;refine B0 (S:=λW=>∃p:Tw K wr,W=p.v) [11] [(false,7),(false,8),(false,9),(false,10),(false,11)] [0,1,2,3,4,5,6] k! (λ_ _ d _ _ h=>by cases d<;>exact h) k! (A5 (Ak.later (Zh _ _).drew)) ?_;refine A4 _ _ k! ?_;simp only[Z6,zd,ZG,ZD,ZC]
  repeat (first|go_big_quiet_step (fail)|quiet_step (fail))
  refine Z4 ?_;clear z0 z1 y0 y1 y2 y3 y4 x0 x1 x2 x3 x4;change Dl _ _ _ _ _ _ _;have Uh:Bl wr wr.drew:=(Zh _ _).drew;refine Dd (f:=86) (args:= #[.agg #[.int J low,.int J z,U a6 Ap.length c6,U a7 over.length c7,.int J left]]) rfl rfl g! ((aoP (hp.later Uh) (ho.later Uh) Oq Qm).mono ?_);rintro e w1 ⟨u2,u3,rfl,Bg,Hb,Lb⟩;have cu:Bl wr w1:=Uh.trans (Bg.mono (Zj _));have Kd:Ak K wr w1:=Ak.later cu;refine⟨_,rfl,.inr (A5 Kd),?_⟩;have Hb:SP (TT wr w1) w1 u2 Ap:=Hb;have Lb:SI (TT wr w1) w1 u3 over:=Own.tt Lb;obtain⟨p6,t6,rfl,_⟩:=Hb.val;obtain⟨p7,t7,rfl,_⟩:=Lb.val;obtain⟨uT,uU⟩:=Qnm (w1.alloc (C #[.int J low,.int J z,U p6 Ap.length t6,U p7 over.length t7,.int J left] 62));have Vn:Bl w1 uT:=by rw[uU];exact bA (Zh _ _)
  have Jp:=cu.trans (Vn.mono cu.size);have WQ:Ak K wr uT:=Ak.later Jp;refine JZ (v:=.slice w1 1 1) (w':=uT) rfl rfl (by rw[uU];go_simp) (.inr (A5 WQ)) ?_;obtain⟨an,AX,DF⟩:=Ci.later Jp;rw[ai]at AX;obtain⟨i0,hi,eL,k9,ck⟩:=zp eI;have ci:=Cz Tryz.underlying24;refine PW rfl rfl ?_;refine Zak _ _ _ 24 rfl r 62 i0 (.agg #[.int J 0,.int J 0,(),(),.int J 0]) 5 72 ci (Dz hi) eL k9 ck rfl d! _ k an rfl AX w1 1 1 [.int J low,.int J z,U p6 Ap.length t6,U p7 over.length t7,.int J left] rfl rfl (by rw[uU];exact Hc _ _ _) (by intro u D;simp at D;rcases D with rfl|rfl|rfl|rfl|rfl<;>rfl) u! o! (by have:=Jp.size;omega) ?_;intro v' w2 Cm AG Gc;have Em:∀g,(Zy Z k Y).ownBlock=some g->r.heap.size<=g/\∃cs,wr.heap[g]?=some (.cells cs 62 (0,0)):=Ci.own;have Js:Ak (λx=>(Zy Z k Y).ownBlock=some x) uT w2:=Ak.grown AG λg O=>O;have D3:Ak K wr w2:=WQ.trans (Ak.grown AG λg O=>by
   obtain⟨h1,cs,h2⟩:=Em g O;exact LP g o! (λe=>by subst e;rw[n.qx]at h2;cases h2))
  refine⟨.inr (A5 D3),?_⟩;obtain⟨g',Ey,rfl⟩:=Zay Cm;have M9:=(D3.block q kD Tg).trans n.qx;have f3:=cf (i:=3) M9;have e3:=ch (i:=3) M9 (v:=.slice Z k Y) rfl;refine Dw (v:=.pointer (some ⟨q,3,none⟩)) rfl rfl g! (.inr (A5 D3)) ?_;refine K8 (w':=w2.setCell ⟨q,3,none⟩ (U g' (k+1) Ey)) rfl rfl g! (.inl rfl) ?_;have bM:CR w r q #[U a1 c.base.length c1,U a2 c.Af.length c2,U a3 c.hooks.length c3,U (some ⟨b4,o4,none⟩) c.Aa.length c4,U a5 c.now.length c5] (U H c.base.length d1) (U G c.Af.length d2) (U F c.hooks.length d3) (U E c.now.length I) c (k+1) (U g' (k+1) Ey) (w2.setCell ⟨q,3,none⟩ (U g' (k+1) Ey)):=by
   have Th:Ak (λx=>x=q) w2 (w2.setCell ⟨q,3,none⟩ (U g' (k+1) Ey)):=(Ak.refl (λx=>x=q) w2).DT;have N:∀x,TT r w2 x->¬x=q:=λx M e=>TT.not (e▸M) M9 ⟨d!,d!,d!⟩;have ap:∀ {A:Zb} (hA:∀g cs,wr.heap[g]?=some (Zbi cs 62 (0,0))->A.heap[g]?=some (Zbi cs 62 (0,0))) x,TT r A x->¬(Zy Z k Y).ownBlock=some x:=λhA x M e=>by
    obtain⟨_,cs,h2⟩:=Em x e;exact TT.not M (hA x cs h2) ⟨d!,d!,d!⟩
   have P:Ak (λx=>(Zy Z k Y).ownBlock=some x) wr w2:=((Ak.later Jp).mono λ_ x=>x).trans Js;have uz:=ap (A:=wr) (λg cs h=>h);have rK:=ap (A:=uT) (λg cs h=>(Jp.block g (Za.1 h).1).trans h);refine⟨?_,?_,?_,Ba M9 _,Rn (Rn n.base P uz) Th N,mL (mL n.Af P uz) Th N,Rn (Rn n.hooks P uz) Th N,Rn (Rn n.now P uz) Th N,?_,by have:=P.size;simp;omega⟩
   .exact bS ((n.below.trans (Jp.mono n.below.size)).trans (Js.below (λg O=>by have:=(Em g O).1;omega) (by have:=Jp.size;omega))) o!
   .exact(AZ o! _).trans ((D3.block _ o! qF).trans n.box)
   .exact(AZ o! _).trans ((D3.block _ DR l_).trans n.res)
   rw[ct.out];refine En.CN (A:=w2) ?_ Th N (λg O e=>by
    cases O;subst e;rcases Cm.2 with⟨e,_⟩|⟨g,ed,du,e,_,h3,_⟩
    .cases e
    cases e;rw[M9]at h3;cases h3)
   rw[show k+1=sl.length+1 by rw[ai]]at*;have xG:Rs (TT r uT) uT [.int J low,.int J z,U p6 Ap.length t6,U p7 over.length t7,.int J left] ⟨low,z,Ap,over,left⟩:=⟨_,_,rfl,Ug (M6 Hb Vn) Rb,LQ (Ei Lb Vn) Rb⟩;exact En.snoc (λi x hi=>xR (DF i x hi) Js rK) (by have:=AX.1;rw[this,ai]) rfl (xR xG Js rK) Cm
  have dl:=Zd bM;clear bM n D3 Js WQ Kd Jp Vn uU Bg cu Hb Lb AX Cm DF AG Gc Em Ci f3 e3 M9 hp ho;unfold Dl
  go_simp
  go_wp2;go_roundg (c.Aa.length - (k+1))
  case rel=>exact⟨k+1,_,Az,rfl,v!,dl.out⟩
  omega
 have T5:k=c.Aa.length:=o!
 rw[T5,ZcU]at NK;subst NK;subst T5;have kx:=ch (i:=3) n.box (v:=.slice a4 c.Aa.length c4) rfl;obtain⟨s0,s1,s2,s3,s4⟩:=Qc5 n.qx;obtain⟨f0,f1,f2,f3,f4⟩:=Qf5 n.res;obtain⟨r0,r1,r2,r3,r4⟩:=Qc5 n.res;have kD:q<wr:=(Za.1 n.qx).1;have bG:=n.below.size;have DR:w+1<wr.heap.size:=(Za.1 n.res).1;have HC:=Zd n;have HR:=Zd Ci;clear n Ci;go_wp2;refine ZN (v:=.agg #[U H c.base.length d1,U G c.Af.length d2,U F c.hooks.length d3,U Z c.Aa.length Y,U E c.now.length I]) (by rw[A8 rfl];go_simp) rfl ?_;have bi:∀X,Bl w X->Ak (λx=>x=w.heap.size+1) wr X->Ro w c (.returned (.agg #[U H c.base.length d1,U G c.Af.length d2,U F c.hooks.length d3,U Z c.Aa.length Y,U E c.now.length I])) X:=λX Ov Pc=>by
  have hn:∀x,TT r wr x->¬x=w+1:=λx M e=>by have:=M.1;omega
  have mM:w<=r.heap.size:=o!
  have O:∀g,(Zy Z c.Aa.length Y).ownBlock=some g->¬g=w+1:=λg O e=>by have:=(HR.out.own g O).1;omega
  exact⟨_,_,_,_,_,rfl,Ov,LQ (Rn HC.out.base Pc hn) mM,Ug (mL HC.out.Af Pc hn) mM,LQ (Rn HC.out.hooks Pc hn) mM,LQ (Rn HC.out.now Pc hn) mM,(HR.out.CN Pc hn O).mono mM⟩
 have Lc:=HC.out.below;refine bi _ ?_ ?_
 .repeat (with_reducible first|exact Lc|(refine bS ?_ o!))
 repeat (with_reducible first|exact Ak.refl _ _|(refine Ak.DT ?_))
structure LW (b:Nat)(lv:Zf)(w:Zb)(d:Nat)(W:Zb):Prop where
 Cn:B3 b w W
 E4:BK W b lv d
def LW.alloc (h:LW b lv w d W)(o:Obj):LW b lv w d (W.alloc o):=⟨h.Cn.below (bA (Zh _ _)),h.E4.later (bA (Zh _ _))⟩
def LW.drew (h:LW b lv w d W):LW b lv w d W.drew:=⟨h.Cn.below (Zh _ _).drew,h.E4.later (Zh _ _).drew⟩
def LW.step {b d c:Nat}{lv:Zf}{w W a:Zb}(h:LW b lv w d W)(e:B3 b W a)(f:BK a b lv c):LW b lv w c a:=⟨h.Cn.trans e,f⟩
def LW.refl (h:BK w b lv d):LW b lv w d w:=⟨B3.refl _ _,h⟩
def LW.below {c:Zb}(h:LW b lv w d W)(a:Bl W c):LW b lv w d c:=⟨h.Cn.below a,h.E4.later a⟩
section
variable {Sn:Nat->Prop}{w:Zb}{lv:Zf}{nums:List Int}{b:Nat}
def Dr (b:Nat)(lv:Zf)(w:Zb)(d m:Nat)(lo:Int)(W:Zb)(e:Ending)(c:Zb):Prop:=∃(r a:Nat),e=.returned (.int J (lo+r))/\r<=m/\B3 b W c/\LW b lv w a c/\a<=d+1
def abV (g:SI Sn w lv nums)(e:∀x,Sn x->x<w.heap.size/\x≠b)(a:LW b lv w d W)(i:d<4611686018427387904)(k: -1000000<=lo/\lo<=1000000)(j: -1000000<=hi/\hi<=1000000):
  Calls Lp 61 #[.pointer b,.int J lo,.int J hi] W (Dr b lv w d (hi - lo).toNat lo W):=
 (c61 (g.Cn a.Cn e) (Li a.Cn e) a.E4 i k j).mono λ_ _ ⟨r,l,h,f,c,n,m⟩=>⟨r,l,h,f,c,a.step c n,m⟩
def abW (j:SI Sn w lv nums)(h:∀x,Sn x->x<w.heap.size/\x≠b){n:Int}(a:LW b lv w d W)(l:d<4611686018427387904)(p:n<=1000000):
  Calls Lp 29 #[.pointer b,.int J n] W λe g=>∃(r c:Nat),e=.returned (.int J r)/\r<=n.toNat/\B3 b W g/\LW b lv w c g/\c<=d+1:=
 (c29 (j.Cn a.Cn h) (Li a.Cn h) a.E4 l o!).mono λ_ _ ⟨r,c,k,i,f,o,m⟩=>⟨r,c,k,i,f,a.step f o,m⟩
def abX (i:SI Sn w lv nums)(h:∀x,Sn x->x<w.heap.size/\x≠b){n:Int}(a:LW b lv w d W)(k:d<4611686018427387904)(l: -1000000<=n/\n<=1000000):
  Calls Lp 99 #[.pointer b,.int J n] W λe g=>∃(r:Bool) (c:Nat),e=.returned (.bool r)/\B3 b W g/\LW b lv w c g/\c<=d+1:=
 (c99 (i.Cn a.Cn h) (Li a.Cn h) a.E4 k l).mono λ_ _ ⟨r,c,j,f,o,m⟩=>⟨r,c,j,f,a.step f o,m⟩
def abY (m:SI Sn w lv nums)(i:∀x,Sn x->x<w.heap.size/\x≠b){s:List Int}(g:LW b lv w d W)(o:d<4611686018427387904)(q:1<=s.length)(p:s.length<=1000):
  Calls Lp 98 #[.pointer b,U W s.length s.length] (W.alloc (.cells (s.map (ZL J)).toArray 3)) λe h=>∃(r a:Nat),e=.returned (.int J (nth s r))/\r<s.length/\B3 b (W.alloc (.cells (s.map (ZL J)).toArray 3)) h/\LW b lv w a h/\a<=d+1:=by
 have c:=g.alloc (.cells (s.map (ZL J)).toArray 3);refine(c98 (T:=λx=>x=W.heap.size) (m.Cn c.Cn i) (Li c.Cn i) c.E4 o (M1 s (Bp _ _) rfl u!) (λx k=>by have:=g.E4.lt;subst k;simp;omega) q p).mono ?_;rintro _ _ ⟨r,a,n,l,f,j,t⟩;exact⟨r,a,n,l,f,c.step f j,t⟩
end
def Ih (w:Zb)(base:Nat)(v:Zf)(l:List (Int×Int))(e:Zs):Prop:=w.ownsRow base e 2 v l.length (l.flatMap λp=> [ZL J p.1,.int J p.2])
def fp (l:List (Int×Int))(i:Nat)(p:Int×Int)(h:l[i]?=some p):((l.flatMap λp=> [ZL J p.1,.int J p.2]).drop (i*2)).take 2=[.int J p.1,.int J p.2]:=by
 induction l generalizing i with
 |nil=>cases h
 |cons q r a=>
  cases i with
  |zero=>cases h;rfl
  |succ i=>
   have:=a i (by simpa using h);rw[List.flatMap_cons,show(i+1)*2=i*2+2 by omega,show([ZL J q.1,.int J q.2]++r.flatMap λp=> [ZL J p.1,.int J p.2]).drop (i*2+2)=(r.flatMap λp=> [ZL J p.1,.int J p.2]).drop (i*2) by rw[show i*2+2=2+i*2 by omega, <-List.drop_drop];rfl];exact this
def Ih.tt {base:Nat}{l:List (Int×Int)}(h:Ih w base v l e)(d:e=3\/e=64\/e=80):SP (TT base w) w v l:=
 Sl.imp (Lg (R:=Rp) d! h λi x c=>fp l i x c) (λb a=>⟨a.1.1,by obtain⟨cs,h⟩:=a.2;exact⟨cs,e,h,d⟩⟩) λ_ _ x=>x
def five (h:r<5):nth [1,2,3,-1,-2] r≠0/\-4<=nth [1,2,3,-1,-2] r/\nth [1,2,3,-1,-2] r<=4:=by
 have:r=0\/r=1\/r=2\/r=3\/r=4:=o!
 rcases this with rfl|rfl|rfl|rfl|rfl<;>decide
def ahN (h:r<5):nth [1,2,-1,-4,4] r≠0/\-4<=nth [1,2,-1,-4,4] r/\nth [1,2,-1,-4,4] r<=4:=by
 have:r=0\/r=1\/r=2\/r=3\/r=4:=o!
 rcases this with rfl|rfl|rfl|rfl|rfl<;>decide
def four (a:m<=4)(h:r<4):0<=nth [1,2,4,(m:Int)] r/\nth [1,2,4,(m:Int)] r<=4:=by
 have:r=0\/r=1\/r=2\/r=3:=o!
 rcases this with rfl|rfl|rfl|rfl<;>simp[nth]<;>omega
def Ih.Cn {base:Nat}{l:List (Int×Int)}(h:Ih w base v l e)(b:B3 q w W)(a:q<base):Ih W base v l e:=D2 h b a
def LW.D4 (h:LW b lv w d W)(c:b<w)(a:w<=q):LW b lv w d (W.setCell ⟨q,i,none⟩ v):=
 ⟨h.Cn.D4 a,h.E4.of (AZ o! _)⟩
def abZ (g:Nat)(pl:List (Int×Int)):Prop:=(1<=pl.length/\pl.length<=2)/\(∀p∈pl,0<=p.1/\p.1<g/\p.2≠0/\-4<=p.2/\p.2<=4)/\(pl.length=2->(BV pl 1).1≠(BV pl 0).1)
def ac0 (h:gi<g)(b:y≠0/\-4<=y/\y<=4):abZ g [((gi:Int),y)]:=
 ⟨⟨i!,i!⟩,λp a=>by simp at a;subst a;simp only;omega,λh=>by simp at h⟩
def ac1 {a:Nat}{z:Int}(h:gi<g)(d:y≠0/\-4<=y/\y<=4)(e:a<g)(f:a≠gi)(c:z≠0/\-4<=z/\z<=4):abZ g [((gi:Int),y),((a:Int),z)]:=
 ⟨⟨i!,i!⟩,λp b=>by simp at b;rcases b with rfl|rfl<;>simp only<;>omega,λ_=>by simp[BV];omega⟩
def Ti {base:Nat}{e':Zs}(h:A.ownsRow base e k v n xs)(d:A.heap[q]?=some (.cells cs e' (0,0)))(j:e≠e'):(A.setCell ⟨q,i,none⟩ u).ownsRow base e k v n xs:=by
 refine⟨h.1,?_⟩;rcases h.2 with a|⟨g,c,b,a,m,f,l⟩
 .exact .inl a
 exact .inr ⟨g,c,b,a,m,(AZ (λo=>by subst o;rw[f]at d;cases d;exact j rfl) _).trans f,l⟩
def J3 {base:Nat}(h:A.ownsRow base e k v n xs):∀x,v.ownBlock=some x->base<=x/\∃cs,A.heap[x]?=some (.cells cs e (0,0)):=λx a=>by
 rcases h.2 with⟨e,_⟩|⟨g,f,b,e,d,c,_⟩
 .rw[e]at a;cases a
 rw[e]at a;cases a;exact⟨d,b,c⟩
def Fc {base:Nat}(h:A.ownsRow base e k v n xs)(i:Ak T A B)(f:∀x cs,A.heap[x]?=some (Zbi cs e (0,0))->¬T x):B.ownsRow base e k v n xs:=by
 refine⟨h.1,?_⟩;rcases h.2 with c|⟨g,d,a,c,l,b,j⟩
 .exact .inl c
 exact .inr ⟨g,d,a,c,l,(i.block g (Za.1 b).1 (f g a b)).trans b,j⟩
def cv {base:Nat}{g:Int}(c:w.heap[b]?=some (C #[.int J g,.int J y] 64 (0,0)))(a:base<=b):Ih w base (U b 1 1) [(g,y)] 64:=
 ⟨rfl,.inr ⟨b,1,_,rfl,a,c,Zj _,d!,rfl,rfl⟩⟩
def qI (w:Zb)(b:Nat)(lv:Zf)(d g n o:Nat)(e:Ending)(w':Zb):Prop:=∃(s:Ay) (v2 v3:Zf) (a:Nat),e=.returned (.agg #[.int J s.low,.int J s.high,v2,v3,.int J s.left])/\LW b lv w a w'/\a<=d+20/\SP (TT w w') w' v2 s.Ap/\SI (TT w w') w' v3 s.over/\Mh g n o s/\∀x∈s.over,(o:Int)<x
def aoS {o:Nat}(hn:SI Sn w lv nums)(E8:∀x,Sn x->x<w.heap.size/\x≠b)(P:BK w b lv d)(hd:d+20<4611686018427387904)(hg:1<=g/\g<=3)(KJ:o<n)(lm:n<=3):
  Calls Lp 110 #[.pointer b,.int J g,.int J n,.int J o] w (qI w b lv d g n o):=by
 have IX:=DJ;have rW:=Zd (λW d lo hi P hd h1 B=>abV (W:=W) (d:=d) (lo:=lo) (hi:=hi) hn E8 P hd h1 B);have iG:=Zd (λW d n P hd B=>abW (W:=W) (d:=d) (n:=n) hn E8 P hd B);have fu:=Zd (λW d n P hd B=>abX (W:=W) (d:=d) (n:=n) hn E8 P hd B);have bi:=Zd (λW d s P hd h1 B=>abY (W:=W) (d:=d) (s:=s) hn E8 P hd h1 B);have im:=LW.refl P;have GK:=P.lt;have m1:=Yz;have m2:=Yz;have m3:=Yz;have m4:=Yz;have m5:=Yz;have m6:=Yz;have m7:=Yz;have m8:=Yz;have m9:=Yz;have l:=Bp w (C #[.int J 0,.int J 0,(),(),.int J 0] 62);go_enter Lp.func110,ane;go_wp2_with (first|(go_at_call 61;clear m1;refine(rW.out _ _ _ _ (im.alloc _) o! o! o!).mono ?_;rintro e W1 ⟨r0,d1,rfl,tE,Na,fq,mt⟩;have l:=Na.at_ l o!)|(go_at_call 61;clear m2;refine(rW.out _ _ _ _ fq o! o! o!).mono ?_;rintro e W2 ⟨r1,d2,rfl,Xg,Ot,M7,mp⟩;have l:=Ot.at_ l o!)|(go_at_call 61;clear m3;refine(rW.out _ _ _ _ M7 o! o! o!).mono ?_;rintro e W3 ⟨I,d3,rfl,Ox,H4,k_,ml⟩;have l:=H4.at_ l o!)|(go_at_call 29;clear m4;refine(iG.out _ _ _ k_ o! o!).mono ?_;rintro e W4 ⟨gi,d4,rfl,n8,S5,ld,mj⟩;have l:=S5.at_ l o!)|(go_at_call 98;clear m5;refine(bi.out _ _ [1,2,3,-1,-2] ld o! d! d!).mono ?_;rintro e G ⟨r5,d5,rfl,iK,cN,i9,mh⟩;obtain⟨y1,mD,mC,bV,bv⟩:∃y,y=nth [1,2,3,-1,-2] r5/\(y≠0/\-4<=y/\y<=4):=⟨_,rfl,five iK⟩;rw[<-mD];clear mD;have l:=cN.at_ (Bf l _) o!)|(go_at_call 29;clear m6;(have ci:w+1<=G.heap.size:=by have h1:=Na.size;have B:=Ot.size;have h3:=H4.size;have h4:=S5.size;have h5:=cN.size;simp only[ZB]at h1 h5;omega);have A:=Bp G (C #[.int J gi,.int J y1] 64);refine(iG.out _ _ _ (i9.alloc _) o! o!).mono ?_;rintro e W6 ⟨r6,d6,rfl,kv,Xp,i8,ma⟩;have A:=Xp.at_ A o!;have l:=Xp.at_ (Bf l _) o!)|(go_at_call 98;clear m7;refine(bi.out _ _ [1,2,4,(r6:Int)] i8 o! i! i!).mono ?_;rintro e W7 ⟨r7,d7,rfl,gj,an,i7,lL⟩;have A:=an.at_ (Bf A _) o!;have l:=an.at_ (Bf l _) o!;obtain⟨H,b9,fK,fJ⟩:∃y,y=nth [1,2,4,(r6:Int)] r7/\(0<=y/\y<=4):=⟨_,rfl,four o! gj⟩;rw[<-b9];clear b9;have l:=Bf l (C #[.int J (-2+(r0:Int)),.int J (-2+(r0:Int)+(I:Int)),U G 1 1,(),.int J H] 62);have A:=Bf A (C #[.int J (-2+(r0:Int)),.int J (-2+(r0:Int)+(I:Int)),U G 1 1,(),.int J H] 62);have t:=Bp W7 (C #[.int J (-2+(r0:Int)),.int J (-2+(r0:Int)+(I:Int)),U G 1 1,(),.int J H] 62);have D:=i7.alloc (C #[.int J (-2+(r0:Int)),.int J (-2+(r0:Int)+(I:Int)),U G 1 1,(),.int J H] 62);obtain⟨dx,z⟩:=Qnm d7;rw[<-z]at D;obtain⟨r,E⟩:=Qnm W7.heap.size;(have kw:G<r:=by have h6:=Xp.size;have h7:=an.size;simp only[ZB]at h6 h7;omega);rw[<-E]at t;obtain⟨X,lg⟩:=Qnm (W7.alloc (C #[.int J (-2+(r0:Int)),.int J (-2+(r0:Int)+(I:Int)),U G 1 1,(),.int J H] 62));rw[<-lg]at A t D l)|(go_at_call 99;clear m8;rw[<-lg];refine(fu.out _ _ _ D o! o!).mono ?_;rintro e X ⟨rb,d8,rfl,uC,D,lK⟩;have A:=uC.at_ A o!;have l:=uC.at_ l o!;have t:=uC.at_ t o!;obtain⟨dx,z⟩:=Qnm d8;rw[<-z]at D)|(go_at_call 29;clear m9;refine(iG.out _ _ _ D o! o!).mono ?_;rintro e X ⟨oi,d9,rfl,li,pY,D,lJ⟩;have A:=pY.at_ A o!;have l:=pY.at_ l o!;have t:=pY.at_ t o!;obtain⟨dx,z⟩:=Qnm d9;rw[<-z]at D;have cb:=ch (i:=2) t (v:=.slice G 1 1) rfl;have cp:=ch (i:=0) A (v:=.int J gi) rfl;rw[E]at cb))
 all_goals try (
  have lY:=cb;clear cb cp lY;have lZ:2<=g:=o!
  first
   |(have lG:gi<=oi:=by assumption
     obtain⟨q,nF,du,dl⟩:∃q:Nat,(oi:Int)+1=(q:Int)/\q<g/\q≠gi:=⟨oi+1,o!,o!,o!⟩;rw[nF])
   |(obtain⟨q,nF,du,dl⟩:∃q:Nat,q=oi/\q<g/\q≠gi:=⟨oi,rfl,o!,o!⟩
     rw[<-nF])
  clear nF;obtain⟨K,Ig⟩:∃K:Nat->Prop,K=λx=>x=b\/w<x/\x≠r:=⟨_,rfl⟩;have fh:K b:=by rw[Ig];exact .inl rfl
  have LP:∀x,w.heap.size<x->x≠r->K x:=λx j hq=>by rw[Ig];exact .inr ⟨j,hq⟩
  have Tg:¬K r:=by rw[Ig];intro x;omega
  have qF:¬K w:=by rw[Ig];intro x;omega
  clear Ig;rw[<-E];clear E lg;have z0:=λp:Tw K X=>p.cell (ch (i:=2) t (v:=.slice G 1 1) rfl) Tg;have xS:r<X:=(Za.1 t).1;have mv:b<X:=D.E4.lt;refine B0 (S:=λW=>∃p:Tw K X,W=p.v) [10] [(false,4),(false,5),(false,6),(false,7),(false,8),(false,9),(false,10)] [0,1,2,3] k! (λ_ _ d _ _ h=>by cases d<;>exact h) k! (A5 (Ak.later (Zh _ _).drew)) ?_;refine A4 _ _ k! ?_;simp only[Z6,zd,ZG,ZD,ZC]
  repeat (first|go_big_quiet_step (fail)|quiet_step (fail))
  refine Z4 ?_;clear z0;change Dl _ _ _ _ _ _ _;obtain⟨V,hV⟩:=Qnm X.drew;have Ui:Bl X V:=by rw[hV];exact(Zh _ _).drew
  have xT:LW b lv w dx V:=by rw[hV];exact D.drew
  rw[<-hV];clear hV;have Vn:Bl V (V.alloc (C #[.int J 1,.int J 2,.int J (-1),.int J (-4),.int J 4] 3)):=bA (Zh _ _);have Ov:=Ui.trans (Vn.mono Ui.size);refine JZ (v:=.slice V 5 5) (w':=V.alloc (C #[.int J 1,.int J 2,.int J (-1),.int J (-4),.int J 4] 3)) rfl rfl g! (.inr (A5 (Ak.later Ov))) ?_;refine Dd (f:=98) (args:= #[.pointer b,U V 5 5]) rfl rfl g! ((bi.out V _ [1,2,-1,-4,4] xT o! d! d!).mono ?_);rintro e Y ⟨r9,fi,rfl,f9,kF,xU,mz⟩;obtain⟨y3,b8,fI,fH,fy⟩:∃y,y=nth [1,2,-1,-4,4] r9/\(y≠0/\-4<=y/\y<=4):=⟨_,rfl,ahN f9⟩;rw[<-b8];clear b8;have N:Ak K X Y:=(Ak.later Ov).trans (kF.CN fh);refine⟨_,rfl,.inr (A5 N),?_⟩;refine Dw (v:=.agg #[.int J q,.int J y3]) rfl rfl g! (.inr (A5 N)) ?_;have WQ:Ak K X (Y.alloc (C #[.int J q,.int J y3] 64)):=N.uJ (bA (Zh _ _));refine JZ (v:=.slice Y 1 1) (w':=Y.alloc (C #[.int J q,.int J y3] 64)) rfl rfl g! (.inr (A5 WQ)) ?_;have fd:=kF.at_ ((Ov.block _ (Za.1 A).1).trans A) o!;have uV:=Bf fd (C #[.int J q,.int J y3] 64);obtain⟨i0,hi,Fl,DR,EB⟩:=zp Wv;have i6:=Cz Zcz;have mw:=N.size;have ka:=D.Cn.size;refine PW rfl rfl ?_;refine Zak _ _ _ 60 rfl (w+1) 64 i0 (.agg #[.int J 0,.int J 0]) 2 16 i6 (Dz hi) Fl DR EB rfl d! _ 1 [.int J gi,.int J y1] rfl (cv uV ci) Y 1 1 [.int J q,.int J y3] rfl rfl (Hc _ _ _) (by intro u hu;simp at hu;rcases hu with rfl|rfl<;>rfl) u! o! j! ?_;intro v' Y2 AX AG Gc;have S4:∀k,(Zy G 1 1).ownBlock=some k->k=G.heap.size:=λk hk=>by cases hk;rfl
  have Q:Ak K X Y2:=WQ.trans (Ak.grown AG λk hk=>by rw[S4 k hk];exact LP _ o! o!);refine⟨.inr (A5 Q),?_⟩;obtain⟨g',Ey,rfl⟩:=Zay AX;have WS:=(Q.block r xS Tg).trans t;have f2:=cf (i:=2) WS;have e2:=ch (i:=2) WS (v:=.slice G 1 1) rfl;refine Dw (v:=.pointer (some ⟨r,2,none⟩)) rfl rfl g! (.inr (A5 Q)) ?_;refine K8 (w':=Y2.setCell ⟨r,2,none⟩ (U g' 2 Ey)) rfl rfl g! (.inl rfl) ?_;obtain⟨X,F⟩:=Qnm (Y2.setCell ⟨r,2,none⟩ (U g' 2 Ey));have t:X.heap[r]?=some (C #[.int J (-2+(r0:Int)),.int J (-2+(r0:Int)+(I:Int)),U g' 2 Ey,(),.int J H] 62 (0,0)):=by rw[F];exact Ba WS _
  have l:X.heap[w.heap.size]?=some (C #[.int J 0,.int J 0,(),(),.int J 0] 62 (0,0)):=by rw[F];exact(AZ o! _).trans ((Q.block _ (Za.1 l).1 qF).trans l)
  have be:LW b lv w fi X:=by
   have h1:=(xU.alloc (C #[.int J q,.int J y3] 64)).Cn.grown AG (λk hk=>by rw[S4 k hk];omega);rw[F];refine⟨h1.D4 o!,(xU.alloc (C #[.int J q,.int J y3] 64)).E4.of ?_⟩;exact(AZ o! _).trans (AG.block b (xU.alloc _).E4.lt (λe=>by have:=S4 b e.symm;omega))
  have Xa:Ih X (w+1) (U g' 2 Ey) [((gi:Int),y1),((q:Int),y3)] 64:=by
   rw[F];exact Ti AX WS d!
  rw[<-F];clear D F AX AG Gc S4 Q WQ N fd uV Ov Vn Ui xT kF xU WS f2 e2;obtain⟨dx,z⟩:=Qnm fi;rw[<-z]at be;have D:=be;clear be;unfold Dl
  go_simp
  go_wp2
  )
 all_goals
  have HB:∃(v2:Zf) (T:List (Int×Int)),X.heap[r]?=some (C #[.int J (-2+(r0:Int)),.int J (-2+(r0:Int)+(I:Int)),v2,(),.int J H] 62 (0,0))/\Ih X (w+1) v2 T 64/\abZ g T:=by
   first
    |exact⟨_,_,t,Xa,ac1 o! ⟨mC,bV,bv⟩ du dl ⟨fI,fH,fy⟩⟩
    |exact⟨_,_,t,cv A ci,ac0 o! ⟨mC,bV,bv⟩⟩
  try rw[<-lg]
  try rw[<-E]
  try clear E
  try clear lg
  clear t
  try clear Xa
  obtain⟨v2,T,t,Xa,xV⟩:=HB;obtain⟨p2,q2,rfl,_⟩:=JS Xa;obtain⟨i3,g9,iX,iS,iv⟩:=zp KY;have ip:=Cz YE;have Pv:dx<=d+12:=o!
  have my:w+1<=r:=o!
  have HP:=Zd xV;clear xV;go_loopg [12] (n - (o+1)) (λgg i wr=>∃(k:Nat) (m:List Int) (v3:Zf) (dk:Nat),(o+1<=k/\k<=n)/\gg=n - k/\i=.int J k/\LW b lv w dk wr/\dk+(o+1)<=dx+k/\wr.heap[w.heap.size]?=some (C #[.int J 0,.int J 0,(),(),.int J 0] 62 (0,0))/\wr.heap[r]?=some (C #[.int J (-2+(r0:Int)),.int J (-2+(r0:Int)+(I:Int)),U p2 T.length q2,v3,.int J H] 62 (0,0))/\Ih wr (w+1) (U p2 T.length q2) T 64/\Own wr (w+1) v3 m/\m.length<=k/\(∀x∈m,(o:Int)<x/\x<k)/\m.Pairwise (· < ·))
  case atStart=>exact⟨o+1,[],U none 0 0,dx,⟨Zj _,KJ⟩,rfl,v!,D,Zj _,l,t,Xa,zq _ _ _ _,Zp _,(λx j=>by cases j),List.Pairwise.nil⟩
  obtain⟨k,m,v3,dk,⟨lF,lE⟩,rfl,rfl,oJ,jF,lh,Ga,w_,Jw,mx,fm,ct⟩:=hrel;obtain⟨p3,q3,rfl,_⟩:=Jw.si.val;have R:=Zd (ZY fm ct);clear fm ct;by_cases Az:k<n
  .have TB:(k:Int)<(n:Int):=by omega
   have jp:=oJ.Cn.size;go_wp2_with (first|(go_at_call 99;refine(fu.out _ _ _ oJ o! o!).mono ?_;rintro e Y ⟨rb,ap,rfl,ai,O,lI⟩;have L:=ai.at_ lh o!;have M:=ai.at_ Ga o!;have ck:=w_.Cn ai o!;have am:=Jw.Cn ai o!;have c3:=ch (i:=3) M (v:=.slice p3 m.length q3) rfl;have jn:=O.Cn.size)|(at_builtin;refine Yc _ rfl _ _ 22 rfl (w+1) 3 i3 (.int J 0) 1 8 ip (Dz g9) iX iS iv rfl d! _ m.length (m.map (ZL J)) rfl (Ya am _) Y 1 1 [.int J k] rfl rfl (Dj _ _ _) (by simp[YT]) u! o! (by have:=(Za.1 L).1;simp;omega) ?_;intro v' Y2 AX AG Gc;obtain⟨g3,lj,rfl⟩:=Zay AX;(have Em:∀x,(Zy p3 m.length q3).ownBlock=some x->w.heap.size+1<=x/\∃cs,Y.heap[x]?=some (.cells cs 3 (0,0)):=J3 am);(have Q:Ak (λx=>(Zy p3 m.length q3).ownBlock=some x) Y Y2:=((Ak.later (bA (Zh _ _))).mono λ_ x=>x).trans (Ak.grown AG λx j=>j));(have cx:∀x cs,Y.heap[x]?=some (Zbi cs 62 (0,0))->¬(Zy p3 m.length q3).ownBlock=some x:=λx cs j e=>by(obtain⟨_,io,B⟩:=Em x e);rw[j]at B;cases B);have EC:=(Q.block _ (Za.1 M).1 (cx _ _ M)).trans M;have Ox:=(Q.block _ (Za.1 L).1 (cx _ _ L)).trans L;have e3:=ch (i:=3) EC (v:=.slice p3 m.length q3) rfl;have f3:=cf (i:=3) EC))
   .have T6:w≠r:=by omega
    have ed:∀x,(Zy p3 m.length q3).ownBlock=some x->w.heap.size<=x:=λx j=>by have:=(Em x j).1;omega
    have rV:LW b lv w ap Y2:=⟨(O.alloc (C #[.int J k] 3)).Cn.grown AG ed,(O.alloc (C #[.int J k] 3)).E4.of (AG.block b (O.alloc _).E4.lt (λe=>by have:=(Em b e.symm).1;omega))⟩;have VK:=Fc ck Q (λx cs j e=>by
     obtain⟨_,io,B⟩:=Em x e;rw[j]at B;cases B)
    have HQ:=Zd (ZY (rV.D4 (i:=3) (v:=.slice g3 (m.length+1) lj) GK (show w<=r by omega)) (ZY ((AZ (i:=3) T6 (U g3 (m.length+1) lj)).trans Ox) (ZY (Ba (i:=3) EC (U g3 (m.length+1) lj)) (ZY (Ti (i:=3) (u:=.slice g3 (m.length+1) lj) VK EC d!) (Ti (i:=3) (u:=.slice g3 (m.length+1) lj) AX EC d!)))));clear rV VK AX AG Gc Q cx EC Ox e3 f3 Em ed;go_roundg (n - (k+1))
    case rel=>
     obtain⟨g1,g2,g4,g5,g6⟩:=HQ.out;refine⟨k+1,m++ [(k:Int)],_,ap,⟨o!,o!⟩,rfl,v!,g1,o!,g2,g4,g5,?_,j!,λx j=>?_,?_⟩
     .unfold Own
      rw[ZA,Zai];exact g6
     .rcases Zab.1 j with j|j
      .have:=R.out.1 x j;omega
      rw[Yh.1 j];omega
     refine List.pairwise_append.2 ⟨R.out.2,List.pairwise_singleton _ _,λa ha c hc=>?_⟩;rw[Yh.1 hc];exact(R.out.1 a ha).2
    omega
   go_roundg (n - (k+1))
   case rel=>exact⟨k+1,m,_,ap,⟨o!,o!⟩,rfl,v!,O,o!,L,M,ck,am,o!,(λx j=>⟨(R.out.1 x j).1,by have:=(R.out.1 x j).2;omega⟩),R.out.2⟩
   omega
  have gt:k=n:=o!
  subst gt;obtain⟨s0,s1,s2,s3,s4⟩:=Qc5 Ga;obtain⟨f0,f1,f2,f3,f4⟩:=Qf5 lh;obtain⟨x0,x1,x2,x3,x4⟩:=Qc5 lh;have jt:w<wr.heap.size:=(Za.1 lh).1;have ky:r<wr:=(Za.1 Ga).1;have HK:=Zd (ZY w_ Jw);clear w_ Jw Ga lh;go_wp2;refine ZN (v:=.agg #[.int J (-2+(r0:Int)),.int J (-2+(r0:Int)+(I:Int)),U p2 T.length q2,U p3 m.length q3,.int J H]) (by rw[A8 rfl];go_simp) rfl ?_;have fw:∀Z,LW b lv w dk Z->Ak (λx=>x=w.heap.size) wr Z->qI w b lv d g k o (.returned (.agg #[.int J (-2+(r0:Int)),.int J (-2+(r0:Int)+(I:Int)),U p2 T.length q2,U p3 m.length q3,.int J H])) Z:=λZ ii mN=>by
   have Gc:∀x,TT (w+1) wr x->¬x=w:=λx j e=>by have:=j.1;omega
   refine⟨⟨-2+(r0:Int),-2+(r0:Int)+(I:Int),T,m,H⟩,_,_,dk,rfl,ii,o!,Ug (mL (HK.out.1.tt (.inr (.inl rfl))) mN Gc) o!,LQ (Rn HK.out.2.tt mN Gc) o!,?_,λx j=>(R.out.1 x j).1⟩;obtain⟨hf,gn,f8⟩:=HP.out;refine⟨by simp only;omega,hf,gn,f8,λx j=>?_,R.out.2,⟨fK,fJ⟩⟩;have:=R.out.1 x j;omega
  refine fw _ ?_ ?_
  .exact((((oJ.D4 GK (Zj _)).D4 GK (Zj _)).D4 GK (Zj _)).D4 GK (Zj _)).D4 GK (Zj _)
  exact(Ak.refl (λx=>x=w.heap.size) wr).DT.DT.DT.DT.DT
def Pe (n:Nat)(o:List Int):List Int:=(Yr o.length).map λk=>(n:Int) - 1 - nth o (o.length - 1 - k)
def ll (n:Nat)(s:Ay):Ay:=⟨s.low,s.high,s.Ap,Pe n s.over,s.left⟩
def Pf (l:List Ay):List Ay:=(Yr l.length).map λi=>ll l.length (Aj l (l.length - 1 - i))
def Pg (c:A_):A_:= {c with Aa:=Pf c.Aa}
def Gz (n:Nat)(o:List Int):(Pe n o).length=o.length:=by simp[Pe]
def GD (l:List Ay):(Pf l).length=l.length:=by simp[Pf]
def Tj (h:k<o.length):(Pe n o)[k]?=some ((n:Int) - 1 - nth o (o.length - 1 - k)):=by simp[Pe,h]
def cy {l:List Ay}(h:i<l.length):(Pf l)[i]?=some (ll l.length (Aj l (l.length - 1 - i))):=by simp[Pf,h]
def iL {a b:List α}{x:α}(h:a.length=b.length)(c:a[k]?=some x):(a.take k++b.drop k).set k x=a.take (k+1)++b.drop (k+1):=by
 have g:=(Zm.1 c).1;apply YA;intro j;by_cases d:j=k
 .subst d
  rw[Ys j!,zl j!,Z2 o!];exact c.symm
 rw[ZS (λe=>d e.symm)];by_cases f:j<k
 .rw[zl j!,zl j!,Z2 f,Z2 o!]
 rw[Zbr j!,Zbr j!,Yl,Yl]
 congr 1
 simp;omega
def iM {a b:List α}(h:a.length=b.length)(c:a.length<=k):a.take k++b.drop k=a:=by
 rw[Zb3 c,Z7.2 o!,ZaA]
def iN {a b:List α}(h:a.length=b.length)(c:k<=a.length):(a.take k++b.drop k).length=b.length:=by
 simp;omega
def En.put {base c:Nat}{l:List Ay}(h:En n w base (U g l.length c) l)(hi:i<l.length)(t:Rs (TT n w) w [.int J s.low,.int J s.high,v2,v3,.int J s.left] s):
  En n (((((w.setCell ⟨g,i*5,none⟩ (.int J s.low)).setCell ⟨g,i*5+1,none⟩ (.int J s.high)).setCell ⟨g,i*5+2,none⟩ v2).setCell ⟨g,i*5+3,none⟩ v3).setCell ⟨g,i*5+4,none⟩ (.int J s.left)) base (U g l.length c) (l.set i s):=by
 obtain⟨a,p,D⟩:=h;rcases p.2 with⟨e,_⟩|⟨F,G,E,e,C,o,B,A,z,y⟩
 .cases e
 cases e;have m:=(Ak.refl (λx=>x=g) w).DT (i:=i*5) (v:=.int J s.low)|>.DT (i:=i*5+1) (v:=.int J s.high)|>.DT (i:=i*5+2) (v:=v2)|>.DT (i:=i*5+3) (v:=v3)|>.DT (i:=i*5+4) (v:=.int J s.left);have q:∀x,TT n w x->¬x=g:=λx b e=>TT.not (e▸b) o ⟨d!,d!,d!⟩;have r:=p.1;refine⟨((((a.set (i*5) (.int J s.low)).set (i*5+1) (.int J s.high)).set (i*5+2) v2).set (i*5+3) v3).set (i*5+4) (.int J s.left),⟨by simp[r],.inr ⟨g,c,_,i!,C,Ba (Ba (Ba (Ba (Ba o _) _) _) _) _,by simpa using B,A,by simpa using z,?_⟩⟩,λj x b=>?_⟩
 .simp only[ZcM,ZcC,List.take_set,y]
 have u:=(Zm.1 b).1;rw[ZcC]at u;by_cases d:i=j
 .subst d
  rw[Ys hi]at b;cases b;have e:((((((a.set (i*5) (.int J s.low)).set (i*5+1) (.int J s.high)).set (i*5+2) v2).set (i*5+3) v3).set (i*5+4) (.int J s.left)).drop (i*5)).take 5=[.int J s.low,.int J s.high,v2,v3,.int J s.left]:=by
   apply YA;intro k;by_cases f:k<5
   .rw[Z2 f,Yl]
    have:k=0\/k=1\/k=2\/k=3\/k=4:=o!
    rcases this with rfl|rfl|rfl|rfl|rfl
    .rw[ZS o!,ZS o!,ZS o!,ZS o!,Nat.add_zero,Ys o!];rfl
    .rw[ZS o!,ZS o!,ZS o!,Ys j!];rfl
    .rw[ZS o!,ZS o!,Ys j!];rfl
    .rw[ZS o!,Ys j!];rfl
    rw[Ys j!];rfl
   rw[ZP j!,ZP j!]
  rw[e];exact xR t m q
 rw[ZS d]at b;have e:((((((a.set (i*5) (.int J s.low)).set (i*5+1) (.int J s.high)).set (i*5+2) v2).set (i*5+3) v3).set (i*5+4) (.int J s.left)).drop (j*5)).take 5=(a.drop (j*5)).take 5:=by
  apply YA;intro k;by_cases f:k<5
  .rw[Z2 f,Yl,Z2 f,Yl,ZS o!,ZS o!,ZS o!,ZS o!,ZS o!]
  rw[ZP j!,ZP j!]
 rw[e];exact xR (D j x b) m q
def En.ptr {base:Nat}{l:List Ay}(h:En n w base v l)(hp:0<l.length):∃g a,v=.slice (some ⟨g,0,none⟩) l.length a/\base<=g:=by
 obtain⟨b,d,_⟩:=h;rcases d.2 with⟨_,i⟩|⟨g,a,f,e,c,_⟩
 .omega
 exact⟨g,a,e,c⟩
def En.cells {n base g b i:Nat}{w:Zb}{l:List Ay}(h:En n w base (U g l.length b) l)(hi:i<l.length):∃a,w.heap[g]?=some (.cells a 62 (0,0))/\∀j,j<5->∃u,a[i*5+j]?=some u:=by
 obtain⟨c,f,_⟩:=h;rcases f.2 with⟨e,_⟩|⟨s,t,a,e,r,d,q,p,o,m⟩
 .cases e
 cases e;exact⟨a,d,λj k=>⟨_,Zx o!⟩⟩
def ft {l:List (Int×Int)}(h:SP (J1 e n A) A u l)(c:Ak T A B)(d:∀b,J1 e n A b->¬T b):SP (J1 e n B) B u l:=
 Sl.imp (SP.Ar h (c.same d)) (λb a=>⟨⟨a.1.1,Zl a.1.2 c.size⟩,by rw[c.block b a.1.2 (d b a)];exact a.2⟩) λ_ _ x=>x
def ap5 {left:Int}(hp:SP S w v2 Ap)(Z:SI S w v3 over)(h2:Ap.length<=1000)(h3:over.length<=1000):
  Calls Lp 86 #[.agg #[.int J lo,.int J hi,v2,v3,.int J left]] w λe w'=>∃u2 u3,e=.returned (.agg #[.int J lo,.int J hi,u2,u3,.int J left])/\Bl w w'/\SP (J1 64 w w') w' u2 Ap/\Own w' w u3 over:=by
 obtain⟨R,Q,rfl,l2,m2⟩:=hp.val;obtain⟨L,K,rfl,l3,m3⟩:=Z.val;have IX:=DJ;go_enter Lp.func86,n86;go_wp2;obtain⟨a,O⟩:=Qnm ((w.alloc (C #[.int J lo,.int J hi,U R Ap.length Q,U L over.length K,.int J left] 62)).alloc (C #[.int J 0,.int J 0,(),(),.int J 0] 62));have q:Bl w a:=by rw[O];exact bA (bA (Zh _ _))
 have H:a.heap[w.heap.size]?=some (C #[.int J lo,.int J hi,U R Ap.length Q,U L over.length K,.int J left] 62 (0,0)):=by rw[O];exact Bf (Bp _ _) _
 have G:a.heap[w.heap.size+1]?=some (C #[.int J 0,.int J 0,(),(),.int J 0] 62 (0,0)):=by rw[O];exact Jq _ _ _
 rw[<-O];clear O;have z2:=λp=>Al p (ch (i:=2) H (v:=.slice R Ap.length Q) rfl);have z3:=λp=>Al p (ch (i:=3) H (v:=.slice L over.length K) rfl);refine B0 (S:=λW=>∃p,W=calm a p) [7,8,9,10] [(false,0),(false,3),(true,7),(false,6),(false,8),(false,9),(false,10)] [1,2,4,5] k! (λ_ _ d _ _ h=>by cases d<;>exact h) k! (AL (Zh _ _).drew) ?_;refine A4 _ _ k! ?_;simp only[Z6,zd,ZG,ZD,ZC]
 repeat (first|go_big_quiet_step (fail)|quiet_step (fail))
 refine Z4 ?_;clear z2 z3;change Dl _ _ _ _ _ _ _;have P:Bl a (a.drew.alloc (C #[] 64)):=bA (Zh _ _).drew;refine JZ (v:=.slice a 0 0) (w':=a.drew.alloc (C #[] 64)) rfl rfl g! (.inr (AL P)) ?_;cases A:R with
 |none=>
  subst A;have hl:Ap=[]:=by
   cases Ap with
   |nil=>rfl
   |cons x r=>obtain⟨b,o,e,_⟩:=hp.at_ (i:=0) i!;cases e
  subst hl;refine JZ (v:=.slice a 0 0) (w':=a.drew.alloc (C #[] 64)) rfl rfl g! (.inr (AL P)) ?_;obtain⟨m,Jy⟩:=Qnm (a.drew.alloc (C #[] 64));obtain⟨u2,fj⟩:∃u2:Zf,u2=.slice a 0 0:=⟨_,rfl⟩;have E:SP (J1 64 a m) m u2 []:=⟨_,0,fj,Zj _,Zp _,λi x c=>by cases c⟩;have g:Bl a m:=by rw[Jy];exact P
  rw[<-Jy, <-fj];clear Jy fj;have Tf:=q.trans (g.mono q.size);refine NZ (v:=.pointer (some ⟨w,2,none⟩)) rfl rfl (λw=>g!) ?_;refine Dd (f:=32) (args:= #[U L over.length K]) rfl rfl g! ((WO (Z.later Tf) h3).mono ?_);rintro e l ⟨u3,rfl,F,B⟩;have n:=g.trans (F.mono g.size);refine⟨u3,rfl,.inr (AL n),?_⟩;obtain⟨t,d2,rfl,_⟩:=E.val;obtain⟨s,d3,rfl,_⟩:=B.si.val;have Qo:=q.trans (n.mono q.size);have D:=(n.block _ (Za.1 H).1).trans H;have N:=(n.block _ (Za.1 G).1).trans G;have Rb:w+1<a.heap.size:=(Za.1 G).1;have V:a<=m.heap.size:=g.size;have Y:SP (J1 64 a l) l (U t 0 d2) []:=ft (T:=λ_=>False) E ((Ak.later F).mono λ_ x=>x) λ_ _ x=>x;have n3:Own l a (U s over.length d3) over:=B.mono V;refine LD _ _ _ k! (λx c w=>.inl ?_) ?_
  .revert x;decide
  simp only[Gd,ZG,ZD,ZC];obtain⟨g0,g1,g2,g3,g4⟩:=Qc5 D;have f2:=cf (i:=2) D;have f3:=cf (i:=3) D;obtain⟨x0,x1,x2,x3,x4⟩:=Qc5 N;obtain⟨y0,y1,y2,y3,y4⟩:=Qf5 N;clear F E B;go_wp2;refine ZN (v:=.agg #[.int J lo,.int J hi,U t 0 d2,U s over.length d3,.int J left]) (by rw[A8 rfl];go_simp) rfl ?_;have y:∀X,Bl w X->Ak (λx=>x<a.heap.size) l X->∃u2 u3,Zbx (.agg #[.int J lo,.int J hi,U t 0 d2,U s over.length d3,.int J left])=.returned (.agg #[.int J lo,.int J hi,u2,u3,.int J left])/\Bl w X/\SP (J1 64 w X) X u2 []/\Own X w u3 over:=λX Ov M=>
   ⟨_,_,rfl,Ov,Sl.imp (ft Y M λx c h=>by have:=c.1.1;omega) (λb z=>⟨⟨by have:=z.1.1;omega,z.1.2⟩,z.2⟩) (λ_ _ x=>x),(n3.CN M λx c h=>o!).mono o!⟩
  refine y _ ?_ ?_
  .repeat (with_reducible first|exact Qo|(refine bS ?_ o!))
  .repeat (with_reducible first|exact Ak.refl _ _|(refine Ak.set ?_ (show _<_ by omega)))
 |some ad=>
  obtain⟨I,hn,hR,hc⟩:=Sl.row hp d! ad A;have h1:=row_one d! hn hR bC;obtain⟨i0,DN,Fl,DR,EB⟩:=zp Wv;have hu:=Cz Zcz;refine PW rfl rfl ?_;refine Zak _ _ _ 60 rfl a 64 i0 (.agg #[.int J 0,.int J 0]) 2 16 hu (Dz DN) Fl DR EB rfl d! _ 0 [] rfl (YC a.drew #[] 0 (Zj _) (Zp _) rfl) ad Ap.length Q I (by rw[<-A];rfl) hn (λj u hj=>?_) h1 u! o! i! ?_
  .exact ca (show a.cell? _=_ from(q.cell (ZH w _ (hc j u hj))).trans (hc j u hj)) _
  intro u2 m AX AG Gc;have g:Bl a m:=Bm P AG (λk hk=>by cases hk;exact Zj _) i!;refine⟨.inr (AL g),?_⟩;have E:SP (J1 64 a m) m u2 Ap:=Lg d! (by rw[zN,zP]at AX;exact AX) (λi x c=>hR i x c);clear AX AG Gc;have Tf:=q.trans (g.mono q.size);refine NZ (v:=.pointer (some ⟨w,2,none⟩)) rfl rfl (λw=>g!) ?_;refine Dd (f:=32) (args:= #[U L over.length K]) rfl rfl g! ((WO (Z.later Tf) h3).mono ?_);rintro e l ⟨u3,rfl,F,B⟩;have n:=g.trans (F.mono g.size);refine⟨u3,rfl,.inr (AL n),?_⟩;obtain⟨t,d2,rfl,_⟩:=E.val;obtain⟨s,d3,rfl,_⟩:=B.si.val;have Qo:=q.trans (n.mono q.size);have D:=(n.block _ (Za.1 H).1).trans H;have N:=(n.block _ (Za.1 G).1).trans G;have Rb:w+1<a.heap.size:=(Za.1 G).1;have V:a<=m.heap.size:=g.size;have Y:SP (J1 64 a l) l (U t Ap.length d2) Ap:=ft (T:=λ_=>False) E ((Ak.later F).mono λ_ x=>x) λ_ _ x=>x;have n3:Own l a (U s over.length d3) over:=B.mono V;refine LD _ _ _ k! (λx c w=>.inl ?_) ?_
  .revert x;decide
  simp only[Gd,ZG,ZD,ZC];obtain⟨g0,g1,g2,g3,g4⟩:=Qc5 D;have f2:=cf (i:=2) D;have f3:=cf (i:=3) D;obtain⟨x0,x1,x2,x3,x4⟩:=Qc5 N;obtain⟨y0,y1,y2,y3,y4⟩:=Qf5 N;clear F E B;go_wp2;refine ZN (v:=.agg #[.int J lo,.int J hi,U t Ap.length d2,U s over.length d3,.int J left]) (by rw[A8 rfl];go_simp) rfl ?_;have y:∀X,Bl w X->Ak (λx=>x<a.heap.size) l X->∃u2 u3,Zbx (.agg #[.int J lo,.int J hi,U t Ap.length d2,U s over.length d3,.int J left])=.returned (.agg #[.int J lo,.int J hi,u2,u3,.int J left])/\Bl w X/\SP (J1 64 w X) X u2 Ap/\Own X w u3 over:=λX Ov M=>
   ⟨_,_,rfl,Ov,Sl.imp (ft Y M λx c h=>by have:=c.1.1;omega) (λb z=>⟨⟨by have:=z.1.1;omega,z.1.2⟩,z.2⟩) (λ_ _ x=>x),(n3.CN M λx c h=>o!).mono o!⟩
  refine y _ ?_ ?_
  .repeat (with_reducible first|exact Qo|(refine bS ?_ o!))
  repeat (with_reducible first|exact Ak.refl _ _|(refine Ak.set ?_ (show _<_ by omega)))
structure MR (w:Zb)(q g cap:Nat)(xs:Array Zf)(s1 s2 s3 s5:Zf)(c:A_)(k:Nat)(wr:Zb):Prop where
 below:Bl w wr
 box:wr.heap[w.heap.size]?=some (.cells xs 26 (0,0))
 res:wr.heap[w.heap.size+1]?=some (C Qz6 26 (0,0))
 qx:wr.heap[q]?=some (C #[s1,s2,s3,U g c.Aa.length cap,s5] 26 (0,0))
 base:SI (TT (w+1+1) wr) wr s1 c.base
 Af:SP (TT (w+1+1) wr) wr s2 c.Af
 hooks:SI (TT (w+1+1) wr) wr s3 c.hooks
 now:SI (TT (w+1+1) wr) wr s5 c.now
 row:En (w+1+1) wr (w+1+1) (U g c.Aa.length cap) ((Pf c.Aa).take k++c.Aa.drop k)
def ap6 (h:RC S w v1 v2 v3 v4 v5 c)(hS:Ql6 S w)(uX:c.now=[])(ig:c.base.length<=1000)(fI:c.Af.length<=1000)(fH:c.hooks.length<=1000)(Xm:1<=c.Aa.length/\c.Aa.length<=1000)(xB:∀i,i<c.Aa.length->(Aj c.Aa i).Ap.length<=1000/\(Aj c.Aa i).over.length<=1000)
 (mA:∀i,i<c.Aa.length->∀x∈(Aj c.Aa i).over,0<=x/\x<=1000000):
  Calls Lp 111 #[.agg #[v1,v2,v3,v4,v5]] w (Ro w (Pg c)):=by
 obtain⟨a1,c1,a2,c2,a3,c3,a4,K,a5,c5,rfl,rfl,rfl,rfl,rfl,l1,m1,l2,m2,l3,m3,l4,m4,l5,m5⟩:=h.vs;have IX:=DJ;have Qa:c.now.length<=1000:=by rw[uX];simp
 have Vo:¬((0:Int)<(c.now.length:Int)):=by rw[uX];simp
 have lJ:=Zd uX;clear uX;have Bg:Bl w ((w.alloc (C (Qe6 c a1 c1 a2 c2 a3 c3 a4 K a5 c5) 26)).alloc (C Qz6 26)):=bA (bA (Zh _ _));have fd:((w.alloc (C (Qe6 c a1 c1 a2 c2 a3 c3 a4 K a5 c5) 26)).alloc (C Qz6 26)).heap[w.heap.size]?=some (C (Qe6 c a1 c1 a2 c2 a3 c3 a4 K a5 c5) 26 (0,0)):=Bf (Bp _ _) _;have fA:((w.alloc (C (Qe6 c a1 c1 a2 c2 a3 c3 a4 K a5 c5) 26)).alloc (C Qz6 26)).heap[w.heap.size+1]?=some (C Qz6 26 (0,0)):=Jq _ _ _;have fm:=Zd (aoQ (h.later Bg) (A3 hS Bg) ig fI fH Xm.2 Qa xB);go_enter Lp.func111,anf;go_wp2_with (go_at_call 33;refine fm.out.mono ?_;rintro e w1 ⟨u1,u2,u3,u4,u5,rfl,Bb,t⟩;obtain⟨Y,d1,rfl,_⟩:=t.base.val;obtain⟨W,d2,rfl,_⟩:=t.Af.val;obtain⟨V,d3,rfl,_⟩:=t.hooks.val;obtain⟨R,d5,rfl,_⟩:=t.now.val;obtain⟨g,f,rfl,ci⟩:=t.row.ptr o!);have ed:=(Bb.block _ j!).trans fd;have du:=(Bb.block _ i!).trans fA;have O:=Bg.trans (Bb.mono Bg.size);have DR:=Bb.size;simp only[ZB]at DR t ci;obtain⟨W4,ED⟩:=Qnm (w1.alloc (C (Qe6 c Y d1 W d2 V d3 g f R d5) 26));have E:Bl w1 W4:=by rw[ED];exact bA (Zh _ _)
 have dl:MR w w1 g f #[U a1 c.base.length c1,U a2 c.Af.length c2,U a3 c.hooks.length c3,U a4 c.Aa.length K,U a5 c.now.length c5] (U Y c.base.length d1) (U W c.Af.length d2) (U V c.hooks.length d3) (U R c.now.length d5) c 0 W4:=by
  refine⟨O.trans (E.mono O.size),(E.block _ o!).trans ed,(E.block _ o!).trans du,by rw[ED];exact Bp _ _,Ei t.base E,M6 t.Af E,Ei t.hooks E,Ei t.now E,?_⟩;rw[ZdB,List.drop_zero,zP];exact t.row.later E
 obtain⟨q,hq⟩:=Qnm w1.heap.size;have TC:w+1+1<=q:=o!
 rw[<-ED, <-hq];rw[<-hq]at dl;clear ED E t Bb ed du fd fA O Bg fm hq DR;go_loopg [5] c.Aa.length (λgg i wr=>∃k:Nat,k<=c.Aa.length/\gg=c.Aa.length - k/\i=.int J k/\MR w q g f #[U a1 c.base.length c1,U a2 c.Af.length c2,U a3 c.hooks.length c3,U a4 c.Aa.length K,U a5 c.now.length c5] (U Y c.base.length d1) (U W c.Af.length d2) (U V c.hooks.length d3) (U R c.now.length d5) c k wr)
 case atStart=>exact⟨0,Zp _,rfl,rfl,dl⟩
 obtain⟨k,hk,rfl,rfl,d⟩:=hrel;have bG:=d.below.size;have kD:q<wr:=(Za.1 d.qx).1;have q3:=ch (i:=3) d.qx (v:=.slice g c.Aa.length f) rfl;by_cases Az:k<c.Aa.length
 .obtain⟨m,hm⟩:=Qnm (c.Aa.length - 1 - k)
  have ka:(c.Aa.length:Int) - 1 - (k:Int)=(m:Int):=o!
  have be:m<c.Aa.length:=o!
  have kv:(m:Int)<(c.Aa.length:Int):=o!
  have TB:(k:Int)<(c.Aa.length:Int):=o!
  obtain⟨b4,o4,s2,s3,rfl,UQ,x0,x1,x2,x3,x4,hp,I⟩:=h.Aa.at_ (i:=m) be;have Ga:∀j u,w.cell? ⟨b4,j,none⟩=some u->wr.cell? ⟨b4,j,none⟩=some u:=λj u hu=>(d.below.cell (p:=⟨b4,j,none⟩) (hS b4 UQ)).trans hu;replace x0:=Ga _ _ x0;replace x1:=Ga _ _ x1;replace x2:=Ga _ _ x2;replace x3:=Ga _ _ x3;replace x4:=Ga _ _ x4;clear Ga;replace hp:=hp.later d.below;have b8:=I;replace I:=I.later d.below;obtain⟨Oq,Qm⟩:=xB m be;have am:=mA m be;have an:(Pf c.Aa)[k]?=some (ll c.Aa.length (Aj c.Aa m)):=by rw[hm];exact cy Az
  obtain⟨sm,Qh⟩:=Qnm (Aj c.Aa m);rw[<-Qh]at x0 x1 x4 hp I b8 Oq Qm am an;have iX:=Zd an;clear Qh hm an;obtain⟨low,a,Ap,over,left⟩:=sm;dsimp only at x0 x1 x4 hp I b8 Oq Qm am;obtain⟨a6,c6,rfl,l6,m6⟩:=hp.val;obtain⟨a7,c7,rfl,l7,m7⟩:=I.val;have b3:=ch (i:=3) d.box (v:=.slice (some ⟨b4,o4,none⟩) c.Aa.length K) rfl;go_wp2_with (go_at_call 86;refine(ap5 hp I Oq Qm).mono ?_;rintro e w2 ⟨u2,u3,rfl,O,Hb,Lb⟩;obtain⟨G,F,rfl,_⟩:=Hb.val;obtain⟨B,z,rfl,_⟩:=Lb.si.val);obtain⟨W5,Jy⟩:=Qnm (w2.alloc (C #[.int J low,.int J a,U G Ap.length F,U B over.length z,.int J left] 62));have pX:Bl w2 W5:=by rw[Jy];exact bA (Zh _ _)
  obtain⟨sb,il⟩:=Qnm w2.heap.size;have gn:W5.heap[sb]?=some (C #[.int J low,.int J a,U G Ap.length F,U B over.length z,.int J left] 62 (0,0)):=by rw[Jy,il];exact Bp _ _
  have Cj:Bl wr W5:=O.trans (pX.mono O.size);have g9:=ft (T:=λ_=>False) Hb ((Ak.later pX).mono λ_ x=>x) λ_ _ x=>x;have im:Own W5 wr (U B over.length z) ((Pe c.Aa.length over).take 0++over.drop 0):=by
   rw[ZdB,List.drop_zero,zP];exact Lb.later pX
  have lI:wr<=sb:=by rw[il];exact O.size
  rw[<-Jy, <-il];clear Jy pX O Hb Lb il;obtain⟨Q,D⟩:=Qnm wr;subst D;go_loopg [7] over.length (λgg i P=>∃j:Nat,j<=over.length/\gg=over.length - j/\i=.int J j/\Bl Q P/\P.heap[sb]?=some (C #[.int J low,.int J a,U G Ap.length F,U B over.length z,.int J left] 62 (0,0))/\Own P Q (U B over.length z) ((Pe c.Aa.length over).take j++over.drop j)/\SP (J1 64 Q P) P (U G Ap.length F) Ap)
  case atStart=>exact⟨0,Zp _,rfl,rfl,Cj,gn,im,g9⟩
  obtain⟨j,hj,rfl,rfl,l,H,bv,ct⟩:=hrel;have uY:((Pe c.Aa.length over).take j++over.drop j).length=over.length:=iN (Gz _ _) (by rw[Gz];exact hj);have t3:=ch (i:=3) H (v:=.slice B over.length z) rfl;have D':=(Za.1 H).1;have i7:=(l.cell (p:=⟨b4,o4+m*5+3,none⟩) (ZH _ _ x3)).trans x3;have lF:=(l.cell (p:=⟨w,3,none⟩) (ZH _ _ b3)).trans b3;by_cases lp:j<over.length
  .obtain⟨A,lj,iv,e,l9,o,jt,_,L,xW⟩:=bv.val (by rw[uY];omega)
   rw[uY]at e L xW;cases e;obtain⟨Z,nE⟩:=Qnm (over.length - 1 - j);have LZ:(over.length:Int) - 1 - (j:Int)=(Z:Int):=o!
   have b9:Z<over.length:=o!
   have kw:(Z:Int)<(over.length:Int):=o!
   have lG:(j:Int)<(over.length:Int):=o!
   obtain⟨b7,o7,rfl,U3,bi⟩:=I.at_ b9;have iS:=(l.cell (p:=⟨b7,o7+Z,none⟩) (ZH _ _ bi)).trans bi;have fy:=am _ (Z3 (Bn b9));have ap:=Zd (Tj (n:=c.Aa.length) lp);rw[<-nE]at ap;clear nE bi;obtain⟨y,hy⟩:=Qnm (nth over Z);rw[<-hy]at iS fy ap;clear hy;have Qi:=ch o (L j lp);have CP:=cf (i:=j) o;have S4:A<wr:=(Za.1 o).1;have NK:=Xm.2;have lX:IntKind.i64.wrap ((c.Aa.length:Int) - 1)=(c.Aa.length:Int) - 1:=by rw[zE];omega
   have nj:IntKind.i64.wrap (m:Int)=(m:Int):=by rw[zE];omega
   have jp:IntKind.i64.wrap ((over.length:Int) - 1)=(over.length:Int) - 1:=by rw[zE];omega
   have xX:IntKind.i64.wrap (Z:Int)=(Z:Int):=by rw[zE];omega
   have jn:IntKind.i64.wrap ((c.Aa.length:Int) - 1 - y)=(c.Aa.length:Int) - 1 - y:=by rw[zE];omega
   go_wp2;go_still_tail 24,k!;change wpList _ _ _ _ _ wr.drew;go_wp2;have Th:Ak (λx=>x=A) wr.drew (wr.drew.setCell ⟨A,j,none⟩ (.int J ((c.Aa.length:Int) - 1 - y))):=(Ak.refl (λx=>x=A) wr.drew).DT;have fK:A≠sb:=λe=>by subst e;rw[H]at o;cases o
   have io:Own (wr.drew.setCell ⟨A,j,none⟩ (.int J ((c.Aa.length:Int) - 1 - y))) Q (U A over.length z) ((Pe c.Aa.length over).take (j+1)++over.drop (j+1)):=by
    rw[<-iL (Gz _ _) ap.out];exact xW j _ lp
   have gt:=ft (T:=λ_=>False) ct ((Ak.later (Zh wr wr).drew).mono λ_ x=>x) λ_ _ x=>x;have ii:=ft gt Th (λx hx e=>by
    obtain⟨_,cs,h2⟩:=hx;rw[show x=A from e]at h2;rw[show wr.drew.heap[A]?=wr.heap[A]? from rfl,o]at h2;cases h2)
   go_roundg (over.length - (j+1))
   case rel=>exact⟨j+1,lp,rfl,v!,bS l.drew l9,(AZ (λe=>fK e.symm) _).trans H,io,ii⟩
   omega
  have fJ:j=over.length:=o!
  subst fJ;rw[iM (Gz _ _) (by rw[Gz];exact Zj _)]at bv;have e0:=ch (i:=0) H (v:=.int J low) rfl;have e1:=ch (i:=1) H (v:=.int J a) rfl;have e2:=ch (i:=2) H (v:=.slice G Ap.length F) rfl;have e4:=ch (i:=4) H (v:=.int J left) rfl;have ai:=(l.block q kD).trans d.qx;have i8:=ch (i:=3) ai (v:=.slice g c.Aa.length f) rfl;have uZ:((Pf c.Aa).take k++c.Aa.drop k).length=c.Aa.length:=iN (GD _) (by rw[GD];exact hk);have N:=d.row.later l;rw[<-uZ]at N;obtain⟨iv,r,L⟩:=N.cells (i:=k) (by rw[uZ];exact Az);obtain⟨g0,gj⟩:=L 0 o!;obtain⟨g1,tN⟩:=L 1 o!;obtain⟨g2,lZ⟩:=L 2 o!;obtain⟨A,l9⟩:=L 3 o!;obtain⟨g4,f9⟩:=L 4 o!;have c0:=ch r gj;have lE:=ch r tN;have lm:=ch r lZ;have li:=ch r l9;have ky:=ch r f9;have f0:=cf (i:=k*5) r;have f1:=cf (i:=k*5+1) r;have f2:=cf (i:=k*5+2) r;have f3:=cf (i:=k*5+3) r;have f4:=cf (i:=k*5+4) r;rw[Nat.add_zero]at c0;have Rk:w+1+1<=g:=ci;have f8:g≠q:=λe=>by rw[e,ai]at r;cases r
  have i9:Q<=wr.heap.size:=l.size;have ck:Rs (TT (w+1+1) wr) wr [.int J low,.int J a,U G Ap.length F,U B over.length z,.int J left] (ll c.Aa.length ⟨low,a,Ap,over,left⟩):=by
   have ip:SI (TT Q wr) wr (U B over.length z) (Pe c.Aa.length over):=bv.tt;exact⟨_,_,rfl,Sl.imp ct (λb hb=>⟨by have:=hb.1.1;omega,by obtain⟨cs,h⟩:=hb.2;exact⟨cs,64,h,.inr (.inl rfl)⟩⟩) (λ_ _ x=>x),LQ ip o!⟩
  have bV:=N.put (i:=k) (s:=ll c.Aa.length ⟨low,a,Ap,over,left⟩) (by rw[uZ];exact Az) ck;rw[uZ,iL (GD _) iX.out]at bV;have M:Ak (λx=>x=g) wr (((((wr.setCell ⟨g,k*5,none⟩ (.int J low)).setCell ⟨g,k*5+1,none⟩ (.int J a)).setCell ⟨g,k*5+2,none⟩ (U G Ap.length F)).setCell ⟨g,k*5+3,none⟩ (U B over.length z)).setCell ⟨g,k*5+4,none⟩ (.int J left)):=(Ak.refl (λx=>x=g) wr).DT.DT.DT.DT.DT;have BL:∀x,TT (w+1+1) wr x->¬x=g:=λx hx e=>TT.not (e▸hx) r ⟨d!,d!,d!⟩;have U6:MR w q g f #[U a1 c.base.length c1,U a2 c.Af.length c2,U a3 c.hooks.length c3,U (some ⟨b4,o4,none⟩) c.Aa.length K,U a5 c.now.length c5] (U Y c.base.length d1) (U W c.Af.length d2) (U V c.hooks.length d3) (U R c.now.length d5) c (k+1) (((((wr.setCell ⟨g,k*5,none⟩ (.int J low)).setCell ⟨g,k*5+1,none⟩ (.int J a)).setCell ⟨g,k*5+2,none⟩ (U G Ap.length F)).setCell ⟨g,k*5+3,none⟩ (U B over.length z)).setCell ⟨g,k*5+4,none⟩ (.int J left)):=by
   refine⟨bS (bS (bS (bS (bS (d.below.trans (l.mono d.below.size)) o!) o!) o!) o!) o!,?_,?_,?_,Rn (Ei d.base l) M BL,mL (M6 d.Af l) M BL,Rn (Ei d.hooks l) M BL,Rn (Ei d.now l) M BL,bV⟩
   .exact(M.block _ o! o!).trans ((l.block _ o!).trans d.box)
   .exact(M.block _ o! o!).trans ((l.block _ o!).trans d.res)
   exact(M.block _ o! (λe=>f8 e.symm)).trans ai
  have i6:=Zd U6;clear U6 bV N d ck M BL;go_wp2;go_roundg (c.Aa.length - (k+1))
  case rel=>exact⟨k+1,Az,rfl,v!,i6.out⟩
  omega
 have T5:k=c.Aa.length:=o!
 have N:=d.row;rw[T5,iM (GD _) (by rw[GD];exact Zj _)]at N;subst T5;have q0:=ch (i:=0) d.qx (v:=.slice Y c.base.length d1) rfl;have q1:=ch (i:=1) d.qx (v:=.slice W c.Af.length d2) rfl;have q2:=ch (i:=2) d.qx (v:=.slice V c.hooks.length d3) rfl;have q4:=ch (i:=4) d.qx (v:=.slice R c.now.length d5) rfl;obtain⟨f0,f1,f2,f3,f4⟩:=Qf5 d.res;obtain⟨r0,r1,r2,r3,r4⟩:=Qc5 d.res;have DR:w+1<wr.heap.size:=(Za.1 d.res).1;have HM:=Zd d;have fi:=Zd N;clear d N;go_wp2;obtain⟨Q,D⟩:=Qnm wr;have lK:=Zd D;clear D;go_loopg [8] 0 (λgg i P=>i=.int J 0/\P=wr)
 case atStart=>exact⟨rfl,rfl⟩
 case round=>
 obtain⟨rfl,fw⟩:=hrel;obtain rfl:=fw.symm;go_wp2;refine ZN (v:=.agg #[U Y c.base.length d1,U W c.Af.length d2,U V c.hooks.length d3,U g c.Aa.length f,U R c.now.length d5]) (by rw[A8 rfl];go_simp) rfl ?_;have fu:∀X,Bl w X->Ak (λx=>x=w.heap.size+1) wr X->Ro w (Pg c) (.returned (.agg #[U Y c.base.length d1,U W c.Af.length d2,U V c.hooks.length d3,U g c.Aa.length f,U R c.now.length d5])) X:=λX Ov Pc=>by
  have hn:∀x,TT (w+1+1) wr x->¬x=w+1:=λx hx e=>by have:=hx.1;omega
  have mM:w<=w.heap.size+1+1:=o!
  have hg:∀x,(Zy g c.Aa.length f).ownBlock=some x->¬x=w+1:=λx hx e=>by have:=(fi.out.own x hx).1;omega
  exact⟨_,_,_,_,_,rfl,Ov,LQ (Rn HM.out.base Pc hn) mM,Ug (mL HM.out.Af Pc hn) mM,LQ (Rn HM.out.hooks Pc hn) mM,LQ (Rn HM.out.now Pc hn) mM,(fi.out.CN Pc hn hg).mono mM⟩
 have Lc:=HM.out.below;refine fu _ ?_ ?_
 .repeat (with_reducible first|exact Lc|(refine bS ?_ o!))
 repeat (with_reducible first|exact Ak.refl _ _|(refine Ak.DT ?_))
def J4 (g:Nat)(l:List Ay):Prop:=∀i,i<l.length->Mh g l.length i (Aj l i)/\∀x∈(Aj l i).over,(i:Int)<x
def F6 (g:Nat)(l:List Ay):Prop:=∀i,i<l.length->Mh g l.length i (Aj l i)/\∀x∈(Aj l i).over,x<(i:Int)
def cz (h:y∈Pe n o):∃x∈o,y=(n:Int) - 1 - x:=by
 unfold Pe at h;obtain⟨k,a,rfl⟩:=List.mem_map.1 h;have b:k<o.length:=by simpa using a
 exact⟨_,Z3 (Bn (show o.length - 1 - k<o.length by omega)),rfl⟩
def u_ (h:o.Pairwise (· < ·)):(Pe n o).Pairwise (· < ·):=by
 rw[ZdK];intro i j hi a f;rw[Gz]at hi a;have c:=Tj (n:=n) hi;have b:=Tj (n:=n) a;rw[zf (by rw[Gz];exact hi)]at c;rw[zf (by rw[Gz];exact a)]at b;rw[ZW c,ZW b];have:=ZdK.1 h (o.length - 1 - j) (o.length - 1 - i) o! o! o!;have e:=Bn (l:=o) (show o.length - 1 - j<o.length by omega);have d:=Bn (l:=o) (show o.length - 1 - i<o.length by omega);rw[zf o!]at e d;rw[ZW e,ZW d]at this;omega
def qJ {l:List Ay}(h:J4 g l):F6 g (Pf l):=by
 intro i hi;rw[GD]at hi⊢;have e:Aj (Pf l) i=ll l.length (Aj l (l.length - 1 - i)):=by
  have:=Db (l:=Pf l) (by rw[GD];exact hi);rw[cy hi]at this;exact(ZW this).symm
 obtain⟨a,d⟩:=h (l.length - 1 - i) o!;rw[e];refine⟨⟨a.step,a.few,a.pull,a.twice,λy c=>?_,u_ a.rising,a.left⟩,λy c=>?_⟩
 .obtain⟨x,b,rfl⟩:=cz c
  have j:=a.over x b;have f:=d x b;omega
 obtain⟨x,b,rfl⟩:=cz c;have f:=d x b;omega
def iO (k:1<=c.base.length/\c.base.length<=3)(j:∀x∈c.base,20<=x/\x<=30)(g:c.Af.length=c.base.length)(f:∀p∈c.Af,-2<=p.1/\p.1<=p.2/\p.2<=5)(h5:c.hooks.length=c.base.length)(e:∀x∈c.hooks,0<=x/\x<=5)(d:1<=c.Aa.length/\c.Aa.length<=3)
 (a:J4 c.base.length c.Aa\/F6 c.base.length c.Aa) (b:Tc c c.now):H6 c:=by
 refine⟨k,j,g,f,h5,e,d,λi hi=>?_,?_,b⟩
 .rcases a with h|h
  .exact(h i hi).1
  exact(h i hi).1
 rcases a with h|h
 .exact .inl λi hi=>(h i hi).2
 exact .inr λi hi=>(h i hi).2
def ve {l:List Ay}(h:∀i,i<l.length->Mh g n i (Aj l i)/\∀x∈(Aj l i).over,(i:Int)<x)(b:Mh g n l.length s)(c:∀x∈s.over,(l.length:Int)<x):∀i,i<(l++ [s]).length->Mh g n i (Aj (l++ [s]) i)/\∀x∈(Aj (l++ [s]) i).over,(i:Int)<x:=by
 intro i hi;rw[ZA,zb,zR]at hi;by_cases a:i<l.length
 .rw[show Aj (l++ [s]) i=Aj l i by simp[Aj,Y6,zl a]]
  exact h i a
 obtain rfl:i=l.length:=o!
 rw[show Aj (l++ [s]) l.length=s by simp[Aj]];exact⟨b,c⟩
def Vp {t s:Nat}{d c:List Int}(o:Own A t v1 d)(n:Own A s v3 c)(h:0<d.length)(f:0<c.length)(w:nth d 0≠nth c 0):∀x,v1.ownBlock=some x->¬v3.ownBlock=some x:=by
 intro x k u;obtain⟨g,r,q,e,_,l,_,_,m,_⟩:=o.val h;obtain⟨y,B,z,p,_,j,_,_,v,_⟩:=n.val f;subst e p;cases k;cases u;rw[l]at j;cases j;have a:=m 0 h;have b:=v 0 f;rw[a]at b;have i:=ZW b;simp only[Value.int.injEq,true_and]at i;exact w i
def Own.apart {base:Nat}(h:Own A base v l)(f:Ak T A B)(e:∀x,v.ownBlock=some x->¬T x):Own B base v l:=by
 refine⟨h.1,?_⟩;rcases h.2 with a|⟨g,c,b,a,j,d,i⟩
 .exact .inl a
 exact .inr ⟨g,c,b,a,j,(f.block g (Za.1 d).1 (e g (by rw[a];rfl))).trans d,i⟩
structure LG (b:Nat)(lv:Zf)(w:Zb)(d k:Nat)(v1 v2 v3:Zf)(bs:List Int)(es:List (Int×Int))(hs:List Int)(wr:Zb):Prop where
 lw:LW b lv w d wr
 res:wr.heap[w.heap.size]?=some (C Qz6 26 (0,0))
 qx:wr.heap[w.heap.size+1]?=some (C #[v1,v2,v3,(),()] 26 (0,0))
 base:Own wr (w+1+1) v1 bs
 Af:Ih wr (w+1+1) v2 es 80
 hooks:Own wr (w+1+1) v3 hs
 lens:bs.length=k/\es.length=k/\hs.length=k
 apf:k=0->v3=.slice none 0 0
 apart:∀x,v1.ownBlock=some x->¬v3.ownBlock=some x
 cb:∀x∈bs,20<=x/\x<=30
 ce:∀p∈es,-2<=p.1/\p.1<=p.2/\p.2<=5
 chk:∀x∈hs,0<=x/\x<=5
structure LT2 (b:Nat)(lv:Zf)(w:Zb)(d g n:Nat)(v1 v2 v3 v4:Zf)(bs:List Int)(es:List (Int×Int))(hs:List Int)(sl:List Ay)(wr:Zb):Prop where
 lw:LW b lv w d wr
 res:wr.heap[w.heap.size]?=some (C Qz6 26 (0,0))
 qx:wr.heap[w.heap.size+1]?=some (C #[v1,v2,v3,v4,()] 26 (0,0))
 base:Own wr (w+1+1) v1 bs
 Af:Ih wr (w+1+1) v2 es 80
 hooks:Own wr (w+1+1) v3 hs
 row:En (w+1+1) wr (w+1+1) v4 sl
 up:∀i,i<sl.length->Mh g n i (Aj sl i)/\∀x∈(Aj sl i).over,(i:Int)<x
def ai0 (a:m<=5)(h:r<4):0<=nth [0,0,3,(m:Int)] r/\nth [0,0,3,(m:Int)] r<=5:=by
 have:r=0\/r=1\/r=2\/r=3:=o!
 rcases this with rfl|rfl|rfl|rfl<;>simp[nth]<;>omega
def Oi (h:i<l.length):nth l i∈l:=Z3 (Bn h)
def qK (h:o.Pairwise (· < ·))(a:∀x∈o,0<=x/\x<(n:Int)):o.length<=n:=by
 have b:∀(l:List Int) (m:Int),l.Pairwise (· < ·)->(∀x∈l,m<=x/\x<(n:Int))->m<=n->(l.length:Int)<=n - m:=by
  intro l
  induction l with
  |nil=>intro m _ _ c;simp;omega
  |cons y r d=>
   intro m e c f;obtain⟨i,g⟩:=List.pairwise_cons.1 e;have j:=c y (zC ..);have:=d (y+1) g (λx a=>⟨by have:=i x a;omega,(c x (zm _ a)).2⟩) o!;simp only[zb];omega
 have:=b o 0 h a o!;omega
structure CWr (n:Nat)(w:Zb)(u1 u2 u3 u4 u5:Zf)(c:A_):Prop where
 base:SI (TT n w) w u1 c.base
 Af:SP (TT n w) w u2 c.Af
 hooks:SI (TT n w) w u3 c.hooks
 row:En n w n u4 c.Aa
 now:SI (λx=>Cb n w x/\¬u4.ownBlock=some x) w u5 c.now
def CWr.rc {u3:Zf}(h:CWr n w u1 u2 u3 u4 u5 c):RC (Cb n w) w u1 u2 u3 u4 u5 c:=
 ⟨Sl.imp h.base (λb a=>a.new) λ_ _ x=>x,Sl.imp h.Af (λb a=>a.new) λ_ _ x=>x,Sl.imp h.hooks (λb a=>a.new) λ_ _ x=>x,h.row.ss (Zj _),Sl.imp h.now (λb a=>a.1) λ_ _ x=>x⟩
def xY {X Y Z:Zb}{u3:Zf}{ln:List Int}(h:CT m X u1 u2 u3 u4 u5 c)(i:B3 b X Y)(q:Ak T Y Z)(w:b<m)(d:∀x,k<=x->¬T x)(j:n<=k)(a:k<=m)
 (hl:SI (Cb X Y) Y v ln) (y:k<=X.heap.size):CWr n Z u1 u2 u3 u4 v {c with now:=ln}:=by
 have p:Ak (λx=>x=b) X Y:=⟨i.os,i.tape,i.output,i.size,λk a t=>i.block k a t⟩;have r:=h.CN p (λx d e=>by have:=d.1;omega) (λg o e=>by have:=(h.row.own g o).1;omega);have l:=r.CN q (λx h=>d x (by have:=h.1;omega)) (λg o=>d g (by have:=(r.row.own g o).1;omega));have s:=q.size;refine⟨LQ l.base (Zr j a),Ug l.Af (Zr j a),LQ l.hooks (Zr j a),l.row.mono (Zr j a),?_⟩;refine Sl.imp (hl.Ar (q.same λx (f:Cb _ _ x)=>d x (by have:=f.1;omega))) (λx (f:Cb _ _ x)=>⟨⟨by have:=f.1;omega,by have:=f.2;omega⟩,λe=>?_⟩) λ_ _ x=>x;obtain⟨_,cs,u⟩:=h.row.own x e;have:=(Za.1 u).1;have:=f.1;omega
def fB (w:Zb)(b:Nat)(lv:Zf)(d s:Nat)(e:Ending)(w':Zb):Prop:=∃(c:A_) (u1 u2 u3 u4 u5:Zf) (a:Nat),e=.returned (.agg #[u1,u2,u3,u4,u5])/\LW b lv w a w'/\a<=d+1000/\CWr w w' u1 u2 u3 u4 u5 c/\H6 c/\c.Aa.length<=s
def qL (w:Zb)(b:Nat)(lv:Zf)(d s:Nat)(e:Ending)(w':Zb):Prop:=∃(c:A_) (u1 u2 u3 u4 u5:Zf) (a:Nat),e=.returned (.agg #[u1,u2,u3,u4,u5])/\LW b lv w a w'/\a<=d+1000/\RC (Cb w w') w' u1 u2 u3 u4 u5 c/\H6 c/\c.Aa.length<=s
def aph {s:Nat}(hn:SI Sn w lv nums)(E8:∀x,Sn x->x<w.heap.size/\x≠b)(hL:BK w b lv d)(hd:d+1000<4611686018427387904)(hs:1<=s/\s<=3):
  Calls Lp 44 #[.pointer b,.int J s] w (fB w b lv d s):=by
 have IX:=DJ;have rW:=Zd (λW d lo hi hL hd h1 E=>abV (W:=W) (d:=d) (lo:=lo) (hi:=hi) hn E8 hL hd h1 E);have iG:=Zd (λW d n hL hd E=>abW (W:=W) (d:=d) (n:=n) hn E8 hL hd E);have tb:=Zd (λW d n hL hd E=>abX (W:=W) (d:=d) (n:=n) hn E8 hL hd E);have td:=Zd (λW d s hL hd h1 E=>abY (W:=W) (d:=d) (s:=s) hn E8 hL hd h1 E);have L:=hL.lt;have Ko:=Jq w (C Qz6 26) (C Qz6 26);have fA:=Bf (Bp w (C Qz6 26)) (C Qz6 26);have ml:=((LW.refl hL).alloc (C Qz6 26)).alloc (C Qz6 26);go_enter Lp.func44,n44;go_wp2_with (go_at_call 61;refine(rW.out _ _ _ _ ml o! o! o!).mono ?_;rintro e W1 ⟨r0,d1,rfl,tE,Na,fq,vz⟩;have Ko:=Na.at_ Ko o!;have fA:=Na.at_ fA o!);have rC:LG b lv w d1 0 () () () [] [] [] W1:=⟨fq,fA,Ko,zq _ _ _ _,zq _ _ _ _,zq _ _ _ _,⟨rfl,rfl,rfl⟩,λ_=>rfl,(λx a=>by cases a),(λx a=>by cases a),(λx a=>by cases a),(λx a=>by cases a)⟩;clear Ko fA ml Na fq;obtain⟨G,rB⟩:=Qnm (1+r0);have mB:1<=G/\G<=3:=o!
 rw[show(1:Int)+(r0:Int)=(G:Int) by omega];clear rB tE;go_loopg [6] G (λgg i wr=>∃(k m dk:Nat) (v1 v2 v3:Zf) (c:List Int) (q:List (Int×Int)) (hs:List Int),k+m=G/\gg=m/\i=.int J m/\dk<=d1+5*k/\LG b lv w dk k v1 v2 v3 c q hs wr)
 case atStart=>exact⟨0,G,d1,_,_,_,_,_,_,zN _,rfl,rfl,Zj _,rC⟩
 obtain⟨k,m,dk,v1,v2,v3,c,q,r,un,ut,rfl,jF,t⟩:=hrel;obtain⟨a1,c1,rfl,_⟩:=t.base.si.val;obtain⟨a2,c2,rfl,_⟩:=JS t.Af;obtain⟨a3,c3,rfl,_⟩:=t.hooks.si.val;by_cases Az:0<m
 .obtain⟨m',rfl⟩:∃m',m=m'+1:=⟨m - 1,o!⟩
  have an:=t.lw;go_wp2_with (go_at_call 61;refine(rW.out _ _ _ _ an o! o! o!).mono ?_;rintro e W2 ⟨r1,d2,rfl,Xg,Ot,M7,vy⟩);obtain⟨Q,li⟩:∃Q:Int,Q= -2+(r1:Int):=⟨_,rfl⟩;have vC: -2<=Q/\Q<=1:=o!
  rw[<-li];clear li Xg;have t9:=an.Cn.size;have qM:=Ot.at_ t.qx o!;have my:=Ot.at_ t.res o!;have EC:=t.base.Cn Ot o!;have jZ:=D2 t.Af Ot (by omega:b<w+1+1);have lG:=t.hooks.Cn Ot o!;have kG:=Zd (ZY t.lens (ZY t.apf (ZY t.apart (ZY t.cb (ZY t.ce t.chk)))));have T2:=t.lens.1;have Oq:=t.lens.2.1;have Qm:=t.lens.2.2;have cA:=Zd (ZY T2 (ZY Oq Qm));clear t T2 Oq Qm an Ot;obtain⟨K,Ig⟩:∃K:Nat->Prop,K=λx=>x=b\/w+1<x:=⟨_,rfl⟩;have fh:K b:=by rw[Ig];exact .inl rfl
  have LP:∀x,w.heap.size+1<x->K x:=λx a=>by rw[Ig];exact .inr a
  have Tg:¬K (w+1):=by rw[Ig];intro x;omega
  have qF:¬K w:=by rw[Ig];intro x;omega
  clear Ig;have z0:=λp:Tw K W2=>p.cell (ch (i:=0) qM (v:=.slice a1 c.length c1) rfl) Tg;have z1:=λp:Tw K W2=>p.cell (ch (i:=1) qM (v:=.slice a2 q.length c2) rfl) Tg;have z2:=λp:Tw K W2=>p.cell (ch (i:=2) qM (v:=.slice a3 r.length c3) rfl) Tg;have fI:w+1<W2.heap.size:=(Za.1 qM).1;refine G7 (S:=λW=>∃p:Tw K W2,W=p.v) 31 [26,27,28,29,30] [(false,3),(false,4),(false,5),(true,25),(false,11),(false,12),(false,13),(false,14),(false,15),(false,20),(false,21),(false,22),(false,23),(false,24),(false,26),(false,27),(false,28),(false,29),(false,30)] [0,1,2,6,7,8,9,10,16,17,18,19] k! (λ_ _ d _ _ h=>by cases d<;>exact h) k! (A5 (Ak.later (Zh _ _).drew)) ?_;refine A4 _ _ k! ?_;simp only[Z6,zd,ZG,ZD,ZC]
  repeat (first|go_big_quiet_step (fail)|quiet_step (fail))
  refine Z4 ?_;clear z0 z1 z2;change H2 _ _ _ _ _ _ _ _;obtain⟨V0,tY⟩:=Qnm W2.drew;have mO:Bl W2 V0:=by rw[tY];exact(Zh _ _).drew
  rw[<-tY];clear tY;have aW:Ak K W2 V0:=Ak.later mO;have mt:=M7.below mO;obtain⟨i8,i9,jt,jp,jn⟩:=zp KY;obtain⟨nm,no,ow,ol,n7⟩:=zp Wu;refine Iy (f:=61) (args:= #[.pointer b,.int J 20,.int J 30]) rfl rfl g! ((rW.out V0 _ _ _ mt o! o! o!).mono ?_);rintro e V1 ⟨r2,d3,rfl,Ox,H4,Ue,vx⟩;obtain⟨P,kv⟩:∃P:Int,P=20+(r2:Int):=⟨_,rfl⟩;have iS:20<=P/\P<=30:=o!
  rw[<-kv];clear kv Ox;have Kd:=aW.trans (H4.CN fh);refine⟨_,rfl,.inr (A5 Kd),?_⟩;refine EY (v:=.slice V1 1 1) (w':=V1.alloc (C #[.int J P] 3)) rfl rfl g! (.inr (A5 (Kd.uJ (bA (Zh _ _))))) ?_;have DR:=Kd.size;have Xi:=(EC.later mO).Cn H4 o!;have ma:=D2 (Fu jZ mO) H4 (by omega:b<w+1+1);have lF:=(lG.later mO).Cn H4 o!;have M8:k<=3:=o!
  refine SZ rfl rfl ?_;refine Zak _ _ _ 22 rfl (w+1+1) 3 i8 (.int J 0) 1 8 (Cz YE) (Dz i9) jt jp jn rfl d! _ c.length (c.map (ZL J)) rfl (Ya Xi _) V1 1 1 [.int J P] rfl rfl (Dj _ _ _) (by simp[YT]) (by have:=cA.out.1;unfold maxLen;omega) (by have:=cA.out.1;omega) j! ?_;intro i7 R AX O Gc;have F:=J3 Xi;have I:Ak (λx=>(Zy a1 c.length c1).ownBlock=some x) V1 R:=((Ak.later (bA (Zh _ _))).mono λ_ x=>x).trans (Ak.grown O λx a=>a);have D3:=Kd.trans (I.mono λx a=>LP x (by have:=(F x a).1;omega));have Rk:∀x,(Zy a1 c.length c1).ownBlock=some x->w.heap.size<=x:=λx a=>by have:=(F x a).1;omega
  have rV:LW b lv w d3 R:=⟨(Ue.alloc (C #[.int J P] 3)).Cn.grown O Rk,(Ue.alloc (C #[.int J P] 3)).E4.of (O.block b (Ue.alloc _).E4.lt (λe=>by have:=(F b e.symm).1;omega))⟩;refine⟨.inr (A5 D3),?_⟩;have UQ:Own R (w+1+1) i7 (c++ [P]):=by
   unfold Own;rw[ZA,Zai];exact AX
  have lL:Ih R (w+1+1) (U a2 q.length c2) q 80:=Fc ma I (λx cs a e=>by
   obtain⟨_,ck,E⟩:=F x e;rw[a]at E;cases E)
  have f9:=lF.apart I (λx a e=>kG.out.2.2.1 x e a);have mh:∀x,i7.ownBlock=some x->¬(Zy a3 r.length c3).ownBlock=some x:=by
   by_cases kq:k=0
   .rw[kG.out.2.1 kq]
    intro x _ h;cases h
   refine Vp UQ f9 i! (by have:=cA.out.2.2;omega) ?_;have h1:20<=nth (c++ [P]) 0:=by
    have hm:nth (c++ [P]) 0∈c++ [P]:=Oi i!;rcases Zab.1 hm with h|h
    .exact(kG.out.2.2.2.1 _ h).1
    rw[Yh.1 h];exact iS.1
   have E:=(kG.out.2.2.2.2.2 _ (Oi (l:=r) (i:=0) (by have:=cA.out.2.2;omega))).2;omega
  obtain⟨g1,N,rfl⟩:=Zay AX;clear AX O Gc I F Rk Xi ma lF EC jZ lG aW Kd H4 Ue mt DR;refine Wz (v:=.pointer (w+1:Nat)) (A5 D3) rfl rfl (λw _=>g!) ?_;refine Iy (f:=29) (args:= #[.pointer b,.int J 4]) rfl rfl g! ((iG.out R _ _ rV o! o!).mono ?_);rintro e V3 ⟨r4,d4,rfl,rg,S5,fd,vw⟩;have Ou:=D3.trans (S5.CN fh);refine⟨_,rfl,.inr (A5 Ou),?_⟩;have xX:IntKind.i64.wrap (Q+(r4:Int))=Q+(r4:Int):=by rw[zE];omega
  refine EY (v:=.int J (Q+(r4:Int))) (w':=V3) rfl rfl g! (.inr (A5 Ou)) ?_;obtain⟨mo,ky⟩:∃mo:Int,mo=Q+(r4:Int):=⟨_,rfl⟩;have vB:Q<=mo/\mo<=5:=o!
  rw[<-ky];clear ky xX rg;refine EY (v:=.agg #[.int J Q,.int J mo]) (w':=V3) rfl rfl g! (.inr (A5 Ou)) ?_;refine EY (v:=.slice V3 1 1) (w':=V3.alloc (C #[.int J Q,.int J mo] 80)) rfl rfl g! (.inr (A5 (Ou.uJ (bA (Zh _ _))))) ?_;have Rb:=Ou.size;have wN:=UQ.Cn S5 o!;have gj:=D2 lL S5 (by omega:b<w+1+1);have lE:=f9.Cn S5 o!;refine SZ rfl rfl ?_;refine Zak _ _ _ 23 rfl (w+1+1) 80 nm (.agg #[.int J 0,.int J 0]) 2 16 (Cz Zdg) (Dz no) ow ol n7 rfl d! _ q.length (q.flatMap λp=> [ZL J p.1,.int J p.2]) g! (Ya gj _) V3 1 1 [.int J Q,.int J mo] g! rfl (Hc _ _ _) (by intro u hu;simp at hu;rcases hu with rfl|rfl<;>rfl) (by have:=cA.out.2.1;unfold maxLen;omega) (by have:=cA.out.2.1;omega) j! ?_;intro ne V4 AX O Gc;have F:=J3 gj;have I:Ak (λx=>(Zy a2 q.length c2).ownBlock=some x) V3 V4:=((Ak.later (bA (Zh _ _))).mono λ_ x=>x).trans (Ak.grown O λx a=>a);have fC:=Ou.trans (I.mono λx a=>LP x (by have:=(F x a).1;omega));have Rk:∀x,(Zy a2 q.length c2).ownBlock=some x->w.heap.size<=x:=λx a=>by have:=(F x a).1;omega
  have b9:LW b lv w d4 V4:=⟨(fd.alloc (C #[.int J Q,.int J mo] 80)).Cn.grown O Rk,(fd.alloc (C #[.int J Q,.int J mo] 80)).E4.of (O.block b (fd.alloc _).E4.lt (λe=>by have:=(F b e.symm).1;omega))⟩;refine⟨.inr (A5 fC),?_⟩;have lK:Ih V4 (w+1+1) ne (q++ [(Q,mo)]) 80:=by
   unfold Ih;rw[ZA,Zbe];exact AX
  have iv:∀x cs,V3.heap[x]?=some (Zbi cs 3 (0,0))->¬(Zy a2 q.length c2).ownBlock=some x:=λx cs a e=>by
   obtain⟨_,ck,E⟩:=F x e;rw[a]at E;cases E
  have Xj:Own V4 (w+1+1) (U g1 (c.length+1) N) (c++ [P]):=Fc wN I iv;have lm:Own V4 (w+1+1) (U a3 r.length c3) r:=Fc lE I iv;obtain⟨g2,q2,rfl⟩:=Zay AX;clear AX O Gc I F Rk wN gj lE UQ lL f9 D3 Ou S5 fd rV Rb iv;refine Iy (f:=29) (args:= #[.pointer b,.int J 5]) rfl rfl g! ((iG.out V4 _ _ b9 o! o!).mono ?_);rintro e V5 ⟨r5,d5,rfl,iK,cN,xZ,ry⟩;have gt:=fC.trans (cN.CN fh);refine⟨_,rfl,.inr (A5 gt),?_⟩;have WQ:=gt.uJ (bA (o:=.cells #[.int J 0,.int J 0,.int J 3,.int J r5] 3) (Zh _ _));refine EY (v:=.slice V5 4 4) (w':=V5.alloc (C #[.int J 0,.int J 0,.int J 3,.int J r5] 3)) rfl rfl g! (.inr (A5 WQ)) ?_;refine Iy (f:=98) (args:= #[.pointer b,U V5 4 4]) rfl rfl g! ((td.out V5 _ [0,0,3,(r5:Int)] xZ o! i! i!).mono ?_);rintro e V6 ⟨r6,d6,rfl,ap,Xp,ed,vi⟩;obtain⟨y,hy,ka⟩:∃y,y=nth [0,0,3,(r5:Int)] r6/\(0<=y/\y<=5):=⟨_,rfl,ai0 o! ap⟩;rw[<-hy];clear hy;have b8:=WQ.trans (Xp.CN fh);refine⟨_,rfl,.inr (A5 b8),?_⟩;refine EY (v:=.slice V6 1 1) (w':=V6.alloc (C #[.int J y] 3)) rfl rfl g! (.inr (A5 (b8.uJ (bA (Zh _ _))))) ?_;have pt:=b8.size;have Vn:Bl V5 (V5.alloc (C #[.int J 0,.int J 0,.int J 3,.int J r5] 3)):=bA (Zh _ _);have U3:=((Xj.Cn cN o!).later Vn).Cn Xp o!;have lJ:=D2 (Fu (D2 lK cN (by omega:b<w+1+1)) Vn) Xp (by omega:b<w+1+1);have f8:=((lm.Cn cN o!).later Vn).Cn Xp o!;refine SZ rfl rfl ?_;refine Zak _ _ _ 22 rfl (w+1+1) 3 i8 (.int J 0) 1 8 (Cz YE) (Dz i9) jt jp jn rfl d! _ r.length (r.map (ZL J)) g! (Ya f8 _) V6 1 1 [.int J y] g! rfl (Dj _ _ _) (by simp[YT]) (by have:=cA.out.2.2;unfold maxLen;omega) (by have:=cA.out.2.2;omega) j! ?_;intro mz V7 AX O Gc;have F:=J3 f8;have I:Ak (λx=>(Zy a3 r.length c3).ownBlock=some x) V6 V7:=((Ak.later (bA (Zh _ _))).mono λ_ x=>x).trans (Ak.grown O λx a=>a);have du:=b8.trans (I.mono λx a=>LP x (by have:=(F x a).1;omega));have Rk:∀x,(Zy a3 r.length c3).ownBlock=some x->w.heap.size<=x:=λx a=>by have:=(F x a).1;omega
  have mp:LW b lv w d6 V7:=⟨(ed.alloc (C #[.int J y] 3)).Cn.grown O Rk,(ed.alloc (C #[.int J y] 3)).E4.of (O.block b (ed.alloc _).E4.lt (λe=>by have:=(F b e.symm).1;omega))⟩;refine⟨.inr (A5 du),?_⟩;have fK:Own V7 (w+1+1) mz (r++ [y]):=by
   unfold Own;rw[ZA,Zai];exact AX
  have gn:=U3.apart I (λx a e=>mh x a e);have lI:Ih V7 (w+1+1) (U g2 (q.length+1) q2) (q++ [(Q,mo)]) 80:=Fc lJ I (λx cs a e=>by
   obtain⟨_,ck,E⟩:=F x e;rw[a]at E;cases E)
  obtain⟨g3,q3,rfl⟩:=Zay AX;have mx:∀x,(Zy g1 (c.length+1) N).ownBlock=some x->¬(Zy g3 (r.length+1) q3).ownBlock=some x:=by
   refine Vp gn fK i! i! ?_;have h1:20<=nth (c++ [P]) 0:=by
    have hm:nth (c++ [P]) 0∈c++ [P]:=Oi i!;rcases Zab.1 hm with h|h
    .exact(kG.out.2.2.2.1 _ h).1
    rw[Yh.1 h];exact iS.1
   have E:nth (r++ [y]) 0<=5:=by
    have hm:nth (r++ [y]) 0∈r++ [y]:=Oi i!;rcases Zab.1 hm with h|h
    .exact(kG.out.2.2.2.2.2 _ h).2
    rw[Yh.1 h];exact ka.2
   omega
  clear AX O Gc I F Rk U3 lJ f8 Xj lK lm fC gt b8 WQ cN Xp b9 xZ ed pt mh Vn;have x_:=(du.block _ fI Tg).trans qM;have fH:=(du.block _ (Za.1 my).1 qF).trans my;have f0:=cf (i:=0) x_;have f1:=cf (i:=1) x_;have f2:=cf (i:=2) x_;have e0:=ch (i:=0) x_ (v:=.slice a1 c.length c1) rfl;have e1:=ch (i:=1) x_ (v:=.slice a2 q.length c2) rfl;have e2:=ch (i:=2) x_ (v:=.slice a3 r.length c3) rfl;refine N9 (w':=V7.setCell (w+1:Nat) (U g1 (c.length+1) N)) rfl rfl g! (.inl rfl) ?_;refine EY (v:=.pointer (some ⟨w+1,1,none⟩)) (w':=V7.setCell (w+1:Nat) (U g1 (c.length+1) N)) rfl rfl g! (.inl rfl) ?_;refine N9 (w':=(V7.setCell (w+1:Nat) (U g1 (c.length+1) N)).setCell ⟨w+1,1,none⟩ (U g2 (q.length+1) q2)) rfl rfl g! (.inl rfl) ?_;refine EY (v:=.pointer (some ⟨w+1,2,none⟩)) (w':=(V7.setCell (w+1:Nat) (U g1 (c.length+1) N)).setCell ⟨w+1,1,none⟩ (U g2 (q.length+1) q2)) rfl rfl g! (.inl rfl) ?_;obtain⟨V8,bV⟩:=Qnm (((V7.setCell (w+1:Nat) (U g1 (c.length+1) N)).setCell ⟨w+1,1,none⟩ (U g2 (q.length+1) q2)).setCell ⟨w+1,2,none⟩ (U g3 (r.length+1) q3));refine N9 (w':=V8) rfl rfl (by rw[bV];go_simp) (.inl rfl) ?_;have mv:LG b lv w d6 (k+1) (U g1 (c.length+1) N) (U g2 (q.length+1) q2) (U g3 (r.length+1) q3) (c++ [P]) (q++ [(Q,mo)]) (r++ [y]) V8:=by
   have dl:Ak (λx=>x=w.heap.size+1) V7 V8:=by rw[bV];exact(Ak.refl (λx=>x=w.heap.size+1) V7).DT.DT.DT
   have ai:∀x,w.heap.size+1+1<=x->¬x=w.heap.size+1:=λx h1 E=>o!
   obtain⟨l1,l2,l3⟩:=cA.out;refine⟨by rw[bV];exact((mp.D4 L o!).D4 L o!).D4 L o!,(dl.block _ (Za.1 fH).1 o!).trans fH,by rw[bV];exact Ba (Ba (Ba x_ _) _) _,CO dl ai gn,CO dl ai lI,CO dl ai fK,⟨by simp[l1],by simp[l2],by simp[l3]⟩,λh=>o!,mx,λx a=>?_,λp hp=>?_,λx a=>?_⟩
   .rcases Zab.1 a with h|h
    .exact kG.out.2.2.2.1 _ h
    rw[Yh.1 h];exact iS
   .rcases Zab.1 hp with h|h
    .exact kG.out.2.2.2.2.1 _ h
    rw[Yh.1 h];simp only;omega
   rcases Zab.1 a with h|h
   .exact kG.out.2.2.2.2.2 _ h
   rw[Yh.1 h];exact ka
  have s8:=Zd mv;clear mv bV x_ fH f0 f1 f2 e0 e1 e2 mp du gn lI fK mx;unfold H2
  go_simp
  go_wp2;go_roundg m'
  case rel=>exact⟨k+1,m',d6,_,_,_,_,_,_,o!,rfl,v!,o!,s8.out⟩
  omega
 have ru:m=0:=o!
 subst ru;have us:k=G:=o!
 have an:=t.lw;obtain⟨T2,Oq,Qm⟩:=t.lens;go_wp2_with (go_at_call 61;refine(rW.out _ _ _ _ an o! o! o!).mono ?_;rintro e W2 ⟨rn,dn,rfl,re,Ot,M7,vd⟩);obtain⟨n,BL⟩:=Qnm (1+rn);have Vl:1<=n/\n<=s:=o!
 rw[show(1:Int)+(rn:Int)=(n:Int) by omega];clear BL re;have HB:=Zd (ZY t.cb (ZY t.ce (ZY t.chk (ZY T2 (ZY Oq Qm)))));have aW:LT2 b lv w dn c.length n (U a1 c.length c1) (U a2 q.length c2) (U a3 r.length c3) () c q r [] W2:=
  ⟨M7,Ot.at_ t.res o!,Ot.at_ t.qx o!,t.base.Cn Ot o!,D2 t.Af Ot o!,t.hooks.Cn Ot o!,⟨[],zq _ _ _ _,λi x a=>by cases a⟩,λi hi=>absurd hi i!⟩
 have oX:1<=c.length/\c.length<=3:=o!
 have vE:dn<=d+50:=o!
 clear t an Ot M7 T2 Oq Qm;go_loopg [9] n (λgg i wr=>∃(k dk:Nat) (v4:Zf) (z:List Ay),k<=n/\gg=n - k/\i=.int J k/\dk<=dn+20*k/\z.length=k/\LT2 b lv w dk c.length n (U a1 c.length c1) (U a2 q.length c2) (U a3 r.length c3) v4 c q r z wr)
 case atStart=>exact⟨0,dn,_,[],Zp _,rfl,rfl,Zj _,rfl,aW⟩
 obtain⟨k,dk,v4,z,hk,rfl,rfl,jF,NK,D⟩:=hrel;obtain⟨va,vc,rfl,_⟩:=D.row.val;by_cases Az:k<n
 .have iD:=Zd NK
  clear NK;obtain⟨K,Ig⟩:∃K:Nat->Prop,K=λx=>x=b\/w+1<x:=⟨_,rfl⟩;have fh:K b:=by rw[Ig];exact .inl rfl
  have LP:∀x,w.heap.size+1<x->K x:=λx a=>by rw[Ig];exact .inr a
  have Tg:¬K (w+1):=by rw[Ig];intro x;omega
  have qF:¬K w:=by rw[Ig];intro x;omega
  clear Ig;have z0:=λp:Tw K wr=>p.cell (ch (i:=0) D.qx (v:=.slice a1 c.length c1) rfl) Tg;have z3:=λp:Tw K wr=>p.cell (ch (i:=3) D.qx (v:=.slice va z.length vc) rfl) Tg;have fI:w+1<wr.heap.size:=(Za.1 D.qx).1;have TB:(k:Int)<(n:Int):=o!
  have kZ:=D.lw;go_wp2;refine G7 (S:=λW=>∃p:Tw K wr,W=p.v) 13 [12] [(false,8),(false,9),(false,10),(false,11),(false,12)] [0,1,2,3,4,5,6,7] k! (λ_ _ d _ _ h=>by cases d<;>exact h) k! (A5 (Ak.later (Zh _ _).drew)) ?_;refine K9 [0,1,2,3,4] [5,6,7] _ ?_;refine A4 _ _ k! ?_;simp only[Z6,zd,ZG,ZD,ZC]
  repeat (first|go_big_quiet_step (fail)|quiet_step (fail))
  refine Z4 ?_;clear z0 z3;refine CB (v:=.int J c.length) rfl rfl (λw _=>g!) ?_;refine CB (v:=.int J n) rfl rfl (λw _=>g!) ?_;refine CB (v:=.int J k) rfl rfl (λw _=>g!) ?_;change H2 _ _ _ _ _ _ _ _;obtain⟨V,hV⟩:=Qnm wr.drew;have Ui:Bl wr V:=by rw[hV];exact(Zh _ _).drew
  rw[<-hV];clear hV;have xT:=kZ.below Ui;have mj:Ak K wr V:=Ak.later Ui;refine Iy (f:=110) (args:= #[.pointer b,.int J c.length,.int J n,.int J k]) rfl rfl g! ((aoS (g:=c.length) (n:=n) (o:=k) (hn.Cn xT.Cn E8) (Li xT.Cn E8) xT.E4 o! oX Az o!).mono ?_);rintro e V1 ⟨M,v2,v3,d',rfl,g9,cM,VK,wA,yd,xz⟩;have hU:=g9.Cn;have Ue:LW b lv w d' V1:=xT.step hU g9.E4;have Kd:=mj.trans (hU.CN fh);obtain⟨p2,t2,rfl,_⟩:=VK.val;obtain⟨p3,t3,rfl,_⟩:=wA.val;refine⟨_,rfl,.inr (A5 Kd),?_⟩;obtain⟨R,gF⟩:=Qnm (V1.alloc (C #[.int J M.low,.int J M.high,U p2 M.Ap.length t2,U p3 M.over.length t3,.int J M.left] 62));have Bb:Bl V1 R:=by rw[gF];exact bA (Zh _ _)
  have D3:=Kd.uJ Bb;refine EY (v:=.slice V1 1 1) (w':=R) rfl rfl (by rw[gF];go_simp) (.inr (A5 D3)) ?_;have EB:=D3.size;obtain⟨i6,AX,DF⟩:=D.row;have iP:=Fu (D2 (Fu AX Ui) hU (by omega:b<w+1+1)) Bb;obtain⟨o8,o9,pd,pc,pa⟩:=zp eI;refine SZ rfl rfl ?_;refine Zak _ _ _ 24 rfl (w+1+1) 62 o8 (.agg #[.int J 0,.int J 0,(),(),.int J 0]) 5 72 (Cz Tryz.underlying24) (Dz o9) pd pc pa rfl d! _ z.length i6 g! iP V1 1 1 [.int J M.low,.int J M.high,U p2 M.Ap.length t2,U p3 M.over.length t3,.int J M.left] g! rfl (by rw[gF];exact Hc _ _ _) (by intro u hu;simp at hu;rcases hu with rfl|rfl|rfl|rfl|rfl<;>rfl) (by have:=iD.out;unfold maxLen;omega) (by have:=iD.out;omega) o! ?_;intro tn V3 Cm O Gc;have F:=J3 iP;have I:Ak (λx=>(Zy va z.length vc).ownBlock=some x) R V3:=Ak.grown O λx a=>a;have Ou:=D3.trans (I.mono λx a=>LP x (by have:=(F x a).1;omega));refine⟨.inr (A5 Ou),?_⟩;obtain⟨g4,q4,rfl⟩:=Zay Cm;have JA:=(Ou.block _ fI Tg).trans D.qx;have f3:=cf (i:=3) JA;have e3:=ch (i:=3) JA (v:=.slice va z.length vc) rfl;refine EY (v:=.pointer (some ⟨w+1,3,none⟩)) (w':=V3) rfl rfl g! (.inr (A5 Ou)) ?_;obtain⟨V4,Wq⟩:=Qnm (V3.setCell ⟨w+1,3,none⟩ (U g4 (z.length+1) q4));refine N9 (w':=V4) rfl rfl (by rw[Wq];go_simp) (.inl rfl) ?_;have cx:∀ {A:Zb} {e:Zs} (he:e≠62) (hA:∀g cs,R.heap[g]?=some (Zbi cs 62 (0,0))->A.heap[g]?=some (Zbi cs 62 (0,0))) x cs,A.heap[x]?=some (Zbi cs e (0,0))->¬(Zy va z.length vc).ownBlock=some x:=λhe hA x cs a e0=>by
   obtain⟨_,ck,E⟩:=F x e0;rw[hA x ck E]at a;cases a;exact he rfl
  have Th:Ak (λx=>x=w.heap.size+1) V3 V4:=by rw[Wq];exact(Ak.refl (λx=>x=w.heap.size+1) V3).DT
  have ai:∀x,w.heap.size+1+1<=x->¬x=w.heap.size+1:=λx h1 E=>o!
  have gM:Own V4 (w+1+1) (U a1 c.length c1) c:=CO Th ai (Fc ((((D.base.later Ui).Cn hU o!).later Bb):Own R _ _ _) I (cx d! λ_ _ h=>h));have bF:Own V4 (w+1+1) (U a3 r.length c3) r:=CO Th ai (Fc ((((D.hooks.later Ui).Cn hU o!).later Bb):Own R _ _ _) I (cx d! λ_ _ h=>h));have ye:Ih V4 (w+1+1) (U a2 q.length c2) q 80:=CO Th ai (Fc (Fu (D2 (Fu D.Af Ui) hU (by omega:b<w+1+1)) Bb) I (cx d! λ_ _ h=>h));have ip:∀x,TT (w+1+1) R x->¬(Zy va z.length vc).ownBlock=some x:=λx a e0=>by
   obtain⟨_,ck,E⟩:=F x e0;exact TT.not a E ⟨d!,d!,d!⟩
  have mw:∀x,TT (w+1+1) V3 x->¬x=w+1:=λx a e0=>by have:=a.1;omega
  have yf:En (w+1+1) V4 (w+1+1) (U g4 (z.length+1) q4) (z++ [M]):=by
   have rz:Ak (λx=>x=b) wr R:=((Ak.later Ui).mono λ_ x=>x).trans ((hU.CN (K:=λx=>x=b) rfl).trans ((Ak.later Bb).mono λ_ x=>x));have EC:∀x,TT (w+1+1) wr x->¬x=b:=λx a e0=>by have:=a.1;omega
   have Bp:Rs (TT (w+1+1) R) R [.int J M.low,.int J M.high,U p2 M.Ap.length t2,U p3 M.over.length t3,.int J M.left] M:=⟨_,_,rfl,Ug (M6 VK Bb) (by have:=Ui.size;omega),LQ (Ei wA Bb) (by have:=Ui.size;omega)⟩;have h3:En (w+1+1) V3 (w+1+1) (U g4 (z.length+1) q4) (z++ [M]):=En.snoc (λi x hi=>xR (xR (DF i x hi) rz EC) I ip) (by have:=iP.1;exact this) rfl (xR Bp I ip) Cm;refine h3.CN Th mw (λg hg e0=>?_);have:=(h3.own g hg).1;omega
  have b9:LW b lv w d' V4:=by
   rw[Wq];exact(LW.D4 ⟨(Ue.below Bb).Cn.grown O (λx a=>by have:=(F x a).1;omega),(Ue.below Bb).E4.of (O.block b (Ue.below Bb).E4.lt (λe0=>by have:=(F b e0.symm).1;omega))⟩ L o!)
  have fC:LT2 b lv w d' c.length n (U a1 c.length c1) (U a2 q.length c2) (U a3 r.length c3) (U g4 (z.length+1) q4) c q r (z++ [M]) V4:=
   ⟨b9,(Th.block _ (by have:=(Za.1 D.res).1;have:=Ou.size;omega) o!).trans ((Ou.block _ (Za.1 D.res).1 qF).trans D.res),by rw[Wq];exact Ba JA _,gM,ye,bF,yf,ve D.up (by rw[iD.out];exact yd) (by rw[iD.out];exact xz)⟩
  have sr:=Zd fC;clear fC D b9 yf gM bF ye Th Wq JA f3 e3 I Ou D3 Kd mj AX iP Cm DF O Gc F gF Bb g9 hU Ue xT Ui VK wA cx ip mw yd xz kZ;unfold H2
  go_simp
  go_wp2;go_roundg (n - (k+1))
  case rel=>exact⟨k+1,d',_,z++ [M],Az,rfl,v!,o!,by have:=iD.out;simp;omega,sr.out⟩
  omega
 have T5:k=n:=o!
 subst T5;obtain⟨B,Qi⟩:∃B:A_,B=⟨c,q,r,z,[]⟩:=⟨_,rfl⟩;have fi:CT (w+1+1) wr (U a1 c.length c1) (U a2 q.length c2) (U a3 r.length c3) (U va z.length vc) () B:=by
  rw[Qi];exact⟨D.base.tt,D.Af.tt (.inr (.inr rfl)),D.hooks.tt,⟨none,0,rfl,Zj _,Zp _,λi x a=>by cases a⟩,D.row⟩
 have H_:=D.qx;have Ko:=D.res;have kZ:=D.lw;obtain⟨kb,ke,kh,l1,l2,l3⟩:=HB.out;have HC:B.base=c/\B.Af=q/\B.hooks=r/\B.Aa=z/\B.now=[]:=by rw[Qi];exact⟨rfl,rfl,rfl,rfl,rfl⟩
 have xz:J4 c.length z:=λi hi=>by rw[NK];exact D.up i hi
 have fu:=Zd xz;have H:=Zd HC;have iD:=Zd NK;have yg:=Zd (ZY l1 (ZY l2 l3));clear D Qi xz HC NK l1 l2 l3 kb ke kh;have vA:G<=3:=mB.2;have io:=Zd (fun(W:Zb) (hR:RC (Cb (w+1+1) W) W (U a1 c.length c1) (U a2 q.length c2) (U a3 r.length c3) (U va z.length vc) () B)=>ap6 hR (λb hb=>hb.2) H.out.2.2.2.2 (by rw[H.out.1];omega) (by rw[H.out.2.1];have:=yg.out;omega) (by rw[H.out.2.2.1];have:=yg.out;omega) (by rw[H.out.2.2.2.1];have:=iD.out;omega) (λi hi=>by
  rw[H.out.2.2.2.1]at hi⊢;have hm:=(fu.out i hi).1;exact⟨by have:=hm.few;omega,by
   have h1:=qK hm.rising (λx a=>by have:=hm.over x a;exact⟨this.1,this.2.1⟩);have:=iD.out;omega⟩) (λi hi x a=>by
  rw[H.out.2.2.2.1]at hi a;have:=(fu.out i hi).1.over x a;have:=iD.out;omega))
 have Gv:(Pg B).base.length=c.length:=by rw[show(Pg B).base=B.base from rfl,H.out.1]
 have rr:(Pg B).Af.length=q.length:=by rw[show(Pg B).Af=B.Af from rfl,H.out.2.1]
 have rq:(Pg B).hooks.length=r.length:=by rw[show(Pg B).hooks=B.hooks from rfl,H.out.2.2.1]
 have kw:(Pg B).Aa.length=z.length:=by rw[show(Pg B).Aa=Pf B.Aa from rfl,GD,H.out.2.2.2.1]
 have rp:(Pg B).now.length=0:=by rw[show(Pg B).now=B.now from rfl,H.out.2.2.2.2];rfl
 go_wp2_with (first|(go_at_call 99;refine(tb.out _ _ _ kZ o! o!).mono ?_;rintro e W5 ⟨rb,d5,rfl,cN,xZ,ry⟩;have kE:=cN.at_ H_ o!;have iK:=cN.at_ Ko o!;have fm:=fi.CN (cN.CN (K:=λx=>x=b) rfl) (λx a e=>by have:=a.1;omega) (λg hg e=>by have:=(fi.row.own g hg).1;omega);obtain⟨s0,s1,s2,s3,s4⟩:=Qc5 kE;have p9:=xZ.Cn.size)|(go_at_call 111;refine(io.out _ fm.rc).mono ?_;rintro e W6 ⟨u1,u2,u3,u4,u5,rfl,DM,rX⟩;obtain⟨x1,y1,rfl,_⟩:=rX.base.val;obtain⟨x2,y2,rfl,_⟩:=rX.Af.val;obtain⟨x3,y3,rfl,_⟩:=rX.hooks.val;obtain⟨x4,y4,rfl,_⟩:=rX.row.val;obtain⟨x5,y5,rfl,_⟩:=rX.now.val;rw[Gv,rr,rq,kw,rp]at rX⊢;have iB:=(DM.block _ (Za.1 kE).1).trans kE;have ap:=(DM.block _ (Za.1 iK).1).trans iK;obtain⟨e0,e1,e2,e3,e4⟩:=Qc5 iB;obtain⟨f0,f1,f2,f3,f4⟩:=Qf5 iB))
 .have sq:=rX
  obtain⟨X,lg⟩:=Qnm (((((W6.setCell (w+1:Nat) (U x1 c.length y1)).setCell ⟨w+1,1,none⟩ (U x2 q.length y2)).setCell ⟨w+1,2,none⟩ (U x3 r.length y3)).setCell ⟨w+1,3,none⟩ (U x4 z.length y4)).setCell ⟨w+1,4,none⟩ (U x5 0 y5));have Pc:Ak (λx=>x=w.heap.size+1) W6 X:=by rw[lg];exact(Ak.refl (λx=>x=w.heap.size+1) W6).DT.DT.DT.DT.DT
  have xS:X.heap[w.heap.size+1]?=some (C #[U x1 c.length y1,U x2 q.length y2,U x3 r.length y3,U x4 z.length y4,U x5 0 y5] 26 (0,0)):=by rw[lg];exact Ba (Ba (Ba (Ba (Ba iB _) _) _) _) _
  have fy:=(Pc.block _ (Za.1 ap).1 o!).trans ap;have qN:LW b lv w d5 X:=by rw[lg];exact((((((xZ.below DM).D4 L o!).D4 L o!).D4 L o!).D4 L o!).D4 L o!)
  have vD:=(Za.1 kE).1;have rY:=rX.CN Pc (λx a e=>by have:=a.1;omega) (λg hg e=>by have:=(rX.row.own g hg).1;omega);obtain⟨j,am⟩:=Qnm (Pg B);obtain⟨mX,be⟩:=Qnm W5.heap.size;have so:w+1+1<=mX:=o!
  have HQ:j.base=c/\j.Af=q/\j.hooks=r/\j.now=[]/\j.Aa.length=k/\(J4 c.length j.Aa\/F6 c.length j.Aa):=by
   rw[am];refine⟨H.out.1,H.out.2.1,H.out.2.2.1,H.out.2.2.2.2,by rw[kw];exact iD.out,.inr ?_⟩;show F6 c.length (Pf B.Aa);rw[H.out.2.2.2.1];exact qJ fu.out
  rw[<-am, <-be]at rY;rw[<-lg];clear lg Pc rX sq iB ap DM am be e0 e1 e2 e3 e4 f0 f1 f2 f3 f4;clear kE iK xZ fm cN fi H_ Ko kZ s0 s1 s2 s3 s4 io;have iX:=Zd HQ;have M8:k<=3:=o!
  have B_:∀i,i<j.Aa.length->Mh c.length k i (Aj j.Aa i):=λi hi=>by
   rcases HQ.2.2.2.2.2 with h|h
   .have:=(h i hi).1;rwa[HQ.2.2.2.2.1]at this
   have:=(h i hi).1;rwa[HQ.2.2.2.2.1]at this
  have fJ:=HQ.2.2.2.2.1;refine(c30 (S:=Cb mX X) rY.rc (λx a=>⟨a.2,by have:=a.1;omega⟩) (hn.Cn qN.Cn E8) (Li qN.Cn E8) qN.E4 o! o! (λi hi=>by have:=(B_ i hi).step;omega)).mono ?_;rintro e Y ⟨vn,ln,ci,rfl,lr,xU,rx,T,bi,bv⟩;obtain⟨pn,qn,rfl,_⟩:=T.val;have fD:=lr.at_ xS o!;have Uj:=lr.at_ fy o!;obtain⟨s0,s1,s2,s3,s4⟩:=Qc5 fD;have f4:=cf (i:=4) fD;obtain⟨r0,r1,r2,r3,r4⟩:=Qc5 Uj;obtain⟨g0,g1,g2,g3,g4⟩:=Qf5 Uj;have pp:=qN.Cn.size;have pm:=lr.size;have se:=(Za.1 fD).1;have rE:=(Za.1 xS).1;have cA:=Zd bi;have ct:=Zd bv;have qO:=Zd B_;clear bi bv B_ HQ fJ;dsimp only;go_wp2;refine ZN (v:=.agg #[U x1 c.length y1,U x2 q.length y2,U x3 r.length y3,U x4 z.length y4,U pn ln.length qn]) (by rw[A8 rfl];go_simp) rfl ?_;have fw:∀Z,LW b lv w ci Z->Ak (λx=>x=w.heap.size\/x=w+1) Y Z->fB w b lv d s (.returned (.agg #[U x1 c.length y1,U x2 q.length y2,U x3 r.length y3,U x4 z.length y4,U pn ln.length qn])) Z:=λZ ii mN=>by
   obtain⟨N,q2,q3,q4,q5,q6⟩:=iX.out;have tR:CE (Cb mX X) X Y:=lr.same λx a e=>by have:=a.1;omega
   have Ts:CE (Cb mX X) Y Z:=mN.same λx a e=>by have:=a.1;rcases e with e|e<;>omega
   have hR:=(rY.rc.Ar tR).Ar Ts;have pi:=mN.size;have hN:∀x,Cb mX X x->Cb w Z x:=λx a=>⟨by have:=a.1;omega,by have:=a.2;omega⟩;have rA:=hR.imp hN;have im:=xY (n:=w) (k:=w+1+1) (ln:=ln) rY lr mN o! (λx a e=>by rcases e with e|e<;>omega) o! o! T o!;have pu:SI (Cb w Z) Z (U pn ln.length qn) ln:=Sl.imp (T.Ar (mN.same λx a e=>by have:=a.1;rcases e with e|e<;>omega)) (λx a=>⟨by have:=a.1;omega,by have:=a.2;omega⟩) λ_ _ x=>x;obtain⟨kb,ke,kh,_⟩:=HB.out;refine⟨{j with now:=ln},_,_,_,_,_,ci,rfl,ii,o!,im,?_,by show j.Aa.length<=s;omega⟩;have T2:=yg.out;refine iO (by show 1<=j.base.length/\_;rw[N];exact oX) (by show∀x∈j.base,_;rw[N];exact kb) (by show j.Af.length=j.base.length;rw[N,q2];omega) (by show∀p∈j.Af,_;rw[q2];exact ke) (by show j.hooks.length=j.base.length;rw[N,q3];omega) (by show∀x∈j.hooks,_;rw[q3];exact kh) (by show 1<=j.Aa.length/\j.Aa.length<=3;omega) (by show J4 j.base.length j.Aa\/F6 j.base.length j.Aa;rw[N];exact q6) ⟨cA.out,λi hi=>?_⟩;have DN:i<j.Aa.length:=by rw[<-cA.out];exact hi
   exact⟨(ct.out i DN).1,(ct.out i DN).2 (qO.out i DN).step.2.1⟩
  refine fw _ ?_ ?_
  .exact(((((qN.step lr xU).D4 L o!).D4 L (Zj _)).D4 L (Zj _)).D4 L (Zj _)).D4 L (Zj _)|>.D4 L (Zj _)
  refine Ak.set (Ak.set (Ak.set (Ak.set (Ak.set (Ak.set (Ak.refl _ _) (.inr rfl)) (.inl rfl)) (.inl rfl)) (.inl rfl)) (.inl rfl)) (.inl rfl)
 obtain⟨X,lg⟩:=Qnm W5;subst lg;have xS:=kE;have fy:=iK;have qN:=xZ;have rY:=fm;obtain⟨j,am⟩:=Qnm B;have HQ:j.base=c/\j.Af=q/\j.hooks=r/\j.now=[]/\j.Aa.length=k/\(J4 c.length j.Aa\/F6 c.length j.Aa):=by
  rw[am];exact⟨H.out.1,H.out.2.1,H.out.2.2.1,H.out.2.2.2.2,by rw[H.out.2.2.2.1];exact iD.out,.inl (by rw[H.out.2.2.2.1];exact fu.out)⟩
 rw[<-am]at rY;clear am;obtain⟨mX,be⟩:=Qnm (w.heap.size+1+1);have so:w+1+1<=mX:=o!
 rw[<-be]at rY;clear be;clear kE iK xZ fm cN fi H_ Ko kZ s0 s1 s2 s3 s4 io;have iX:=Zd HQ;have M8:k<=3:=o!
 have B_:∀i,i<j.Aa.length->Mh c.length k i (Aj j.Aa i):=λi hi=>by
  rcases HQ.2.2.2.2.2 with h|h
  .have:=(h i hi).1;rwa[HQ.2.2.2.2.1]at this
  have:=(h i hi).1;rwa[HQ.2.2.2.2.1]at this
 have fJ:=HQ.2.2.2.2.1;refine(c30 (S:=Cb mX X) rY.rc (λx a=>⟨a.2,by have:=a.1;omega⟩) (hn.Cn qN.Cn E8) (Li qN.Cn E8) qN.E4 o! o! (λi hi=>by have:=(B_ i hi).step;omega)).mono ?_;rintro e Y ⟨vn,ln,ci,rfl,lr,xU,rx,T,bi,bv⟩;obtain⟨pn,qn,rfl,_⟩:=T.val;have fD:=lr.at_ xS o!;have Uj:=lr.at_ fy o!;obtain⟨s0,s1,s2,s3,s4⟩:=Qc5 fD;have f4:=cf (i:=4) fD;obtain⟨r0,r1,r2,r3,r4⟩:=Qc5 Uj;obtain⟨g0,g1,g2,g3,g4⟩:=Qf5 Uj;have pp:=qN.Cn.size;have pm:=lr.size;have se:=(Za.1 fD).1;have rE:=(Za.1 xS).1;have cA:=Zd bi;have ct:=Zd bv;have qO:=Zd B_;clear bi bv B_ HQ fJ;dsimp only;go_wp2;refine ZN (v:=.agg #[U a1 c.length c1,U a2 q.length c2,U a3 r.length c3,U va z.length vc,U pn ln.length qn]) (by rw[A8 rfl];go_simp) rfl ?_;have fw:∀Z,LW b lv w ci Z->Ak (λx=>x=w.heap.size\/x=w.heap.size+1) Y Z->fB w b lv d s (.returned (.agg #[U a1 c.length c1,U a2 q.length c2,U a3 r.length c3,U va z.length vc,U pn ln.length qn])) Z:=λZ ii mN=>by
  obtain⟨N,q2,q3,q4,q5,q6⟩:=iX.out;have tR:CE (Cb mX X) X Y:=lr.same λx a e=>by have:=a.1;omega
  have Ts:CE (Cb mX X) Y Z:=mN.same λx a e=>by have:=a.1;rcases e with e|e<;>omega
  have hR:=(rY.rc.Ar tR).Ar Ts;have pi:=mN.size;have hN:∀x,Cb mX X x->Cb w Z x:=λx a=>⟨by have:=a.1;omega,by have:=a.2;omega⟩;have rA:=hR.imp hN;have im:=xY (n:=w) (k:=w+1+1) (ln:=ln) rY lr mN o! (λx a e=>by rcases e with e|e<;>omega) o! o! T o!;have pu:SI (Cb w Z) Z (U pn ln.length qn) ln:=Sl.imp (T.Ar (mN.same λx a e=>by have:=a.1;rcases e with e|e<;>omega)) (λx a=>⟨by have:=a.1;omega,by have:=a.2;omega⟩) λ_ _ x=>x;obtain⟨kb,ke,kh,_⟩:=HB.out;refine⟨{j with now:=ln},_,_,_,_,_,ci,rfl,ii,o!,im,?_,by show j.Aa.length<=s;omega⟩;have T2:=yg.out;refine iO (by show 1<=j.base.length/\_;rw[N];exact oX) (by show∀x∈j.base,_;rw[N];exact kb) (by show j.Af.length=j.base.length;rw[N,q2];omega) (by show∀p∈j.Af,_;rw[q2];exact ke) (by show j.hooks.length=j.base.length;rw[N,q3];omega) (by show∀x∈j.hooks,_;rw[q3];exact kh) (by show 1<=j.Aa.length/\j.Aa.length<=3;omega) (by show J4 j.base.length j.Aa\/F6 j.base.length j.Aa;rw[N];exact q6) ⟨cA.out,λi hi=>?_⟩;have DN:i<j.Aa.length:=by rw[<-cA.out];exact hi
  exact⟨(ct.out i DN).1,(ct.out i DN).2 (qO.out i DN).step.2.1⟩
 refine fw _ ?_ ?_
 .exact(((((qN.step lr xU).D4 L o!).D4 L (Zj _)).D4 L (Zj _)).D4 L (Zj _)).D4 L (Zj _)|>.D4 L (Zj _)
 refine Ak.set (Ak.set (Ak.set (Ak.set (Ak.set (Ak.set (Ak.refl _ _) (.inr rfl)) (.inl rfl)) (.inl rfl)) (.inl rfl)) (.inl rfl)) (.inl rfl)
def c44 {s:Nat}(f:SI Sn w lv nums)(o:∀x,Sn x->x<w.heap.size/\x≠b)(h:BK w b lv d)(g:d+1000<4611686018427387904)(a:1<=s/\s<=3):
  Calls Lp 44 #[.pointer b,.int J s] w (qL w b lv d s):=(aph f o h g a).mono λe p ⟨c,u1,u2,u3,u4,u5,n,m,l,k,j,i⟩=>⟨c,u1,u2,u3,u4,u5,n,m,l,k,j.rc,i⟩
end Go.Proofs.Fit
