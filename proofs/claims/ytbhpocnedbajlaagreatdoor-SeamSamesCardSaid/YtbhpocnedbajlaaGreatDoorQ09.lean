/- Part of a proof. -/
import Derived.Test.YtbhpocnedbajlaaGreatDoorQ07
import Derived.Lib.BufferRead
import Derived.RangeFuncNested
import Derived.OwnWalkIn
import Derived.Sort.LoopGhostIn
import Derived.TacticsInMore
import Derived.Laws.EntriesVeiled
import Derived.Shelf.Abstract
set_option maxRecDepth 100000
set_option maxHeartbeats 6400000
noncomputable section
set_option linter.all false
open Array renaming getElem?_eq_some_iff->Za,replicate_succ->ZaN,replicate_zero->ZaM,replicate->Yu,getElem?_eq_getElem->Zx,getElem?_append_left->zr
open Bool renaming or_eq_true->ZaK
open Function renaming comp_def->ZdQ
open Go renaming World->Zb,Value->Zf,below_drewN->Y5,wpQuiet_nil->Z4,TypeId->Zs,bodyPost_ret->ZN,info_parts->zp,wpList_append_own->Yc,Program->Zo,execOp->Zby,Operand->Zbv,callFunc->Zz,resolve->Zbh,callsIn_wide->Zcx,callsIn_of_wp->Zd6,wpAnyIn_ready->Yq,undef->Ze,ownsRow_succ->Zay,run_underlying->Y9
open Go.Addr renaming add->Zcu
open Go.AllReadyIn renaming cons->zA,nil->zZ
open Go.BinOp renaming xor->Zdo
open Go.Builtin renaming zeroCells->Zt
open Go.Fence renaming wide->ZbC
open Go.Instr renaming makeSlice->Zdp,checkKey->YD,keyThatStays->Yi,sameBits->zH,findAsking->zX,findKey->Zaj,findNow->ZaJ,sameNow->Zbj,lookup->Za2,mapUpdate->ZaS
open Go.IntKind renaming u64->Zcf,wrap_u64->Zbc
open Go.Lib renaming hid->Zd,byteCells->Ym,run_eql_slice_nil->ZaO
open Go.Op renaming equalIn->ZaZ,equal->Zaa
open Go.Oper renaming wp->ZbA,upon_value->Zdi,semAt_some->Zdk
open Go.Proofs.Tryz renaming underlying97->Zb2,underlying22->YE,underlying34->zW
open Go.Question renaming appendCap->zJ
open Go.Region renaming wanted->Yf
open Go.Result renaming andThen->zu,andThen_ok->Zaw
open Go.RowKit renaming Below->YH
open Go.RowKit.Below renaming refl->Zh,heap_alloc->zD
open Go.Sem renaming run_bind->zg
open Go.Value renaming int->ZL,oneCell'->YT,int->C
open Go.World renaming alloc->Zaz,size_alloc->ZB,ownsRow_nil->zq,putObj_heap_other->zG,alloc_heap_new->ZdG,putObj_heap_same->Zau,ownsRow_made->YC,cell?->zy
open List renaming ext_getElem?->YA,getElem?_eq_none->ZP,length_cons->zb,range->Yr,flatMap_append->Zbe,length_append->ZA,map_append->Zai,eq_nil_of_length_eq_zero->YM,append_nil->ZaA,mem_cons_self->zC,mem_cons_of_mem->zm,all_eq_true->Zdm,getElem_of_mem->Zas,getElem?_eq_getElem->zf,pairwise_iff_getElem->ZdK,getD_eq_getElem?_getD->Y6,getElem?_eq_some_iff->Zm,mem_of_getElem?->Z3,drop_eq_getElem_cons->ZO,length_nil->zR,append_assoc->Zae,nil_append->zP,drop_eq_nil_iff->Z7,size_toArray->Zbm,push_toArray->Zbn,append_toArray->Za4,cons_append->Za1,getElem?_toArray->ZG,getElem?_map->YL,getElem?_append_left->zl,getElem?_concat_length->Y1,range'->Zcq,mem_append->Zab,mem_singleton->Yh,length_filter_le->Zac
open Nat renaming zero_le->Zp,not_lt_zero->ZbY,le_refl->Zj,zero_add->zN,le_trans->Zr,mul_comm->ZcR,lt_of_lt_of_le->Zl,reduceAdd->ZaF,reduceSub->Zcw,pow_le_pow_right->YX,le_of_eq->ZcS
open Std.Legacy.Range renaming forIn_eq_forIn_range'->Zdw
open UInt8 renaming ofNat->Zcn
namespace Go.Proofs.Fit
open Go Go.RowKit
def Ke (a b:List Int):Bool:=decide (a=b)
variable {a l:List Int}
def qe {b:List Int}(hl:a.length=b.length)(h:∀j,j<a.length->nth a j=nth b j):a=b:=by
 apply YA;intro i;by_cases c:i<a.length
 .rw[Bn c,Bn o!,h i c]
 rw[ZP o!,ZP o!]
variable {S T:Nat->Prop}
variable {w w' w0 A B:Zb}
variable {v v' u v1 v2 v3 v4 v5 v6:Zf}
def c46 {b:List Int}(s:SI S w v a)(r:SI T w v' b)(C:Ql6 S w)(B:∀b,T b->b<w.heap.size):
  Calls Lp 18 #[v,v'] w λe w'=>e=.returned (.bool (Ke a b))/\Bl w w':=by
 obtain⟨U,Q,rfl,L,J⟩:=s.val;obtain⟨R,P,rfl,K,I⟩:=r.val;have V:=DJ;by_cases d:a.length=b.length
 .have n:=Zd d
  clear d;have f:((a.length:Int) !=b.length)=false:=by simp[n.out]
  go_enter Lp.func46,n46;go_wp2;go_loopg [5] a.length (λg i wr=>∃k:Nat,k<=a.length/\g=a.length - k/\i=.int .i64 k/\(∀j,j<k->nth a j=nth b j)/\Bl w wr)
  case atStart=>exact⟨0,Zp _,rfl,rfl,λj h=>absurd h (ZbY _),Zh _ _⟩
  obtain⟨k,O,rfl,rfl,y,c⟩:=hrel;have l:=Zd y;clear y;by_cases H:k<a.length
  .have m:k<b.length:=by have:=n.out;omega
   obtain⟨x,A,rfl,F,E⟩:=s.at_ H;obtain⟨u,z,rfl,G,D⟩:=r.at_ m;rw[<-c.cell (p:=⟨x,A+k,none⟩) (C x F)]at E;rw[<-c.cell (p:=⟨u,z+k,none⟩) (B u G)]at D;have N:(k:Int)<(a.length:Int):=o!
   have M:(k:Int)<(b.length:Int):=o!
   go_wp2;go_quiet (fail);go_wp2
   .have q:(nth a k !=nth b k)=true:=by assumption
    go_ret;refine⟨?_,Y5 c _⟩;have:Ke a b=false:=by
     unfold Ke;refine decide_eq_false λe=>xw q (by rw[e])
    rw[this];rfl
   have q:(nth a k !=nth b k)=false:=a!
   go_roundg (a.length - (k+1))
   case rel=>exact⟨k+1,o!,rfl,v!,λj h=>by
    by_cases e:j=k
    .rw[e];exact xv q
    exact l.out j o!,Y5 c _⟩
   omega
  have t:Ke a b=true:=decide_eq_true (qe n.out λj h=>l.out j o!);have o:=Zd t;clear t l;go_wp2;go_ret;exact⟨by rw[o.out];rfl,c⟩
 have f:((a.length:Int) !=b.length)=true:=j!
 have o:=Zd (show Ke a b=false from decide_eq_false λe=>d (by rw[e]));clear d;go_enter Lp.func46,n46;go_wp2;go_ret;exact⟨by rw[o.out];rfl,Zh _ _⟩
def O' (a b:List (List Int)):Bool:=decide (a=b)
def kR {a b:List (List Int)}(hl:a.length=b.length)(h:∀j,j<a.length->BM a j=BM b j):a=b:=by
 apply YA;intro i;by_cases c:i<a.length
 .rw[BJ c,BJ o!,h i c]
 rw[ZP o!,ZP o!]
def c37 {a b:List (List Int)}(B:SL S w v a)(A:SL T w v' b)(D:Ql6 S w)(C:∀b,T b->b<w.heap.size):
  Calls Lp 16 #[v,v'] w λe w'=>e=.returned (.bool (O' a b))/\Bl w w':=by
 obtain⟨a1,c1,rfl,l1,V⟩:=B.val;obtain⟨a2,c2,rfl,Z,U⟩:=A.val;have IX:=DJ;by_cases m:a.length=b.length
 .have t:=Zd m
  clear m;have o:((a.length:Int) !=b.length)=false:=by simp[t.out]
  go_enter Lp.func37,n37;go_wp2;go_loopg [5] a.length (λg i wr=>∃k:Nat,k<=a.length/\g=a.length - k/\i=.int .i64 k/\(∀j,j<k->BM a j=BM b j)/\Bl w wr)
  case atStart=>exact⟨0,Zp _,rfl,rfl,λj q=>absurd q (ZbY _),Zh _ _⟩
  obtain⟨k,hk,rfl,rfl,K,h⟩:=hrel;have r:=Zd K;clear K;by_cases P:k<a.length
  .have s:k<b.length:=by have:=t.out;omega
   obtain⟨I,M,u1,rfl,N,F,z⟩:=B.at_ P;obtain⟨H,L,u2,rfl,O,E,J⟩:=A.at_ s;rw[<-h.cell (p:=⟨I,M+k,none⟩) (D I N)]at F;rw[<-h.cell (p:=⟨H,L+k,none⟩) (C H O)]at E;obtain⟨a3,c3,rfl,Y,R⟩:=z.val;obtain⟨a4,c4,rfl,X,Q⟩:=J.val;have i1:(k:Int)<(a.length:Int):=o!
   have i2:(k:Int)<(b.length:Int):=o!
   have y:=λp=>Al p F;have x:=λp=>Al p E;have c:=Zd (λW (n:Bl w W)=>c46 (w:=W) (z.later n) (J.later n) (A3 D n) (A3 C n));have d:=Zd (λp=>h.trans ((AE wr p).mono h.size));cases f:Ke (BM a k) (BM b k) with
   |true=>
    rw[f]at c;go_wp2;refine Av k! k! ?_
    repeat (first|go_big_quiet_step ((go_at_call 18;exact AV (c.out _ (d.out _))))|quiet_step ((go_at_call 18;exact AV (c.out _ (d.out _)))))
    refine Z4 ?_;rintro _ ⟨p,rfl⟩;have u:=d.out p;clear y x;go_wp2;go_roundg (a.length - (k+1))
    case rel=>exact⟨k+1,o!,rfl,v!,λj q=>by
     by_cases e:j=k
     .rw[e];exact of_decide_eq_true f
     exact r.out j o!,u⟩
    case measure=>omega
   |false=>
    rw[f]at c;have l:=Zd (show O' a b=false from decide_eq_false λe=>of_decide_eq_false f (by rw[e]));clear f;go_wp2;refine Av k! k! ?_
    repeat (first|go_big_quiet_step ((go_at_call 18;exact AV (c.out _ (d.out _))))|quiet_step ((go_at_call 18;exact AV (c.out _ (d.out _)))))
    refine Z4 ?_;rintro _ ⟨p,rfl⟩;have u:=d.out p;clear y x;go_wp2;go_ret;exact⟨by rw[l.out];rfl,u⟩
  have G:O' a b=true:=decide_eq_true (kR t.out λj q=>r.out j o!);have l:=Zd G;clear G r;go_wp2;go_ret;exact⟨by rw[l.out];rfl,h⟩
 have o:((a.length:Int) !=b.length)=true:=j!
 have l:=Zd (show O' a b=false from decide_eq_false λe=>m (by rw[e]));clear m;go_enter Lp.func37,n37;go_wp2;go_ret;exact⟨by rw[l.out];rfl,Zh _ _⟩
def JY:∀(b:List Obj) (w:Zb),Bl w (b.foldl Zaz w)
 | [],w=>Zh _ _
 |o::r,w=>by
  have a:Bl w (w.alloc o):=(Zh _ _).alloc (Zj _) _;exact a.trans ((JY r (w.alloc o)).mono a.size)
def WK:∀(a:List Obj) (w:Zb) (i:Nat),i<a.length->(a.foldl Zaz w).heap[w.heap.size+i]?=a[i]?
 | [],_,_,h=>absurd h (ZbY _)
 |o::r,w,0,_=>by
  show(r.foldl Zaz (w.alloc o)).heap[w.heap.size]?=some o;rw[(JY r (w.alloc o)).block _ i!];exact Bp w o
 |o::r,w,i+1,h=>by
  have:=WK r (w.alloc o) i (by simpa using h);rw[ZB,show w+1+i=w.heap.size+(i+1) by omega]at this;exact this
def Pa:∀(a:List Obj) (w:Zb),(a.foldl Zaz w).heap.size=w.heap.size+a.length
 | [],_=>rfl
 |o::r,w=>by
  show(r.foldl Zaz (w.alloc o)).heap.size=_;rw[Pa r,ZB,zb];omega
section
variable {S:Nat->Prop}{w:Zb}{b:Nat}{t:Zs}{f:Nat×Nat}
def M1 (l:List Int)(h:w.heap[b]?=some (.cells (l.map (ZL .i64)).toArray t f))(d:S b)(hl:l.length<=maxLen):SI S w (.slice b l.length l.length) l:=by
 refine⟨_,_,rfl,Zj _,hl,λi x c=>⟨b,0,[C .i64 x],rfl,d,rfl,λj u a=>?_,rfl⟩⟩;cases j with
 |zero=>
  cases a;rw[show 0+i*1+0=i by omega];exact ch h (by simp[c])
 |succ j=>cases a
def S9 (l:List (Int×Int))(h:w.heap[b]?=some (.cells (l.flatMap λp=> [ZL .i64 p.1,ZL .i64 p.2]).toArray t f))(k:S b)(hl:l.length<=maxLen):SP S w (.slice b l.length l.length) l:=by
 have d:∀(l:List (Int×Int)) (i:Nat) (x:Int×Int),l[i]?=some x->(l.flatMap λp=> [ZL .i64 p.1,ZL .i64 p.2])[i*2]?=some (C .i64 x.1)/\(l.flatMap λp=> [ZL .i64 p.1,ZL .i64 p.2])[i*2+1]?=some (C .i64 x.2):=by
  intro l
  induction l with
  |nil=>intro i x a;cases a
  |cons p r g=>
   intro i x a;cases i with
   |zero=>cases a;exact⟨rfl,rfl⟩
   |succ i=>
    have:=g i x (by simpa using a);rw[show(i+1)*2=i*2+1+1 by omega];exact this
 refine⟨_,_,rfl,Zj _,hl,λi x a=>⟨b,0,[C .i64 x.1,C .i64 x.2],rfl,k,rfl,λj u c=>?_,rfl⟩⟩;obtain⟨k1,e⟩:=d l i x a
 match j,c with
 |0,c=>cases c;exact ch h (by rw[zN];simpa using k1)
 |1,c=>cases c;exact ch h (by rw[zN];simpa using e)
end
def c85 (a b c d:Int)(w:Zb):Calls Lp 24 #[C .i64 a,C .i64 b,C .i64 c,C .i64 d] w λe w'=>e=.returned (.slice w 2 2)/\Bl w w'/\SP (Cb w w') w' (.slice w 2 2) [(a,b),(c,d)]:=by
 go_enter Lp.func85,n85;go_wp2;go_ret;exact⟨rfl,(Zh _ _).alloc (Zj _) _,S9 [(a,b),(c,d)] (Bp w _) ⟨Zj _,i!⟩ (by simp[maxLen])⟩
def Ft (a b c:Int):A_:=⟨[40,30],[(0,4),(0,2)],[0,3],[⟨-2,2,[(0,2)],[],a⟩,⟨-1,2,[(0,1),(1,2)],[0],b⟩,⟨0,1,[(0,2)],[],c⟩],[0,0,0]⟩
def Vi (n:Nat)(a b c:Int):List Obj:=[.cells #[.slice (some ⟨n+1,0,none⟩) 2 2,.slice (some ⟨n+1+1,0,none⟩) 2 2,.slice (some ⟨n+1+1+1,0,none⟩) 2 2,.slice (some ⟨n+1+1+1+1+1+1+1+1,0,none⟩) 3 3,.slice (some ⟨n+1+1+1+1+1+1+1+1+1,0,none⟩) 3 3] 26,.cells #[C .i64 40,C .i64 30] 3,.cells #[C .i64 0,C .i64 4,C .i64 0,C .i64 2] 53,.cells #[C .i64 0,C .i64 3] 3,.cells #[C .i64 0,C .i64 2] 101,.cells #[C .i64 0,C .i64 1,C .i64 1,C .i64 2] 101,.cells #[C .i64 0] 3,.cells #[C .i64 0,C .i64 2] 101,.cells #[C .i64 (-2),C .i64 2,.slice (some ⟨n+1+1+1+1,0,none⟩) 1 1,(),C .i64 a,C .i64 (-1),C .i64 2,.slice (some ⟨n+1+1+1+1+1,0,none⟩) 2 2,.slice (some ⟨n+1+1+1+1+1+1,0,none⟩) 1 1,C .i64 b,C .i64 0,C .i64 1,.slice (some ⟨n+1+1+1+1+1+1+1,0,none⟩) 1 1,(),C .i64 c] 49,.cells #[C .i64 0,C .i64 0,C .i64 0] 3]
def qf (w:Zb)(c:A_)(e:Ending)(w':Zb):Prop:=∃u1 u2 u3 u4 u5,e=.returned (.agg #[u1,u2,u3,u4,u5])/\Bl w w'/\RC (Cb w w') w' u1 u2 u3 u4 u5 c
def c84 (a b c:Int)(w:Zb):Calls Lp 19 #[C .i64 a,C .i64 b,C .i64 c] w (qf w (Ft a b c)):=by
 go_enter Lp.func84,n84;go_wp2;refine ZN (v:=.agg #[.slice (w+1:Nat) 2 2,.slice (w+1+1:Nat) 2 2,.slice (w+1+1+1:Nat) 2 2,.slice (w+1+1+1+1+1+1+1+1:Nat) 3 3,.slice (w+1+1+1+1+1+1+1+1+1:Nat) 3 3]) (by rw[A8 rfl];go_simp) rfl ?_;change qf w _ _ ((Vi w a b c).foldl Zaz w);have l:=JY (Vi w a b c) w;have h:=WK (Vi w a b c) w;have m:=Pa (Vi w a b c) w;refine⟨_,_,_,_,_,rfl,l,?_⟩;obtain⟨W,n⟩:=Qnm ((Vi w a b c).foldl Zaz w);rw[<-n]at l h m⊢;clear n l;have g:(Vi w a b c).length=10:=rfl;rw[g]at m;have f:∀i,i<10->Cb w W (w.heap.size+i):=λi s=>⟨o!,o!⟩;refine⟨M1 [40,30] (h 1 (by rw[g];omega)) (f 1 o!) d!,S9 [(0,4),(0,2)] (h 2 (by rw[g];omega)) (f 2 o!) d!,M1 [0,3] (h 3 (by rw[g];omega)) (f 3 o!) d!,?_,M1 [0,0,0] (h 9 (by rw[g];omega)) (f 9 o!) d!⟩;have r:=S9 [(0,2)] (h 4 (by rw[g];omega)) (f 4 o!) d!;have q:=S9 [(0,1),(1,2)] (h 5 (by rw[g];omega)) (f 5 o!) d!;have p:=M1 [0] (h 6 (by rw[g];omega)) (f 6 o!) d!;have o:=S9 [(0,2)] (h 7 (by rw[g];omega)) (f 7 o!) d!;have e:=h 8 (by rw[g];omega);refine⟨_,_,rfl,Zj _,d!,λi x k=>?_⟩
 match i,k with
 |0,k=>
  cases k;refine⟨w+8,0,[C .i64 (-2),C .i64 2,.slice (w+4:Nat) 1 1,.slice none 0 0,C .i64 a],rfl,f 8 o!,rfl,λj u d=>?_,_,_,rfl,r,WC⟩
  match j,d with
  |0,d=>cases d;exact ch e rfl
  |1,d=>cases d;exact ch e rfl
  |2,d=>cases d;exact ch e rfl
  |3,d=>cases d;exact ch e rfl
  |4,d=>cases d;exact ch e rfl
 |1,k=>
  cases k;refine⟨w+8,0,[C .i64 (-1),C .i64 2,.slice (w+5:Nat) 2 2,.slice (w+6:Nat) 1 1,C .i64 b],rfl,f 8 o!,rfl,λj u d=>?_,_,_,rfl,q,p⟩
  match j,d with
  |0,d=>cases d;exact ch e rfl
  |1,d=>cases d;exact ch e rfl
  |2,d=>cases d;exact ch e rfl
  |3,d=>cases d;exact ch e rfl
  |4,d=>cases d;exact ch e rfl
 |2,k=>
  cases k;refine⟨w+8,0,[C .i64 0,C .i64 1,.slice (w+7:Nat) 1 1,.slice none 0 0,C .i64 c],rfl,f 8 o!,rfl,λj u d=>?_,_,_,rfl,o,WC⟩
  match j,d with
  |0,d=>cases d;exact ch e rfl
  |1,d=>cases d;exact ch e rfl
  |2,d=>cases d;exact ch e rfl
  |3,d=>cases d;exact ch e rfl
  |4,d=>cases d;exact ch e rfl
def Od (i:Nat)(n:Int):List UInt8:=if 0<n then [Zcn (97+i),43,Zcn (48+n).toNat] else if n<0 then [Zcn (97+i),45,Zcn (48 - n).toNat] else []
def F3 (l:List Int)(k:Nat):List UInt8:=(Yr k).flatMap λi=>Od i (nth l i)
def PV (l:List Int)(k:Nat):F3 l (k+1)=F3 l k++Od k (nth l k):=by
 unfold F3;rw[List.range_succ,Zbe];simp
def qg (i:Nat)(n:Int):(Od i n).length<=3:=by
 unfold Od;split
 .simp
 split<;>simp
def Vj (l:List Int):∀k,(F3 l k).length<=3*k
 |0=>by simp[F3]
 |k+1=>by
  have:=Vj l k;have:=qg k (nth l k);rw[PV,ZA];omega
def ahv:(Tryz.prog.info? 5).map (λi=>(i.zero,i.size,i.bytes))=some (some (C .u8 0),1,1):=k!
variable {b k m t j d i q n0 bg mb:Nat}
def qh (b:k<3)(a:m=1\/m=2):Ym (Od k (m:Int))=[C .u8 (97+(k:Int)),C .u8 43,C .u8 (48+(m:Int))]:=by
 have:k=0\/k=1\/k=2:=o!
 rcases this with rfl|rfl|rfl<;>rcases a with rfl|rfl<;>rfl
def qi (b:k<3)(a:m=1\/m=2):Ym (Od k (-(m:Int)))=[C .u8 (97+(k:Int)),C .u8 45,C .u8 (48+(m:Int))]:=by
 have:k=0\/k=1\/k=2:=o!
 rcases this with rfl|rfl|rfl<;>rcases a with rfl|rfl<;>rfl
def kS (k:Nat):Od k 0=[]:=rfl
def Vk (a b:List UInt8):Ym (a++b)=Ym a++Ym b:=by unfold Ym;exact Zai
def cj {x y z:Zf}{t:Zs}(a: [x,y,z][j]?=some u):(w.alloc (.cells #[x,y,z] t)).cell? ((w:Addr).add j)=some u:=by
 rw[show(w:Addr).add j=⟨w,j,none⟩ by unfold Zcu;split<;>simp_all];exact cn w #[x,y,z] t (by simpa using a)
def qj {base:Nat}{l:List UInt8}(h:w.ownsRow base 5 1 v l.length (Ym l)):(convert 97 9 v).run Lp w=.ok (.string ⟨l.toArray⟩) w:=by
 rcases h.2 with⟨rfl,d⟩|⟨g,a,e,rfl,f,b,k,j,i,c⟩
 .have:l=[]:=YM d
  subst this;exact Lib.run_convert_nil_bytes w 97 9 5 0 (Cz Zb2) (Cz Tryz.underlying5) (Cz Tryz.underlying9)
 exact run_convert_bytes_back w 97 9 5 g a l (Cz Zb2) (Cz Tryz.underlying5) (Cz Tryz.underlying9) (Lib.bytes_of_row b (by simpa using c))
def M3 (c:A_)(l:List Int):List UInt8:=if Ca c l=0 then F3 l l.length else []
variable {c d':A_}
def c69 (h:RC S w v1 v2 v3 v4 v5 c)(hl:SI S w v6 l)(L:Ql6 S w):
  Calls Lp 14 #[.agg #[v1,v2,v3,v4,v5],v6] w λe w'=>e=.returned (.tuple #[.string ⟨(M3 c l).toArray⟩,C .i64 (Ca c l)])/\Bl w w':=by
 obtain⟨a1,c1,a2,c2,a3,c3,a4,c4,a5,c5,rfl,rfl,rfl,rfl,rfl,l1,m1,l2,m2,l3,m3,l4,m4,l5,m5⟩:=h.vs;obtain⟨a6,c6,rfl,l6,m6⟩:=hl.val;have IX:=DJ;obtain⟨V,Z,Fl,DR,EB⟩:=zp ahv;have s:=Cz Zb2;have z:Bl w (w.alloc (.cells (Qe6 c a1 c1 a2 c2 a3 c3 a4 c4 a5 c5) 26)):=(Zh _ _).alloc (Zj _) _;by_cases t:Ca c l=0
 .obtain⟨N,H⟩:=Bj t
  have X:=EG N;have HA:=Zd t;have P:=Zd (show M3 c l=F3 l l.length by rw[M3,if_pos t]);have M:=S0 X H;have UO:l.length<=3:=by have:=(Fb H).1;have:=X.few;omega
  have F:=Zd (λW a=>Rc (w:=W) (h.later a) (hl.later a) (A3 L a) N);rw[H]at F;clear t N H;go_enter Lp.func69,n69;go_wp2_with (go_at_call 38;refine(F.out _ z).mono ?_;rintro e w1 ⟨rfl,U⟩;have T:=bA (o:=.cells (AW (.slice a1 c.base.length c1) (.slice a2 c.Af.length c2) (.slice a3 c.hooks.length c3) (.slice a4 c.Aa.length c4) (.slice a5 c.now.length c5) (Ax c.Aa)) 84) (z.trans (U.mono z.size)));go_loopg [8,22] l.length (λg v i wr=>∃k:Nat,k<=l.length/\g=l.length - k/\i=.int .i64 k/\wr.ownsRow w 5 1 v (F3 l k).length (Ym (F3 l k))/\Bl w wr)
  case atStart=>exact⟨0,Zp _,rfl,rfl,zq _ _ _ _,T⟩
  obtain⟨k,hk,rfl,rfl,r,a⟩:=hrel;have ac:=Vj l k;have D':=a.size;have G:=Zd (PV l k);by_cases Az:k<l.length
  .obtain⟨b,o,rfl,hb,hc⟩:=hl.at_ Az
   rw[<-a.cell (p:=⟨b,o+k,none⟩) (L b hb)]at hc;obtain⟨Vl,Xo⟩:=M k Az;obtain⟨n,Y⟩:=Qnm (nth l k);rw[<-Y]at hc Vl Xo G;clear Y;have TB:k<3:=o!
   by_cases hp:0<n
   .obtain⟨m,rfl⟩:∃m:Nat,n=m:=⟨n.toNat,o!⟩
    have y:m=1\/m=2:=o!
    have d:=qh TB y;have B:=Zd d;clear d;go_wp2_with (at_builtin;refine Yc _ rfl (.tmp 30) (.tmp 37) 97 rfl w 5 V (C .u8 0) 1 1 s (Dz Z) Fl DR EB rfl d! _ _ _ rfl (r.alloc _) ⟨_,0,none⟩ 3 3 [C .u8 (97+(k:Int)),C .u8 43,C .u8 (48+(m:Int))] rfl rfl (λj u K=>cj K) (by intro u s;simp at s;rcases s with rfl|rfl|rfl<;>rfl) u! o! j! ?_;intro v' A D E Q);have O:Bl w A:=Bm (bA a) E (λq J=>(r.lt q J).1) j!;have R:A.ownsRow w 5 1 v' (F3 l (k+1)).length (Ym (F3 l (k+1))):=by
     have f:(Od k (m:Int)).length=3:=by
      have:=congrArg List.length B.out;simpa[Ym]using this
     rw[G.out,Vk,B.out,ZA,f];exact D
    clear D E Q;go_roundg (l.length - (k+1))
    case rel=>exact⟨k+1,o!,rfl,v!,R,O⟩
    omega
   by_cases hz:n=0
   .subst hz
    go_wp2;go_roundg (l.length - (k+1))
    case rel=>exact⟨k+1,o!,rfl,v!,by rw[G.out,kS,ZaA];exact r,a⟩
    omega
   obtain⟨m,rfl⟩:∃m:Nat,n= -(m:Int):=⟨(-n).toNat,o!⟩;have y:m=1\/m=2:=o!
   have d:=qi TB y;have B:=Zd d;clear d;go_wp2_with (at_builtin;refine Yc _ rfl (.tmp 42) (.tmp 49) 97 rfl w 5 V (C .u8 0) 1 1 s (Dz Z) Fl DR EB rfl d! _ _ _ rfl (r.alloc _) ⟨_,0,none⟩ 3 3 [C .u8 (97+(k:Int)),C .u8 45,C .u8 (48+(m:Int))] rfl rfl (λj u K=>cj K) (by intro u s;simp at s;rcases s with rfl|rfl|rfl<;>rfl) u! o! j! ?_;intro v' A D E Q);have O:Bl w A:=Bm (bA a) E (λq J=>(r.lt q J).1) j!;have R:A.ownsRow w 5 1 v' (F3 l (k+1)).length (Ym (F3 l (k+1))):=by
    have f:(Od k (-(m:Int))).length=3:=by
     have:=congrArg List.length B.out;simpa[Ym]using this
    rw[G.out,Vk,B.out,ZA,f];exact D
   clear D E Q;go_roundg (l.length - (k+1))
   case rel=>exact⟨k+1,o!,rfl,v!,R,O⟩
   omega
  have lQ:k=l.length:=o!
  subst lQ;have Mi:=qj r;obtain⟨a8,c8,rfl,_⟩:=JS r;have ai:=Zd r;clear r;go_wp2;go_ret2;exact⟨by rw[P.out,HA.out];rfl,a⟩
 have P:=Zd (show M3 c l=[] by rw[M3,if_neg t]);have F:=Zd (λW a=>pF (w:=W) (h.later a) (hl.later a) (A3 L a));obtain⟨x,I⟩:=Qnm (Ca c l);have Oo:x≠0:=by rw[I];exact t
 have HX:=Zd I;clear t I;go_enter Lp.func69,n69;go_wp2_with (go_at_call 38;refine(F.out _ z).mono ?_;rintro e w1 ⟨q1,q2,q3,q4,q5,n1,n2,n3,n4,n5,d1,d2,d3,d4,d5,k0,k1,k2,rfl,U,_⟩;have T:=z.trans (U.mono z.size);rw[<-HX.out]);go_ret2;refine⟨by rw[P.out, <-HX.out];rfl,?_⟩
 repeat (with_reducible first|exact T|refine bA ?_|(refine bS ?_ o!)|refine bD ?_|refine bN ?_)
def iF (x y:Int):0<=bits Zdo Zcf x y / 256/\bits Zdo Zcf x y / 256<18446744073709551616:=by
 have:0<=bits Zdo Zcf x y/\bits Zdo Zcf x y<18446744073709551616:=by
  unfold bits;simp only[Zbc];omega
 omega
def c87 {D:Int}(L:SI S w v l)(O:∀x,S x->x<w.heap.size/\x≠b)(k:w.heap[b]?=some (.cells #[v,C .i64 d,C .u64 D] 75 (0,0)))(Y:d<4611686018427387904):
  Calls Lp 75 #[.pointer b] w λe w'=>∃(P n:Int),e=.returned (C .u64 n)/\(0<=n/\n<18446744073709551616)/\B3 b w w'/\w'.heap[b]?=some (.cells #[v,C .i64 ((d+1:Nat):Int),C .u64 P] 75 (0,0)):=by
 obtain⟨u,g,rfl,U,R⟩:=L.val;have IX:=DJ;have m:=ch (i:=0) k (v:=.slice u l.length g) rfl;have k1:=ch (i:=1) k (v:=.int .i64 d) rfl;have f:=ch (i:=2) k (v:=.int .u64 D) rfl;have o:=cf (i:=2) k;have q:=cf (i:=1) k;go_enter Lp.func87,n87;go_wp2;generalize IntKind.u64.wrap (IntKind.u64.wrap (D*6364136223846793005)+1442695040888963407)=xI;obtain⟨W1,B⟩:=Qnm (w.setCell ⟨b,2,none⟩ (C .u64 xI));have j:W1.heap[b]?=some (.cells #[.slice u l.length g,C .i64 d,C .u64 xI] 75 (0,0)):=by rw[B];exact Ba k _
 have H:B3 b w W1:=by rw[B];exact(B3.refl _ _).set
 rw[<-B];clear B m k1 f q o k;have m:=ch (i:=0) j (v:=.slice u l.length g) rfl;have k1:=ch (i:=1) j (v:=.int .i64 d) rfl;have f:=ch (i:=2) j (v:=.int .u64 xI) rfl;have o:=cf (i:=2) j;have q:=cf (i:=1) j;have F:∀(W:Zb) (N:Int),B3 b w W->W.heap[b]?=some (.cells #[.slice u l.length g,C .i64 d,C .u64 N] 75 (0,0))->True:=λ_ _ _ _=>trivial;clear F;by_cases Q:d<l.length
 .obtain⟨r,t,rfl,E,M⟩:=L.at_ Q
  have I:=(H.same (T:=λx=>x≠b) (λ_ h=>h)).cell (p:=⟨r,t+d,none⟩) (O r E).2 M;clear M;have X:(d:Int)<(l.length:Int):=o!
  have V:(0:Int)<=(d:Int):=o!
  obtain⟨x,K⟩:=Qnm (nth l d);rw[<-K]at I;clear K;go_quiet (fail);go_wp2;obtain⟨z,A⟩:=Qnm (W1.drewN nq);have s:z.heap[b]?=some (.cells #[.slice (some ⟨r,t,none⟩) l.length g,C .i64 d,C .u64 xI] 75 (0,0)):=by rw[A];exact j
  have G:B3 b w z:=by rw[A];exact H.below (Y5 (Zh W1 W1) nq)
  have Z:z.cell? ⟨r,t+d,none⟩=some (C .i64 x):=by rw[A];exact I
  rw[<-A];clear A m k1 f q o I j;have m:=ch (i:=0) s (v:=.slice (some ⟨r,t,none⟩) l.length g) rfl;have k1:=ch (i:=1) s (v:=.int .i64 d) rfl;have f:=ch (i:=2) s (v:=.int .u64 xI) rfl;have o:=cf (i:=2) s;have q:=cf (i:=1) s;go_still_tail 20,k!;change wpList _ _ _ _ _ z.drew;go_wp2;generalize IntKind.u64.wrap (xI+IntKind.u64.wrap (IntKind.u64.wrap x*2862933555777941757))=st2;obtain⟨a,c⟩:=Qnm (((z.setCell ⟨b,2,none⟩ (C .u64 st2)).setCell ⟨b,1,none⟩ (C .i64 (d+1))).drew);have y:a.heap[b]?=some (.cells #[.slice (some ⟨r,t,none⟩) l.length g,C .i64 (d+1),C .u64 st2] 75 (0,0)):=by rw[c];exact Ba (Ba s _) _
  have J:B3 b w a:=by rw[c];exact(G.set.set).below (Zh _ _).drew
  rw[<-c];clear c m k1 f q o;have f:=ch (i:=2) y (v:=.int .u64 st2) rfl;go_quiet (fail);go_wp2;go_ret;exact⟨_,_,rfl,iF _ _,(J.below (Zh _ _)).below (Y5 (Zh a a) nq),y⟩
 go_quiet (fail);go_wp2;have G:=(H.below (Zh _ _)).below (Y5 (Zh W1 W1) nq);obtain⟨a,c⟩:=Qnm ((W1.drewN nq).setCell ⟨b,1,none⟩ (C .i64 (d+1)));have y:a.heap[b]?=some (.cells #[.slice u l.length g,C .i64 (d+1),C .u64 xI] 75 (0,0)):=by rw[c];exact Ba (show(W1.drewN nq).heap[b]?=some _ from j) _
 have J:B3 b w a:=by rw[c];exact G.set
 rw[<-c];clear c m k1 f q o;have f:=ch (i:=2) y (v:=.int .u64 xI) rfl;go_quiet (fail);go_wp2;go_ret;exact⟨_,_,rfl,iF _ _,(J.below (Zh _ _)).below (Y5 (Zh a a) nq),y⟩
def BK (w:Zb)(b:Nat)(v:Zf)(d:Nat):Prop:=∃a:Int,w.heap[b]?=some (.cells #[v,C .i64 d,C .u64 a] 75 (0,0))
def Lot (w:Zb)(b:Nat)(v:Zf)(d m:Nat)(e:Ending)(w':Zb):Prop:=∃(r d':Nat),e=.returned (C .i64 r)/\r<=m/\B3 b w w'/\BK w' b v d'/\d'<=d+1
def c27 (v:Zf)(b:∃a n c,v=.slice a n c)(w:Zb):Calls Lp 7 #[v] w λe w'=>e=.returned (.pointer w)/\w'=w.alloc (.cells #[v,C .i64 0,C .u64 1] 75):=by
 obtain⟨a,n,c,rfl⟩:=b;go_enter Lp.func27,n27;go_wp2;go_ret;exact⟨rfl,rfl⟩
variable {n lo hi:Int}
def c29 (i:SI S w v l)(p:∀x,S x->x<w.heap.size/\x≠b)(r:BK w b v d)(k:d<4611686018427387904)(z:n<4611686018427387904):
  Calls Lp 34 #[.pointer b,C .i64 n] w (Lot w b v d n.toNat):=by
 obtain⟨h,c⟩:=r;have f:=Zd (c87 i p c k);by_cases A:n<1
 .go_enter Lp.func29,n29
  go_wp2;go_ret;exact⟨0,d,rfl,Zp _,B3.refl _ _,⟨h,c⟩,o!⟩
 obtain⟨m,rfl⟩:∃m:Nat,n=m:=⟨n.toNat,o!⟩;have E:=Zd c;clear c;go_enter Lp.func29,n29;go_wp2_with (go_at_call 75;refine f.out.mono ?_;rintro e w1 ⟨s,q,rfl,⟨j,D⟩,o,t⟩;obtain⟨a,rfl⟩:∃a:Nat,q=a:=⟨q.toNat,o!⟩);have y:(0:Int)<=(a:Int) % ((m:Int)+1):=Int.emod_nonneg _ o!;have B:(a:Int) % ((m:Int)+1)<(m:Int)+1:=Int.emod_lt_of_pos _ o!;have g:wrap64 ((a:Int) % ((m:Int)+1))=(((a:Int) % ((m:Int)+1)).toNat:Int):=by rw[IntWalk.wrap64_in _ o!];omega
 have u:=Zd g;clear g;go_ret;refine⟨((a:Int) % ((m:Int)+1)).toNat,d+1,by rw[<-u.out];rfl,o!,o,⟨s,t⟩,Zj _⟩
def c61 (c:SI S w v l)(i:∀x,S x->x<w.heap.size/\x≠b)(j:BK w b v d)(g:d<4611686018427387904)(p: -1000000<=lo/\lo<=1000000)(o: -1000000<=hi/\hi<=1000000):
  Calls Lp 36 #[.pointer b,C .i64 lo,C .i64 hi] w λe w'=>∃(r d':Nat),e=.returned (C .i64 (lo+r))/\r<=(hi - lo).toNat/\B3 b w w'/\BK w' b v d'/\d'<=d+1:=by
 have a:=Zd (c29 (n:=hi - lo) c i j g o!);go_enter Lp.func61,n61;go_wp2_with (go_at_call 34;refine a.out.mono ?_;rintro e w1 ⟨r,d',rfl,f,h,m,k⟩);go_ret;exact⟨r,d',rfl,f,h,m,k⟩
def c99 (c:SI S w v l)(h:∀x,S x->x<w.heap.size/\x≠b)(i:BK w b v d)(f:d<4611686018427387904)(o: -1000000<=n/\n<=1000000):
  Calls Lp 73 #[.pointer b,C .i64 n] w λe w'=>∃(r:Bool) (d':Nat),e=.returned (.bool r)/\B3 b w w'/\BK w' b v d'/\d'<=d+1:=by
 have a:=Zd (c29 (n:=n - 1) c h i f o!);go_enter Lp.func99,n99;go_wp2_with (go_at_call 34;refine a.out.mono ?_;rintro e w1 ⟨r,d',rfl,m,g,k,j⟩)
 all_goals
  go_ret;exact⟨_,d',rfl,g,k,j⟩
def c98 {s:List Int}(m:SI S w v l)(t:∀x,S x->x<w.heap.size/\x≠b)(u:BK w b v d)(o:d<4611686018427387904)(a:SI T w v2 s)(q:∀x,T x->x<w.heap.size/\x≠b)(G:1<=s.length)(F:s.length<=1000):
  Calls Lp 71 #[.pointer b,v2] w λe w'=>∃(r d':Nat),e=.returned (C .i64 (nth s r))/\r<s.length/\B3 b w w'/\BK w' b v d'/\d'<=d+1:=by
 obtain⟨I,H,rfl,D,B⟩:=a.val;have K:=DJ;have k:=Zd (c29 (n:=(s.length:Int) - 1) m t u o o!);go_enter Lp.func98,n98;go_wp2_with (go_at_call 34;refine k.out.mono ?_;rintro e w1 ⟨r,d',rfl,E,f,z,y⟩;(have i:r<s.length:=o!);obtain⟨g,j,rfl,A,c⟩:=a.at_ i;have J:=(f.same (T:=λx=>x≠b) (λ_ h=>h)).cell (p:=⟨g,j+r,none⟩) (q g A).2 c;clear c);go_ret;exact⟨r,d',rfl,i,f,z,y⟩
section
variable {P:Zo}{ops:Array Oper}{Q:Exit->Act->Zb->Prop}{T:Nat->Zb->Prop}
variable {r:List (Bool×Nat)}
def PW {o:Oper}{a:Act}(b:ops[i]?=some o)(c:o.guard=none)(h:o.wp P a w (λa' w'=>T i w'/\Dl P ops Q T r a' w') Q):Dl P ops Q T ((false,i)::r) a w:=by
 unfold Dl wpOp;simp only[b];rw[if_pos (by simp[Yf,c])];exact .inl h
def JZ {o:Oper}{a:Act}(c:ops[i]?=some o)(d:o.guard=none)(b:(Zby a.eval o).run P w=.ok (.value v) w')(e:T i w')
 (h:Dl P ops Q T r (a.put o.dst v) w'):Dl P ops Q T ((false,i)::r) a w:=by
 refine PW c d ?_;unfold ZbA;rw[b,Zdi];exact⟨e,h⟩
end
def RelA (R:Nat->Nat->Prop)(ab:Nat->Nat):Prop:=∀j b,(ab j).testBit b=true->R j b
section
variable {R:Nat->Nat->Prop}{ab:Nat->Nat}
def qk (g:∀a b c,R a b->R b c->R a c){o:Nat}(h:RelA R ab)(f:R i o):RelA R (Ql ab i o):=by
 intro j b d;unfold Ql at d;split at d
 .next e=>
  subst e;rw[Nat.testBit_or,ZaK]at d;rcases d with d|d
  .exact h _ _ d
  unfold Iv at d;rw[Nat.testBit_or,ZaK]at d;rcases d with d|d
  .exact g _ _ _ f (h _ _ d)
  rw[Nat.one_shiftLeft,Nat.testBit_two_pow]at d;have:o=b:=by simpa using d
  exact this▸f
 exact h _ _ d
def S_ (d:∀a b c,R a b->R b c->R a c){i:Nat}:∀(l:List Int) (ab:Nat->Nat),RelA R ab->(∀x∈l,R i x.toNat)->RelA R (HJ ab i l)
 | [],_,h,_=>h
 |x::r,_,h,e=>S_ d r _ (qk d h (e x (zC ..))) λy f=>e y (zm _ f)
def Ta (d:∀a b c,R a b->R b c->R a c):∀(l:List Ay) (ab:Nat->Nat) (i:Nat),RelA R ab->(∀k,k<l.length->∀x∈(Aj l k).over,R (i+k) x.toNat)->RelA R (K6 ab i l)
 | [],_,_,h,_=>h
 |s::r,ab,i,h,e=>Ta d r _ (i+1) (S_ d s.over ab h (e 0 (Nat.succ_pos _))) λk g x f=>by
  have:=e (k+1) (Nat.succ_lt_succ g) x f;rwa[show i+1+k=i+(k+1) by omega]
def PY (d:∀a b c,R a b->R b c->R a c){l:List Ay}(e:∀k,k<l.length->∀x∈(Aj l k).over,R k x.toNat):∀(n:Nat) (ab:Nat->Nat),RelA R ab->RelA R (G5 ab l n)
 |0,_,h=>h
 |n+1,ab,h=>PY d e n _ (Ta d l ab 0 h λk g x f=>by rw[zN];exact e k g x f)
def cm (d:∀a b c,R a b->R b c->R a c)(f:∀a,¬R a a){l:List Ay}(g:∀k,k<l.length->∀x∈(Aj l k).over,R k x.toNat):H0 l=true:=by
 unfold H0;rw[Zdm];intro i _;have h:RelA R (Ax l):=PY d g _ _ λj b m=>by simp at m
 cases e:hasB (Ax l i) i
 .rfl
 exact absurd (h i i e) (f i)
end
def F4 (h:lo<=n/\n<=hi):AD n lo hi=false:=by simp[AD];omega
def F5 {a:Type}{f:a->Int}:∀ {l:List a},(∀x∈l,f x=0)->Bc f l=0
 | [],_=>rfl
 |x::r,h=>by
  unfold Bc;rw[if_pos (h x (zC ..))];exact F5 λy b=>h y (zm _ b)
def J0 {a:Type}{f:Nat->a->Int}:∀ {l:List a} {i:Nat},(∀k x,l[k]?=some x->f (i+k) x=0)->CY f i l=0
 | [],_,_=>rfl
 |x::r,i,h=>by
  unfold CY;rw[if_pos (show f i x=0 from h 0 x rfl)];exact J0 λk y b=>by
   have:=h (k+1) y (by simpa using b);rwa[show i+1+k=i+(k+1) by omega]
def Oe {m:Int}(h:1<=n/\n<=m):Di n m=0:=by
 unfold Di;rw[if_neg o!,if_neg o!]
def Tb {p:Int×Int}(h:lo<=p.1/\p.1<=p.2/\p.2<=hi):CV p lo hi=0:=by
 unfold CV;rw[if_neg (by rw[F4 o!,F4 o!];simp),if_neg o!]
def Rm (h:lo<=n/\n<=hi):Fo lo hi n=0:=SK (F4 h)
structure Mh (g n own:Nat)(s:Ay):Prop where
 step: -2<=s.low/\s.low<=s.high/\s.high<=2
 few:1<=s.Ap.length/\s.Ap.length<=2
 pull:∀p∈s.Ap,0<=p.1/\p.1<g/\p.2≠0/\-4<=p.2/\p.2<=4
 twice:s.Ap.length=2->(BV s.Ap 1).1≠(BV s.Ap 0).1
 over:∀o∈s.over,0<=o/\o<n/\o≠own
 rising:s.over.Pairwise (· < ·)
 left:0<=s.left/\s.left<=4
def Tc (c:A_)(l:List Int):Prop:=l.length=c.Aa.length/\∀i,i<l.length->(Aj c.Aa i).low<=nth l i/\nth l i<=(Aj c.Aa i).high
structure H6 (c:A_):Prop where
 Fp:1<=c.base.length/\c.base.length<=3
 base:∀x∈c.base,20<=x/\x<=30
 PN:c.Af.length=c.base.length
 Af:∀p∈c.Af,-2<=p.1/\p.1<=p.2/\p.2<=5
 hooks:c.hooks.length=c.base.length
 hook:∀x∈c.hooks,0<=x/\x<=5
 few:1<=c.Aa.length/\c.Aa.length<=3
 seam:∀i,i<c.Aa.length->Mh c.base.length c.Aa.length i (Aj c.Aa i)
 way:(∀i,i<c.Aa.length->∀o∈(Aj c.Aa i).over,(i:Int)<o)\/∀i,i<c.Aa.length->∀o∈(Aj c.Aa i).over,o<(i:Int)
 now:Tc c c.now
def iH (h:Tc c l):Ct c l=0:=by
 unfold Ct;have d:=h.1;rw[if_neg o!,if_neg o!];refine F5 λp b=>?_;obtain⟨i,hi,e⟩:=Zas b;have a:i<l.length:=by simp at hi;omega
 have:=Ra (l:=l) (m:=c.Aa) a o!;rw[zf hi,e]at this;cases this;exact Rm (h.2 i a)
def H6.H0 (h:H6 c):H0 c.Aa=true:=by
 rcases h.way with f|f
 .exact cm (R:=λa b=>a<b) (λa b c=>Nat.lt_trans) (λa=>Nat.lt_irrefl a) λk e x d=>by have:=f k e x d;omega
 exact cm (R:=λa b=>b<a) (λa b c i g=>Nat.lt_trans g i) (λa=>Nat.lt_irrefl a) λk e x d=>by
  have:=f k e x d;have:=((h.seam k e).over x d).1;omega
def eU (h:l.Pairwise (· < ·))(a:0<i)(hi:i<l.length):nth l (i - 1)<nth l i:=by
 have:=ZdK.1 h (i - 1) i o! hi o!;simpa[nth,Y6,hi,show i - 1<l.length by omega]using this
def H6.EF (h:H6 c)(hi:i<c.Aa.length):EF c i=0:=by
 have a:=h.seam i hi;unfold Go.Proofs.Fit.EF;rw[BR (Tb a.step),BR (Oe (by have:=a.few;omega)),BR (J0 λk p b=>?_),BR (J0 λk o d=>?_)]
 .exact Rm a.left
 .have f:=(Zm.1 d).1
  have j:=a.over o (Z3 d);rw[zN];unfold Ed;rw[if_neg (by rw[F4 o!];simp;omega),if_neg];rintro⟨g,l⟩;have:=eU a.rising g f;rw[show nth (Aj c.Aa i).over k=o by unfold nth;rw[Y6,d];rfl]at this;omega
 have f:=(Zm.1 b).1;have j:=a.pull p (Z3 b);have n:=a.few;rw[zN];unfold Fa;rw[F4 o!,if_neg d!,F4 o!,if_neg j!,if_neg];rintro⟨g,e⟩;have m:k=1:=o!
 subst m;refine a.twice o! ?_;rw[<-e];unfold BV;rw[Y6,b]
 rfl
def H6.begin (h:H6 c):BN c=0:=by
 unfold BN Dq;have j:Di (c.base.length:Int) 3=0:=Oe (by have:=h.Fp;omega);have i:Bc (Fo 1 60) c.base=0:=F5 λx a=>Rm (by have:=h.base x a;omega);have g:Bc (λp=>CV p (-9) 9) c.Af=0:=F5 λp b=>Tb (by have:=h.Af p b;omega);have f:Bc (Fo 0 5) c.hooks=0:=F5 λx a=>Rm (h.hook x a);have e:Di (c.Aa.length:Int) 3=0:=Oe (by have:=h.few;omega);have d:JP c=0:=by
  unfold JP;exact J0 λk x a=>by rw[zN];exact h.EF (Zm.1 a).1
 rw[BR j,BR i,if_neg (λx=>x h.PN),BR g,if_neg (λx=>x h.hooks),BR f,BR e,BR d,if_pos h.H0];exact iH h.now
def H6.valid (h:H6 c):Fq c:=EG h.begin
def H6.asked (h:H6 c)(hl:Tc c l):Ca c l=0:=by
 unfold Ca;rw[BR h.begin,iH hl]
def IU (lo hi:Int):List Int:=(Yr (hi+1 - lo).toNat).map λk:Nat=>lo+(k:Int)
def EZ:List Ay->List (List Int)
 | []=> [[]]
 |s::r=>(IU s.low s.high).flatMap λn=>(EZ r).map (n:: ·)
def EH (c:A_):List (List Int):=EZ c.Aa
def LJ (n:Int):Option (List (List Int)×Int)->Bool
 |none=>true
 |some p=>decide (n<p.2)
def DL (ab:Nat->Nat)(d:A_)(g:A_->Option (List (List Int)×Int))(a:Option (List (List Int)×Int))(l:List Int):Option (List (List Int)×Int):=
 match JU d (Cx ab d.now l) with
 |some _=>a
 |none=>match g (FH d l (Cx ab d.now l)) with
  |none=>a
  |some p=>if LJ ((AB (Cx ab d.now l)).length+p.2) a=true then some (l::p.1,(AB (Cx ab d.now l)).length+p.2) else a
def Gx (ab:Nat->Nat):List (List (List Int))->A_->Option (List (List Int)×Int)
 | [],_=>some ([],0)
 |f::r,d=>f.foldl (DL ab d (Gx ab r)) none
variable {α:Type}
def eW {g:α->List Int->α}{a:α}{f:List (List Int)}(h:k<f.length):(f.drop k).foldl g a=(f.drop (k+1)).foldl g (g a (BM f k)):=by
 obtain⟨b,e⟩:=Zm.1 (BJ h);rw[ZO b,e]
 rfl
def kT {d:A_}(h:JU d t=none):∀x∈AB t,1<=(Aj d.Aa x.toNat).left:=λx a=>by
 have:=List.find?_eq_none.1 h x a;unfold SU at this;simp at this;omega
structure kU (c d:A_):Prop where
 base:d.base=c.base
 Af:d.Af=c.Af
 hooks:d.hooks=c.hooks
 len:d.Aa.length=c.Aa.length
 now:d.now.length=c.Aa.length
 left:∀i,i<c.Aa.length->0<=(Aj d.Aa i).left/\(Aj d.Aa i).left<=4
 rest:∀i,i<c.Aa.length->(Aj d.Aa i).Ap=(Aj c.Aa i).Ap/\(Aj d.Aa i).over=(Aj c.Aa i).over/\(Aj d.Aa i).low=(Aj c.Aa i).low/\(Aj d.Aa i).high=(Aj c.Aa i).high
def kU.abw {d:A_}(h:kU c d)(hl:l.length=c.Aa.length)(a:∀x,x∈AB t->0<=x/\x<d.Aa.length)(f:JU d t=none):kU c (FH d l t):=by
 refine⟨h.base,h.Af,h.hooks,(O_ _ _).trans h.len,hl,λi hi=>?_,λi hi=>?_⟩
 .have:=h.left i hi
  show 0<=(Aj (CJ d.Aa (AB t)) i).left/\(Aj (CJ d.Aa (AB t)) i).left<=4;by_cases b:(i:Int)∈AB t
  .have g:=kT f _ b
   rw[Int.toNat_natCast]at g;rcases MZ (AB t) d.Aa i (PS t) a with e|e<;>rw[e]<;>omega
  rw[Ld _ _ _ a b];exact this
 have:=h.rest i hi;obtain⟨n,m,k,j⟩:=M0 (AB t) d.Aa i a;show(Aj (CJ d.Aa (AB t)) i).Ap=_/\(Aj (CJ d.Aa (AB t)) i).over=_/\(Aj (CJ d.Aa (AB t)) i).low=_/\(Aj (CJ d.Aa (AB t)) i).high=_;rw[n,m,k,j];exact this
def ql {b:List Int}(h:a.length=b.length)(c:∀i,i<a.length->nth a i=nth b i):a=b:=by
 apply YA λi=>?_;by_cases hi:i<a.length
 .rw[Bn hi,Bn o!,c i hi]
 rw[ZP o!,ZP o!]
def qm {a b:List Ay}(h:a.length=b.length)(c:∀i,i<a.length->Aj a i=Aj b i):a=b:=by
 apply YA λi=>?_;by_cases hi:i<a.length
 .rw[Db hi,Db o!,c i hi]
 rw[ZP o!,ZP o!]
def Ay.ext' {a b:Ay}(f:a.low=b.low)(e:a.high=b.high)(d:a.Ap=b.Ap)(c:a.over=b.over)(h5:a.left=b.left):a=b:=by
 cases a;cases b;simp_all
def kU.eq {d:A_}(h:kU c d)(a:kU c d')(e:∀i,i<c.Aa.length->nth d.now i=nth d'.now i)(hl:∀i,i<c.Aa.length->(Aj d.Aa i).left=(Aj d'.Aa i).left):d=d':=by
 have t:=h.base.trans a.base.symm;have s:=h.Af.trans a.Af.symm;have r:=h.hooks.trans a.hooks.symm;have q:d.Aa=d'.Aa:=qm (h.len.trans a.len.symm) λi hi=>by
  have b:i<c.Aa.length:=by have:=h.len;omega
  obtain⟨o,n,m,l⟩:=h.rest i b;obtain⟨k,j,g,f⟩:=a.rest i b;exact Ay.ext' (m.trans g.symm) (l.trans f.symm) (o.trans k.symm) (n.trans j.symm) (hl i b)
 have p:d.now=d'.now:=ql (h.now.trans a.now.symm) λi hi=>e i (by have:=h.now;omega);cases d;cases d';simp_all
def M4 (ab:Nat->Nat):∀(g:List (List (List Int))) (d:A_) (p:List (List Int)×Int),Gx ab g d=some p->0<=p.2/\p.2<=3*g.length/\p.1.length=g.length
 | [],_,p,h=>by cases h;simp
 |f::r,d,p,h=>by
  have key:∀(l:List (List Int)) (o:Option (List (List Int)×Int)),(∀q,o=some q->0<=q.2/\q.2<=3*((f::r).length:Int)/\q.1.length=(f::r).length)->∀q,l.foldl (DL ab d (Gx ab r)) o=some q->0<=q.2/\q.2<=3*((f::r).length:Int)/\q.1.length=(f::r).length:=by
   intro l
   induction l with
   |nil=>intro o c q b;exact c q b
   |cons x l k=>
    intro o c q b;refine k _ (λe a=>?_) q b;unfold DL at a;split at a
    .exact c e a
    split at a
    .exact c e a
    next i j=>
    split at a
    .cases a
     have:=M4 ab r _ i j;have m:=Jo (Cx ab d.now x) 3;change(AB (Cx ab d.now x)).length<=3 at m;simp only[zb];omega
    exact c e a
  exact key f none (λq b=>by cases b) p h
def eX {x:Int}(h:x∈IU lo hi):lo<=x/\x<=hi:=by
 unfold IU at h;obtain⟨k,a,rfl⟩:=List.mem_map.1 h;rw[List.mem_range]at a;omega
def Lf:∀(s:List Ay) (l:List Int),l∈EZ s->l.length=s.length/\∀i,i<l.length->(Aj s i).low<=nth l i/\nth l i<=(Aj s i).high
 | [],l,h=>by
  obtain rfl:l=[]:=by simpa[EZ]using h
  exact⟨rfl,λi hi=>absurd hi (ZbY _)⟩
 |t::s,l,h=>by
  unfold EZ at h;obtain⟨n,b,c⟩:=List.mem_flatMap.1 h;obtain⟨r,a,rfl⟩:=List.mem_map.1 c;obtain⟨e,d⟩:=Lf s r a;refine⟨by simp[e],λi hi=>?_⟩;cases i with
  |zero=>exact eX b
  |succ i=>exact d i (by simpa using hi)
def cr {a b:Type}{f:a->List b}{k:Nat}:∀(l:List a),(∀x∈l,(f x).length<=k)->(l.flatMap f).length<=l.length*k
 | [],_=>i!
 |x::r,h=>by
  have e:=h x (zC ..);have d:=cr r λy c=>h y (zm _ c);rw[List.flatMap_cons,ZA,zb,Nat.add_mul];omega
def eY (lo hi:Int):(IU lo hi).length=(hi+1 - lo).toNat:=by simp[IU]
def H7:∀(s:List Ay),(∀i,i<s.length->-2<=(Aj s i).low/\(Aj s i).high<=2)->(EZ s).length<=5^s.length
 | [],_=>by simp[EZ]
 |t::s,h=>by
  have b:=h 0 (Nat.succ_pos _);change -2<=t.low/\t.high<=2 at b;have a:=H7 s λi hi=>h (i+1) (Nat.succ_lt_succ hi);unfold EZ;refine Zr (cr _ λn _=>by rw[List.length_map];exact a) ?_;rw[eY,zb,Nat.pow_succ,ZcR];exact Nat.mul_le_mul_left _ o!
structure Ak (T:Nat->Prop)(w W:Zb):Prop where
 os:W.os=w.os
 tape:W.tape=w.tape
 output:W.output=w.output
 size:w<=W.heap.size
 block:∀k,k<w.heap.size->¬T k->W.heap[k]?=w.heap[k]?
section
variable {T U:Nat->Prop}{w W W':Zb}
def Ak.refl (T:Nat->Prop)(w:Zb):Ak T w w:=⟨rfl,rfl,rfl,Zj _,λ_ _ _=>rfl⟩
def Ak.trans (h:Ak T w W)(k:Ak T W W'):Ak T w W':=
 ⟨k.os.trans h.os,k.tape.trans h.tape,k.output.trans h.output,Zr h.size k.size,λi hi a=>(k.block i (Zl hi h.size) a).trans (h.block i hi a)⟩
def Ak.mono (h:Ak T w W)(b:∀k,T k->U k):Ak U w W:=⟨h.os,h.tape,h.output,h.size,λk c a=>h.block k c λx=>a (b k x)⟩
def Ak.Ec {n:Nat}(h:YH n w W)(c:∀x,n<=x->x<w.heap.size->T x):Ak T w W:=
 ⟨h.os,h.tape,h.output,h.size,λx a b=>h.block x (Nat.lt_of_not_le λy=>b (c x y a))⟩
def Ak.later (h:Bl w W):Ak T w W:=Ak.Ec h λk b a=>absurd a (Nat.not_lt_of_le b)
def Ak.below {n:Nat}(h:Ak T w W)(c:∀k,T k->n<=k)(b:n<=w.heap.size):YH n w W:=
 ⟨h.os,h.tape,h.output,h.size,λk a=>h.block k (Zl a b) λx=>absurd (c k x) (Nat.not_le_of_lt a)⟩
variable {o:Obj}
def Ak.put {l:Nat}(h:Ak T w W)(hl:T l):Ak T w (W.putObj l o):=
 ⟨h.os,h.tape,h.output,by simpa using h.size,λk b a=>(zG λe=>a (by rw[e];exact hl)).trans (h.block k b a)⟩
def Ak.set (h:Ak T w W)(b:T q):Ak T w (W.setCell ⟨q,i,none⟩ v):=
 ⟨h.os,h.tape,h.output,by simpa using h.size,λk c a=>(AZ (λe=>a (by rw[e];exact b)) _).trans (h.block k c a)⟩
def Ak.uJ (h:Ak T w W)(a:Bl W W'):Ak T w W':=h.trans (Ak.later a)
def Ak.same (h:Ak T w W)(d:∀b,S b->¬T b):CE S w W:=λb c a=>h.block b a (d b c)
end
def J1 (e:Zs)(n:Nat)(w:Zb)(b:Nat):Prop:=Cb n w b/\∃a,w.heap[b]?=some (.cells a e (0,0))
def Kp (n m k:Nat):Prop:=n<=k/\k<n+m
def ahx (P:Zo)(g:Nat)(lb:Array Zf)(m:Nat)(K:Nat->Prop)(xs:List (List Int))(c:Zb):Prop:=
 ∀(l:Nat) (J:List (List Int)->Zb->Prop) (W:Zb),c<=W.heap.size->(∀k,K k->k<c.heap.size->W.heap[k]?=c.heap[k]?)->
  (∀A,Bl W A->W+m<=A.heap.size->J [] A)->
  (∀a A B,J a A->Ak (Kp W m) A B->J a B)->
  (∀a x u b A,J a b->Ak (Kp W m) b A->W+m<=b.heap.size->a++ [x]<+:xs->SI (J1 3 b A) A u x->
   YieldAt ZbC 0 P l #[u] A λe d=>e=.returned (.bool true)/\J (a++ [x]) d/\Ak (λk=>¬Kp W m k/\¬K k) A d)->
  CallsIn ZbC 0 P g (#[.func (.yield l) #[] #[]]++lb) W λe A=>(∃v,e=.returned v)/\J xs A
variable {xs ls:List (List Int)}
def Vm {P:Zo}{g:Zbv}{p:Tmp}{assign body:Code}{Q:Exit->Act->Zb->Prop}{a:Act}{gf:Nat}{lb:Array Zf}{K:Nat->Prop}(hg:a.eval g=.func (.func gf) #[] lb)(eg:∀args w,(Zz gf args).run P w=.ok (.enter gf args) w)
 (eZ:ahx P gf lb m K xs w0) (hw:w0<=w.heap.size) (S:∀k,K k->k<w0.heap.size/\w.heap[k]?=w0.heap[k]?)
 (I:List (List Int)->Zb->Prop) (h0:∀A,Bl w A->w.heap.size+(m+2)<=A.heap.size->I [] A)
 (T:∀d A B,I d A->Ak (Kp w (m+2)) A B->I d B) (dp:Zf->Act)
 (uK:∀(l:Nat) (u:Zf) (W:Zb) (K:Act->Zb->Prop),(∃Y n c,u=.slice Y n c)->K (dp u) W->assign.wpIn (Fence.wide.inRound l) 0 P (Exit.then K (λ_ _ _=>False)) {tmps:=((#[p]:Array Tmp).zip #[u]).foldl (λt (p,v)=>t.setIfInBounds p v) a.tmps,defers:=[]} W)
 (X:∀(l:Nat) (d:List (List Int)) (x:List Int) (u:Zf) (j A:Zb),I d j->Ak (Kp w (m+2)) j A->w.heap.size+(m+2)<=j.heap.size->d++ [x]<+:xs->SI (J1 3 j A) A u x->
 body.wpIn (Fence.wide.inRound l) 0 P (λe _ W'=>e=.normal/\I (d++ [x]) W'/\Ak (λk=>¬Kp w (m+2) k/\¬K k) A W') (dp u) A)
 (V:∀A,I xs A->A.heap[w.heap.size]?=some (.deferred (some []))->Q .normal {a with defers:= {target:=.collected w,args:= #[]}::a.defers} A):
  (Code.rangeFunc g #[p] assign body).wpIn ZbC 0 P Q a w:=by
 refine wpIn_rangeFunc ?_;intro fn G9;obtain⟨f,C⟩:∃f:LoopState->Option Code->Loop,f=λst pe=> {state:=st,pending:=pe,fn,tmps:=a.tmps,params:= #[p],assign,body,defers:=w.heap.size}:=⟨_,rfl⟩;obtain⟨W1,H⟩:∃W1,(w.alloc (.deferred (some []))).alloc (.loop (f .ready none))=W1:=⟨_,rfl⟩;have Ue:W1.heap[w.heap.size+1]?=some (.loop (f .ready none)):=by
  rw[<-H];have:=ZdG (w.alloc (.deferred (some []))) (.loop (f .ready none));rwa[ZB]at this
 have l_:W1.heap[w.heap.size]?=some (.deferred (some [])):=by
  rw[<-H];exact(zD _ _ _ i!).trans (ZdG w _)
 have Z:Bl w W1:=by rw[<-H];exact((Zh _ w).alloc (Zj _) _).alloc i! _
 have DR:W1=w.heap.size+2:=by rw[<-H];simp
 have z:∀k,Kp W1 m k->Kp w (m+2) k:=λk h=>by unfold Kp at*;omega
 refine⟨w+1,[{target:=.collected w,args:= #[]}],W1, {target:=.fn (.func gf) lb,args:= #[.func (.yield (w+1)) #[] #[]]},W1,gf,
  #[.func (.yield (w+1)) #[] #[]]++lb,W1,?_,?_,?_,?_,(λh=>h!),?_⟩
 .rw[<-H,C];exact run_enterLoop_outer _ _ _ _ _
 .simp only[Zbh,hg]
  simp[go_sem]
 .intro f' _;trivial
 .simp[invoke,go_sem,eg]
 refine(eZ (w+1) (λd A=>I d A/\A.heap[w.heap.size+1]?=some (.loop (f .ready none))/\A.heap[w.heap.size]?=some (.deferred (some []))) W1 o!
  (λk s _=>(Z.block k (Zl (S k s).1 hw)).trans (S k s).2)
  (λA U hs=>⟨h0 A (Z.trans (U.mono Z.size)) o!,(U.block _ o!).trans Ue,(U.block _ o!).trans l_⟩)
  (λd A B G y=>⟨T d A B G.1 (y.mono z),(y.block _ (Za.1 G.2.1).1 (by unfold Kp;omega)).trans G.2.1,(y.block _ (Za.1 G.2.2).1 (by unfold Kp;omega)).trans G.2.2⟩)
  ?_).mono ?_
 .rintro d x u j A ⟨hi,M,kq⟩ y hz E hu
  have F:A.heap[w.heap.size+1]?=some (.loop (f .ready none)):=(y.block _ (Za.1 M).1 (by unfold Kp;omega)).trans M;have s:A.heap[w.heap.size]?=some (.deferred (some [])):=(y.block _ (Za.1 kq).1 (by unfold Kp;omega)).trans kq;have Az:w+1<A.heap.size:=(Za.1 F).1;have ac:w+1<j.heap.size:=(Za.1 M).1;have hy:=run_yield (P:=P) (args:= #[u]) F (by rw[C];rfl);rw[C]at hy;refine⟨fn,_,assign,body,hy,roundIn_of_wpIn trivial (uK _ u A _ ?_ ⟨_,run_beginRound F (by rw[C]),?_⟩)⟩
  .obtain⟨Y,c,rfl,_⟩:=hu.val
   exact⟨Y,_,c,rfl⟩
  obtain⟨i,o⟩:=Qnm (A.putObj (w+1) (.loop {f .ready none with state:=.busy}));rw[<-o];have Oq:i.heap[w.heap.size+1]?=some (.loop {f .ready none with state:=.busy}):=by rw[o];exact Zau Az
  have N:i.heap[w.heap.size]?=some (.deferred (some [])):=by rw[o];exact(zG o!).trans s
  have D3:Ak (Kp w (m+2)) j i:=by rw[o];exact(y.mono z).put (by unfold Kp;omega)
  have EB:i=A.heap.size:=by rw[o];simp
  have J:∀k,k≠w.heap.size+1->i.heap[k]?=A.heap[k]? :=λk h=>by rw[o];exact zG h
  have r:i.os=A.os/\i.tape=A.tape/\i.output=A.output:=by rw[o];exact⟨rfl,rfl,rfl⟩
  have Hb:SI (J1 3 j i) i u x:=Sl.imp (hu.Ar (λb D _=>J b (by have:=D.1.1;omega))) (λb D=>⟨⟨D.1.1,by rw[EB];exact D.1.2⟩,by rw[J b (by have:=D.1.1;omega)];exact D.2⟩) (λ_ _ x=>x);clear o;refine wpIn_mono (X _ d x u j i hi D3 o! E Hb) ?_;rintro e a3 W3 ⟨rfl,O,q⟩;have Qm:W3.heap[w.heap.size+1]?=some (.loop {f .ready none with state:=.busy}):=(q.block _ o! (λh=>h.1 (by unfold Kp;omega))).trans Oq;have M8:W3.heap[w.heap.size]?=some (.deferred (some [])):=(q.block _ o! (λh=>h.1 (by unfold Kp;omega))).trans N;have RV:=run_endRound (P:=P) none Qm;refine⟨_,_,RV,rfl,⟨T _ _ _ O ((Ak.refl _ _).put (by unfold Kp;omega)),?_,?_⟩,?_⟩
  .rw[Zau (Za.1 Qm).1,C];rfl
  .exact(zG o!).trans M8
  refine⟨q.os.trans r.1,q.tape.trans r.2.1,q.output.trans r.2.2,by have:=q.size;simp;omega,λk s hn=>?_⟩;by_cases L:k=w.heap.size+1
  .exfalso
   refine hn ⟨by unfold Kp;omega,λR=>?_⟩;have:=(S k R).1;omega
  rw[zG L];by_cases hm:Kp w (m+2) k
  .rw[q.block k o! (λh=>h.1 hm),J k L]
  rw[q.block k o! (λh=>hn ⟨λh'=>hm (z k h'),h.2⟩),J k L]
 rintro e W2 ⟨⟨v,rfl⟩,hi,F,s⟩;refine⟨none,_,by have:=run_endLoop (P:=P) F (by rw[C];simp);rw[C]at this;exact this,?_⟩;exact V _ (T _ _ _ hi ((Ak.refl _ _).put (by unfold Kp;omega))) ((zG o!).trans s)
attribute [local go_sem] Zdk
structure IT (S:Nat->Prop)(n0 l bg:Nat)(v1 v2 v3 v4 v5:Zf)(ab:Nat->Nat)(c:A_)(p:List Int)(A:Zb):Prop where
 yb:A.heap[n0]?=some (.cells #[.func (.yield l) #[] #[]] 145 (0,0))
 row:∃tl,(p++tl).length=c.Aa.length/\A.heap[n0+1]?=some (.cells ((p++tl).map (ZL .i64)).toArray 3 (0,0))
 sb:A.heap[n0+2]?=some (.cells #[.slice (some ⟨n0+1,0,none⟩) c.Aa.length c.Aa.length] 22 (0,0))
 fb:A.heap[n0+3]?=some (.cells #[.func (.func 77) #[] #[.pointer (some ⟨n0+2,0,none⟩),.pointer n0,.pointer bg,.pointer (some ⟨n0+3,0,none⟩)]] 110 (0,0))
 gb:A.heap[bg]?=some (.cells (AW v1 v2 v3 v4 v5 ab) 84 (0,0))
 rc:RC S A v1 v2 v3 v4 v5 c
section
variable {S:Nat->Prop}{n0 l bg:Nat}{v1 v2 v3 v4 v5:Zf}{ab:Nat->Nat}{c:A_}{p:List Int}{A B:Zb}
def IT.Ar (h:IT S n0 l bg v1 v2 v3 v4 v5 ab c p A)(d:Ak (λk=>¬Kp n0 4 k/\¬(S k\/k=bg)) A B):IT S n0 l bg v1 v2 v3 v4 v5 ab c p B:=by
 have a:∀k x,k<4->A.heap[n0+k]?=some x->B.heap[n0+k]?=some x:=λk x j h=>(d.block _ (Za.1 h).1 (λq=>q.1 (by unfold Kp;omega))).trans h;obtain⟨e,i,g⟩:=h.row;exact⟨a 0 _ o! h.yb,⟨e,i,a 1 _ o! g⟩,a 2 _ o! h.sb,a 3 _ o! h.fb,(d.block _ (Za.1 h.gb).1 (λq=>q.2 (.inr rfl))).trans h.gb,h.rc.Ar (d.same λb f q=>q.2 (.inl f))⟩
def IT.step (h:IT S n0 l bg v1 v2 v3 v4 v5 ab c p A)(e:∀b,S b\/b=bg->b<n0)(hp:p.length<c.Aa.length)(x:Int):IT S n0 l bg v1 v2 v3 v4 v5 ab c (p++ [x]) (A.setCell ⟨n0+1,p.length,none⟩ (C .i64 x)):=by
 have a:∀k y,k≠n0+1->A.heap[k]?=some y->(A.setCell ⟨n0+1,p.length,none⟩ (C .i64 x)).heap[k]?=some y:=λk y g h=>(AZ g _).trans h;obtain⟨d,f,n⟩:=h.row;refine⟨a _ _ o! h.yb,⟨d.drop 1,?_,?_⟩,a _ _ o! h.sb,a _ _ o! h.fb,a _ _ (by have:=e bg (.inr rfl);omega) h.gb,h.rc.Ar λb j _=>AZ (by have:=e b (.inl j);omega) _⟩
 .simp only[ZA,zb,zR,List.length_drop]at f⊢
  omega
 have m:=Ba (i:=p.length) n (C .i64 x);rw[m];cases d with
 |nil=>simp at f;omega
 |cons y r=>simp
def IT.cut {q:List Int}(h:IT S n0 l bg v1 v2 v3 v4 v5 ab c (p++q) A):IT S n0 l bg v1 v2 v3 v4 v5 ab c p A:=by
 obtain⟨a,d,b⟩:=h.row;exact⟨h.yb,⟨q++a,by rw[<-Zae];exact d,by rw[<-Zae];exact b⟩,h.sb,h.fb,h.gb,h.rc⟩
end
def WL (lo:Int)(rest:List Ay)(q:Nat):List (List Int):=((Yr q).map λk:Nat=>lo+(k:Int)).flatMap λn=>(EZ rest).map (n:: ·)
def Pb (lo:Int)(rest:List Ay)(q:Nat):WL lo rest (q+1)=WL lo rest q++(EZ rest).map ((lo+(q:Int)):: ·):=by
 unfold WL;rw[List.range_succ,Zai,Zbe];simp
def kV {l:List Ay}(h:i<l.length):l.drop i=Aj l i::l.drop (i+1):=by
 obtain⟨a,e⟩:=Zm.1 (Db h);rw[ZO a,e]
def qu {rest:List Ay}(h:q<=m):WL lo rest q<+:WL lo rest m:=by
 induction h with
 |refl=>exact List.prefix_rfl
 |step _ a=>rw[Pb];exact a.trans (List.prefix_append _ _)
def abJ (n0 l:Nat)(K:Nat->Prop)(J:List (List Int)->Zb->Prop)(xs:List (List Int)):Prop:=
 ∀a x u b A,J a b->Ak (Kp n0 4) b A->n0+4<=b.heap.size->a++ [x]<+:xs->SI (J1 3 b A) A u x->
  YieldAt ZbC 0 Lp l #[u] A λe c=>e=.returned (.bool true)/\J (a++ [x]) c/\Ak (λk=>¬Kp n0 4 k/\¬K k) A c
variable {e:Zs}
def Lg {R:Zb->List Zf->α->Prop}{l:List α}{base:Nat}{xs:List Zf}(n:0<k)(h:w.ownsRow base e k v l.length xs)(q:∀i x,l[i]?=some x->R w ((xs.drop (i*k)).take k) x):Sl (J1 e base w) R k w v l:=by
 obtain⟨a,c,d,t,s,r⟩:=O6 n h q;refine⟨a,c,d,t,s,λi x f=>?_⟩;obtain⟨b,o,C,j,A,z,y,u⟩:=r i x f;refine⟨b,o,C,j,⟨A,?_⟩,z,y,u⟩;rcases h.2 with⟨_,E⟩|⟨g,D,B,m,_,p,_⟩
 .have:=(Zm.1 f).1
  omega
 rw[m]at d;cases d;cases j;exact⟨_,p⟩
def xJ (h:Sl S Ri 1 w v l)(z:l.length<=1000):Calls Lp 69 #[v] w λe w'=>∃v',e=.returned v'/\Bl w w'/\Sl (J1 3 w w') Ri 1 w' v' l:=by
 obtain⟨a,c,rfl,U,T⟩:=h.val;obtain⟨F,hi,P,R,Q⟩:=zp KY;have t:=Cz YE;have E:∀(w:Zb) (a:Option Addr) (n c g f:Nat),(binOp .eql 22 (.slice a n c) (.slice none g f)).run Lp w=.ok (.bool a.isNone) w:=λw a n c g f=>ZaO w _ _ a n c g f t;cases a with
 |none=>
  have G:l=[]:=by
   cases l with
   |nil=>rfl
   |cons x r=>
    obtain⟨W,f,q,_,_,K⟩:=h;cases q;obtain⟨b,o,V,e,_⟩:=K 0 x rfl;cases e
  subst G;go_enter Lp.func106,uj;go_wp2;go_ret;exact⟨_,rfl,Zh _ _,none,0,rfl,Zj _,Zp _,λi x m=>by cases m⟩
 |some B=>
  obtain⟨d,y,p,A⟩:=Sl.row h d! B rfl;have q:=row_one d! y p pJ;have N:=Zd A;have M:=Zd p;clear A p;go_enter Lp.func106,uj;go_wp2_with (at_builtin;refine Yc _ rfl _ _ 22 rfl w 3 F (C .i64 0) 1 8 t (Dz hi) P R Q rfl d! _ 0 [] rfl (YC w #[] 0 (Zj _) (Zp _) rfl) B l.length c d rfl y (λj u I=>ca (N.out j u I) _) q u! o! i! ?_;intro v' w1 s D O);have J:Bl w w1:=Bm (bA (Zh _ _)) D (λk H=>by cases H;exact Zj _) i!;have L:Sl (J1 3 w w1) Ri 1 w1 v' l:=Lg d! (by rw[zN,zP]at s;exact s) (λi x m=>M.out i x m);clear s D O;go_ret;exact⟨_,rfl,J,L⟩
variable {ab:Nat->Nat}
def aoB {l:Nat}{J:List (List Int)->Zb->Prop}(hJ:∀d A B,J d A->Ak (Kp n0 4) A B->J d B)
 (hY:abJ n0 l (λk=>S k\/k=bg) J xs) (hb:∀b,S b\/b=bg->b<n0) (Jm:c.Aa.length<=3) (B_:∀i,i<c.Aa.length->-2<=(Aj c.Aa i).low/\(Aj c.Aa i).high<=2):
  ∀(k i:Nat) (p:List Int) (d:List (List Int)) (A:Zb),i+k=c.Aa.length->p.length=i->IT S n0 l bg v1 v2 v3 v4 v5 ab c p A->J d A->n0+4<=A.heap.size->d++(EZ (c.Aa.drop i)).map (p++ ·)<+:xs->
   CallsIn ZbC 0 Lp 77 #[C .i64 i,.pointer (some ⟨n0+2,0,none⟩),.pointer n0,.pointer bg,.pointer (some ⟨n0+3,0,none⟩)] A λe A'=>
    e=.returned (.bool true)/\IT S n0 l bg v1 v2 v3 v4 v5 ab c p A'/\J (d++(EZ (c.Aa.drop i)).map (p++ ·)) A'/\n0+4<=A'.heap.size:=by
 intro k
 induction k with
 |zero=>
  intro i p d A uB hp r T F y;have hi:i=c.Aa.length:=o!
  subst hi;have e1:EZ (c.Aa.drop c.Aa.length)=[[]]:=by rw[Z7.2 (Zj _)];rfl
  rw[e1]at y⊢;simp only[List.map_cons,List.map_nil,ZaA]at y⊢;obtain⟨tl,Y,O⟩:=r.row;obtain rfl:tl=[]:=YM (by rw[ZA]at Y;omega);rw[ZaA]at O Y;have R:SI (λb=>b=n0+1) A (.slice (some ⟨n0+1,0,none⟩) p.length p.length) p:=M1 p O rfl u!;rw[hp]at R;have k1:=ch (i:=0) r.sb (v:=.slice (some ⟨n0+1,0,none⟩) c.Aa.length c.Aa.length) rfl;have k2:=ch (i:=0) r.yb (v:=.func (.yield l) #[] #[]) rfl;have dL:=Zd (λB (N:Bl A B)=>Zcx (n:=0).2 (xJ (w:=B) (R.later N) o!));have an:(c.Aa.length:Int)=(c.Aa.length:Int):=rfl;refine Zd6 Lp.func154 rfl trivial ?_ rfl;simp only[agR,Zbm,zb,zR,ZaF,Zcw,ZaN,ZaM,Zbn,Za4,zP,Za1]
  gi_wp2
  refine wpIn_region_any k! ?_;change wpAnyIn _ _ _ _ _ _ _ _ _ A.drew;refine Yq (rs:=[0,1]) k! i! ?_;refine zA rfl (λK a=>?_) (zA rfl (λK a=>?_) zZ)
  .go_simp
   refine a _ _ ?_;clear a;refine Yq (rs:=[1]) k! i! ?_;refine zA rfl (λK a=>?_) zZ
   go_simp
   refine a _ _ ?_;clear a;refine Yq (rs:=[2]) k! i! ?_;refine zA rfl (λK a=>?_) zZ
   go_simp
   refine⟨trivial,rfl,?_⟩;refine(dL.out A.drew (Zh _ _).drew).mono ?_;rintro e w1 ⟨u,rfl,N,G⟩;refine a _ _ ?_;clear a;have f:Bl A w1:=(Zh _ _).drew.trans (N.mono (Zj _));obtain⟨fn,E,j,L,Q,I⟩:=hY d p u A w1 T (Ak.later f) F y G;refine Yq (rs:=[3]) k! i! ?_;refine zA rfl (λK a=>?_) zZ
   go_simp
   refine⟨rfl,?_⟩;refine I.mono ?_;rintro e w2 ⟨rfl,D,s⟩;refine a _ _ ?_;clear a I Q;refine Yq (rs:=[4]) k! i! ?_;refine zA rfl (λK a=>?_) zZ
   go_simp
   refine a _ _ ?_;clear a;refine wpAnyIn_done k! ?_ _;have t:=(r.Ar (Ak.later f)).Ar s;have V:n0+4<=w2.heap.size:=Zr (Zr F f.size) s.size;clear s f G
   gi_wp2
   refine ZN (results_tmp rfl _ _ _) rfl ?_;exact⟨rfl,t,D,V⟩
  .go_simp
   refine a _ _ ?_;clear a;refine Yq (rs:=[0,2]) k! i! ?_;refine zA rfl (λK a=>?_) (zA rfl (λK a=>?_) zZ)
   .go_simp
    refine a _ _ ?_;clear a;refine Yq (rs:=[2]) k! i! ?_;refine zA rfl (λK a=>?_) zZ
    go_simp
    refine⟨trivial,rfl,?_⟩;refine(dL.out A.drew (Zh _ _).drew).mono ?_;rintro e w1 ⟨u,rfl,N,G⟩;refine a _ _ ?_;clear a;have f:Bl A w1:=(Zh _ _).drew.trans (N.mono (Zj _));obtain⟨fn,E,j,L,Q,I⟩:=hY d p u A w1 T (Ak.later f) F y G;refine Yq (rs:=[3]) k! i! ?_;refine zA rfl (λK a=>?_) zZ
    go_simp
    refine⟨rfl,?_⟩;refine I.mono ?_;rintro e w2 ⟨rfl,D,s⟩;refine a _ _ ?_;clear a I Q;refine Yq (rs:=[4]) k! i! ?_;refine zA rfl (λK a=>?_) zZ
    go_simp
    refine a _ _ ?_;clear a;refine wpAnyIn_done k! ?_ _;have t:=(r.Ar (Ak.later f)).Ar s;have V:n0+4<=w2.heap.size:=Zr (Zr F f.size) s.size;clear s f G
    gi_wp2
    refine ZN (results_tmp rfl _ _ _) rfl ?_;exact⟨rfl,t,D,V⟩
   .go_simp
    refine⟨trivial,rfl,?_⟩;refine(dL.out A.drew (Zh _ _).drew).mono ?_;rintro e w1 ⟨u,rfl,N,G⟩;refine a _ _ ?_;clear a;have f:Bl A w1:=(Zh _ _).drew.trans (N.mono (Zj _));have X:=(f.cell (p:=n0) (by show n0<_;omega)).trans k2;refine Yq (rs:=[0]) k! i! ?_;refine zA rfl (λK a=>?_) zZ
    go_simp
    refine a _ _ ?_;clear a;clear X;obtain⟨fn,E,j,L,Q,I⟩:=hY d p u A w1 T (Ak.later f) F y G;refine Yq (rs:=[3]) k! i! ?_;refine zA rfl (λK a=>?_) zZ
    go_simp
    refine⟨rfl,?_⟩;refine I.mono ?_;rintro e w2 ⟨rfl,D,s⟩;refine a _ _ ?_;clear a I Q;refine Yq (rs:=[4]) k! i! ?_;refine zA rfl (λK a=>?_) zZ
    go_simp
    refine a _ _ ?_;clear a;refine wpAnyIn_done k! ?_ _;have t:=(r.Ar (Ak.later f)).Ar s;have V:n0+4<=w2.heap.size:=Zr (Zr F f.size) s.size;clear s f G
    gi_wp2
    refine ZN (results_tmp rfl _ _ _) rfl ?_;exact⟨rfl,t,D,V⟩
 |succ k ih=>
  intro i p d A uB hp r T F y;have rU:i<c.Aa.length:=o!
  have ap:(i:Int)<(c.Aa.length:Int):=o!
  have BL:((i:Int)==(c.Aa.length:Int))=false:=j!
  have IX:=DJ;obtain⟨MM,LO⟩:=B_ i rU;obtain⟨m,hm⟩:=Qnm (((Aj c.Aa i).high+1 - (Aj c.Aa i).low).toNat);have FJ:EZ (c.Aa.drop i)=WL (Aj c.Aa i).low (c.Aa.drop (i+1)) m:=by rw[kV rU,hm];rfl
  rw[FJ]at y⊢;obtain⟨lo,W⟩:=Qnm ((Aj c.Aa i).low);obtain⟨hi,x⟩:=Qnm ((Aj c.Aa i).high);rw[<-W, <-x]at hm;rw[<-W]at MM y FJ⊢;rw[<-x]at LO;obtain⟨a4,Z,rfl,l4,m4⟩:=r.rc.Aa.val;have Si:∀B,IT S n0 l bg v1 v2 v3 (.slice a4 c.Aa.length Z) v5 ab c p B->∃b o,a4=some ⟨b,o,none⟩/\B.cell? ⟨b,o+i*5,none⟩=some (C .i64 lo)/\B.cell? ⟨b,o+i*5+1,none⟩=some (C .i64 hi):=λB h=>by
   obtain⟨b,o,_,_,e,_,x1,x2,_⟩:=h.rc.Aa.at_ rU;rw[W,x];exact⟨b,o,e,x1,x2⟩
  obtain⟨b,o,rfl,kl,kh⟩:=Si A r;have X:=ch (i:=3) r.gb (v:=.slice (some ⟨b,o,none⟩) c.Aa.length Z) rfl;have k1:=ch (i:=0) r.sb (v:=.slice (some ⟨n0+1,0,none⟩) c.Aa.length c.Aa.length) rfl;clear W x FJ;refine Zd6 Lp.func154 rfl trivial ?_ rfl;simp only[agR,Zbm,zb,zR,ZaF,Zcw,ZaN,ZaM,Zbn,Za4,zP,Za1]
  gi_wp2
  clear k1 X kl kh
  gi_loopg [7] m (λg v wr=>∃q:Nat,q<=m/\g=m - q/\v=.int .i64 (lo+q)/\IT S n0 l bg v1 v2 v3 (.slice (some ⟨b,o,none⟩) c.Aa.length Z) v5 ab c p wr/\J (d++(WL lo (c.Aa.drop (i+1)) q).map (p++ ·)) wr/\n0+4<=wr.heap.size)
  case atStart=>exact⟨0,Zp _,rfl,i!,r,by simpa[WL]using T,F⟩
  obtain⟨q,hq,rfl,rfl,z,M,P⟩:=hrel;obtain⟨_,_,e,_,kh⟩:=Si wr z;cases e;have X:=ch (i:=3) z.gb (v:=.slice (some ⟨b,o,none⟩) c.Aa.length Z) rfl;have k1:=ch (i:=0) z.sb (v:=.slice (some ⟨n0+1,0,none⟩) c.Aa.length c.Aa.length) rfl;by_cases Az:q<m
  .have ac:lo+(q:Int)<=hi:=by omega
   obtain⟨tl,Y,O⟩:=z.row;have kr:wr.cell? ⟨n0+1,i,none⟩=some (C .i64 (nth (p++tl) i)):=ch O (by rw[ZG,YL,Bn o!];rfl);have fr:=cf (i:=i) O;have k4:=ch (i:=0) z.fb (v:=.func (.func 77) #[] #[.pointer (some ⟨n0+2,0,none⟩),.pointer n0,.pointer bg,.pointer (some ⟨n0+3,0,none⟩)]) rfl;have t:=z.step hb o! (lo+(q:Int));rw[hp]at t;have D:=hJ _ _ _ M ((Ak.refl (Kp n0 4) wr).set (q:=n0+1) (i:=i) (v:=.int .i64 (lo+(q:Int))) (by unfold Kp;omega));have U:(d++(WL lo (c.Aa.drop (i+1)) q).map (p++ ·))++(EZ (c.Aa.drop (i+1))).map ((p++ [lo+(q:Int)])++ ·)<+:xs:=by
    have h1:=(qu (lo:=lo) (rest:=c.Aa.drop (i+1)) (show q+1<=m from Az)).map (p++ ·);rw[Pb,Zai]at h1;have h2:=((List.prefix_append_right_inj d).2 h1).trans y;simpa[ZdQ,Zae]using h2
   have H:=Zd (ih (i+1) (p++ [lo+(q:Int)]) _ _ o! j! t D (by simpa using P) U);clear t D U z M O Y
   gi_wp2
   refine⟨trivial,rfl,?_⟩;refine CallsIn.mono H.out ?_;rintro e w1 ⟨rfl,am,ai,Rb⟩
   gi_wp2
   gi_roundg (m - (q+1))
   case rel=>
    refine⟨q+1,Az,rfl,v!,am.cut,?_,Rb⟩;rw[Pb,Zai, <-Zae];simpa[ZdQ,Zae]using ai
   omega
  have ac:hi<lo+(q:Int):=o!
  have TC:q=m:=o!
  subst TC
  gi_wp2
  refine ZN (results_tmp rfl _ _ _) rfl ?_;exact⟨rfl,z,M,P⟩
attribute [local go_sem] Zdk
def uL (n:Nat)(e:n<=1000)(w:Zb):(Zdp 22 (C .i64 n) (C .i64 n)).run Lp w=.ok (.slice w n n) (w.alloc (.cells (List.replicate n (ZL .i64 0)).toArray 3)):=by
 obtain⟨a,hi,b,d,c⟩:=zp KY;have h:=run_make (P:=Lp) w 22 3 a (C .i64 0) (Cz YE) (Dz hi) b .i64 .i64 n n o! (Int.le_refl _) (by rw[c];omega) o!;rw[h,d];simp only[Int.toNat_natCast]
 congr 3
 apply Array.ext
 .simp[madeCells]
 intro i g f;simp[madeCells,Value.cells,Nat.mod_one]
def qv (G:w0.heap[bg]?=some (.cells (AW v1 v2 v3 v4 v5 ab) 84 (0,0)))(Q:RC S w0 v1 v2 v3 v4 v5 c)(P:Ql6 S w0)
 (V:c.Aa.length<=3) (X:∀i,i<c.Aa.length->-2<=(Aj c.Aa i).low/\(Aj c.Aa i).high<=2):ahx Lp 76 #[.pointer bg] 4 (λk=>S k\/k=bg) (EH c) w0:=by
 intro l J W I L x R O;have g:=(Za.1 G).1;have t:∀b,S b\/b=bg->b<W.heap.size:=λb h=>by
  rcases h with h|rfl
  .exact Zl (P b h) I
  exact Zl g I
 have f:=(L bg (.inr rfl) g).trans G;have j:RC S W v1 v2 v3 v4 v5 c:=Q.Ar λb U T=>L b (.inl U) T;obtain⟨D,z,rfl,Z,Y⟩:=j.Aa.val;have IX:=DJ;have k3:=ch (i:=3) f (v:=.slice D c.Aa.length z) rfl;have B:=Zd (λk i p s A=>aoB (S:=S) (n0:=W) (l:=l) (bg:=bg) (xs:=EH c) (v1:=v1) (v2:=v2) (v3:=v3) (v4:=.slice D c.Aa.length z) (v5:=v5) (ab:=ab) (c:=c) (J:=J) R O t V X k i p s A);have N:=uL c.Aa.length o!;refine Zd6 Lp.func153 rfl trivial ?_ rfl;show Code.wpIn _ _ _ _ _ {tmps:= #[.func (.yield l) #[] #[],.pointer bg]++_,defers:=[]} _;simp only[anv,Zbm,zb,zR,ZaF,Zcw,ZaN,ZaM,Zbn,Za4,zP,Za1]
 gi_wp2
 refine⟨trivial,rfl,?_⟩;obtain⟨a,d⟩:∃a:List Obj,a=[.cells #[.func (.yield l) #[] #[]] 145,.cells (Yu c.Aa.length (C .i64 0)) 3,.cells #[.slice (W+1:Nat) c.Aa.length c.Aa.length] 22,.cells #[.func (.func 77) #[] #[.pointer (W+2:Nat),.pointer W,.pointer bg,.pointer (W+3:Nat)]] 110]:=⟨_,rfl⟩;have q:=JY a W;have n:=WK a W;have H:=Pa a W;have K:a.length=4:=by rw[d];rfl
 have m:=(n 0 o!).trans (show a[0]?=some (.cells #[.func (.yield l) #[] #[]] 145) by rw[d];rfl);have F:=(n 1 o!).trans (show a[1]?=some (.cells (Yu c.Aa.length (C .i64 0)) 3) by rw[d];rfl);have M:=(n 2 o!).trans (show a[2]?=some (.cells #[.slice (W+1:Nat) c.Aa.length c.Aa.length] 22) by rw[d];rfl);have E:=(n 3 o!).trans (show a[3]?=some (.cells #[.func (.func 77) #[] #[.pointer (W+2:Nat),.pointer W,.pointer bg,.pointer (W+3:Nat)]] 110) by rw[d];rfl);obtain⟨r,o⟩:=Qnm (a.foldl Zaz W);rw[<-o]at q H m F M E;rw[K]at H;rw[d]at o;change r=(((W.alloc _).alloc _).alloc _).alloc _ at o;change CallsIn _ _ _ _ _ ((((W.alloc _).alloc _).alloc _).alloc _) _;rw[<-o];clear o n d K;have y:IT S W l bg v1 v2 v3 (.slice D c.Aa.length z) v5 ab c [] r:=
  ⟨m,⟨List.replicate c.Aa.length 0,i!,by rw[F];simp⟩,M,E,(q.block _ (t bg (.inr rfl))).trans f,j.Ar λb h _=>q.block b (t b (.inl h))⟩
 have w:=x r q o!;refine(B.out c.Aa.length 0 [] [] r o! rfl y w o! (by simp[EH])).mono ?_;rintro e W5 ⟨rfl,_,u,_⟩
 gi_wp2
 go_end0
 refine⟨⟨_,rfl⟩,?_⟩;simpa[EH]using u
def ahC (xs:Array Zf)(a:xs.size=8)(b:∀x∈xs.toList,x.oneCell'=true)(w:Zb):Calls Lp 39 #[.agg xs] w λe w'=>e=.returned (.func (.func 76) #[] #[.pointer w])/\w'=w.alloc (.cells xs 84):=by
 go_enter Lp.func103,anc;go_wp2;go_ret;exact⟨rfl,rfl⟩
attribute [local go_sem] Zdk
structure AQ (w:Zb)(base:Nat)(pre:List (List Int))(A:Zb):Prop where
 below:Bl w A
 size:base<=A.heap.size
 box:∃v vals,A.heap[w.heap.size]?=some (.cells #[v] 34 (0,0))/\A.ownsRow base 22 1 v pre.length vals/\∀(i:Nat) (x:List Int),pre[i]?=some x->∃u,vals[i]?=some u/\SI (J1 3 base A) A u x
def Dx {base:Nat}(c:Ak T A B)(d:∀b,J1 e base A b->¬T b){x:List Int}(h:SI (J1 e base A) A u x):SI (J1 e base B) B u x:=
 Sl.imp (h.Ar (c.same d)) (λb a=>⟨⟨a.1.1,Zl a.1.2 c.size⟩,by rw[c.block b a.1.2 (d b a)];exact a.2⟩) (λ_ _ x=>x)
def CO {n base:Nat}{xs:List Zf}(l:Ak T A B)(j:∀b,base<=b->¬T b)(h:A.ownsRow base e k v n xs):B.ownsRow base e k v n xs:=by
 refine⟨h.1,?_⟩;rcases h.2 with a|⟨g,d,c,a,i,f,m⟩
 .exact .inl a
 exact .inr ⟨g,d,c,a,i,(l.block g (Za.1 f).1 (j g i)).trans f,m⟩
def Ak.grown {row:Option Nat}(h:A.grownBy B row)(b:∀k,row=some k->T k):Ak T A B:=
 ⟨h.os,h.tape,h.output,h.size,λk c a=>h.block k c λe=>a (b k e.symm)⟩
def AQ.CN {base n:Nat}{c:List (List Int)}(h:AQ w base c A)(r:w<n)(j:base=n+m)(d:Ak (Kp n m) A B):AQ w base c B:=by
 have g:∀b,base<=b->¬Kp n m b:=λb f e=>by unfold Kp at e;omega
 obtain⟨v,a,f,e,q⟩:=h.box;refine⟨h.below.trans (d.below (λk p=>by unfold Kp at p;omega) h.below.size),Zr h.size d.size,v,a,(d.block _ (Za.1 f).1 (by unfold Kp;omega)).trans f,CO d g e,λi x hi=>?_⟩;obtain⟨u,l,o⟩:=q i x hi;exact⟨u,l,Dx d (λb j=>g b j.1.1) o⟩
variable {vals:List Zf}
def WM {base n:Nat}(h:A.ownsRow base 22 1 v ls.length vals)(m:n<=base)(g:∀(i:Nat) (x:List Int),ls[i]?=some x->∃u,vals[i]?=some u/\SI (Cb n A) A u x):SL (Cb n A) A v ls:=by
 obtain⟨a,c,t,s,r,q⟩:=U7 h;refine⟨a,c,t,s,r,λi x f=>?_⟩;obtain⟨u,k,l⟩:=g i x f;obtain⟨b,p,e,o⟩:=q i u k;refine⟨b,0,[u],p,⟨Zr m e.1,e.2⟩,rfl,λj y d=>?_,u,rfl,l⟩;cases j with
 |zero=>cases d;exact o
 |succ j=>cases d
def aoE (L:w.heap[bg]?=some (.cells (AW v1 v2 v3 v4 v5 ab) 84 (0,0)))(hR:RC S w v1 v2 v3 v4 v5 c)(hS:Ql6 S w)
 (Jm:c.Aa.length<=3) (B_:∀i,i<c.Aa.length->-2<=(Aj c.Aa i).low/\(Aj c.Aa i).high<=2):
  CallsIn ZbC 0 Lp 96 #[(),.func (.func 76) #[] #[.pointer bg]] w λe w'=>∃v,e=.returned v/\Bl w w'/\SL (Cb w w') w' v (EH c):=by
 have eZ:=qv L hR hS Jm B_;have P:=(Za.1 L).1;obtain⟨K,z⟩:∃K:Nat->Prop,K=λk=>S k\/k=bg:=⟨_,rfl⟩;have I:∀k,K k->k<w.heap.size:=λk h=>by
  rw[z]at h;rcases h with h|rfl
  .exact hS k h
  exact P
 rw[<-z]at eZ;clear z;have hN:(EH c).length<=125:=by
  have:=H7 c.Aa B_;have C:5^c.Aa.length<=5^3:=YX d! Jm;exact Zr this C
 obtain⟨i0,hi,Fl,DR,EB⟩:=zp Hw;have J:=Cz zW;refine callsIn_of_wp_marks Lp.func152 rfl trivial ?_ rfl;show Code.wpIn _ _ _ _ _ {tmps:= #[.slice none 0 0,.func (.func 76) #[] #[.pointer (some ⟨bg,0,none⟩)]]++_,defers:=[]} _;simp only[anu,Zbm,zb,zR,ZaF,Zcw,ZaN,ZaM,Zbn,Za4,zP,Za1]
 gi_wp2
 obtain⟨W,t⟩:=Qnm (w.alloc (.cells #[()] 34));have N:Bl w W:=by rw[t];exact bA (Zh _ _)
 have M:W=w.heap.size+1:=by rw[t];simp
 have hX:W.heap[w.heap.size]?=some (.cells #[()] 34 (0,0)):=by rw[t];exact Bp _ _
 rw[<-t];clear t;refine Vm (gf:=76) (lb:= #[.pointer bg]) rfl (Go.Proofs.enters_of Lp.func153 k! rfl) eZ N.size (λk d=>?_) (AQ w (W+6)) (λA hA hs=>?_) (λa A B h o=>h.CN o! rfl o)
  (λu=> {tmps:= #[(),.func (.func 76) #[] #[.pointer bg],.pointer w,Ze,(),u,.func (.func 76) #[] #[.pointer bg],u,Ze,Ze,Ze,Ze,Ze],defers:=[]}) ?assign ?body ?done
 .exact⟨I k d,N.block k (I k d)⟩
 .exact⟨N.trans (hA.mono N.size),o!,_,[],(hA.block _ o!).trans hX,zq _ _ _ _,λi x O=>by cases O⟩
 case assign=>
  rintro l u W' K ⟨E,n,D,rfl⟩ z
  gi_wp2
  exact z
 case body=>
  intro l a x u A0 A Q o hz f iA;have f:=f.length_le;rw[ZA,zb,zR]at f;have m:=Q.CN o! rfl o;obtain⟨v,vals,G,p,DF⟩:=m.box;obtain⟨E,D,rfl,lu,mu⟩:=iA.val;have ai:W+6<=A.heap.size:=m.size;have am:w<W.heap.size:=o!
  have Y:=Zd M;clear M;have kb:=ch (i:=0) G (v:=v) rfl;have fb:=cf (i:=0) G
  gi_wp2_with (gi_at_builtin;refine wpListIn_append_own _ rfl _ _ 34 rfl (W+6) 22 i0 () 1 24 J (Dz hi) Fl DR EB rfl d! _ _ _ rfl (p.alloc _) A 1 1 [.slice E x.length D] rfl rfl (cell_one_new _ _ _) (by simp[YT]) u! o! j! ?_;intro v' w1 Bi AG Gc;obtain⟨V,Z,rfl⟩:=Zay Bi;have F:(A.alloc (.cells #[.slice E x.length D] 22)).grownBy w1 v.ownBlock:=AG;have Em:∀k,v.ownBlock=some k->W.heap.size+6<=k:=λk d=>(p.lt k d).1;have X:w1.heap[w.heap.size]?=some (.cells #[v] 34 (0,0)):=(F.block _ j! (λe=>by have:=Em _ e.symm;omega)).trans (Bf G _);have ac:=ch (i:=0) X (v:=v) rfl;have an:=cf (i:=0) X)
  have kL:=Y.out;have Kd:Ak (λk=>¬Kp W (4+2) k/\¬K k) A w1:=(Ak.later (bA (Zh _ _))).trans (Ak.grown F λk d=>by
   have:=Em k d;exact⟨by unfold Kp;omega,λh=>by have:=I k h;omega⟩)
  have DR:A<w1.heap.size:=by have:=F.size;simp at this;omega
  have H:∀(T:Nat->Prop),T w.heap.size->Ak T w1 (w1.setCell w (.slice V (a.length+1) Z)):=λT h=>(Ak.refl _ _).set h;refine⟨⟨?_,?_,_,vals++ [.slice E x.length D],Ba X _,?_,λi y r=>?_⟩,Kd.trans (H _ ⟨by unfold Kp;omega,λh=>by have:=I _ h;omega⟩)⟩
  .exact(Bm (bA m.below) F (λk d=>by have:=Em k d;omega) (by have:=m.below.size;simp;omega)).trans ((H (λk=>k=w.heap.size) rfl).below (λk d=>o!) o!)
  .have:=(H (λk=>k=w.heap.size) rfl).size
   omega
  .rw[ZA]
   exact CO (H (λk=>k=w.heap.size) rfl) (λb U C=>o!) Bi
  have q:∀u,SI (J1 3 (W+6) A) A u y->SI (J1 3 (W+6) (w1.setCell w (.slice V (a.length+1) Z))) (w1.setCell w (.slice V (a.length+1) Z)) u y:=λu h=>by
   refine Dx (T:=λk=>v.ownBlock=some k\/k=w) (((Ak.later (bA (Zh _ _))).trans (Ak.grown F λk d=>.inl d)).trans (H _ (.inr rfl))) (λb j h=>?_) h;rcases h with h|h
   .obtain⟨cs,s⟩:=j.2
    rcases p.2 with⟨e,_⟩|⟨g,ba,ap,e,_,L,_⟩
    .rw[e]at h;cases h
    rw[e]at h;cases h;rw[L]at s;cases s
   have:=j.1.1;omega
  by_cases Az:i<a.length
  .rw[zl Az]at r
   obtain⟨u,J,hs⟩:=DF i y r;exact⟨u,by rw[zl (Zm.1 J).1];exact J,q u hs⟩
  have aX:=(Zm.1 r).1;rw[ZA,zb,zR]at aX;obtain rfl:i=a.length:=o!
  rw[Y1]at r;cases r;have uM:vals.length=a.length:=by have:=p.1;omega
  refine⟨.slice E x.length D,by rw[<-uM,Y1],q _ (Sl.imp iA (λb j=>⟨⟨?_,j.1.2⟩,j.2⟩) (λ_ _ x=>x))⟩;have:=j.1.1;omega
 intro A m hD;obtain⟨v,vals,G,p,DF⟩:=m.box;have kb:=ch (i:=0) G (v:=v) rfl;have Y:=Zd M;clear M
 gi_wp2
 have kL:=Y.out;have o:Ak (λk=>k=W.heap.size) A (A.putObj W (.deferred none)):=(Ak.refl _ _).put rfl;have R:Bl w (A.putObj W (.deferred none)):=m.below.trans (o.below (λk d=>o!) m.below.size);have Ox:=CO o (λb U C=>o!) p;have gI:∀(i:Nat) (x:List Int),(EH c)[i]?=some x->∃u,vals[i]?=some u/\SI (Cb w (A.putObj W (.deferred none))) (A.putObj W (.deferred none)) u x:=λi x O=>by
  obtain⟨u,U,C⟩:=DF i x O;exact⟨u,U,Sl.imp (Dx o (λb j h=>by have:=j.1.1;omega) C) (λb j=>⟨by have:=j.1.1;omega,j.1.2⟩) (λ_ _ x=>x)⟩
 refine⟨i!,.inl ⟨_,_,rfl,run_takeDeferred hD,?_⟩⟩;exact⟨_,results_tmp rfl _ _ _,_,rfl,R,WM Ox o! gI⟩
def aoH (f:w.heap[bg]?=some (.cells (AW v1 v2 v3 v4 v5 ab) 84 (0,0)))(h:RC S w v1 v2 v3 v4 v5 c)(g:Ql6 S w)
 (k:c.Aa.length<=3) (l:∀i,i<c.Aa.length->-2<=(Aj c.Aa i).low/\(Aj c.Aa i).high<=2):
  Calls Lp 67 #[.func (.func 76) #[] #[.pointer bg]] w λe w'=>∃v,e=.returned v/\Bl w w'/\SL (Cb w w') w' v (EH c):=by
 have b:=Zd (Zcx.1 (aoE f h g k l));go_enter Lp.func102,anb;go_wp2_with (go_at_call 96;refine b.out.mono ?_;rintro e w1 ⟨v,rfl,j,d⟩;obtain⟨a,m,rfl,_⟩:=d.val);go_ret;exact⟨_,rfl,j,d⟩
abbrev Key:=Int×(Int×Int×Int)×(Int×Int×Int)
def Dy (k:Key):Zf:=.agg #[C .i64 k.1,C .i64 k.2.1.1,C .i64 k.2.1.2.1,C .i64 k.2.1.2.2,C .i64 k.2.2.1,C .i64 k.2.2.2.1,C .i64 k.2.2.2.2]
def abL:Lp.underlying 183=some (.struct (Lp.fieldsOf 183)):=k!
def ahD:Lp.underlying 91=some (.array 3 3):=Cz Tryz.underlying91
def u3:Lp.underlying 3=some (.int .i64):=Cz Tryz.underlying3
def P2 (w:Zb)(xs:Array Zf)(i:Nat)(v:Int)(h:xs[i]?=some (C .i64 v)):(part 3 xs i).run Lp w=.ok (C .i64 v) w:=by
 have a:∀w,(isAgg 3).run Lp w=.ok false w:=λw=>Go.Proofs.run_isAgg_plain u3 rfl w;simp[part,zg,a,zu,h]
def ahE (w:Zb)(d:Nat)(a b c x y z:Int):(ZaZ (d+2) 91 (.agg #[C .i64 a,C .i64 b,C .i64 c]) (.agg #[C .i64 x,C .i64 y,C .i64 z])).run Lp w=.ok (decide (a=x/\b=y/\c=z)) w:=by
 obtain⟨m,hi,n,p,o⟩:=zp KY;have j:Lp.cellsOf 3=1:=k!
 have i:∀w a b,(ZaZ (d+1) 3 (C .i64 a) (C .i64 b)).run Lp w=.ok (a==b) w:=λw a b=>run_equalIn_int w d 3 .i64 .i64 a b u3;have h:=λw (a b c:Int)=>P2 w #[C .i64 a,C .i64 b,C .i64 c] 0 a rfl;have g:=λw (a b c:Int)=>P2 w #[C .i64 a,C .i64 b,C .i64 c] 1 b rfl;have f:=λw (a b c:Int)=>P2 w #[C .i64 a,C .i64 b,C .i64 c] 2 c rfl;rw[run_equalIn_array w (d+1) _ _ ahD (Dz hi),j,show Yr 3=[0,1,2] from rfl];by_cases l:a=x<;>by_cases k:b=y<;>by_cases e:c=z<;>simp[Op.eqItems,zg,h,g,f,i,l,k,e]
def iI (w:Zb)(xs:Array Zf)(i:Nat):(part 91 xs i).run Lp w=.ok (.agg (xs.extract i (i+3))) w:=by
 have b:∀w,(isAgg 91).run Lp w=.ok true w:=λw=>k!
 have a:∀w,(sizeOf 91).run Lp w=.ok 3 w:=λw=>k!
 simp[part,zg,b,a,zu]
def f213:Lp.fieldsOf 183= #[{name:= "singer",type:=3,offset:=0,embedded:=false,tag:= "",pkgPath:= "galloon/seam",byteOffset:=0}, {name:= "now",type:=91,offset:=1,embedded:=false,tag:= "",pkgPath:= "galloon/seam",byteOffset:=8}, {name:= "left",type:=91,offset:=4,embedded:=false,tag:= "",pkgPath:= "galloon/seam",byteOffset:=32}]:=k!
def xM (w:Zb)(k k':Key):(Zaa 183 (Dy k) (Dy k')).run Lp w=.ok (decide (k=k')) w:=by
 obtain⟨s,⟨a,b,c⟩,x,y,z⟩:=k;obtain⟨i,⟨r,q,p⟩,h,g,f⟩:=k';have l:∀w a b,(ZaZ 9999 3 (C .i64 a) (C .i64 b)).run Lp w=.ok (a==b) w:=λw a b=>run_equalIn_int w 9998 3 .i64 .i64 a b u3;have e:=λw a b c x y z=>ahE w 9997 a b c x y z;simp only[ZaF]at e;have j:=λw (s a b c x y z:Int)=>P2 w #[C .i64 s,C .i64 a,C .i64 b,C .i64 c,C .i64 x,C .i64 y,C .i64 z] 0 s rfl;unfold Zaa Op.maxDepth Dy;rw[run_equalIn_agg (d:=9999) (ht:=abL) (hp:=k!),f213];by_cases o:s=i<;>by_cases n:a=r/\b=q/\c=p<;>by_cases m:x=h/\y=g/\z=f<;>simp[Op.eqFields,zg,j,iI,l,e,o,n,m]
def qy (w:Zb)(a:Bool)(n:Nat)(v:Int):(YD a (n+1) 3 (C .i64 v)).run Lp w=.ok () w:=by
 unfold YD;simp[zg,Y9 u3,zu]
def qz (w:Zb)(h:Bool)(n:Nat)(a b c:Int):(YD h (n+2) 91 (.agg #[C .i64 a,C .i64 b,C .i64 c])).run Lp w=.ok () w:=by
 have g:∀w,(sizeOf 3).run Lp w=.ok 1 w:=λw=>k!
 have f:=λw (a b c:Int)=>P2 w #[C .i64 a,C .i64 b,C .i64 c] 0 a rfl;have e:=λw (a b c:Int)=>P2 w #[C .i64 a,C .i64 b,C .i64 c] 1 b rfl;have d:=λw (a b c:Int)=>P2 w #[C .i64 a,C .i64 b,C .i64 c] 2 c rfl;unfold YD;simp only[zg,Y9 ahD,Zaw];simp only[Zdw,Std.Legacy.Range.size,Nat.sub_zero,Nat.add_one_sub_one,Nat.div_one];rw[show Zcq 0 3=[0,1,2] from rfl];simp[zg,g,f,e,d,qy,zu]
def Og (w:Zb)(d:Bool)(k:Key):(YD d 10000 183 (Dy k)).run Lp w=.ok () w:=by
 obtain⟨s,⟨a,b,c⟩,x,y,z⟩:=k;have g:=λw (s a b c x y z:Int)=>P2 w #[C .i64 s,C .i64 a,C .i64 b,C .i64 c,C .i64 x,C .i64 y,C .i64 z] 0 s rfl;have f:=λw v=>qy w d 9998 v;have e:=λw a b c=>qz w d 9997 a b c;simp only[ZaF]at f e;unfold YD Dy;simp only[zg,Y9 abL,Zaw,f213];simp[zg,g,iI,f,e,zu]
def qA (w:Zb)(k:Key):(Yi (Dy k) (Dy k)).run Lp w=.ok (Dy k) w:=by
 obtain⟨s,⟨a,b,c⟩,x,y,z⟩:=k;have h:zH 10000 (Dy (s,(a,b,c),x,y,z)) (Dy (s,(a,b,c),x,y,z))=true:=by
  simp[Dy,zH]
 simp[Yi,h]
def iJ (w:Zb)(k:Key):∀(es:List MapEntry) (i:Nat),(∀e∈es,∃k',e.key=Dy k')->
  ((zX 183 (Dy k) es i).run Lp w=.ok none w/\∀e∈es,e.key≠Dy k)\/∃j e,(zX 183 (Dy k) es i).run Lp w=.ok (some (i+j,e.val)) w/\es[j]?=some e/\e.key=Dy k
 | [],i,_=>.inl ⟨by simp[zX],λe o=>by cases o⟩
 |e::es,i,h=>by
  obtain⟨k',f⟩:=h e (zC ..);by_cases g:k=k'
  .subst g
   refine .inr ⟨0,e,?_,rfl,f⟩;simp[zX,zg,f,xM]
  have n:(zX 183 (Dy k) (e::es) i).run Lp w=(zX 183 (Dy k) es (i+1)).run Lp w:=by
   simp[zX,zg,f,xM,g]
  rcases iJ w k es (i+1) λx d=>h x (zm _ d) with⟨m,l⟩|⟨j,x,m,l,p⟩
  .refine .inl ⟨n.trans m,λx d=>?_⟩
   rcases List.mem_cons.1 d with rfl|d
   .rw[f]
    intro e;apply g;obtain⟨s,⟨a,b,c⟩,x,y,z⟩:=k;obtain⟨u,⟨B,A,v⟩,t,r,q⟩:=k';simp[Dy]at e;simp[e]
   exact l x d
  exact .inr ⟨j+1,x,by rw[n,m];simp;omega,l,p⟩
def Td (w:Zb)(k:Key)(es:List MapEntry)(h:∀e∈es,∃k',e.key=Dy k'):
  ((Zaj 183 (Dy k) es).run Lp w=.ok none w)\/∃j e,(Zaj 183 (Dy k) es).run Lp w=.ok (some (j,e.val)) w/\es[j]?=some e/\e.key=Dy k:=by
 have e:(Zaj 183 (Dy k) es).run Lp w=(zX 183 (Dy k) es 0).run Lp w:=by
  unfold Zaj;simp only[zg,Y9 abL,Zaw];cases es with
  |nil=>simp[ZaJ,zX]
  |cons x r=>simp[ZaJ,Zbj]
 rw[e];rcases iJ w k es 0 h with⟨a,_⟩|⟨j,x,a,c,b⟩
 .exact .inl a
 exact .inr ⟨j,x,by simpa using a,c,b⟩
def Gy (G:Key->Zf->Zb->Prop)(b:Nat)(w:Zb):Prop:=∃c a,w.heap[b]?=some (.map c a)/\∀e∈c.toList,∃k,e.key=Dy k/\G k e.val w
def uN:Lp.underlying 132=some (.map 183 138):=Cz Tryz.underlying132
def uO (w:Zb):(zeroValue 138).run Lp w=.ok (.agg #[(),C .i64 0,.bool false]) w:=k!
def uP {G:Key->Zf->Zb->Prop}(h:Gy G b w)(k:Key):
  (Za2 132 (.map (some b)) (Dy k) true).run Lp w=.ok (.tuple #[.agg #[(),C .i64 0,.bool false],.bool false]) w\/∃v,(Za2 132 (.map (some b)) (Dy k) true).run Lp w=.ok (.tuple #[v,.bool true]) w/\∃k',Dy k'=Dy k/\G k' v w:=by
 obtain⟨g,c,i,f⟩:=h;have d:(getObj b).run Lp w=.ok (.map g c) w:=by simp[getObj,Sem.run,i]
 rcases Td w k g.toList λe h=>by obtain⟨k',a,_⟩:=f e h;exact⟨k',a⟩ with a|⟨j,e,a,o,n⟩
 .left
  simp[Za2,zg,Y9 uN,d,Og,a,uO,zu]
 right;obtain⟨k',m,l⟩:=f e (Z3 o);refine⟨e.val,?_,k',m.symm.trans n,l⟩;simp[Za2,zg,Y9 uN,d,Og,a,zu]
def kW {G:Key->Zf->Zb->Prop}{k:Key}(h:Gy G b w)(n:∀es a,G k v (w.putObj b (.map es a)))(q:∀k' v' es a,G k' v' w->G k' v' (w.putObj b (.map es a))):
  ∃es a,(ZaS 132 (.map (some b)) (Dy k) v).run Lp w=.ok () (w.putObj b (.map es a))/\Gy G b (w.putObj b (.map es a)):=by
 obtain⟨es,a,g,f⟩:=h;have r:(getObj b).run Lp w=.ok (.map es a) w:=by simp[getObj,Sem.run,g]
 have s:=(Za.1 g).1;have p:∀o,(setObj b o).run Lp w=.ok () (w.putObj b o):=λo=>by simp[setObj,Sem.run,g,World.putObj]
 rcases Td w k es.toList λe h=>by obtain⟨k',d,_⟩:=f e h;exact⟨k',d⟩ with d|⟨j,e,d,z,y⟩
 .refine⟨es.push {key:=Dy k,val:=v,born:=a},a+1,?_,_,_,Zau s,λe c=>?_⟩
  .simp[ZaS,zg,Y9 uN,r,Og,d,p,zu]
  rw[Array.toList_push]at c;rcases Zab.1 c with h|h
  .obtain⟨k',m,l⟩:=f e h
   exact⟨k',m,q _ _ _ _ l⟩
  rw[Yh.1 h];exact⟨k,rfl,n _ _⟩
 have u:es[j]?=some e:=by simpa using z
 refine⟨es.modify j λe=> {e with key:=Dy k,val:=v},a,?_,_,_,Zau s,λx t=>?_⟩
 .simp[ZaS,zg,Y9 uN,r,Og,d,u,y,qA,p,zu]
 obtain⟨i,hi,rfl⟩:=Zas t;have A:i<es.size:=by simpa using hi
 simp only[Array.getElem_toList,Array.getElem_modify];split
 .exact⟨k,rfl,n _ _⟩
 obtain⟨k',m,l⟩:=f es[i] i!;exact⟨k',m,q _ _ _ _ l⟩
def LT (w:Zb)(b:Nat):Prop:=∃a e,w.heap[b]?=some (.cells a e (0,0))/\(e=3\/e=22)
def LS (n0 a:Nat)(w:Zb)(b:Nat):Prop:=(b<n0/\b≠a/\b<w)\/LT w b
def Kept (n0 a:Nat)(w w':Zb):Prop:=∀b,LS n0 a w b->w'.heap[b]?=w.heap[b]?
def LL (n0 a:Nat)(w:Zb)(u:Zf)(ls:List (List Int)):Prop:=SL (LS n0 a w) w u ls
section
variable {n0 mb:Nat}{w w' Xd:Zb}{u:Zf}{ls:List (List Int)}
def LS.lt {b:Nat}(h:LS n0 mb w b):b<w:=by
 rcases h with h|⟨a,e,h,_⟩
 .exact h.2.2
 exact(Za.1 h).1
def LS.Ar (h:LS n0 mb w b)(c:Kept n0 mb w w'):LS n0 mb w' b:=by
 have e:=c b h;have a:=h.lt;have i:b<w':=by
  rw[Zx a]at e;exact(Za.1 e).1
 rcases h with h|⟨g,f,h,d⟩
 .exact .inl ⟨h.1,h.2.1,i⟩
 exact .inr ⟨g,f,e.trans h,d⟩
def LL.Ar (h:LL n0 mb w u ls)(c:Kept n0 mb w w'):LL n0 mb w' u ls:=
 Sl.imp (SL.Ar h (w':=w') λb a _=>c b a) (λ_ a=>a.Ar c) (λ_ _ ⟨u,e,h⟩=>⟨u,e,Sl.imp h (λ_ a=>a.Ar c) λ_ _ x=>x⟩)
def Kept.refl (n0 a:Nat)(w:Zb):Kept n0 a w w:=λ_ _=>rfl
def Kept.trans (h:Kept n0 mb w w')(k:Kept n0 mb w' Xd):Kept n0 mb w Xd:=λb a=>(k b (a.Ar h)).trans (h b a)
def Kept.WN (h:B3 mb w w')(d:∃es c,w.heap[mb]?=some (.map es c)):Kept n0 mb w w':=λb a=>h.block b a.lt (by
 rcases a with a|⟨f,e,a,_⟩
 .exact a.2.1
 rintro rfl;obtain⟨es,c,d⟩:=d;rw[a]at d;cases d)
def Kept.later (h:Bl w w'):Kept n0 mb w w':=λb a=>h.block b a.lt
variable {cs:Array Zf}
def Kept.set (d:w.heap[q]?=some (.cells cs e (0,0)))(f:e≠3/\e≠22)(h:n0<=q):Kept n0 mb w (w.setCell ⟨q,i,none⟩ v):=λb c=>AZ (by
 rintro rfl;rcases c with c|⟨g,j,c,a⟩
 .omega
 rw[c]at d;cases d;rcases a with a|a
 .exact f.1 a
 exact f.2 a) _
def Kept.row {g:Array Zf}(d:w.heap[q]?=some (.cells cs e (0,0)))(f:e≠3/\e≠22)(i:n0<=q):Kept n0 mb w (w.setRow q g):=λb c=>setRow_other _ _ _ _ (by
 rintro rfl;rcases c with c|⟨h,j,c,a⟩
 .omega
 rw[c]at d;cases d;rcases a with a|a
 .exact f.1 a
 exact f.2 a)
variable {o:Obj}
def Kept.put (d:∃es c,w.heap[mb]?=some (.map es c)):Kept n0 mb w (w.putObj mb o):=λb a=>zG (by
 rintro rfl;rcases a with a|⟨cs,e,a,_⟩
 .exact a.2.1 rfl
 obtain⟨es,c,d⟩:=d;rw[a]at d;cases d)
end
def Lh (n0 a:Nat)(w:Zb)(v:Zf):Option (List (List Int)×Int)->Prop
 |none=>v=.agg #[(),C .i64 0,.bool false]
 |some p=>∃u,v=.agg #[u,C .i64 p.2,.bool true]/\LL n0 a w u p.1
def Lh.Ar {n0 a:Nat}{w w':Zb}{v:Zf}{r:Option (List (List Int)×Int)}(h:Lh n0 a w v r)(b:Kept n0 a w w'):Lh n0 a w' v r:=by
 cases r with
 |none=>exact h
 |some p=>
  obtain⟨u,d,c⟩:=h;exact⟨u,d,c.Ar b⟩
def Lh.val {n0 d:Nat}{w:Zb}{v:Zf}{r:Option (List (List Int)×Int)}(h:Lh n0 d w v r):∃a n c m s,v=.agg #[.slice a n c,C .i64 m,.bool s]/\s=r.isSome/\(∀p,r=some p->m=p.2/\LL n0 d w (.slice a n c) p.1)/\(r=none->a=none/\n=0/\c=0/\m=0):=by
 cases r with
 |none=>exact⟨none,0,0,0,false,h,rfl,(λp f=>by cases f),λ_=>⟨rfl,rfl,rfl,rfl⟩⟩
 |some p=>
  obtain⟨u,g,e⟩:=h;obtain⟨a,c,rfl,_⟩:=Sl.val e;exact⟨a,_,c,p.2,true,g,rfl,λq b=>by cases b;exact⟨rfl,e⟩,λb=>by cases b⟩
def M5 (i:Nat)(d:A_):Key:=(i,(nth d.now 0,nth d.now 1,nth d.now 2),(Aj d.Aa 0).left,(Aj d.Aa 1).left,(Aj d.Aa 2).left)
def FI (n0 b:Nat)(ab:Nat->Nat)(c:A_)(a:List (List (List Int)))(k:Key)(v:Zf)(w:Zb):Prop:=
 ∀i d,i<=a.length->kU c d->Dy (M5 i d)=Dy k->Lh n0 b w v (Gx ab (a.drop i) d)
variable {k':Key}
def qB {k:Key}(h:Dy k=Dy k'):k=k':=by
 obtain⟨s,⟨a,b,c⟩,x,y,z⟩:=k;obtain⟨g,⟨l,j,i⟩,f,e,d⟩:=k';simp[Dy]at h;simp[h]
def qC {d:A_}{a:Nat}(h:kU c d)(f:kU c d')(g:c.Aa.length<=3)(e:M5 i d=M5 a d'):i=a/\d=d':=by
 unfold M5 at e;simp only[Prod.mk.injEq]at e;obtain⟨q,⟨p,o,n⟩,m,l,k⟩:=e;refine⟨o!,h.eq f (λj b=>?_) (λj b=>?_)⟩
 .have:j=0\/j=1\/j=2:=by omega
  rcases this with rfl|rfl|rfl<;>assumption
 have:j=0\/j=1\/j=2:=o!
 rcases this with rfl|rfl|rfl<;>assumption
variable {fits:List (List (List Int))}
def FI.of {d:A_}(b:kU c d)(a:c.Aa.length<=3)(h:Lh n0 mb w v (Gx ab (fits.drop i) d)):FI n0 mb ab c fits (M5 i d) v w:=
 λg d' _ f e=>by
  obtain⟨rfl,rfl⟩:=qC f b a (qB e);exact h
def FI.Ar {k:Key}(h:FI n0 mb ab c fits k v w)(a:Kept n0 mb w w'):FI n0 mb ab c fits k v w':=
 λi d hi b e=>(h i d hi b e).Ar a
def Gy.Ar (h:Gy (FI n0 mb ab c fits) mb w)(d:Kept n0 mb w w')(f:w'.heap[mb]?=w.heap[mb]?):Gy (FI n0 mb ab c fits) mb w':=by
 obtain⟨m,a,l,j⟩:=h;refine⟨m,a,f.trans l,λe b=>?_⟩;obtain⟨k,i,g⟩:=j e b;exact⟨k,i,g.Ar d⟩
def Gy.is {G:Key->Zf->Zb->Prop}(h:Gy G b w):∃es a,w.heap[b]?=some (.map es a):=by
 obtain⟨es,a,c,_⟩:=h;exact⟨es,a,c⟩
def Rll (n0 a:Nat)(w:Zb)(cs:List Zf)(x:List (List Int)):Prop:=∃u,cs=[u]/\LL n0 a w u x
def E0 (k:Key):Array Zf:= #[C .i64 k.1,C .i64 k.2.1.1,C .i64 k.2.1.2.1,C .i64 k.2.1.2.2,C .i64 k.2.2.1,C .i64 k.2.2.2.1,C .i64 k.2.2.2.2]
structure FS (n0 mb:Nat)(ab:Nat->Nat)(c:A_)(fits:List (List (List Int)))(w:Zb)(vf:Zf)(g:Array Zf)(k:Key)(wr:Zb):Prop where
 Cn:B3 mb w wr
 xN:wr.heap[w.heap.size]?=some (.cells #[vf,.map (some mb)] 135 (0,0))
 Uf:wr.heap[w.heap.size+1]?=some (.cells g 84 (0,0))
 res:wr.heap[w.heap.size+1+1]?=some (.cells #[(),C .i64 0,.bool false] 138 (0,0))
 key:wr.heap[w.heap.size+1+1+1]?=some (.cells (E0 k) 183 (0,0))
 kept:Kept n0 mb w wr
 map:Gy (FI n0 mb ab c fits) mb wr
section
variable {n0 mb:Nat}{ab:Nat->Nat}{c:A_}{fits:List (List (List Int))}{w wr wx:Zb}{vf:Zf}{g:Array Zf}{k:Key}
def FS.step (h:FS n0 mb ab c fits w vf g k wr)(j:mb<w)(a:B3 mb wr wx)(i:Gy (FI n0 mb ab c fits) mb wx):FS n0 mb ab c fits w vf g k wx:=by
 have b:∀q o,q≠mb->wr.heap[q]?=some o->wx.heap[q]?=some o:=λq o d e=>(a.block q (Za.1 e).1 d).trans e;refine⟨⟨a.os.trans h.Cn.os,a.tape.trans h.Cn.tape,a.output.trans h.Cn.output,Zr h.Cn.size a.size,λq d f=>(a.block q (Zl d h.Cn.size) f).trans (h.Cn.block q d f)⟩,b _ _ o! h.xN,b _ _ o! h.Uf,b _ _ o! h.res,b _ _ o! h.key,h.kept.trans (Kept.WN a h.map.is),i⟩
def FS.later (h:FS n0 mb ab c fits w vf g k wr)(b:mb<w)(a:Bl wr wx):FS n0 mb ab c fits w vf g k wx:=by
 have d:=(B3.refl mb wr).below a;obtain⟨i,e,f⟩:=h.map.is;exact h.step b d (h.map.Ar (Kept.later a) (a.block _ (Za.1 f).1))
variable {cs:Array Zf}
def FS.set (h:FS n0 mb ab c fits w vf g k wr)(m:n0<=w.heap.size)(n:mb<w)(d:wr.heap[q]?=some (.cells cs e (0,0)))(f:e≠3/\e≠22)(l:w+1+1+1<q):FS n0 mb ab c fits w vf g k (wr.setCell ⟨q,j,none⟩ v):=by
 have a:Kept n0 mb wr (wr.setCell ⟨q,j,none⟩ v):=Kept.set d f o!;refine⟨⟨h.Cn.os,h.Cn.tape,h.Cn.output,by simpa using h.Cn.size,λx b i=>(AZ o! _).trans (h.Cn.block x b i)⟩,(AZ o! _).trans h.xN,(AZ o! _).trans h.Uf,(AZ o! _).trans h.res,(AZ o! _).trans h.key,h.kept.trans a,h.map.Ar a (AZ o! _)⟩
def FS.stage (h:FS n0 mb ab c fits w vf g k wr)(p:n0<=w.heap.size)(r:mb<w){W:Zb}(a:Ak (λb=>b=w.heap.size+1+1+1) wr W)(i:Kept n0 mb wr W)(l:W.heap[w.heap.size+1+1+1]?=some (.cells (E0 k') 183 (0,0))):FS n0 mb ab c fits w vf g k' W:=by
 have d:∀q o,q≠w.heap.size+1+1+1->wr.heap[q]?=some o->W.heap[q]?=some o:=λq o e f=>(a.block q (Za.1 f).1 e).trans f;refine⟨⟨a.os.trans h.Cn.os,a.tape.trans h.Cn.tape,a.output.trans h.Cn.output,Zr h.Cn.size a.size,λq e n=>(a.block q (Zl e h.Cn.size) o!).trans (h.Cn.block q e n)⟩,d _ _ o! h.xN,d _ _ o! h.Uf,d _ _ o! h.res,l,h.kept.trans i,?_⟩;obtain⟨s,m,j⟩:=h.map.is;exact h.map.Ar i ((d mb _ o! j).trans j.symm)
end
structure FN (n0 mb:Nat)(ab:Nat->Nat)(c:A_)(fits:List (List (List Int)))(w W0 W:Zb):Prop where
 Cn:B3 mb w W
 kept:Kept n0 mb W0 W
 box:∃cs,W.heap[w.heap.size+1+1]?=some (.cells cs 138 (0,0))
 map:Gy (FI n0 mb ab c fits) mb W
section
variable {n0 mb:Nat}{ab:Nat->Nat}{c:A_}{fits:List (List (List Int))}{w W0 W W':Zb}{vf:Zf}{g:Array Zf}{k:Key}
def FS.fn (h:FS n0 mb ab c fits w vf g k W):FN n0 mb ab c fits w W W:=⟨h.Cn,Kept.refl _ _ _,⟨_,h.res⟩,h.map⟩
def FN.set (h:FN n0 mb ab c fits w W0 W)(f:n0<=w.heap.size)(g:mb<w):FN n0 mb ab c fits w W0 (W.setCell ⟨w+1+1,j,none⟩ v):=by
 obtain⟨i,b⟩:=h.box;have a:Kept n0 mb W (W.setCell ⟨w+1+1,j,none⟩ v):=Kept.set b ⟨d!,d!⟩ o!;exact⟨⟨h.Cn.os,h.Cn.tape,h.Cn.output,by simpa using h.Cn.size,λx d e=>(AZ o! _).trans (h.Cn.block x d e)⟩,h.kept.trans a,⟨_,Ba b v⟩,h.map.Ar a (AZ o! _)⟩
def FN.later (h:FN n0 mb ab c fits w W0 W)(a:Bl W W'):FN n0 mb ab c fits w W0 W':=by
 obtain⟨g,b⟩:=h.box;obtain⟨f,d,e⟩:=h.map.is;exact⟨h.Cn.below a,h.kept.trans (Kept.later a),⟨_,(a.block _ (Za.1 b).1).trans b⟩,h.map.Ar (Kept.later a) (a.block _ (Za.1 e).1)⟩
def FN.alloc (h:FN n0 mb ab c fits w W0 W)(o:Obj):FN n0 mb ab c fits w W0 (W.alloc o):=h.later (bA (Zh _ _))
end
abbrev qD (l:List (List (List Int)))(i:Nat):List (List Int):=l.getD i []
def Te {l:List (List (List Int))}(h:i<l.length):l[i]?=some (qD l i):=by simp[qD,h]
def ahF {l:List (List (List Int))}(h:i<l.length):l.drop i=qD l i::l.drop (i+1):=by
 obtain⟨a,e⟩:=Zm.1 (Te h);rw[ZO a,e]
abbrev SF (n0 a:Nat)(w:Zb)(v:Zf)(l:List (List (List Int))):Prop:=Sl (LS n0 a w) (Rll n0 a) 1 w v l
def SF.at_ {a:Option Addr}{c:Nat}{l:List (List (List Int))}(h:SF n0 mb w (.slice a l.length c) l)(hi:i<l.length):
  ∃b o u,a=some ⟨b,o,none⟩/\LS n0 mb w b/\w.cell? ⟨b,o+i,none⟩=some u/\LL n0 mb w u (qD l i):=by
 obtain⟨q,p,f,_,_,e⟩:=h;cases f;obtain⟨b,o,n,k,j,m,g,u,rfl,d⟩:=e i _ (Te hi);exact⟨b,o,u,k,j,by simpa using g 0 _ rfl,d⟩
def SF.Ar {l:List (List (List Int))}(h:SF n0 mb w v l)(a:Kept n0 mb w w'):SF n0 mb w' v l:=
 Sl.imp (Sl.Ar (w':=w') h (λb c _=>a b c) (λ_ _ ⟨u,e,h⟩=>⟨u,e,LL.Ar h a⟩)) (λ_ c=>LS.Ar c a) (λ_ _ x=>x)
def Kept.cell (a:Kept n0 mb w w'){o:Nat}(c:LS n0 mb w b)(h:w.cell? ⟨b,o,none⟩=some v):w'.cell? ⟨b,o,none⟩=some v:=by
 unfold zy at h⊢;rw[show w'.heap[b]?=w.heap[b]? from a b c];exact h
variable {o:Obj}
def FS.put {wr:Zb}{b:Zf}{g:Array Zf}{k:Key}(h:FS n0 mb ab c fits w b g k wr)(f:mb<w)(e:Gy (FI n0 mb ab c fits) mb (wr.putObj mb o)):FN n0 mb ab c fits w wr (wr.putObj mb o):=
 ⟨⟨h.Cn.os,h.Cn.tape,h.Cn.output,by simpa using h.Cn.size,λq d a=>(zG a).trans (h.Cn.block q d a)⟩,Kept.put h.map.is,⟨_,(zG o!).trans h.res⟩,e⟩
def abM {base:Nat}(h:A.ownsRow base 22 1 v ls.length vals)(c:∀(i:Nat) (x:List Int),ls[i]?=some x->∃u,vals[i]?=some u/\SI (LS n0 mb A) A u x):LL n0 mb A v ls:=by
 refine Sl.imp (Lg (R:=Rl (LS n0 mb A)) d! h λi x a=>?_) (λb j=>.inr ?_) (λ_ _ x=>x)
 .obtain⟨u,d,f⟩:=c i x a
  refine⟨u,?_,f⟩;obtain⟨hi,e⟩:=Zm.1 d;rw[Nat.mul_one,ZO hi,e]
  rfl
 obtain⟨_,k,g⟩:=j;exact⟨k,22,g,.inr rfl⟩
def ahG (S:Nat->Prop)(w:Zb)(ls:List (List Int))(e:Ending)(w':Zb):Prop:=Bl w w'/\((∃v,e=.returned v/\SL (λb=>S b\/J1 22 w w' b) w' v ls)\/∃x,e=.panicked x/\PX x w')
def xO {V:Zf}{s:List (Int×Int)}(h:RC S w v1 v2 v3 v4 v5 c)(W:Fq c)(hl:SL S w v6 ls)(X:SP S w V s)(M:∀i,i<ls.length->(BM ls i).length=c.Aa.length/\∀j,j<(BM ls i).length->-2<=nth (BM ls i) j/\nth (BM ls i) j<=2)
 (K:s.length<=c.base.length) (il:∀i,i<s.length->0<=(BV s i).1/\(BV s i).1<=99/\0<=(BV s i).2/\(BV s i).2<=99) (Xc:ls.length<=1000000) (Z:Ql6 S w) (I H G:Nat):
  Calls Lp 60 #[.agg #[v1,v2,v3,v4,v5,C .u8 I,C .u8 H,C .u8 G],v6,V] w (ahG S w (ls.filter λl=>BZ c l s)):=by
 obtain⟨U,c6,rfl,l6,m6⟩:=hl.val;obtain⟨a7,c7,rfl,l7,m7⟩:=X.val;have T:∀f,ET w w f->bQ S w f:=λf J p v hp B=>J p v (Z _ hp) B;obtain⟨d,F⟩:∃d:Nat->Zf,∀i,i<ls.length->∃k,U=some k/\k.block<w.heap.size/\w.cell? (k.add i)=some (d i)/\SI S w (d i) (BM ls i):=by
  refine⟨λi=>match U with|some k=>(w.cell? (k.add i)).getD Ze|none=>Ze,λi hi=>?_⟩;obtain⟨b,o,u,rfl,z,B,m⟩:=hl.at_ hi;have e:(⟨b,o,none⟩:Addr).add i=⟨b,o+i,none⟩:=by unfold Zcu;split<;>simp_all
  refine⟨_,rfl,Z b z,?_,?_⟩
  .simp only[e,B];rfl
  simp only[e,B];exact m
 have hP:ME w w #[v1,v2,v3,v4,v5,C .u8 I,C .u8 H,C .u8 G] U ls.length c6 (.slice a7 s.length c7) d (λi=>BZ c (BM ls i) s):=by
  refine⟨Xc,⟨l6,m6⟩,rfl,λi hi=>?_,λi hi=>?_,⟨_,_,_,rfl⟩,λi hi f J=>?_⟩
  .obtain⟨k,e,E,P,_⟩:=F i hi
   exact⟨k,e,E,P⟩
  .obtain⟨_,_,_,_,m⟩:=F i hi
   obtain⟨a,c',e,ac,_⟩:=m.val;have:=(M i hi).1;have:=W.few.1;exact⟨_,_,_,e,.inl o!⟩
  obtain⟨_,_,_,_,m⟩:=F i hi;have N:=T f J;exact aha (h.H3 N).live W (Sl.live (m.H3 N) d! λ_ _ x=>x) (Sl.live (X.H3 N) d! λ_ _ x=>x) (ZcS (M i hi).1) (M i hi).2 K il (λb z=>z.2) I H G
 cases E:(((zJ 1 0 3).cut (w.tape w.drawn (.appendCap 1 0 3)):Int)==1) with
 |true=>
  refine(Sf _ _ _ w E).mono λe w' ⟨y,n⟩=>⟨n,.inr ⟨_,y,.inl ⟨_,_,_,_,_,_,_,_,_,rfl,hP.Ar ?_⟩⟩⟩;exact ET.below n (Zj _)
 |false=>
  refine(aJ hP E).mono λe w' ⟨f,n,P,h3⟩=>?_;have Y:ls.filter (λl=>BZ c l s)=((Zcq 0 ls.length).filter λi=>BZ c (BM ls i) s).map (BM ls):=WI ls _;have A:CX d (λi=>BZ c (BM ls i) s) 0 ls.length=((Zcq 0 ls.length).filter λi=>BZ c (BM ls i) s).map d:=rfl;have g:(CX d (λi=>BZ c (BM ls i) s) 0 ls.length).length=(ls.filter λl=>BZ c l s).length:=by rw[Y,A];simp
  by_cases Q:(CX d (λi=>BZ c (BM ls i) s) 0 ls.length).length=0
  .obtain⟨y,rfl⟩:=P Q
   refine⟨n,.inl ⟨_,y,?_⟩⟩;rw[YM (g.symm.trans Q)];exact⟨none,0,rfl,Zj _,Zp _,λi x A=>by cases A⟩
  obtain⟨y,rfl⟩:=h3 (Nat.pos_of_ne_zero Q);have Bb:Bl w (f.drew.alloc (.cells ((CX d (λi=>BZ c (BM ls i) s) 0 ls.length).toArray++Zt #[()] (grownCap f (CX d (λi=>BZ c (BM ls i) s) 0 ls.length).length 0 22 - (CX d (λi=>BZ c (BM ls i) s) 0 ls.length).length)) 22)):=bA n.drew;have R:(CX d (λi=>BZ c (BM ls i) s) 0 ls.length).length<=maxLen:=by
   rw[g];have:=Zac (λl=>BZ c l s) ls;unfold maxLen;omega
  refine⟨Bb,.inl ⟨_,y,some ⟨f,0,none⟩,_,by rw[g],by rw[<-g];exact grownCap_ge _ _ _ _,grownCap_le_maxLen _ _ _ _ R,λj x t=>?_⟩⟩;rw[Y,YL]at t;cases D:((Zcq 0 ls.length).filter λi=>BZ c (BM ls i) s)[j]? with
  |none=>rw[D]at t;cases t
  |some i=>
   rw[D]at t;cases t;have hi:i<ls.length:=by
    have:=(List.mem_filter.1 (Z3 D)).1;rw[List.mem_range']at this;obtain⟨q,L,rfl⟩:=this;omega
   obtain⟨k,_,_,_,m⟩:=F i hi;have r:(CX d (λi=>BZ c (BM ls i) s) 0 ls.length)[j]?=some (d i):=by rw[A,YL,D];rfl
   have O:=(Zm.1 r).1;refine⟨f,0,[d i],rfl,.inr ⟨⟨n.size,i!⟩,_,Bp f.drew _⟩,rfl,λq u L=>?_,d i,rfl,Sl.imp (m.later Bb) (λb z=>.inl z) (λ_ _ x=>x)⟩;cases q with
   |zero=>
    cases L;rw[show 0+j*1+0=j by omega];refine cn f.drew _ 22 ?_;rw[zr (by simpa using O)];simpa using r
   |succ q=>cases L
end Go.Proofs.Fit
