/- Part of a proof. -/
import Derived.Test.YtdhgoldgnnpnmaaGreatDoorQ07
import Derived.Lib.BufferRead
import Derived.RangeFuncNested
import Derived.OwnWalkIn
import Derived.Sort.LoopGhostIn
import Derived.TacticsInMore
import Derived.Laws.EntriesVeiled
import Derived.Shelf.Abstract
set_option maxRecDepth 100000
set_option maxHeartbeats 6400000
noncomputable section
set_option linter.all false
open Array renaming getElem?_eq_some_iff->Za,replicate_succ->ZaN,replicate_zero->ZaM,replicate->Yu,getElem?_eq_getElem->Zx,getElem?_append_left->zr
open Bool renaming or_eq_true->ZaK
open Function renaming comp_def->ZdQ
open Go renaming World->Zb,Value->Zf,below_drewN->Y5,wpQuiet_nil->Z4,TypeId->Zs,bodyPost_ret->ZN,info_parts->zp,wpList_append_own->Yc,Program->Zo,execOp->Zby,Operand->Zbv,callFunc->Zz,resolve->Zbh,callsIn_wide->Zcx,callsIn_of_wp->Zd6,wpAnyIn_ready->Yq,undef->Ze,ownsRow_succ->Zay,run_underlying->Y9
open Go.Addr renaming add->Zcu
open Go.AllReadyIn renaming cons->zA,nil->zZ
open Go.BinOp renaming xor->Zdo
open Go.Builtin renaming zeroCells->Zt
open Go.Fence renaming wide->ZbC
open Go.Instr renaming makeSlice->Zdp,checkKey->YD,keyThatStays->Yi,sameBits->zH,findAsking->zX,findKey->Zaj,findNow->ZaJ,sameNow->Zbj,lookup->Za2,mapUpdate->ZaS
open Go.IntKind renaming u64->Zcf,wrap_u64->Zbc
open Go.Lib renaming hid->Zd,byteCells->Ym,run_eql_slice_nil->ZaO
open Go.Op renaming equalIn->ZaZ,equal->Zaa
open Go.Oper renaming wp->ZbA,upon_value->Zdi,semAt_some->Zdk
open Go.Proofs.Tryz renaming underlying150->Zb2,underlying22->YE,underlying33->zW
open Go.Question renaming appendCap->zJ
open Go.Region renaming wanted->Yf
open Go.Result renaming andThen->zu,andThen_ok->Zaw
open Go.RowKit renaming Below->YH
open Go.RowKit.Below renaming refl->Zh,heap_alloc->zD
open Go.Sem renaming run_bind->zg
open Go.Value renaming int->ZL,oneCell'->YT,int->C
open Go.World renaming alloc->Zaz,size_alloc->ZB,ownsRow_nil->zq,putObj_heap_other->zG,alloc_heap_new->ZdG,putObj_heap_same->Zau,ownsRow_made->YC,cell?->zy
open List renaming ext_getElem?->YA,getElem?_eq_none->ZP,length_cons->zb,range->Yr,flatMap_append->Zbe,length_append->ZA,map_append->Zai,eq_nil_of_length_eq_zero->YM,append_nil->ZaA,mem_cons_self->zC,mem_cons_of_mem->zm,all_eq_true->Zdm,getElem_of_mem->Zas,getElem?_eq_getElem->zf,pairwise_iff_getElem->ZdK,getD_eq_getElem?_getD->Y6,getElem?_eq_some_iff->Zm,mem_of_getElem?->Z3,drop_eq_getElem_cons->ZO,length_nil->zR,append_assoc->Zae,nil_append->zP,drop_eq_nil_iff->Z7,size_toArray->Zbm,push_toArray->Zbn,append_toArray->Za4,cons_append->Za1,getElem?_toArray->ZG,getElem?_map->YL,getElem?_append_left->zl,getElem?_concat_length->Y1,range'->Zcq,mem_append->Zab,mem_singleton->Yh,length_filter_le->Zac
open Nat renaming zero_le->Zp,not_lt_zero->ZbY,le_refl->Zj,zero_add->zN,le_trans->Zr,mul_comm->ZcR,lt_of_lt_of_le->Zl,reduceAdd->ZaF,reduceSub->Zcw,pow_le_pow_right->YX
open Std.Legacy.Range renaming forIn_eq_forIn_range'->Zdw
open UInt8 renaming ofNat->Zcn
namespace Go.Proofs.Fit
open Go Go.RowKit
def Ke (a b:List Int):Bool:=decide (a=b)
variable {a l:List Int}
def qe {b:List Int}(hl:a.length=b.length)(h:∀j,j<a.length->nth a j=nth b j):a=b:=by
 apply YA;intro i;by_cases hi:i<a.length
 .rw[Bn hi,Bn (by omega),h i hi]
 rw[ZP (by omega),ZP (by omega)]
variable {S T:Nat->Prop}
variable {w w' w0 A B:Zb}
variable {v v' u v1 v2 v3 v4 v5 v6:Zf}
def c46 {b:List Int}(ha:SI S w v a)(hb:SI T w v' b)(hS:∀b,S b->b<w.heap.size)(hT:∀b,T b->b<w.heap.size):
  Calls Lp 31 #[v,v'] w fun e w'=>e=.returned (.bool (Ke a b))/\Bl w w':=by
 obtain⟨a1,c1,rfl,l1,m1⟩:=ha.val;obtain⟨a2,c2,rfl,l2,m2⟩:=hb.val;have IX:=DJ;by_cases hl:a.length=b.length
 .have HL:=Zd hl
  clear hl;have hli:((a.length:Int) !=b.length)=false:=by simp[HL.out]
  go_enter Lp.func46,n46;go_wp2;go_loopg [5] a.length (fun g i wr=>∃k:Nat,k<=a.length/\g=a.length - k/\i=.int .i64 k/\(∀j,j<k->nth a j=nth b j)/\Bl w wr)
  case atStart=>exact⟨0,Zp _,rfl,rfl,fun j hj=>absurd hj (ZbY _),Zh _ _⟩
  obtain⟨k,hk,rfl,rfl,CP,hB⟩:=hrel;have hf:=Zd CP;clear CP;by_cases Az:k<a.length
  .have abF:k<b.length:=by have:=HL.out;omega
   obtain⟨b1,o1,rfl,FD,h1⟩:=ha.at_ Az;obtain⟨b2,o2,rfl,EC,h2⟩:=hb.at_ abF;rw[<-hB.cell (p:=⟨b1,o1+k,none⟩) (hS b1 FD)]at h1;rw[<-hB.cell (p:=⟨b2,o2+k,none⟩) (hT b2 EC)]at h2;have i1:(k:Int)<(a.length:Int):=by omega
   have i2:(k:Int)<(b.length:Int):=by omega
   go_wp2;go_quiet (fail);go_wp2
   .have q:(nth a k !=nth b k)=true:=by assumption
    go_ret;refine⟨?_,Y5 hB _⟩;have:Ke a b=false:=by
     unfold Ke;refine decide_eq_false fun e=>xw q (by rw[e])
    rw[this];rfl
   have q:(nth a k !=nth b k)=false:=by assumption
   go_roundg (a.length - (k+1))
   case rel=>exact⟨k+1,by omega,rfl,by go_num,fun j hj=>by
    by_cases e:j=k
    .rw[e];exact xv q
    exact hf.out j (by omega),Y5 hB _⟩
   omega
  have e1:Ke a b=true:=decide_eq_true (qe HL.out fun j hj=>hf.out j (by omega));have E1:=Zd e1;clear e1 hf;go_wp2;go_ret;exact⟨by rw[E1.out];rfl,hB⟩
 have hli:((a.length:Int) !=b.length)=true:=by simp;omega
 have E1:=Zd (show Ke a b=false from decide_eq_false fun e=>hl (by rw[e]));clear hl;go_enter Lp.func46,n46;go_wp2;go_ret;exact⟨by rw[E1.out];rfl,Zh _ _⟩
def O' (a b:List (List Int)):Bool:=decide (a=b)
def kR {a b:List (List Int)}(hl:a.length=b.length)(h:∀j,j<a.length->BM a j=BM b j):a=b:=by
 apply YA;intro i;by_cases hi:i<a.length
 .rw[BJ hi,BJ (by omega),h i hi]
 rw[ZP (by omega),ZP (by omega)]
def c37 {a b:List (List Int)}(ha:SL S w v a)(hb:SL T w v' b)(hS:∀b,S b->b<w.heap.size)(hT:∀b,T b->b<w.heap.size):
  Calls Lp 10 #[v,v'] w fun e w'=>e=.returned (.bool (O' a b))/\Bl w w':=by
 obtain⟨a1,c1,rfl,l1,m1⟩:=ha.val;obtain⟨a2,c2,rfl,l2,m2⟩:=hb.val;have IX:=DJ;by_cases hl:a.length=b.length
 .have HL:=Zd hl
  clear hl;have hli:((a.length:Int) !=b.length)=false:=by simp[HL.out]
  go_enter Lp.func37,n37;go_wp2;go_loopg [5] a.length (fun g i wr=>∃k:Nat,k<=a.length/\g=a.length - k/\i=.int .i64 k/\(∀j,j<k->BM a j=BM b j)/\Bl w wr)
  case atStart=>exact⟨0,Zp _,rfl,rfl,fun j hj=>absurd hj (ZbY _),Zh _ _⟩
  obtain⟨k,hk,rfl,rfl,CP,hB⟩:=hrel;have hf:=Zd CP;clear CP;by_cases Az:k<a.length
  .have abF:k<b.length:=by have:=HL.out;omega
   obtain⟨b1,o1,u1,rfl,FD,h1,iA⟩:=ha.at_ Az;obtain⟨b2,o2,u2,rfl,EC,h2,Hb⟩:=hb.at_ abF;rw[<-hB.cell (p:=⟨b1,o1+k,none⟩) (hS b1 FD)]at h1;rw[<-hB.cell (p:=⟨b2,o2+k,none⟩) (hT b2 EC)]at h2;obtain⟨a3,c3,rfl,l3,m3⟩:=iA.val;obtain⟨a4,c4,rfl,l4,m4⟩:=Hb.val;have i1:(k:Int)<(a.length:Int):=by omega
   have i2:(k:Int)<(b.length:Int):=by omega
   have z1:=fun p=>Al p h1;have z2:=fun p=>Al p h2;have cL:=Zd (fun W (Lc:Bl w W)=>c46 (w:=W) (iA.later Lc) (Hb.later Lc) (A3 hS Lc) (A3 hT Lc));have HB:=Zd (fun p=>hB.trans ((AE wr p).mono hB.size));cases hq:Ke (BM a k) (BM b k) with
   |true=>
    rw[hq]at cL;go_wp2;refine Av (by kernel_rfl) (by kernel_rfl) ?_
    repeat (first|go_big_quiet_step ((go_at_call 31;exact AV (cL.out _ (HB.out _))))|quiet_step ((go_at_call 31;exact AV (cL.out _ (HB.out _)))))
    refine Z4 ?_;rintro _ ⟨p,rfl⟩;have Bb:=HB.out p;clear z1 z2;go_wp2;go_roundg (a.length - (k+1))
    case rel=>exact⟨k+1,by omega,rfl,by go_num,fun j hj=>by
     by_cases e:j=k
     .rw[e];exact of_decide_eq_true hq
     exact hf.out j (by omega),Bb⟩
    case measure=>omega
   |false=>
    rw[hq]at cL;have E1:=Zd (show O' a b=false from decide_eq_false fun e=>of_decide_eq_false hq (by rw[e]));clear hq;go_wp2;refine Av (by kernel_rfl) (by kernel_rfl) ?_
    repeat (first|go_big_quiet_step ((go_at_call 31;exact AV (cL.out _ (HB.out _))))|quiet_step ((go_at_call 31;exact AV (cL.out _ (HB.out _)))))
    refine Z4 ?_;rintro _ ⟨p,rfl⟩;have Bb:=HB.out p;clear z1 z2;go_wp2;go_ret;exact⟨by rw[E1.out];rfl,Bb⟩
  have e1:O' a b=true:=decide_eq_true (kR HL.out fun j hj=>hf.out j (by omega));have E1:=Zd e1;clear e1 hf;go_wp2;go_ret;exact⟨by rw[E1.out];rfl,hB⟩
 have hli:((a.length:Int) !=b.length)=true:=by simp;omega
 have E1:=Zd (show O' a b=false from decide_eq_false fun e=>hl (by rw[e]));clear hl;go_enter Lp.func37,n37;go_wp2;go_ret;exact⟨by rw[E1.out];rfl,Zh _ _⟩
def JY:∀(os:List Obj) (w:Zb),Bl w (os.foldl Zaz w)
 | [],w=>Zh _ _
 |o::r,w=>by
  have h1:Bl w (w.alloc o):=(Zh _ _).alloc (Zj _) _;exact h1.trans ((JY r (w.alloc o)).mono h1.size)
def WK:∀(os:List Obj) (w:Zb) (i:Nat),i<os.length->(os.foldl Zaz w).heap[w.heap.size+i]?=os[i]?
 | [],_,_,h=>absurd h (ZbY _)
 |o::r,w,0,_=>by
  show(r.foldl Zaz (w.alloc o)).heap[w.heap.size]?=some o;rw[(JY r (w.alloc o)).block _ (by simp)];exact Bp w o
 |o::r,w,i+1,h=>by
  have:=WK r (w.alloc o) i (by simpa using h);rw[ZB,show w.heap.size+1+i=w.heap.size+(i+1) by omega]at this;exact this
def Pa:∀(os:List Obj) (w:Zb),(os.foldl Zaz w).heap.size=w.heap.size+os.length
 | [],_=>rfl
 |o::r,w=>by
  show(r.foldl Zaz (w.alloc o)).heap.size=_;rw[Pa r,ZB,zb];omega
section
variable {S:Nat->Prop}{w:Zb}{b:Nat}{t:Zs}{f:Nat×Nat}
def M1 (l:List Int)(h:w.heap[b]?=some (.cells (l.map (ZL .i64)).toArray t f))(hS:S b)(hl:l.length<=maxLen):SI S w (.slice (some ⟨b,0,none⟩) l.length l.length) l:=by
 refine⟨_,_,rfl,Zj _,hl,fun i x hx=>⟨b,0,[C .i64 x],rfl,hS,rfl,fun j u hu=>?_,rfl⟩⟩;cases j with
 |zero=>
  cases hu;rw[show 0+i*1+0=i by omega];exact ch h (by simp[hx])
 |succ j=>cases hu
def S9 (l:List (Int×Int))(h:w.heap[b]?=some (.cells (l.flatMap fun p=> [ZL .i64 p.1,ZL .i64 p.2]).toArray t f))(hS:S b)(hl:l.length<=maxLen):SP S w (.slice (some ⟨b,0,none⟩) l.length l.length) l:=by
 have key:∀(l:List (Int×Int)) (i:Nat) (x:Int×Int),l[i]?=some x->(l.flatMap fun p=> [ZL .i64 p.1,ZL .i64 p.2])[i*2]?=some (C .i64 x.1)/\(l.flatMap fun p=> [ZL .i64 p.1,ZL .i64 p.2])[i*2+1]?=some (C .i64 x.2):=by
  intro l
  induction l with
  |nil=>intro i x hx;cases hx
  |cons p r ih=>
   intro i x hx;cases i with
   |zero=>cases hx;exact⟨rfl,rfl⟩
   |succ i=>
    have:=ih i x (by simpa using hx);rw[show(i+1)*2=i*2+1+1 by omega];exact this
 refine⟨_,_,rfl,Zj _,hl,fun i x hx=>⟨b,0,[C .i64 x.1,C .i64 x.2],rfl,hS,rfl,fun j u hu=>?_,rfl⟩⟩;obtain⟨k1,k2⟩:=key l i x hx
 match j,hu with
 |0,hu=>cases hu;exact ch h (by rw[zN];simpa using k1)
 |1,hu=>cases hu;exact ch h (by rw[zN];simpa using k2)
end
def c85 (a b c d:Int)(w:Zb):Calls Lp 40 #[C .i64 a,C .i64 b,C .i64 c,C .i64 d] w fun e w'=>e=.returned (.slice (some ⟨w.heap.size,0,none⟩) 2 2)/\Bl w w'/\SP (Cb w.heap.size w') w' (.slice (some ⟨w.heap.size,0,none⟩) 2 2) [(a,b),(c,d)]:=by
 go_enter Lp.func85,n85;go_wp2;go_ret;exact⟨rfl,(Zh _ _).alloc (Zj _) _,S9 [(a,b),(c,d)] (Bp w _) ⟨Zj _,by simp⟩ (by simp[maxLen])⟩
def Ft (a b c:Int):A_:=⟨[40,30],[(0,4),(0,2)],[0,3],[⟨-2,2,[(0,2)],[],a⟩,⟨-1,2,[(0,1),(1,2)],[0],b⟩,⟨0,1,[(0,2)],[],c⟩],[0,0,0]⟩
def Vi (n:Nat)(a b c:Int):List Obj:=[.cells #[.slice (some ⟨n+1,0,none⟩) 2 2,.slice (some ⟨n+1+1,0,none⟩) 2 2,.slice (some ⟨n+1+1+1,0,none⟩) 2 2,.slice (some ⟨n+1+1+1+1+1+1+1+1,0,none⟩) 3 3,.slice (some ⟨n+1+1+1+1+1+1+1+1+1,0,none⟩) 3 3] 28,.cells #[C .i64 40,C .i64 30] 3,.cells #[C .i64 0,C .i64 4,C .i64 0,C .i64 2] 49,.cells #[C .i64 0,C .i64 3] 3,.cells #[C .i64 0,C .i64 2] 107,.cells #[C .i64 0,C .i64 1,C .i64 1,C .i64 2] 107,.cells #[C .i64 0] 3,.cells #[C .i64 0,C .i64 2] 107,.cells #[C .i64 (-2),C .i64 2,.slice (some ⟨n+1+1+1+1,0,none⟩) 1 1,.slice none 0 0,C .i64 a,C .i64 (-1),C .i64 2,.slice (some ⟨n+1+1+1+1+1,0,none⟩) 2 2,.slice (some ⟨n+1+1+1+1+1+1,0,none⟩) 1 1,C .i64 b,C .i64 0,C .i64 1,.slice (some ⟨n+1+1+1+1+1+1+1,0,none⟩) 1 1,.slice none 0 0,C .i64 c] 53,.cells #[C .i64 0,C .i64 0,C .i64 0] 3]
def qf (w:Zb)(c:A_)(e:Ending)(w':Zb):Prop:=∃u1 u2 u3 u4 u5,e=.returned (.agg #[u1,u2,u3,u4,u5])/\Bl w w'/\RC (Cb w.heap.size w') w' u1 u2 u3 u4 u5 c
def c84 (a b c:Int)(w:Zb):Calls Lp 37 #[C .i64 a,C .i64 b,C .i64 c] w (qf w (Ft a b c)):=by
 go_enter Lp.func84,n84;go_wp2;refine ZN (v:=.agg #[.slice (some ⟨w.heap.size+1,0,none⟩) 2 2,.slice (some ⟨w.heap.size+1+1,0,none⟩) 2 2,.slice (some ⟨w.heap.size+1+1+1,0,none⟩) 2 2,.slice (some ⟨w.heap.size+1+1+1+1+1+1+1+1,0,none⟩) 3 3,.slice (some ⟨w.heap.size+1+1+1+1+1+1+1+1+1,0,none⟩) 3 3]) (by rw[A8 rfl];go_simp) rfl ?_;change qf w _ _ ((Vi w.heap.size a b c).foldl Zaz w);have hB:=JY (Vi w.heap.size a b c) w;have hA:=WK (Vi w.heap.size a b c) w;have hZ:=Pa (Vi w.heap.size a b c) w;refine⟨_,_,_,_,_,rfl,hB,?_⟩;obtain⟨W,hW⟩:∃W,W=(Vi w.heap.size a b c).foldl Zaz w:=⟨_,rfl⟩;rw[<-hW]at hB hA hZ⊢;clear hW hB;have hL:(Vi w.heap.size a b c).length=10:=rfl;rw[hL]at hZ;have hN:∀i,i<10->Cb w.heap.size W (w.heap.size+i):=fun i hi=>⟨by omega,by omega⟩;refine⟨M1 [40,30] (hA 1 (by rw[hL];omega)) (hN 1 (by omega)) (by decide),S9 [(0,4),(0,2)] (hA 2 (by rw[hL];omega)) (hN 2 (by omega)) (by decide),M1 [0,3] (hA 3 (by rw[hL];omega)) (hN 3 (by omega)) (by decide),?_,M1 [0,0,0] (hA 9 (by rw[hL];omega)) (hN 9 (by omega)) (by decide)⟩;have e4:=S9 [(0,2)] (hA 4 (by rw[hL];omega)) (hN 4 (by omega)) (by decide);have e5:=S9 [(0,1),(1,2)] (hA 5 (by rw[hL];omega)) (hN 5 (by omega)) (by decide);have e6:=M1 [0] (hA 6 (by rw[hL];omega)) (hN 6 (by omega)) (by decide);have e7:=S9 [(0,2)] (hA 7 (by rw[hL];omega)) (hN 7 (by omega)) (by decide);have e8:=hA 8 (by rw[hL];omega);refine⟨_,_,rfl,Zj _,by decide,fun i x hx=>?_⟩
 match i,hx with
 |0,hx=>
  cases hx;refine⟨w.heap.size+8,0,[C .i64 (-2),C .i64 2,.slice (some ⟨w.heap.size+4,0,none⟩) 1 1,.slice none 0 0,C .i64 a],rfl,hN 8 (by omega),rfl,fun j u hu=>?_,_,_,rfl,e4,WC⟩
  match j,hu with
  |0,hu=>cases hu;exact ch e8 rfl
  |1,hu=>cases hu;exact ch e8 rfl
  |2,hu=>cases hu;exact ch e8 rfl
  |3,hu=>cases hu;exact ch e8 rfl
  |4,hu=>cases hu;exact ch e8 rfl
 |1,hx=>
  cases hx;refine⟨w.heap.size+8,0,[C .i64 (-1),C .i64 2,.slice (some ⟨w.heap.size+5,0,none⟩) 2 2,.slice (some ⟨w.heap.size+6,0,none⟩) 1 1,C .i64 b],rfl,hN 8 (by omega),rfl,fun j u hu=>?_,_,_,rfl,e5,e6⟩
  match j,hu with
  |0,hu=>cases hu;exact ch e8 rfl
  |1,hu=>cases hu;exact ch e8 rfl
  |2,hu=>cases hu;exact ch e8 rfl
  |3,hu=>cases hu;exact ch e8 rfl
  |4,hu=>cases hu;exact ch e8 rfl
 |2,hx=>
  cases hx;refine⟨w.heap.size+8,0,[C .i64 0,C .i64 1,.slice (some ⟨w.heap.size+7,0,none⟩) 1 1,.slice none 0 0,C .i64 c],rfl,hN 8 (by omega),rfl,fun j u hu=>?_,_,_,rfl,e7,WC⟩
  match j,hu with
  |0,hu=>cases hu;exact ch e8 rfl
  |1,hu=>cases hu;exact ch e8 rfl
  |2,hu=>cases hu;exact ch e8 rfl
  |3,hu=>cases hu;exact ch e8 rfl
  |4,hu=>cases hu;exact ch e8 rfl
def Od (i:Nat)(n:Int):List UInt8:=if 0<n then [Zcn (97+i),43,Zcn (48+n).toNat] else if n<0 then [Zcn (97+i),45,Zcn (48 - n).toNat] else []
def F3 (l:List Int)(k:Nat):List UInt8:=(Yr k).flatMap fun i=>Od i (nth l i)
def PV (l:List Int)(k:Nat):F3 l (k+1)=F3 l k++Od k (nth l k):=by
 unfold F3;rw[List.range_succ,Zbe];simp
def qg (i:Nat)(n:Int):(Od i n).length<=3:=by
 unfold Od;split
 .simp
 split<;>simp
def Vj (l:List Int):∀k,(F3 l k).length<=3*k
 |0=>by simp[F3]
 |k+1=>by
  have:=Vj l k;have:=qg k (nth l k);rw[PV,ZA];omega
def ahv:(Tryz.prog.info? 5).map (fun i=>(i.zero,i.size,i.bytes))=some (some (C .u8 0),1,1):=by kernel_rfl
variable {b k m t j d i q n0 bg mb:Nat}
def qh (hk:k<3)(hm:m=1\/m=2):Ym (Od k (m:Int))=[C .u8 (97+(k:Int)),C .u8 43,C .u8 (48+(m:Int))]:=by
 have:k=0\/k=1\/k=2:=by omega
 rcases this with rfl|rfl|rfl<;>rcases hm with rfl|rfl<;>rfl
def qi (hk:k<3)(hm:m=1\/m=2):Ym (Od k (-(m:Int)))=[C .u8 (97+(k:Int)),C .u8 45,C .u8 (48+(m:Int))]:=by
 have:k=0\/k=1\/k=2:=by omega
 rcases this with rfl|rfl|rfl<;>rcases hm with rfl|rfl<;>rfl
def kS (k:Nat):Od k 0=[]:=rfl
def Vk (a b:List UInt8):Ym (a++b)=Ym a++Ym b:=by unfold Ym;exact Zai
def cj {x y z:Zf}{t:Zs}(hj: [x,y,z][j]?=some u):(w.alloc (.cells #[x,y,z] t)).cell? ((⟨w.heap.size,0,none⟩:Addr).add j)=some u:=by
 rw[show(⟨w.heap.size,0,none⟩:Addr).add j=⟨w.heap.size,j,none⟩ by unfold Zcu;split<;>simp_all];exact cn w #[x,y,z] t (by simpa using hj)
def qj {base:Nat}{l:List UInt8}(h:w.ownsRow base 5 1 v l.length (Ym l)):(convert 150 9 v).run Lp w=.ok (.string ⟨l.toArray⟩) w:=by
 rcases h.2 with⟨rfl,h0⟩|⟨g,cap,cur,rfl,hb,hg,h1,h2,h3,h4⟩
 .have:l=[]:=YM h0
  subst this;exact Lib.run_convert_nil_bytes w 150 9 5 0 (Cz Zb2) (Cz Tryz.underlying5) (Cz Tryz.underlying9)
 exact run_convert_bytes_back w 150 9 5 ⟨g,0,none⟩ cap l (Cz Zb2) (Cz Tryz.underlying5) (Cz Tryz.underlying9) (Lib.bytes_of_row hg (by simpa using h4))
def M3 (c:A_)(l:List Int):List UInt8:=if Ca c l=0 then F3 l l.length else []
variable {c d':A_}
def c69 (h:RC S w v1 v2 v3 v4 v5 c)(hl:SI S w v6 l)(hS:∀b,S b->b<w.heap.size):
  Calls Lp 42 #[.agg #[v1,v2,v3,v4,v5],v6] w fun e w'=>e=.returned (.tuple #[.string ⟨(M3 c l).toArray⟩,C .i64 (Ca c l)])/\Bl w w':=by
 obtain⟨a1,c1,rfl,l1,m1⟩:=h.base.val;obtain⟨a2,c2,rfl,l2,m2⟩:=h.Af.val;obtain⟨a3,c3,rfl,l3,m3⟩:=h.hooks.val;obtain⟨a4,c4,rfl,l4,m4⟩:=h.Aa.val;obtain⟨a5,c5,rfl,l5,m5⟩:=h.now.val;obtain⟨a6,c6,rfl,l6,m6⟩:=hl.val;have IX:=DJ;obtain⟨i0,hi,Fl,DR,EB⟩:=zp ahv;have hu:=Cz Zb2;have Bg:Bl w (w.alloc (.cells #[.slice a1 c.base.length c1,.slice a2 c.Af.length c2,.slice a3 c.hooks.length c3,.slice a4 c.Aa.length c4,.slice a5 c.now.length c5] 28)):=(Zh _ _).alloc (Zj _) _;by_cases h0:Ca c l=0
 .obtain⟨Jz,ER⟩:=Bj h0
  have hv:=EG Jz;have HA:=Zd h0;have HV:=Zd (show M3 c l=F3 l l.length by rw[M3,if_pos h0]);have aoy:=S0 hv ER;have UO:l.length<=3:=by have:=(Fb ER).1;have:=hv.few;omega
  have Ie:=Zd (fun W hB=>Rc (w:=W) (h.later hB) (hl.later hB) (A3 hS hB) Jz);rw[ER]at Ie;clear h0 Jz ER;go_enter Lp.func69,n69;go_wp2_with (go_at_call 68;refine(Ie.out _ Bg).mono ?_;rintro e w1 ⟨rfl,Bb⟩;have Bv:=bA (o:=.cells (AW (.slice a1 c.base.length c1) (.slice a2 c.Af.length c2) (.slice a3 c.hooks.length c3) (.slice a4 c.Aa.length c4) (.slice a5 c.now.length c5) (Ax c.Aa)) 62) (Bg.trans (Bb.mono Bg.size)));go_loopg [8,22] l.length (fun g v i wr=>∃k:Nat,k<=l.length/\g=l.length - k/\i=.int .i64 k/\wr.ownsRow w.heap.size 5 1 v (F3 l k).length (Ym (F3 l k))/\Bl w wr)
  case atStart=>exact⟨0,Zp _,rfl,rfl,zq _ _ _ _,Bv⟩
  obtain⟨k,hk,rfl,rfl,AX,hB⟩:=hrel;have hwl:=Vj l k;have D':=hB.size;have HS:=Zd (PV l k);by_cases Az:k<l.length
  .obtain⟨b,o,rfl,hb,hc⟩:=hl.at_ Az
   rw[<-hB.cell (p:=⟨b,o+k,none⟩) (hS b hb)]at hc;obtain⟨Vl,Xo⟩:=aoy k Az;obtain⟨n,hn⟩:∃n,n=nth l k:=⟨_,rfl⟩;rw[<-hn]at hc Vl Xo HS;clear hn;have TB:k<3:=by omega
   by_cases hp:0<n
   .obtain⟨m,rfl⟩:∃m:Nat,n=m:=⟨n.toNat,by omega⟩
    have abG:m=1\/m=2:=by omega
    have hpc:=qh TB abG;have HP:=Zd hpc;clear hpc;go_wp2_with (at_builtin;refine Yc _ rfl (.tmp 30) (.tmp 37) 150 rfl w.heap.size 5 i0 (C .u8 0) 1 1 hu (Dz hi) Fl DR EB rfl (by decide) _ _ _ rfl (AX.alloc _) ⟨_,0,none⟩ 3 3 [C .u8 (97+(k:Int)),C .u8 43,C .u8 (48+(m:Int))] rfl rfl (fun j u hj=>cj hj) (by intro u hu;simp at hu;rcases hu with rfl|rfl|rfl<;>rfl) (by unfold maxLen;omega) (by omega) (by simp;omega) ?_;intro v' w9 Bi AG Gc);have Jx:Bl w w9:=Bm (bA hB) AG (fun q hq=>(AX.lt q hq).1) (by simp;omega);have Cm:w9.ownsRow w.heap.size 5 1 v' (F3 l (k+1)).length (Ym (F3 l (k+1))):=by
     have hlen:(Od k (m:Int)).length=3:=by
      have:=congrArg List.length HP.out;simpa[Ym]using this
     rw[HS.out,Vk,HP.out,ZA,hlen];exact Bi
    clear Bi AG Gc;go_roundg (l.length - (k+1))
    case rel=>exact⟨k+1,by omega,rfl,by go_num,Cm,Jx⟩
    omega
   by_cases hz:n=0
   .subst hz
    go_wp2;go_roundg (l.length - (k+1))
    case rel=>exact⟨k+1,by omega,rfl,by go_num,by rw[HS.out,kS,ZaA];exact AX,hB⟩
    omega
   obtain⟨m,rfl⟩:∃m:Nat,n= -(m:Int):=⟨(-n).toNat,by omega⟩;have abG:m=1\/m=2:=by omega
   have hpc:=qi TB abG;have HP:=Zd hpc;clear hpc;go_wp2_with (at_builtin;refine Yc _ rfl (.tmp 42) (.tmp 49) 150 rfl w.heap.size 5 i0 (C .u8 0) 1 1 hu (Dz hi) Fl DR EB rfl (by decide) _ _ _ rfl (AX.alloc _) ⟨_,0,none⟩ 3 3 [C .u8 (97+(k:Int)),C .u8 45,C .u8 (48+(m:Int))] rfl rfl (fun j u hj=>cj hj) (by intro u hu;simp at hu;rcases hu with rfl|rfl|rfl<;>rfl) (by unfold maxLen;omega) (by omega) (by simp;omega) ?_;intro v' w9 Bi AG Gc);have Jx:Bl w w9:=Bm (bA hB) AG (fun q hq=>(AX.lt q hq).1) (by simp;omega);have Cm:w9.ownsRow w.heap.size 5 1 v' (F3 l (k+1)).length (Ym (F3 l (k+1))):=by
    have hlen:(Od k (-(m:Int))).length=3:=by
     have:=congrArg List.length HP.out;simpa[Ym]using this
    rw[HS.out,Vk,HP.out,ZA,hlen];exact Bi
   clear Bi AG Gc;go_roundg (l.length - (k+1))
   case rel=>exact⟨k+1,by omega,rfl,by go_num,Cm,Jx⟩
   omega
  have lQ:k=l.length:=by omega
  subst lQ;have Mi:=qj AX;obtain⟨a8,c8,rfl,_⟩:=JS AX;have awS:=Zd AX;clear AX;go_wp2;go_ret2;exact⟨by rw[HV.out,HA.out];rfl,hB⟩
 have HV:=Zd (show M3 c l=[] by rw[M3,if_neg h0]);have Ie:=Zd (fun W hB=>pF (w:=W) (h.later hB) (hl.later hB) (A3 hS hB));obtain⟨x,hx⟩:∃x,x=Ca c l:=⟨_,rfl⟩;have Oo:x≠0:=by rw[hx];exact h0
 have HX:=Zd hx;clear h0 hx;go_enter Lp.func69,n69;go_wp2_with (go_at_call 68;refine(Ie.out _ Bg).mono ?_;rintro e w1 ⟨q1,q2,q3,q4,q5,n1,n2,n3,n4,n5,d1,d2,d3,d4,d5,k0,k1,k2,rfl,Bb,_⟩;have Bv:=Bg.trans (Bb.mono Bg.size);rw[<-HX.out]);go_ret2;refine⟨by rw[HV.out, <-HX.out];rfl,?_⟩
 repeat (with_reducible first|exact Bv|refine bA ?_|(refine bS ?_ (by omega))|refine bD ?_|refine bN ?_)
def iF (x y:Int):0<=bits Zdo Zcf x y / 256/\bits Zdo Zcf x y / 256<18446744073709551616:=by
 have:0<=bits Zdo Zcf x y/\bits Zdo Zcf x y<18446744073709551616:=by
  unfold bits;simp only[Zbc];omega
 omega
def c87 {st:Int}(hv:SI S w v l)(hS:∀x,S x->x<w.heap.size/\x≠b)(hb:w.heap[b]?=some (.cells #[v,C .i64 d,C .u64 st] 46 (0,0)))(hd:d<4611686018427387904):
  Calls Lp 44 #[.pointer (some ⟨b,0,none⟩)] w fun e w'=>∃(QA n:Int),e=.returned (C .u64 n)/\(0<=n/\n<18446744073709551616)/\B3 b w w'/\w'.heap[b]?=some (.cells #[v,C .i64 ((d+1:Nat):Int),C .u64 QA] 46 (0,0)):=by
 obtain⟨a1,c1,rfl,l1,m1⟩:=hv.val;have IX:=DJ;have k0:=ch (i:=0) hb (v:=.slice a1 l.length c1) rfl;have k1:=ch (i:=1) hb (v:=.int .i64 d) rfl;have k2:=ch (i:=2) hb (v:=.int .u64 st) rfl;have f2:=cf (i:=2) hb;have f1:=cf (i:=1) hb;go_enter Lp.func87,n87;go_wp2;generalize IntKind.u64.wrap (IntKind.u64.wrap (st*6364136223846793005)+1442695040888963407)=xI;obtain⟨W1,NL⟩:∃W1,W1=w.setCell ⟨b,2,none⟩ (C .u64 xI):=⟨_,rfl⟩;have FD:W1.heap[b]?=some (.cells #[.slice a1 l.length c1,C .i64 d,C .u64 xI] 46 (0,0)):=by rw[NL];exact Ba hb _
 have Na:B3 b w W1:=by rw[NL];exact(B3.refl _ _).set
 rw[<-NL];clear NL k0 k1 k2 f1 f2 hb;have k0:=ch (i:=0) FD (v:=.slice a1 l.length c1) rfl;have k1:=ch (i:=1) FD (v:=.int .i64 d) rfl;have k2:=ch (i:=2) FD (v:=.int .u64 xI) rfl;have f2:=cf (i:=2) FD;have f1:=cf (i:=1) FD;have aeq:∀(W:Zb) (s2:Int),B3 b w W->W.heap[b]?=some (.cells #[.slice a1 l.length c1,C .i64 d,C .u64 s2] 46 (0,0))->True:=fun _ _ _ _=>trivial;clear aeq;by_cases Az:d<l.length
 .obtain⟨b1,o1,rfl,aoz,hc⟩:=hv.at_ Az
  have L6:=(Na.same (T:=fun x=>x≠b) (fun _ h=>h)).cell (p:=⟨b1,o1+d,none⟩) (hS b1 aoz).2 hc;clear hc;have i1:(d:Int)<(l.length:Int):=by omega
  have i2:(0:Int)<=(d:Int):=by omega
  obtain⟨x,hx⟩:∃x,x=nth l d:=⟨_,rfl⟩;rw[<-hx]at L6;clear hx;go_quiet (fail);go_wp2;obtain⟨W2,MX⟩:∃W2,W2=W1.drewN nq:=⟨_,rfl⟩;have EC:W2.heap[b]?=some (.cells #[.slice (some ⟨b1,o1,none⟩) l.length c1,C .i64 d,C .u64 xI] 46 (0,0)):=by rw[MX];exact FD
  have Ot:B3 b w W2:=by rw[MX];exact Na.below (Y5 (Zh W1.heap.size W1) nq)
  have NP:W2.cell? ⟨b1,o1+d,none⟩=some (C .i64 x):=by rw[MX];exact L6
  rw[<-MX];clear MX k0 k1 k2 f1 f2 L6 FD;have k0:=ch (i:=0) EC (v:=.slice (some ⟨b1,o1,none⟩) l.length c1) rfl;have k1:=ch (i:=1) EC (v:=.int .i64 d) rfl;have k2:=ch (i:=2) EC (v:=.int .u64 xI) rfl;have f2:=cf (i:=2) EC;have f1:=cf (i:=1) EC;go_still_tail 20,(by kernel_rfl);change wpList _ _ _ _ _ W2.drew;go_wp2;generalize IntKind.u64.wrap (xI+IntKind.u64.wrap (IntKind.u64.wrap x*2862933555777941757))=st2;obtain⟨W3,Hv⟩:∃W3,W3=((W2.setCell ⟨b,2,none⟩ (C .u64 st2)).setCell ⟨b,1,none⟩ (C .i64 (d+1))).drew:=⟨_,rfl⟩;have Xi:W3.heap[b]?=some (.cells #[.slice (some ⟨b1,o1,none⟩) l.length c1,C .i64 (d+1),C .u64 st2] 46 (0,0)):=by rw[Hv];exact Ba (Ba EC _) _
  have H4:B3 b w W3:=by rw[Hv];exact(Ot.set.set).below (Zh _ _).drew
  rw[<-Hv];clear Hv k0 k1 k2 f1 f2;have k2:=ch (i:=2) Xi (v:=.int .u64 st2) rfl;go_quiet (fail);go_wp2;go_ret;exact⟨_,_,rfl,iF _ _,(H4.below (Zh _ _)).below (Y5 (Zh W3.heap.size W3) nq),Xi⟩
 go_quiet (fail);go_wp2;have Ot:=(Na.below (Zh _ _)).below (Y5 (Zh W1.heap.size W1) nq);obtain⟨W3,Hv⟩:∃W3,W3=(W1.drewN nq).setCell ⟨b,1,none⟩ (C .i64 (d+1)):=⟨_,rfl⟩;have Xi:W3.heap[b]?=some (.cells #[.slice a1 l.length c1,C .i64 (d+1),C .u64 xI] 46 (0,0)):=by rw[Hv];exact Ba (show(W1.drewN nq).heap[b]?=some _ from FD) _
 have H4:B3 b w W3:=by rw[Hv];exact Ot.set
 rw[<-Hv];clear Hv k0 k1 k2 f1 f2;have k2:=ch (i:=2) Xi (v:=.int .u64 xI) rfl;go_quiet (fail);go_wp2;go_ret;exact⟨_,_,rfl,iF _ _,(H4.below (Zh _ _)).below (Y5 (Zh W3.heap.size W3) nq),Xi⟩
def BK (w:Zb)(b:Nat)(v:Zf)(d:Nat):Prop:=∃st:Int,w.heap[b]?=some (.cells #[v,C .i64 d,C .u64 st] 46 (0,0))
def Lot (w:Zb)(b:Nat)(v:Zf)(d m:Nat)(e:Ending)(w':Zb):Prop:=∃(r d':Nat),e=.returned (C .i64 r)/\r<=m/\B3 b w w'/\BK w' b v d'/\d'<=d+1
def c27 (v:Zf)(hv:∃a n c,v=.slice a n c)(w:Zb):Calls Lp 4 #[v] w fun e w'=>e=.returned (.pointer (some ⟨w.heap.size,0,none⟩))/\w'=w.alloc (.cells #[v,C .i64 0,C .u64 1] 46):=by
 obtain⟨a,n,c,rfl⟩:=hv;go_enter Lp.func27,n27;go_wp2;go_ret;exact⟨rfl,rfl⟩
variable {n lo hi:Int}
def c29 (hv:SI S w v l)(hS:∀x,S x->x<w.heap.size/\x≠b)(hL:BK w b v d)(hd:d<4611686018427387904)(hn:n<4611686018427387904):
  Calls Lp 13 #[.pointer (some ⟨b,0,none⟩),C .i64 n] w (Lot w b v d n.toNat):=by
 obtain⟨st,hb⟩:=hL;have H87:=Zd (c87 hv hS hb hd);by_cases h1:n<1
 .go_enter Lp.func29,n29
  go_wp2;go_ret;exact⟨0,d,rfl,Zp _,B3.refl _ _,⟨st,hb⟩,by omega⟩
 obtain⟨m,rfl⟩:∃m:Nat,n=m:=⟨n.toNat,by omega⟩;have HB:=Zd hb;clear hb;go_enter Lp.func29,n29;go_wp2_with (go_at_call 44;refine H87.out.mono ?_;rintro e w1 ⟨QA,q,rfl,⟨hq0,T6⟩,hU,FD⟩;obtain⟨q',rfl⟩:∃q':Nat,q=q':=⟨q.toNat,by omega⟩);have tE:(0:Int)<=(q':Int) % ((m:Int)+1):=Int.emod_nonneg _ (by omega);have Xg:(q':Int) % ((m:Int)+1)<(m:Int)+1:=Int.emod_lt_of_pos _ (by omega);have e1:wrap64 ((q':Int) % ((m:Int)+1))=(((q':Int) % ((m:Int)+1)).toNat:Int):=by rw[IntWalk.wrap64_in _ (by omega)];omega
 have E1:=Zd e1;clear e1;go_ret;refine⟨((q':Int) % ((m:Int)+1)).toNat,d+1,by rw[<-E1.out];rfl,by omega,hU,⟨QA,FD⟩,Zj _⟩
def c61 (hv:SI S w v l)(hS:∀x,S x->x<w.heap.size/\x≠b)(hL:BK w b v d)(hd:d<4611686018427387904)(h1: -1000000<=lo/\lo<=1000000)(h2: -1000000<=hi/\hi<=1000000):
  Calls Lp 6 #[.pointer (some ⟨b,0,none⟩),C .i64 lo,C .i64 hi] w fun e w'=>∃(r d':Nat),e=.returned (C .i64 (lo+r))/\r<=(hi - lo).toNat/\B3 b w w'/\BK w' b v d'/\d'<=d+1:=by
 have iG:=Zd (c29 (n:=hi - lo) hv hS hL hd (by omega));go_enter Lp.func61,n61;go_wp2_with (go_at_call 13;refine iG.out.mono ?_;rintro e w1 ⟨r,d',rfl,hr,hU,Tp,cM⟩);go_ret;exact⟨r,d',rfl,hr,hU,Tp,cM⟩
def c99 (hv:SI S w v l)(hS:∀x,S x->x<w.heap.size/\x≠b)(hL:BK w b v d)(hd:d<4611686018427387904)(hn: -1000000<=n/\n<=1000000):
  Calls Lp 16 #[.pointer (some ⟨b,0,none⟩),C .i64 n] w fun e w'=>∃(r:Bool) (d':Nat),e=.returned (.bool r)/\B3 b w w'/\BK w' b v d'/\d'<=d+1:=by
 have iG:=Zd (c29 (n:=n - 1) hv hS hL hd (by omega));go_enter Lp.func99,n99;go_wp2_with (go_at_call 13;refine iG.out.mono ?_;rintro e w1 ⟨r,d',rfl,hr,hU,Tp,cM⟩)
 all_goals
  go_ret;exact⟨_,d',rfl,hU,Tp,cM⟩
def c98 {s:List Int}(hv:SI S w v l)(hS:∀x,S x->x<w.heap.size/\x≠b)(hL:BK w b v d)(hd:d<4611686018427387904)(hs:SI T w v2 s)(hT:∀x,T x->x<w.heap.size/\x≠b)(h1:1<=s.length)(h2:s.length<=1000):
  Calls Lp 14 #[.pointer (some ⟨b,0,none⟩),v2] w fun e w'=>∃(r d':Nat),e=.returned (C .i64 (nth s r))/\r<s.length/\B3 b w w'/\BK w' b v d'/\d'<=d+1:=by
 obtain⟨a2,c2,rfl,l2,m2⟩:=hs.val;have IX:=DJ;have iG:=Zd (c29 (n:=(s.length:Int) - 1) hv hS hL hd (by omega));go_enter Lp.func98,n98;go_wp2_with (go_at_call 13;refine iG.out.mono ?_;rintro e w1 ⟨r,d',rfl,hr,hU,Tp,cM⟩;(have Ko:r<s.length:=by omega);obtain⟨b2,o2,rfl,EC,hc⟩:=hs.at_ Ko;have NP:=(hU.same (T:=fun x=>x≠b) (fun _ h=>h)).cell (p:=⟨b2,o2+r,none⟩) (hT b2 EC).2 hc;clear hc);go_ret;exact⟨r,d',rfl,Ko,hU,Tp,cM⟩
section
variable {P:Zo}{ops:Array Oper}{Q:Exit->Act->Zb->Prop}{T:Nat->Zb->Prop}
variable {r:List (Bool×Nat)}
def PW {o:Oper}{a:Act}(ho:ops[i]?=some o)(hg:o.guard=none)(h:o.wp P a w (fun a' w'=>T i w'/\Dl P ops Q T r a' w') Q):Dl P ops Q T ((false,i)::r) a w:=by
 unfold Dl wpOp;simp only[ho];rw[if_pos (by simp[Yf,hg])];exact .inl h
def JZ {o:Oper}{a:Act}(ho:ops[i]?=some o)(hg:o.guard=none)(hr:(Zby a.eval o).run P w=.ok (.value v) w')(hT:T i w')
 (h:Dl P ops Q T r (a.put o.dst v) w'):Dl P ops Q T ((false,i)::r) a w:=by
 refine PW ho hg ?_;unfold ZbA;rw[hr,Zdi];exact⟨hT,h⟩
end
def RelA (R:Nat->Nat->Prop)(ab:Nat->Nat):Prop:=∀j b,(ab j).testBit b=true->R j b
section
variable {R:Nat->Nat->Prop}{ab:Nat->Nat}
def qk (tr:∀a b c,R a b->R b c->R a c){o:Nat}(h:RelA R ab)(hr:R i o):RelA R (Ql ab i o):=by
 intro j b hb;unfold Ql at hb;split at hb
 .next e=>
  subst e;rw[Nat.testBit_or,ZaK]at hb;rcases hb with hb|hb
  .exact h _ _ hb
  unfold Iv at hb;rw[Nat.testBit_or,ZaK]at hb;rcases hb with hb|hb
  .exact tr _ _ _ hr (h _ _ hb)
  rw[Nat.one_shiftLeft,Nat.testBit_two_pow]at hb;have:o=b:=by simpa using hb
  exact this▸hr
 exact h _ _ hb
def S_ (tr:∀a b c,R a b->R b c->R a c){i:Nat}:∀(l:List Int) (ab:Nat->Nat),RelA R ab->(∀x∈l,R i x.toNat)->RelA R (HJ ab i l)
 | [],_,h,_=>h
 |x::r,_,h,hx=>S_ tr r _ (qk tr h (hx x (zC ..))) fun y hy=>hx y (zm _ hy)
def Ta (tr:∀a b c,R a b->R b c->R a c):∀(l:List Ay) (ab:Nat->Nat) (i:Nat),RelA R ab->(∀k,k<l.length->∀x∈(Aj l k).over,R (i+k) x.toNat)->RelA R (K6 ab i l)
 | [],_,_,h,_=>h
 |s::r,ab,i,h,hx=>Ta tr r _ (i+1) (S_ tr s.over ab h (hx 0 (Nat.succ_pos _))) fun k hk x hm=>by
  have:=hx (k+1) (Nat.succ_lt_succ hk) x hm;rwa[show i+1+k=i+(k+1) by omega]
def PY (tr:∀a b c,R a b->R b c->R a c){l:List Ay}(hx:∀k,k<l.length->∀x∈(Aj l k).over,R k x.toNat):∀(n:Nat) (ab:Nat->Nat),RelA R ab->RelA R (G5 ab l n)
 |0,_,h=>h
 |n+1,ab,h=>PY tr hx n _ (Ta tr l ab 0 h fun k hk x hm=>by rw[zN];exact hx k hk x hm)
def cm (tr:∀a b c,R a b->R b c->R a c)(ir:∀a,¬R a a){l:List Ay}(hx:∀k,k<l.length->∀x∈(Aj l k).over,R k x.toNat):H0 l=true:=by
 unfold H0;rw[Zdm];intro i _;have h:RelA R (Ax l):=PY tr hx _ _ fun j b hb=>by simp at hb
 cases e:hasB (Ax l i) i
 .rfl
 exact absurd (h i i e) (ir i)
end
def F4 (h:lo<=n/\n<=hi):AD n lo hi=false:=by simp[AD];omega
def F5 {α:Type}{f:α->Int}:∀ {l:List α},(∀x∈l,f x=0)->Bc f l=0
 | [],_=>rfl
 |x::r,h=>by
  unfold Bc;rw[if_pos (h x (zC ..))];exact F5 fun y hy=>h y (zm _ hy)
def J0 {α:Type}{f:Nat->α->Int}:∀ {l:List α} {i:Nat},(∀k x,l[k]?=some x->f (i+k) x=0)->CY f i l=0
 | [],_,_=>rfl
 |x::r,i,h=>by
  unfold CY;rw[if_pos (show f i x=0 from h 0 x rfl)];exact J0 fun k y hy=>by
   have:=h (k+1) y (by simpa using hy);rwa[show i+1+k=i+(k+1) by omega]
def Oe {m:Int}(h:1<=n/\n<=m):Di n m=0:=by
 unfold Di;rw[if_neg (by omega),if_neg (by omega)]
def Tb {p:Int×Int}(h:lo<=p.1/\p.1<=p.2/\p.2<=hi):CV p lo hi=0:=by
 unfold CV;rw[if_neg (by rw[F4 (by omega),F4 (by omega)];simp),if_neg (by omega)]
def Rm (h:lo<=n/\n<=hi):Fo lo hi n=0:=SK (F4 h)
structure Mh (g n own:Nat)(s:Ay):Prop where
 step: -2<=s.low/\s.low<=s.high/\s.high<=2
 few:1<=s.Ap.length/\s.Ap.length<=2
 pull:∀p∈s.Ap,0<=p.1/\p.1<g/\p.2≠0/\-4<=p.2/\p.2<=4
 twice:s.Ap.length=2->(BV s.Ap 1).1≠(BV s.Ap 0).1
 over:∀o∈s.over,0<=o/\o<n/\o≠own
 rising:s.over.Pairwise (· < ·)
 left:0<=s.left/\s.left<=4
def Tc (c:A_)(l:List Int):Prop:=l.length=c.Aa.length/\∀i,i<l.length->(Aj c.Aa i).low<=nth l i/\nth l i<=(Aj c.Aa i).high
structure H6 (c:A_):Prop where
 Fp:1<=c.base.length/\c.base.length<=3
 base:∀x∈c.base,20<=x/\x<=30
 PN:c.Af.length=c.base.length
 Af:∀p∈c.Af,-2<=p.1/\p.1<=p.2/\p.2<=5
 hooks:c.hooks.length=c.base.length
 hook:∀x∈c.hooks,0<=x/\x<=5
 few:1<=c.Aa.length/\c.Aa.length<=3
 seam:∀i,i<c.Aa.length->Mh c.base.length c.Aa.length i (Aj c.Aa i)
 way:(∀i,i<c.Aa.length->∀o∈(Aj c.Aa i).over,(i:Int)<o)\/∀i,i<c.Aa.length->∀o∈(Aj c.Aa i).over,o<(i:Int)
 now:Tc c c.now
def iH (h:Tc c l):Ct c l=0:=by
 unfold Ct;have hl:=h.1;rw[if_neg (by omega),if_neg (by omega)];refine F5 fun p hp=>?_;obtain⟨i,hi,e⟩:=Zas hp;have aX:i<l.length:=by simp at hi;omega
 have:=Ra (l:=l) (m:=c.Aa) aX (by omega);rw[zf hi,e]at this;cases this;exact Rm (h.2 i aX)
def H6.H0 (h:H6 c):H0 c.Aa=true:=by
 rcases h.way with hw|hw
 .exact cm (R:=fun a b=>a<b) (fun a b c=>Nat.lt_trans) (fun a=>Nat.lt_irrefl a) fun k hk x hx=>by have:=hw k hk x hx;omega
 exact cm (R:=fun a b=>b<a) (fun a b c h1 h2=>Nat.lt_trans h2 h1) (fun a=>Nat.lt_irrefl a) fun k hk x hx=>by
  have:=hw k hk x hx;have:=((h.seam k hk).over x hx).1;omega
def eU (h:l.Pairwise (· < ·))(h0:0<i)(hi:i<l.length):nth l (i - 1)<nth l i:=by
 have:=ZdK.1 h (i - 1) i (by omega) hi (by omega);simpa[nth,Y6,hi,show i - 1<l.length by omega]using this
def H6.EF (h:H6 c)(hi:i<c.Aa.length):EF c i=0:=by
 have hs:=h.seam i hi;unfold Go.Proofs.Fit.EF;rw[BR (Tb hs.step),BR (Oe (by have:=hs.few;omega)),BR (J0 fun k p hp=>?_),BR (J0 fun k o ho=>?_)]
 .exact Rm hs.left
 .have hk:=(Zm.1 ho).1
  have hm:=hs.over o (Z3 ho);rw[zN];unfold Ed;rw[if_neg (by rw[F4 (by omega)];simp;omega),if_neg];rintro⟨h0,hle⟩;have:=eU hs.rising h0 hk;rw[show nth (Aj c.Aa i).over k=o by unfold nth;rw[Y6,ho];rfl]at this;omega
 have hk:=(Zm.1 hp).1;have hm:=hs.pull p (Z3 hp);have hf:=hs.few;rw[zN];unfold Fa;rw[F4 (by omega),if_neg (by decide),F4 (by omega),if_neg (by simp;omega),if_neg];rintro⟨h0,e⟩;have h1:k=1:=by omega
 subst h1;refine hs.twice (by omega) ?_;rw[<-e];unfold BV;rw[Y6,hp]
 rfl
def H6.begin (h:H6 c):BN c=0:=by
 unfold BN Dq;have e1:Di (c.base.length:Int) 3=0:=Oe (by have:=h.Fp;omega);have e2:Bc (Fo 1 60) c.base=0:=F5 fun x hx=>Rm (by have:=h.base x hx;omega);have e3:Bc (fun p=>CV p (-9) 9) c.Af=0:=F5 fun p hp=>Tb (by have:=h.Af p hp;omega);have e4:Bc (Fo 0 5) c.hooks=0:=F5 fun x hx=>Rm (h.hook x hx);have e5:Di (c.Aa.length:Int) 3=0:=Oe (by have:=h.few;omega);have e6:JP c=0:=by
  unfold JP;exact J0 fun k x hx=>by rw[zN];exact h.EF (Zm.1 hx).1
 rw[BR e1,BR e2,if_neg (fun x=>x h.PN),BR e3,if_neg (fun x=>x h.hooks),BR e4,BR e5,BR e6,if_pos h.H0];exact iH h.now
def H6.valid (h:H6 c):Fq c:=EG h.begin
def H6.asked (h:H6 c)(hl:Tc c l):Ca c l=0:=by
 unfold Ca;rw[BR h.begin,iH hl]
def IU (lo hi:Int):List Int:=(Yr (hi+1 - lo).toNat).map fun k:Nat=>lo+(k:Int)
def EZ:List Ay->List (List Int)
 | []=> [[]]
 |s::r=>(IU s.low s.high).flatMap fun n=>(EZ r).map (n:: ·)
def EH (c:A_):List (List Int):=EZ c.Aa
def LJ (n:Int):Option (List (List Int)×Int)->Bool
 |none=>true
 |some p=>decide (n<p.2)
def DL (ab:Nat->Nat)(d:A_)(g:A_->Option (List (List Int)×Int))(out:Option (List (List Int)×Int))(l:List Int):Option (List (List Int)×Int):=
 match JU d (Cx ab d.now l) with
 |some _=>out
 |none=>match g (FH d l (Cx ab d.now l)) with
  |none=>out
  |some p=>if LJ ((AB (Cx ab d.now l)).length+p.2) out=true then some (l::p.1,(AB (Cx ab d.now l)).length+p.2) else out
def Gx (ab:Nat->Nat):List (List (List Int))->A_->Option (List (List Int)×Int)
 | [],_=>some ([],0)
 |f::r,d=>f.foldl (DL ab d (Gx ab r)) none
variable {α:Type}
def eW {g:α->List Int->α}{a:α}{f:List (List Int)}(h:k<f.length):(f.drop k).foldl g a=(f.drop (k+1)).foldl g (g a (BM f k)):=by
 obtain⟨hk,e⟩:=Zm.1 (BJ h);rw[ZO hk,e]
 rfl
def kT {d:A_}(h:JU d t=none):∀x∈AB t,1<=(Aj d.Aa x.toNat).left:=fun x hx=>by
 have:=List.find?_eq_none.1 h x hx;unfold SU at this;simp at this;omega
structure kU (c d:A_):Prop where
 base:d.base=c.base
 Af:d.Af=c.Af
 hooks:d.hooks=c.hooks
 len:d.Aa.length=c.Aa.length
 now:d.now.length=c.Aa.length
 left:∀i,i<c.Aa.length->0<=(Aj d.Aa i).left/\(Aj d.Aa i).left<=4
 rest:∀i,i<c.Aa.length->(Aj d.Aa i).Ap=(Aj c.Aa i).Ap/\(Aj d.Aa i).over=(Aj c.Aa i).over/\(Aj d.Aa i).low=(Aj c.Aa i).low/\(Aj d.Aa i).high=(Aj c.Aa i).high
def kU.abw {d:A_}(h:kU c d)(hl:l.length=c.Aa.length)(hx:∀x,x∈AB t->0<=x/\x<d.Aa.length)(hs:JU d t=none):kU c (FH d l t):=by
 refine⟨h.base,h.Af,h.hooks,(O_ _ _).trans h.len,hl,fun i hi=>?_,fun i hi=>?_⟩
 .have:=h.left i hi
  show 0<=(Aj (CJ d.Aa (AB t)) i).left/\(Aj (CJ d.Aa (AB t)) i).left<=4;by_cases hm:(i:Int)∈AB t
  .have h1:=kT hs _ hm
   rw[Int.toNat_natCast]at h1;rcases MZ (AB t) d.Aa i (PS t) hx with e|e<;>rw[e]<;>omega
  rw[Ld _ _ _ hx hm];exact this
 have:=h.rest i hi;obtain⟨e1,e2,e3,e4⟩:=M0 (AB t) d.Aa i hx;show(Aj (CJ d.Aa (AB t)) i).Ap=_/\(Aj (CJ d.Aa (AB t)) i).over=_/\(Aj (CJ d.Aa (AB t)) i).low=_/\(Aj (CJ d.Aa (AB t)) i).high=_;rw[e1,e2,e3,e4];exact this
def ql {b:List Int}(h:a.length=b.length)(hn:∀i,i<a.length->nth a i=nth b i):a=b:=by
 apply YA fun i=>?_;by_cases hi:i<a.length
 .rw[Bn hi,Bn (by omega),hn i hi]
 rw[ZP (by omega),ZP (by omega)]
def qm {a b:List Ay}(h:a.length=b.length)(hn:∀i,i<a.length->Aj a i=Aj b i):a=b:=by
 apply YA fun i=>?_;by_cases hi:i<a.length
 .rw[Db hi,Db (by omega),hn i hi]
 rw[ZP (by omega),ZP (by omega)]
def Ay.ext' {a b:Ay}(h1:a.low=b.low)(h2:a.high=b.high)(h3:a.Ap=b.Ap)(h4:a.over=b.over)(h5:a.left=b.left):a=b:=by
 cases a;cases b;simp_all
def kU.eq {d:A_}(h:kU c d)(h':kU c d')(hn:∀i,i<c.Aa.length->nth d.now i=nth d'.now i)(hl:∀i,i<c.Aa.length->(Aj d.Aa i).left=(Aj d'.Aa i).left):d=d':=by
 have e1:=h.base.trans h'.base.symm;have e2:=h.Af.trans h'.Af.symm;have e3:=h.hooks.trans h'.hooks.symm;have e4:d.Aa=d'.Aa:=qm (h.len.trans h'.len.symm) fun i hi=>by
  have DN:i<c.Aa.length:=by have:=h.len;omega
  obtain⟨a1,a2,a3,a4⟩:=h.rest i DN;obtain⟨b1,b2,b3,b4⟩:=h'.rest i DN;exact Ay.ext' (a3.trans b3.symm) (a4.trans b4.symm) (a1.trans b1.symm) (a2.trans b2.symm) (hl i DN)
 have e5:d.now=d'.now:=ql (h.now.trans h'.now.symm) fun i hi=>hn i (by have:=h.now;omega);cases d;cases d';simp_all
def M4 (ab:Nat->Nat):∀(fs:List (List (List Int))) (d:A_) (p:List (List Int)×Int),Gx ab fs d=some p->0<=p.2/\p.2<=3*fs.length/\p.1.length=fs.length
 | [],_,p,h=>by cases h;simp
 |f::r,d,p,h=>by
  have key:∀(l:List (List Int)) (o:Option (List (List Int)×Int)),(∀q,o=some q->0<=q.2/\q.2<=3*((f::r).length:Int)/\q.1.length=(f::r).length)->∀q,l.foldl (DL ab d (Gx ab r)) o=some q->0<=q.2/\q.2<=3*((f::r).length:Int)/\q.1.length=(f::r).length:=by
   intro l
   induction l with
   |nil=>intro o ho q hq;exact ho q hq
   |cons x l ih=>
    intro o ho q hq;refine ih _ (fun q' P_=>?_) q hq;unfold DL at P_;split at P_
    .exact ho q' P_
    split at P_
    .exact ho q' P_
    next p' lR=>
    split at P_
    .cases P_
     have:=M4 ab r _ p' lR;have hc:=Jo (Cx ab d.now x) 3;change(AB (Cx ab d.now x)).length<=3 at hc;simp only[zb];omega
    exact ho q' P_
  exact key f none (fun q hq=>by cases hq) p h
def eX {x:Int}(h:x∈IU lo hi):lo<=x/\x<=hi:=by
 unfold IU at h;obtain⟨k,hk,rfl⟩:=List.mem_map.1 h;rw[List.mem_range]at hk;omega
def Lf:∀(s:List Ay) (l:List Int),l∈EZ s->l.length=s.length/\∀i,i<l.length->(Aj s i).low<=nth l i/\nth l i<=(Aj s i).high
 | [],l,h=>by
  obtain rfl:l=[]:=by simpa[EZ]using h
  exact⟨rfl,fun i hi=>absurd hi (ZbY _)⟩
 |t::s,l,h=>by
  unfold EZ at h;obtain⟨n,hn,hl⟩:=List.mem_flatMap.1 h;obtain⟨r,hr,rfl⟩:=List.mem_map.1 hl;obtain⟨h1,h2⟩:=Lf s r hr;refine⟨by simp[h1],fun i hi=>?_⟩;cases i with
  |zero=>exact eX hn
  |succ i=>exact h2 i (by simpa using hi)
def cr {α β:Type}{f:α->List β}{k:Nat}:∀(l:List α),(∀x∈l,(f x).length<=k)->(l.flatMap f).length<=l.length*k
 | [],_=>by simp
 |x::r,h=>by
  have h1:=h x (zC ..);have h2:=cr r fun y hy=>h y (zm _ hy);rw[List.flatMap_cons,ZA,zb,Nat.add_mul];omega
def eY (lo hi:Int):(IU lo hi).length=(hi+1 - lo).toNat:=by simp[IU]
def H7:∀(s:List Ay),(∀i,i<s.length->-2<=(Aj s i).low/\(Aj s i).high<=2)->(EZ s).length<=5^s.length
 | [],_=>by simp[EZ]
 |t::s,h=>by
  have h0:=h 0 (Nat.succ_pos _);change -2<=t.low/\t.high<=2 at h0;have ih:=H7 s fun i hi=>h (i+1) (Nat.succ_lt_succ hi);unfold EZ;refine Zr (cr _ fun n _=>by rw[List.length_map];exact ih) ?_;rw[eY,zb,Nat.pow_succ,ZcR];exact Nat.mul_le_mul_left _ (by omega)
structure Ak (T:Nat->Prop)(w W:Zb):Prop where
 os:W.os=w.os
 tape:W.tape=w.tape
 output:W.output=w.output
 size:w.heap.size<=W.heap.size
 block:∀k,k<w.heap.size->¬T k->W.heap[k]?=w.heap[k]?
section
variable {T U:Nat->Prop}{w W W':Zb}
def Ak.refl (T:Nat->Prop)(w:Zb):Ak T w w:=⟨rfl,rfl,rfl,Zj _,fun _ _ _=>rfl⟩
def Ak.trans (h:Ak T w W)(k:Ak T W W'):Ak T w W':=
 ⟨k.os.trans h.os,k.tape.trans h.tape,k.output.trans h.output,Zr h.size k.size,fun i hi ht=>(k.block i (Zl hi h.size) ht).trans (h.block i hi ht)⟩
def Ak.mono (h:Ak T w W)(hs:∀k,T k->U k):Ak U w W:=⟨h.os,h.tape,h.output,h.size,fun k hk hu=>h.block k hk fun x=>hu (hs k x)⟩
def Ak.Ec {n:Nat}(h:YH n w W)(hT:∀x,n<=x->x<w.heap.size->T x):Ak T w W:=
 ⟨h.os,h.tape,h.output,h.size,fun x hx ht=>h.block x (Nat.lt_of_not_le fun y=>ht (hT x y hx))⟩
def Ak.later (h:Bl w W):Ak T w W:=Ak.Ec h fun k h1 h2=>absurd h2 (Nat.not_lt_of_le h1)
def Ak.below {n:Nat}(h:Ak T w W)(hT:∀k,T k->n<=k)(hn:n<=w.heap.size):YH n w W:=
 ⟨h.os,h.tape,h.output,h.size,fun k hk=>h.block k (Zl hk hn) fun x=>absurd (hT k x) (Nat.not_le_of_lt hk)⟩
variable {o:Obj}
def Ak.put {l:Nat}(h:Ak T w W)(hl:T l):Ak T w (W.putObj l o):=
 ⟨h.os,h.tape,h.output,by simpa using h.size,fun k hk ht=>(zG fun e=>ht (by rw[e];exact hl)).trans (h.block k hk ht)⟩
def Ak.set (h:Ak T w W)(hq:T q):Ak T w (W.setCell ⟨q,i,none⟩ v):=
 ⟨h.os,h.tape,h.output,by simpa using h.size,fun k hk ht=>(AZ (fun e=>ht (by rw[e];exact hq)) _).trans (h.block k hk ht)⟩
def Ak.uJ (h:Ak T w W)(hB:Bl W W'):Ak T w W':=h.trans (Ak.later hB)
def Ak.same (h:Ak T w W)(hS:∀b,S b->¬T b):CE S w W:=fun b hb hl=>h.block b hl (hS b hb)
end
def J1 (e:Zs)(n:Nat)(w:Zb)(b:Nat):Prop:=Cb n w b/\∃cs,w.heap[b]?=some (.cells cs e (0,0))
def Kp (n m k:Nat):Prop:=n<=k/\k<n+m
def ahx (P:Zo)(g:Nat)(lb:Array Zf)(m:Nat)(K:Nat->Prop)(xs:List (List Int))(w0:Zb):Prop:=
 ∀(l:Nat) (J:List (List Int)->Zb->Prop) (W:Zb),w0.heap.size<=W.heap.size->(∀k,K k->k<w0.heap.size->W.heap[k]?=w0.heap[k]?)->
  (∀A,Bl W A->W.heap.size+m<=A.heap.size->J [] A)->
  (∀pre A B,J pre A->Ak (Kp W.heap.size m) A B->J pre B)->
  (∀pre x u A0 A,J pre A0->Ak (Kp W.heap.size m) A0 A->W.heap.size+m<=A0.heap.size->pre++ [x]<+:xs->SI (J1 3 A0.heap.size A) A u x->
   YieldAt ZbC 0 P l #[u] A fun e A'=>e=.returned (.bool true)/\J (pre++ [x]) A'/\Ak (fun k=>¬Kp W.heap.size m k/\¬K k) A A')->
  CallsIn ZbC 0 P g (#[.func (.yield l) #[] #[]]++lb) W fun e A=>(∃v,e=.returned v)/\J xs A
variable {xs ls:List (List Int)}
def Vm {P:Zo}{g:Zbv}{p:Tmp}{assign body:Code}{Q:Exit->Act->Zb->Prop}{a:Act}{gf:Nat}{lb:Array Zf}{K:Nat->Prop}(hg:a.eval g=.func (.func gf) #[] lb)(eg:∀args w,(Zz gf args).run P w=.ok (.enter gf args) w)
 (eZ:ahx P gf lb m K xs w0) (hw:w0.heap.size<=w.heap.size) (hK:∀k,K k->k<w0.heap.size/\w.heap[k]?=w0.heap[k]?)
 (I:List (List Int)->Zb->Prop) (h0:∀A,Bl w A->w.heap.size+(m+2)<=A.heap.size->I [] A)
 (hI:∀pre A B,I pre A->Ak (Kp w.heap.size (m+2)) A B->I pre B) (dp:Zf->Act)
 (uK:∀(l:Nat) (u:Zf) (W:Zb) (K:Act->Zb->Prop),(∃ad n c,u=.slice ad n c)->K (dp u) W->assign.wpIn (Fence.wide.inRound l) 0 P (Exit.then K (fun _ _ _=>False)) {tmps:=((#[p]:Array Tmp).zip #[u]).foldl (fun t (p,v)=>t.setIfInBounds p v) a.tmps,defers:=[]} W)
 (ahy:∀(l:Nat) (pre:List (List Int)) (x:List Int) (u:Zf) (A0 A:Zb),I pre A0->Ak (Kp w.heap.size (m+2)) A0 A->w.heap.size+(m+2)<=A0.heap.size->pre++ [x]<+:xs->SI (J1 3 A0.heap.size A) A u x->
 body.wpIn (Fence.wide.inRound l) 0 P (fun e _ W'=>e=.normal/\I (pre++ [x]) W'/\Ak (fun k=>¬Kp w.heap.size (m+2) k/\¬K k) A W') (dp u) A)
 (ahz:∀A,I xs A->A.heap[w.heap.size]?=some (.deferred (some []))->Q .normal {a with defers:= {target:=.collected w.heap.size,args:= #[]}::a.defers} A):
  (Code.rangeFunc g #[p] assign body).wpIn ZbC 0 P Q a w:=by
 refine wpIn_rangeFunc ?_;intro fn G9;obtain⟨rec,WJ⟩:∃rec:LoopState->Option Code->Loop,rec=fun st pe=> {state:=st,pending:=pe,fn,tmps:=a.tmps,params:= #[p],assign,body,defers:=w.heap.size}:=⟨_,rfl⟩;obtain⟨W1,NL⟩:∃W1,(w.alloc (.deferred (some []))).alloc (.loop (rec .ready none))=W1:=⟨_,rfl⟩;have Ue:W1.heap[w.heap.size+1]?=some (.loop (rec .ready none)):=by
  rw[<-NL];have:=ZdG (w.alloc (.deferred (some []))) (.loop (rec .ready none));rwa[ZB]at this
 have l_:W1.heap[w.heap.size]?=some (.deferred (some [])):=by
  rw[<-NL];exact(zD _ _ _ (by simp)).trans (ZdG w _)
 have Bg:Bl w W1:=by rw[<-NL];exact((Zh _ w).alloc (Zj _) _).alloc (by simp) _
 have DR:W1.heap.size=w.heap.size+2:=by rw[<-NL];simp
 have abH:∀k,Kp W1.heap.size m k->Kp w.heap.size (m+2) k:=fun k h=>by unfold Kp at*;omega
 refine⟨w.heap.size+1,[{target:=.collected w.heap.size,args:= #[]}],W1, {target:=.fn (.func gf) lb,args:= #[.func (.yield (w.heap.size+1)) #[] #[]]},W1,gf,
  #[.func (.yield (w.heap.size+1)) #[] #[]]++lb,W1,?_,?_,?_,?_,(fun h=>by cases h),?_⟩
 .rw[<-NL,WJ];exact run_enterLoop_outer _ _ _ _ _
 .simp only[Zbh,hg]
  simp[go_sem]
 .intro f' _;trivial
 .simp[invoke,go_sem,eg]
 refine(eZ (w.heap.size+1) (fun pre A=>I pre A/\A.heap[w.heap.size+1]?=some (.loop (rec .ready none))/\A.heap[w.heap.size]?=some (.deferred (some []))) W1 (by omega)
  (fun k hk _=>(Bg.block k (Zl (hK k hk).1 hw)).trans (hK k hk).2)
  (fun A hA hs=>⟨h0 A (Bg.trans (hA.mono Bg.size)) (by omega),(hA.block _ (by omega)).trans Ue,(hA.block _ (by omega)).trans l_⟩)
  (fun pre A B hj hT=>⟨hI pre A B hj.1 (hT.mono abH),(hT.block _ (Za.1 hj.2.1).1 (by unfold Kp;omega)).trans hj.2.1,(hT.block _ (Za.1 hj.2.2).1 (by unfold Kp;omega)).trans hj.2.2⟩)
  ?_).mono ?_
 .rintro pre x u A0 A ⟨hi,jD,kq⟩ hT hz hlen hu
  have hl:A.heap[w.heap.size+1]?=some (.loop (rec .ready none)):=(hT.block _ (Za.1 jD).1 (by unfold Kp;omega)).trans jD;have hk:A.heap[w.heap.size]?=some (.deferred (some [])):=(hT.block _ (Za.1 kq).1 (by unfold Kp;omega)).trans kq;have Az:w.heap.size+1<A.heap.size:=(Za.1 hl).1;have awZ:w.heap.size+1<A0.heap.size:=(Za.1 jD).1;have hy:=run_yield (P:=P) (args:= #[u]) hl (by rw[WJ];rfl);rw[WJ]at hy;refine⟨fn,_,assign,body,hy,roundIn_of_wpIn trivial (uK _ u A _ ?_ ⟨_,run_beginRound hl (by rw[WJ]),?_⟩)⟩
  .obtain⟨ad,c,rfl,_⟩:=hu.val
   exact⟨ad,_,c,rfl⟩
  obtain⟨A2,aT⟩:∃A2,A2=A.putObj (w.heap.size+1) (.loop {rec .ready none with state:=.busy}):=⟨_,rfl⟩;rw[<-aT];have Oq:A2.heap[w.heap.size+1]?=some (.loop {rec .ready none with state:=.busy}):=by rw[aT];exact Zau Az
  have hk2:A2.heap[w.heap.size]?=some (.deferred (some [])):=by rw[aT];exact(zG (by omega)).trans hk
  have D3:Ak (Kp w.heap.size (m+2)) A0 A2:=by rw[aT];exact(hT.mono abH).put (by unfold Kp;omega)
  have EB:A2.heap.size=A.heap.size:=by rw[aT];simp
  have EC:∀k,k≠w.heap.size+1->A2.heap[k]?=A.heap[k]? :=fun k h=>by rw[aT];exact zG h
  have ht2:A2.os=A.os/\A2.tape=A.tape/\A2.output=A.output:=by rw[aT];exact⟨rfl,rfl,rfl⟩
  have Hb:SI (J1 3 A0.heap.size A2) A2 u x:=Sl.imp (hu.Ar (fun b hb _=>EC b (by have:=hb.1.1;omega))) (fun b hb=>⟨⟨hb.1.1,by rw[EB];exact hb.1.2⟩,by rw[EC b (by have:=hb.1.1;omega)];exact hb.2⟩) (fun _ _ x=>x);clear aT;refine wpIn_mono (ahy _ pre x u A0 A2 hi D3 (by omega) hlen Hb) ?_;rintro e a3 W3 ⟨rfl,hi3,Ou⟩;have Qm:W3.heap[w.heap.size+1]?=some (.loop {rec .ready none with state:=.busy}):=(Ou.block _ (by omega) (fun h=>h.1 (by unfold Kp;omega))).trans Oq;have M8:W3.heap[w.heap.size]?=some (.deferred (some [])):=(Ou.block _ (by omega) (fun h=>h.1 (by unfold Kp;omega))).trans hk2;have RV:=run_endRound (P:=P) none Qm;refine⟨_,_,RV,rfl,⟨hI _ _ _ hi3 ((Ak.refl _ _).put (by unfold Kp;omega)),?_,?_⟩,?_⟩
  .rw[Zau (Za.1 Qm).1,WJ];rfl
  .exact(zG (by omega)).trans M8
  refine⟨Ou.os.trans ht2.1,Ou.tape.trans ht2.2.1,Ou.output.trans ht2.2.2,by have:=Ou.size;simp;omega,fun k hk hn=>?_⟩;by_cases lQ:k=w.heap.size+1
  .exfalso
   refine hn ⟨by unfold Kp;omega,fun hKk=>?_⟩;have:=(hK k hKk).1;omega
  rw[zG lQ];by_cases hm:Kp w.heap.size (m+2) k
  .rw[Ou.block k (by omega) (fun h=>h.1 hm),EC k lQ]
  rw[Ou.block k (by omega) (fun h=>hn ⟨fun h'=>hm (abH k h'),h.2⟩),EC k lQ]
 rintro e W2 ⟨⟨v,rfl⟩,hi,hl,hk⟩;refine⟨none,_,by have:=run_endLoop (P:=P) hl (by rw[WJ];simp);rw[WJ]at this;exact this,?_⟩;exact ahz _ (hI _ _ _ hi ((Ak.refl _ _).put (by unfold Kp;omega))) ((zG (by omega)).trans hk)
attribute [local go_sem] Zdk
structure IT (S:Nat->Prop)(n0 l bg:Nat)(v1 v2 v3 v4 v5:Zf)(ab:Nat->Nat)(c:A_)(p:List Int)(A:Zb):Prop where
 yb:A.heap[n0]?=some (.cells #[.func (.yield l) #[] #[]] 43 (0,0))
 row:∃tl,(p++tl).length=c.Aa.length/\A.heap[n0+1]?=some (.cells ((p++tl).map (ZL .i64)).toArray 3 (0,0))
 sb:A.heap[n0+2]?=some (.cells #[.slice (some ⟨n0+1,0,none⟩) c.Aa.length c.Aa.length] 22 (0,0))
 fb:A.heap[n0+3]?=some (.cells #[.func (.func 55) #[] #[.pointer (some ⟨n0+2,0,none⟩),.pointer (some ⟨n0,0,none⟩),.pointer (some ⟨bg,0,none⟩),.pointer (some ⟨n0+3,0,none⟩)]] 55 (0,0))
 gb:A.heap[bg]?=some (.cells (AW v1 v2 v3 v4 v5 ab) 62 (0,0))
 rc:RC S A v1 v2 v3 v4 v5 c
section
variable {S:Nat->Prop}{n0 l bg:Nat}{v1 v2 v3 v4 v5:Zf}{ab:Nat->Nat}{c:A_}{p:List Int}{A B:Zb}
def IT.Ar (h:IT S n0 l bg v1 v2 v3 v4 v5 ab c p A)(hT:Ak (fun k=>¬Kp n0 4 k/\¬(S k\/k=bg)) A B):IT S n0 l bg v1 v2 v3 v4 v5 ab c p B:=by
 have hm:∀k x,k<4->A.heap[n0+k]?=some x->B.heap[n0+k]?=some x:=fun k x hk h=>(hT.block _ (Za.1 h).1 (fun q=>q.1 (by unfold Kp;omega))).trans h;obtain⟨tl,h1,h2⟩:=h.row;exact⟨hm 0 _ (by omega) h.yb,⟨tl,h1,hm 1 _ (by omega) h2⟩,hm 2 _ (by omega) h.sb,hm 3 _ (by omega) h.fb,(hT.block _ (Za.1 h.gb).1 (fun q=>q.2 (.inr rfl))).trans h.gb,h.rc.Ar (hT.same fun b hb q=>q.2 (.inl hb))⟩
def IT.step (h:IT S n0 l bg v1 v2 v3 v4 v5 ab c p A)(hb:∀b,S b\/b=bg->b<n0)(hp:p.length<c.Aa.length)(x:Int):IT S n0 l bg v1 v2 v3 v4 v5 ab c (p++ [x]) (A.setCell ⟨n0+1,p.length,none⟩ (C .i64 x)):=by
 have hm:∀k y,k≠n0+1->A.heap[k]?=some y->(A.setCell ⟨n0+1,p.length,none⟩ (C .i64 x)).heap[k]?=some y:=fun k y hk h=>(AZ hk _).trans h;obtain⟨tl,h1,h2⟩:=h.row;refine⟨hm _ _ (by omega) h.yb,⟨tl.drop 1,?_,?_⟩,hm _ _ (by omega) h.sb,hm _ _ (by omega) h.fb,hm _ _ (by have:=hb bg (.inr rfl);omega) h.gb,h.rc.Ar fun b hS _=>AZ (by have:=hb b (.inl hS);omega) _⟩
 .simp only[ZA,zb,zR,List.length_drop]at h1⊢
  omega
 have h3:=Ba (i:=p.length) h2 (C .i64 x);rw[h3];cases tl with
 |nil=>simp at h1;omega
 |cons y r=>simp
def IT.cut {q:List Int}(h:IT S n0 l bg v1 v2 v3 v4 v5 ab c (p++q) A):IT S n0 l bg v1 v2 v3 v4 v5 ab c p A:=by
 obtain⟨tl,h1,h2⟩:=h.row;exact⟨h.yb,⟨q++tl,by rw[<-Zae];exact h1,by rw[<-Zae];exact h2⟩,h.sb,h.fb,h.gb,h.rc⟩
end
def WL (lo:Int)(rest:List Ay)(q:Nat):List (List Int):=((Yr q).map fun k:Nat=>lo+(k:Int)).flatMap fun n=>(EZ rest).map (n:: ·)
def Pb (lo:Int)(rest:List Ay)(q:Nat):WL lo rest (q+1)=WL lo rest q++(EZ rest).map ((lo+(q:Int)):: ·):=by
 unfold WL;rw[List.range_succ,Zai,Zbe];simp
def kV {l:List Ay}(h:i<l.length):l.drop i=Aj l i::l.drop (i+1):=by
 obtain⟨hk,e⟩:=Zm.1 (Db h);rw[ZO hk,e]
def qu {rest:List Ay}(h:q<=m):WL lo rest q<+:WL lo rest m:=by
 induction h with
 |refl=>exact List.prefix_rfl
 |step _ ih=>rw[Pb];exact ih.trans (List.prefix_append _ _)
def abJ (n0 l:Nat)(K:Nat->Prop)(J:List (List Int)->Zb->Prop)(xs:List (List Int)):Prop:=
 ∀pre x u A0 A,J pre A0->Ak (Kp n0 4) A0 A->n0+4<=A0.heap.size->pre++ [x]<+:xs->SI (J1 3 A0.heap.size A) A u x->
  YieldAt ZbC 0 Lp l #[u] A fun e A'=>e=.returned (.bool true)/\J (pre++ [x]) A'/\Ak (fun k=>¬Kp n0 4 k/\¬K k) A A'
variable {e:Zs}
def Lg {R:Zb->List Zf->α->Prop}{l:List α}{base:Nat}{xs:List Zf}(hk:0<k)(h:w.ownsRow base e k v l.length xs)(hR:∀i x,l[i]?=some x->R w ((xs.drop (i*k)).take k) x):Sl (J1 e base w) R k w v l:=by
 obtain⟨a,c,h1,h2,h3,h4⟩:=O6 hk h hR;refine⟨a,c,h1,h2,h3,fun i x hx=>?_⟩;obtain⟨b,o,cs,g1,g2,g3,g4,g5⟩:=h4 i x hx;refine⟨b,o,cs,g1,⟨g2,?_⟩,g3,g4,g5⟩;rcases h.2 with⟨_,h0⟩|⟨g,cap,cur,hv,_,hg,_⟩
 .have:=(Zm.1 hx).1
  omega
 rw[hv]at h1;cases h1;cases g1;exact⟨_,hg⟩
def xJ (h:Sl S Ri 1 w v l)(hlen:l.length<=1000):Calls Lp 27 #[v] w fun e w'=>∃v',e=.returned v'/\Bl w w'/\Sl (J1 3 w.heap.size w') Ri 1 w' v' l:=by
 obtain⟨a,c,rfl,l1,m1⟩:=h.val;obtain⟨i0,hi,Fl,DR,EB⟩:=zp KY;have hu:=Cz YE;have q22:∀(w:Zb) (a:Option Addr) (n c n' c':Nat),(binOp .eql 22 (.slice a n c) (.slice none n' c')).run Lp w=.ok (.bool a.isNone) w:=fun w a n c n' c'=>ZaO w _ _ a n c n' c' hu;cases a with
 |none=>
  have hl:l=[]:=by
   cases l with
   |nil=>rfl
   |cons x r=>
    obtain⟨a',c',h1,_,_,h4⟩:=h;cases h1;obtain⟨b,o,cs,e,_⟩:=h4 0 x rfl;cases e
  subst hl;go_enter Lp.func106,uj;go_wp2;go_ret;exact⟨_,rfl,Zh _ _,none,0,rfl,Zj _,Zp _,fun i x hx=>by cases hx⟩
 |some ad=>
  obtain⟨news,hn,hR,hc⟩:=Sl.row h (by decide) ad rfl;have h1:=row_one (by decide) hn hR pJ;have HC:=Zd hc;have HR:=Zd hR;clear hc hR;go_enter Lp.func106,uj;go_wp2_with (at_builtin;refine Yc _ rfl _ _ 22 rfl w.heap.size 3 i0 (C .i64 0) 1 8 hu (Dz hi) Fl DR EB rfl (by decide) _ 0 [] rfl (YC w #[] 0 (Zj _) (Zp _) rfl) ad l.length c news rfl hn (fun j u hj=>ca (HC.out j u hj) _) h1 (by unfold maxLen;omega) (by omega) (by simp) ?_;intro v' w1 Bi AG Gc);have hB:Bl w w1:=Bm (bA (Zh _ _)) AG (fun k hk=>by cases hk;exact Zj _) (by simp);have Ts:Sl (J1 3 w.heap.size w1) Ri 1 w1 v' l:=Lg (by decide) (by rw[zN,zP]at Bi;exact Bi) (fun i x hx=>HR.out i x hx);clear Bi AG Gc;go_ret;exact⟨_,rfl,hB,Ts⟩
variable {ab:Nat->Nat}
def aoB {l:Nat}{J:List (List Int)->Zb->Prop}(hJ:∀pre A B,J pre A->Ak (Kp n0 4) A B->J pre B)
 (hY:abJ n0 l (fun k=>S k\/k=bg) J xs) (hb:∀b,S b\/b=bg->b<n0) (Jm:c.Aa.length<=3) (B_:∀i,i<c.Aa.length->-2<=(Aj c.Aa i).low/\(Aj c.Aa i).high<=2):
  ∀(k i:Nat) (p:List Int) (pre:List (List Int)) (A:Zb),i+k=c.Aa.length->p.length=i->IT S n0 l bg v1 v2 v3 v4 v5 ab c p A->J pre A->n0+4<=A.heap.size->pre++(EZ (c.Aa.drop i)).map (p++ ·)<+:xs->
   CallsIn ZbC 0 Lp 55 #[C .i64 i,.pointer (some ⟨n0+2,0,none⟩),.pointer (some ⟨n0,0,none⟩),.pointer (some ⟨bg,0,none⟩),.pointer (some ⟨n0+3,0,none⟩)] A fun e A'=>
    e=.returned (.bool true)/\IT S n0 l bg v1 v2 v3 v4 v5 ab c p A'/\J (pre++(EZ (c.Aa.drop i)).map (p++ ·)) A'/\n0+4<=A'.heap.size:=by
 intro k
 induction k with
 |zero=>
  intro i p pre A uB hp hI hj hz hN;have hi:i=c.Aa.length:=by omega
  subst hi;have e1:EZ (c.Aa.drop c.Aa.length)=[[]]:=by rw[Z7.2 (Zj _)];rfl
  rw[e1]at hN⊢;simp only[List.map_cons,List.map_nil,ZaA]at hN⊢;obtain⟨tl,hl,Ci⟩:=hI.row;obtain rfl:tl=[]:=YM (by rw[ZA]at hl;omega);rw[ZaA]at Ci hl;have hsi:SI (fun b=>b=n0+1) A (.slice (some ⟨n0+1,0,none⟩) p.length p.length) p:=M1 p Ci rfl (by unfold maxLen;omega);rw[hp]at hsi;have k1:=ch (i:=0) hI.sb (v:=.slice (some ⟨n0+1,0,none⟩) c.Aa.length c.Aa.length) rfl;have k2:=ch (i:=0) hI.yb (v:=.func (.yield l) #[] #[]) rfl;have dL:=Zd (fun B (hB:Bl A B)=>Zcx (n:=0).2 (xJ (w:=B) (hsi.later hB) (by omega)));have hlq:(c.Aa.length:Int)=(c.Aa.length:Int):=rfl;refine Zd6 Lp.func154 rfl trivial ?_ rfl;simp only[agR,Zbm,zb,zR,ZaF,Zcw,ZaN,ZaM,Zbn,Za4,zP,Za1]
  gi_wp2
  refine wpIn_region_any (by kernel_rfl) ?_;change wpAnyIn _ _ _ _ _ _ _ _ _ A.drew;refine Yq (rs:=[0,1]) (by kernel_rfl) (by simp) ?_;refine zA rfl (fun K hK=>?_) (zA rfl (fun K hK=>?_) zZ)
  .go_simp
   refine hK _ _ ?_;clear hK;refine Yq (rs:=[1]) (by kernel_rfl) (by simp) ?_;refine zA rfl (fun K hK=>?_) zZ
   go_simp
   refine hK _ _ ?_;clear hK;refine Yq (rs:=[2]) (by kernel_rfl) (by simp) ?_;refine zA rfl (fun K hK=>?_) zZ
   go_simp
   refine⟨trivial,rfl,?_⟩;refine(dL.out A.drew (Zh _ _).drew).mono ?_;rintro e w1 ⟨u,rfl,hB,hu⟩;refine hK _ _ ?_;clear hK;have Bg:Bl A w1:=(Zh _ _).drew.trans (hB.mono (Zj _));obtain⟨fn,tmps,assign,body,hy,hR⟩:=hY pre p u A w1 hj (Ak.later Bg) hz hN hu;refine Yq (rs:=[3]) (by kernel_rfl) (by simp) ?_;refine zA rfl (fun K hK=>?_) zZ
   go_simp
   refine⟨rfl,?_⟩;refine hR.mono ?_;rintro e w2 ⟨rfl,xK,D3⟩;refine hK _ _ ?_;clear hK hR hy;refine Yq (rs:=[4]) (by kernel_rfl) (by simp) ?_;refine zA rfl (fun K hK=>?_) zZ
   go_simp
   refine hK _ _ ?_;clear hK;refine wpAnyIn_done (by kernel_rfl) ?_ _;have mJ:=(hI.Ar (Ak.later Bg)).Ar D3;have EB:n0+4<=w2.heap.size:=Zr (Zr hz Bg.size) D3.size;clear D3 Bg hu
   gi_wp2
   refine ZN (results_tmp rfl _ _ _) rfl ?_;exact⟨rfl,mJ,xK,EB⟩
  .go_simp
   refine hK _ _ ?_;clear hK;refine Yq (rs:=[0,2]) (by kernel_rfl) (by simp) ?_;refine zA rfl (fun K hK=>?_) (zA rfl (fun K hK=>?_) zZ)
   .go_simp
    refine hK _ _ ?_;clear hK;refine Yq (rs:=[2]) (by kernel_rfl) (by simp) ?_;refine zA rfl (fun K hK=>?_) zZ
    go_simp
    refine⟨trivial,rfl,?_⟩;refine(dL.out A.drew (Zh _ _).drew).mono ?_;rintro e w1 ⟨u,rfl,hB,hu⟩;refine hK _ _ ?_;clear hK;have Bg:Bl A w1:=(Zh _ _).drew.trans (hB.mono (Zj _));obtain⟨fn,tmps,assign,body,hy,hR⟩:=hY pre p u A w1 hj (Ak.later Bg) hz hN hu;refine Yq (rs:=[3]) (by kernel_rfl) (by simp) ?_;refine zA rfl (fun K hK=>?_) zZ
    go_simp
    refine⟨rfl,?_⟩;refine hR.mono ?_;rintro e w2 ⟨rfl,xK,D3⟩;refine hK _ _ ?_;clear hK hR hy;refine Yq (rs:=[4]) (by kernel_rfl) (by simp) ?_;refine zA rfl (fun K hK=>?_) zZ
    go_simp
    refine hK _ _ ?_;clear hK;refine wpAnyIn_done (by kernel_rfl) ?_ _;have mJ:=(hI.Ar (Ak.later Bg)).Ar D3;have EB:n0+4<=w2.heap.size:=Zr (Zr hz Bg.size) D3.size;clear D3 Bg hu
    gi_wp2
    refine ZN (results_tmp rfl _ _ _) rfl ?_;exact⟨rfl,mJ,xK,EB⟩
   .go_simp
    refine⟨trivial,rfl,?_⟩;refine(dL.out A.drew (Zh _ _).drew).mono ?_;rintro e w1 ⟨u,rfl,hB,hu⟩;refine hK _ _ ?_;clear hK;have Bg:Bl A w1:=(Zh _ _).drew.trans (hB.mono (Zj _));have k3:=(Bg.cell (p:=⟨n0,0,none⟩) (by show n0<_;omega)).trans k2;refine Yq (rs:=[0]) (by kernel_rfl) (by simp) ?_;refine zA rfl (fun K hK=>?_) zZ
    go_simp
    refine hK _ _ ?_;clear hK;clear k3;obtain⟨fn,tmps,assign,body,hy,hR⟩:=hY pre p u A w1 hj (Ak.later Bg) hz hN hu;refine Yq (rs:=[3]) (by kernel_rfl) (by simp) ?_;refine zA rfl (fun K hK=>?_) zZ
    go_simp
    refine⟨rfl,?_⟩;refine hR.mono ?_;rintro e w2 ⟨rfl,xK,D3⟩;refine hK _ _ ?_;clear hK hR hy;refine Yq (rs:=[4]) (by kernel_rfl) (by simp) ?_;refine zA rfl (fun K hK=>?_) zZ
    go_simp
    refine hK _ _ ?_;clear hK;refine wpAnyIn_done (by kernel_rfl) ?_ _;have mJ:=(hI.Ar (Ak.later Bg)).Ar D3;have EB:n0+4<=w2.heap.size:=Zr (Zr hz Bg.size) D3.size;clear D3 Bg hu
    gi_wp2
    refine ZN (results_tmp rfl _ _ _) rfl ?_;exact⟨rfl,mJ,xK,EB⟩
 |succ k ih=>
  intro i p pre A uB hp hI hj hz hN;have rU:i<c.Aa.length:=by omega
  have ax0:(i:Int)<(c.Aa.length:Int):=by omega
  have BL:((i:Int)==(c.Aa.length:Int))=false:=by simp;omega
  have IX:=DJ;obtain⟨MM,LO⟩:=B_ i rU;obtain⟨m,hm⟩:∃m,m=((Aj c.Aa i).high+1 - (Aj c.Aa i).low).toNat:=⟨_,rfl⟩;have FJ:EZ (c.Aa.drop i)=WL (Aj c.Aa i).low (c.Aa.drop (i+1)) m:=by rw[kV rU,hm];rfl
  rw[FJ]at hN⊢;obtain⟨lo,mK⟩:∃lo,lo=(Aj c.Aa i).low:=⟨_,rfl⟩;obtain⟨hi,hhi⟩:∃hi,hi=(Aj c.Aa i).high:=⟨_,rfl⟩;rw[<-mK, <-hhi]at hm;rw[<-mK]at MM hN FJ⊢;rw[<-hhi]at LO;obtain⟨a4,c4,rfl,l4,m4⟩:=hI.rc.Aa.val;have Si:∀B,IT S n0 l bg v1 v2 v3 (.slice a4 c.Aa.length c4) v5 ab c p B->∃b o,a4=some ⟨b,o,none⟩/\B.cell? ⟨b,o+i*5,none⟩=some (C .i64 lo)/\B.cell? ⟨b,o+i*5+1,none⟩=some (C .i64 hi):=fun B h=>by
   obtain⟨b,o,_,_,e,_,x1,x2,_⟩:=h.rc.Aa.at_ rU;rw[mK,hhi];exact⟨b,o,e,x1,x2⟩
  obtain⟨b,o,rfl,kl,kh⟩:=Si A hI;have k3:=ch (i:=3) hI.gb (v:=.slice (some ⟨b,o,none⟩) c.Aa.length c4) rfl;have k1:=ch (i:=0) hI.sb (v:=.slice (some ⟨n0+1,0,none⟩) c.Aa.length c.Aa.length) rfl;clear mK hhi FJ;refine Zd6 Lp.func154 rfl trivial ?_ rfl;simp only[agR,Zbm,zb,zR,ZaF,Zcw,ZaN,ZaM,Zbn,Za4,zP,Za1]
  gi_wp2
  clear k1 k3 kl kh
  gi_loopg [7] m (fun g v wr=>∃q:Nat,q<=m/\g=m - q/\v=.int .i64 (lo+q)/\IT S n0 l bg v1 v2 v3 (.slice (some ⟨b,o,none⟩) c.Aa.length c4) v5 ab c p wr/\J (pre++(WL lo (c.Aa.drop (i+1)) q).map (p++ ·)) wr/\n0+4<=wr.heap.size)
  case atStart=>exact⟨0,Zp _,rfl,by simp,hI,by simpa[WL]using hj,hz⟩
  obtain⟨q,hq,rfl,rfl,xL,hjr,hzr⟩:=hrel;obtain⟨_,_,e,_,kh⟩:=Si wr xL;cases e;have k3:=ch (i:=3) xL.gb (v:=.slice (some ⟨b,o,none⟩) c.Aa.length c4) rfl;have k1:=ch (i:=0) xL.sb (v:=.slice (some ⟨n0+1,0,none⟩) c.Aa.length c.Aa.length) rfl;by_cases Az:q<m
  .have hle:lo+(q:Int)<=hi:=by omega
   obtain⟨tl,hl,Ci⟩:=xL.row;have kr:wr.cell? ⟨n0+1,i,none⟩=some (C .i64 (nth (p++tl) i)):=ch Ci (by rw[ZG,YL,Bn (by omega)];rfl);have fr:=cf (i:=i) Ci;have k4:=ch (i:=0) xL.fb (v:=.func (.func 55) #[] #[.pointer (some ⟨n0+2,0,none⟩),.pointer (some ⟨n0,0,none⟩),.pointer (some ⟨bg,0,none⟩),.pointer (some ⟨n0+3,0,none⟩)]) rfl;have mJ:=xL.step hb (by omega) (lo+(q:Int));rw[hp]at mJ;have xK:=hJ _ _ _ hjr ((Ak.refl (Kp n0 4) wr).set (q:=n0+1) (i:=i) (v:=.int .i64 (lo+(q:Int))) (by unfold Kp;omega));have hN2:(pre++(WL lo (c.Aa.drop (i+1)) q).map (p++ ·))++(EZ (c.Aa.drop (i+1))).map ((p++ [lo+(q:Int)])++ ·)<+:xs:=by
    have h1:=(qu (lo:=lo) (rest:=c.Aa.drop (i+1)) (show q+1<=m from Az)).map (p++ ·);rw[Pb,Zai]at h1;have h2:=((List.prefix_append_right_inj pre).2 h1).trans hN;simpa[ZdQ,Zae]using h2
   have H:=Zd (ih (i+1) (p++ [lo+(q:Int)]) _ _ (by omega) (by simp;omega) mJ xK (by simpa using hzr) hN2);clear mJ xK hN2 xL hjr Ci hl
   gi_wp2
   refine⟨trivial,rfl,?_⟩;refine CallsIn.mono H.out ?_;rintro e w1 ⟨rfl,hI3,hj3,Rb⟩
   gi_wp2
   gi_roundg (m - (q+1))
   case rel=>
    refine⟨q+1,Az,rfl,by go_num,hI3.cut,?_,Rb⟩;rw[Pb,Zai, <-Zae];simpa[ZdQ,Zae]using hj3
   omega
  have hle:hi<lo+(q:Int):=by omega
  have TC:q=m:=by omega
  subst TC
  gi_wp2
  refine ZN (results_tmp rfl _ _ _) rfl ?_;exact⟨rfl,xL,hjr,hzr⟩
attribute [local go_sem] Zdk
def uL (n:Nat)(hn:n<=1000)(w:Zb):(Zdp 22 (C .i64 n) (C .i64 n)).run Lp w=.ok (.slice (some ⟨w.heap.size,0,none⟩) n n) (w.alloc (.cells (List.replicate n (ZL .i64 0)).toArray 3)):=by
 obtain⟨i0,hi,Fl,DR,EB⟩:=zp KY;have h:=run_make (P:=Lp) w 22 3 i0 (C .i64 0) (Cz YE) (Dz hi) Fl .i64 .i64 n n (by omega) (Int.le_refl _) (by rw[EB];omega) (by omega);rw[h,DR];simp only[Int.toNat_natCast]
 congr 3
 apply Array.ext
 .simp[madeCells]
 intro i h1 h2;simp[madeCells,Value.cells,Nat.mod_one]
def qv (hg:w0.heap[bg]?=some (.cells (AW v1 v2 v3 v4 v5 ab) 62 (0,0)))(hR:RC S w0 v1 v2 v3 v4 v5 c)(hS:∀b,S b->b<w0.heap.size)
 (Jm:c.Aa.length<=3) (B_:∀i,i<c.Aa.length->-2<=(Aj c.Aa i).low/\(Aj c.Aa i).high<=2):ahx Lp 54 #[.pointer (some ⟨bg,0,none⟩)] 4 (fun k=>S k\/k=bg) (EH c) w0:=by
 intro l J W hW hK hJ0 hJ hY;have hbg:=(Za.1 hg).1;have hb:∀b,S b\/b=bg->b<W.heap.size:=fun b h=>by
  rcases h with h|rfl
  .exact Zl (hS b h) hW
  exact Zl hbg hW
 have hgW:=(hK bg (.inr rfl) hbg).trans hg;have hRW:RC S W v1 v2 v3 v4 v5 c:=hR.Ar fun b h1 h2=>hK b (.inl h1) h2;obtain⟨a4,c4,rfl,l4,m4⟩:=hRW.Aa.val;have IX:=DJ;have k3:=ch (i:=3) hgW (v:=.slice a4 c.Aa.length c4) rfl;have aoD:=Zd (fun k i p pre A=>aoB (S:=S) (n0:=W.heap.size) (l:=l) (bg:=bg) (xs:=EH c) (v1:=v1) (v2:=v2) (v3:=v3) (v4:=.slice a4 c.Aa.length c4) (v5:=v5) (ab:=ab) (c:=c) (J:=J) hJ hY hb Jm B_ k i p pre A);have hmk:=uL c.Aa.length (by omega);refine Zd6 Lp.func153 rfl trivial ?_ rfl;show Code.wpIn _ _ _ _ _ {tmps:= #[.func (.yield l) #[] #[],.pointer (some ⟨bg,0,none⟩)]++_,defers:=[]} _;simp only[anv,Zbm,zb,zR,ZaF,Zcw,ZaN,ZaM,Zbn,Za4,zP,Za1]
 gi_wp2
 refine⟨trivial,rfl,?_⟩;obtain⟨os,Xk⟩:∃os:List Obj,os=[.cells #[.func (.yield l) #[] #[]] 43,.cells (Yu c.Aa.length (C .i64 0)) 3,.cells #[.slice (some ⟨W.heap.size+1,0,none⟩) c.Aa.length c.Aa.length] 22,.cells #[.func (.func 55) #[] #[.pointer (some ⟨W.heap.size+2,0,none⟩),.pointer (some ⟨W.heap.size,0,none⟩),.pointer (some ⟨bg,0,none⟩),.pointer (some ⟨W.heap.size+3,0,none⟩)]] 55]:=⟨_,rfl⟩;have hB:=JY os W;have hA:=WK os W;have hZ:=Pa os W;have hL:os.length=4:=by rw[Xk];rfl
 have hA0:=(hA 0 (by omega)).trans (show os[0]?=some (.cells #[.func (.yield l) #[] #[]] 43) by rw[Xk];rfl);have oT:=(hA 1 (by omega)).trans (show os[1]?=some (.cells (Yu c.Aa.length (C .i64 0)) 3) by rw[Xk];rfl);have aT:=(hA 2 (by omega)).trans (show os[2]?=some (.cells #[.slice (some ⟨W.heap.size+1,0,none⟩) c.Aa.length c.Aa.length] 22) by rw[Xk];rfl);have xa:=(hA 3 (by omega)).trans (show os[3]?=some (.cells #[.func (.func 55) #[] #[.pointer (some ⟨W.heap.size+2,0,none⟩),.pointer (some ⟨W.heap.size,0,none⟩),.pointer (some ⟨bg,0,none⟩),.pointer (some ⟨W.heap.size+3,0,none⟩)]] 55) by rw[Xk];rfl);obtain⟨W4,ED⟩:∃W4,W4=os.foldl Zaz W:=⟨_,rfl⟩;rw[<-ED]at hB hZ hA0 oT aT xa;rw[hL]at hZ;rw[Xk]at ED;change W4=(((W.alloc _).alloc _).alloc _).alloc _ at ED;change CallsIn _ _ _ _ _ ((((W.alloc _).alloc _).alloc _).alloc _) _;rw[<-ED];clear ED hA Xk hL;have hIT:IT S W.heap.size l bg v1 v2 v3 (.slice a4 c.Aa.length c4) v5 ab c [] W4:=
  ⟨hA0,⟨List.replicate c.Aa.length 0,by simp,by rw[oT];simp⟩,aT,xa,(hB.block _ (hb bg (.inr rfl))).trans hgW,hRW.Ar fun b h _=>hB.block b (hb b (.inl h))⟩
 have hJ4:=hJ0 W4 hB (by omega);refine(aoD.out c.Aa.length 0 [] [] W4 (by omega) rfl hIT hJ4 (by omega) (by simp[EH])).mono ?_;rintro e W5 ⟨rfl,_,hJ5,_⟩
 gi_wp2
 go_end0
 refine⟨⟨_,rfl⟩,?_⟩;simpa[EH]using hJ5
def ahC (xs:Array Zf)(hx:xs.size=8)(h1:∀x∈xs.toList,x.oneCell'=true)(w:Zb):Calls Lp 24 #[.agg xs] w fun e w'=>e=.returned (.func (.func 54) #[] #[.pointer (some ⟨w.heap.size,0,none⟩)])/\w'=w.alloc (.cells xs 62):=by
 go_enter Lp.func103,anc;go_wp2;go_ret;exact⟨rfl,rfl⟩
attribute [local go_sem] Zdk
structure AQ (w:Zb)(base:Nat)(pre:List (List Int))(A:Zb):Prop where
 below:Bl w A
 size:base<=A.heap.size
 box:∃v vals,A.heap[w.heap.size]?=some (.cells #[v] 33 (0,0))/\A.ownsRow base 22 1 v pre.length vals/\∀(i:Nat) (x:List Int),pre[i]?=some x->∃u,vals[i]?=some u/\SI (J1 3 base A) A u x
def Dx {base:Nat}(hT:Ak T A B)(hx:∀b,J1 e base A b->¬T b){x:List Int}(h:SI (J1 e base A) A u x):SI (J1 e base B) B u x:=
 Sl.imp (h.Ar (hT.same hx)) (fun b hb=>⟨⟨hb.1.1,Zl hb.1.2 hT.size⟩,by rw[hT.block b hb.1.2 (hx b hb)];exact hb.2⟩) (fun _ _ x=>x)
def CO {n base:Nat}{xs:List Zf}(hT:Ak T A B)(hx:∀b,base<=b->¬T b)(h:A.ownsRow base e k v n xs):B.ownsRow base e k v n xs:=by
 refine⟨h.1,?_⟩;rcases h.2 with h1|⟨g,cap,cur,h1,h2,h3,h4⟩
 .exact .inl h1
 exact .inr ⟨g,cap,cur,h1,h2,(hT.block g (Za.1 h3).1 (hx g h2)).trans h3,h4⟩
def Ak.grown {row:Option Nat}(h:A.grownBy B row)(hr:∀k,row=some k->T k):Ak T A B:=
 ⟨h.os,h.tape,h.output,h.size,fun k hk ht=>h.block k hk fun e=>ht (hr k e.symm)⟩
def AQ.CN {base n:Nat}{pre:List (List Int)}(h:AQ w base pre A)(hn:w.heap.size<n)(hb:base=n+m)(hT:Ak (Kp n m) A B):AQ w base pre B:=by
 have hx:∀b,base<=b->¬Kp n m b:=fun b h1 h2=>by unfold Kp at h2;omega
 obtain⟨v,vals,h1,h2,h3⟩:=h.box;refine⟨h.below.trans (hT.below (fun k hk=>by unfold Kp at hk;omega) h.below.size),Zr h.size hT.size,v,vals,(hT.block _ (Za.1 h1).1 (by unfold Kp;omega)).trans h1,CO hT hx h2,fun i x hi=>?_⟩;obtain⟨u,hu,hs⟩:=h3 i x hi;exact⟨u,hu,Dx hT (fun b hb=>hx b hb.1.1) hs⟩
variable {vals:List Zf}
def WM {base n:Nat}(h:A.ownsRow base 22 1 v ls.length vals)(hn:n<=base)(hv:∀(i:Nat) (x:List Int),ls[i]?=some x->∃u,vals[i]?=some u/\SI (Cb n A) A u x):SL (Cb n A) A v ls:=by
 obtain⟨a,c,h1,h2,h3,h4⟩:=U7 h;refine⟨a,c,h1,h2,h3,fun i x hx=>?_⟩;obtain⟨u,hu,hs⟩:=hv i x hx;obtain⟨b,hb,hN,hc⟩:=h4 i u hu;refine⟨b,0,[u],hb,⟨Zr hn hN.1,hN.2⟩,rfl,fun j y hy=>?_,u,rfl,hs⟩;cases j with
 |zero=>cases hy;exact hc
 |succ j=>cases hy
def aoE (hg:w.heap[bg]?=some (.cells (AW v1 v2 v3 v4 v5 ab) 62 (0,0)))(hR:RC S w v1 v2 v3 v4 v5 c)(hS:∀b,S b->b<w.heap.size)
 (Jm:c.Aa.length<=3) (B_:∀i,i<c.Aa.length->-2<=(Aj c.Aa i).low/\(Aj c.Aa i).high<=2):
  CallsIn ZbC 0 Lp 53 #[.slice none 0 0,.func (.func 54) #[] #[.pointer (some ⟨bg,0,none⟩)]] w fun e w'=>∃v,e=.returned v/\Bl w w'/\SL (Cb w.heap.size w') w' v (EH c):=by
 have eZ:=qv hg hR hS Jm B_;have hbg:=(Za.1 hg).1;obtain⟨K,hK⟩:∃K:Nat->Prop,K=fun k=>S k\/k=bg:=⟨_,rfl⟩;have ju:∀k,K k->k<w.heap.size:=fun k h=>by
  rw[hK]at h;rcases h with h|rfl
  .exact hS k h
  exact hbg
 rw[<-hK]at eZ;clear hK;have hN:(EH c).length<=125:=by
  have:=H7 c.Aa B_;have h2:5^c.Aa.length<=5^3:=YX (by decide) Jm;exact Zr this h2
 obtain⟨i0,hi,Fl,DR,EB⟩:=zp Hw;have hu:=Cz zW;refine callsIn_of_wp_marks Lp.func152 rfl trivial ?_ rfl;show Code.wpIn _ _ _ _ _ {tmps:= #[.slice none 0 0,.func (.func 54) #[] #[.pointer (some ⟨bg,0,none⟩)]]++_,defers:=[]} _;simp only[anu,Zbm,zb,zR,ZaF,Zcw,ZaN,ZaM,Zbn,Za4,zP,Za1]
 gi_wp2
 obtain⟨W,hW⟩:∃W,W=w.alloc (.cells #[.slice none 0 0] 33):=⟨_,rfl⟩;have hB:Bl w W:=by rw[hW];exact bA (Zh _ _)
 have hZ:W.heap.size=w.heap.size+1:=by rw[hW];simp
 have hX:W.heap[w.heap.size]?=some (.cells #[.slice none 0 0] 33 (0,0)):=by rw[hW];exact Bp _ _
 rw[<-hW];clear hW;refine Vm (gf:=54) (lb:= #[.pointer (some ⟨bg,0,none⟩)]) rfl (Go.Proofs.enters_of Lp.func153 (by kernel_rfl) rfl) eZ hB.size (fun k hk=>?_) (AQ w (W.heap.size+6)) (fun A hA hs=>?_) (fun pre A B h hT=>h.CN (by omega) rfl hT)
  (fun u=> {tmps:= #[.slice none 0 0,.func (.func 54) #[] #[.pointer (some ⟨bg,0,none⟩)],.pointer (some ⟨w.heap.size,0,none⟩),Ze,.slice none 0 0,u,.func (.func 54) #[] #[.pointer (some ⟨bg,0,none⟩)],u,Ze,Ze,Ze,Ze,Ze],defers:=[]}) ?assign ?body ?done
 .exact⟨ju k hk,hB.block k (ju k hk)⟩
 .exact⟨hB.trans (hA.mono hB.size),by omega,_,[],(hA.block _ (by omega)).trans hX,zq _ _ _ _,fun i x hx=>by cases hx⟩
 case assign=>
  rintro l u W' K ⟨ad,n,cc,rfl⟩ hK
  gi_wp2
  exact hK
 case body=>
  intro l pre x u A0 A hI0 hT hz hlen iA;have hlen:=hlen.length_le;rw[ZA,zb,zR]at hlen;have hI:=hI0.CN (by omega) rfl hT;obtain⟨v,vals,FY,Ci,DF⟩:=hI.box;obtain⟨ad,cc,rfl,lu,mu⟩:=iA.val;have hzA:W.heap.size+6<=A.heap.size:=hI.size;have hwW:w.heap.size<W.heap.size:=by omega
  have HZ:=Zd hZ;clear hZ;have kb:=ch (i:=0) FY (v:=v) rfl;have fb:=cf (i:=0) FY
  gi_wp2_with (gi_at_builtin;refine wpListIn_append_own _ rfl _ _ 33 rfl (W.heap.size+6) 22 i0 (.slice none 0 0) 1 24 hu (Dz hi) Fl DR EB rfl (by decide) _ _ _ rfl (Ci.alloc _) ⟨A.heap.size,0,none⟩ 1 1 [.slice ad x.length cc] rfl rfl (cell_one_new _ _ _) (by simp[YT]) (by unfold maxLen;omega) (by omega) (by simp;omega) ?_;intro v' w1 Bi AG Gc;obtain⟨g',Ey,rfl⟩:=Zay Bi;have S4:(A.alloc (.cells #[.slice ad x.length cc] 22)).grownBy w1 v.ownBlock:=AG;have Em:∀k,v.ownBlock=some k->W.heap.size+6<=k:=fun k hk=>(Ci.lt k hk).1;have PZ:w1.heap[w.heap.size]?=some (.cells #[v] 33 (0,0)):=(S4.block _ (by simp;omega) (fun e=>by have:=Em _ e.symm;omega)).trans (Bf FY _);have kb1:=ch (i:=0) PZ (v:=v) rfl;have fb1:=cf (i:=0) PZ)
  have kL:=HZ.out;have Kd:Ak (fun k=>¬Kp W.heap.size (4+2) k/\¬K k) A w1:=(Ak.later (bA (Zh _ _))).trans (Ak.grown S4 fun k hk=>by
   have:=Em k hk;exact⟨by unfold Kp;omega,fun h=>by have:=ju k h;omega⟩)
  have DR:A.heap.size<w1.heap.size:=by have:=S4.size;simp at this;omega
  have D3:∀(T:Nat->Prop),T w.heap.size->Ak T w1 (w1.setCell ⟨w.heap.size,0,none⟩ (.slice (some ⟨g',0,none⟩) (pre.length+1) Ey)):=fun T h=>(Ak.refl _ _).set h;refine⟨⟨?_,?_,_,vals++ [.slice ad x.length cc],Ba PZ _,?_,fun i y hy=>?_⟩,Kd.trans (D3 _ ⟨by unfold Kp;omega,fun h=>by have:=ju _ h;omega⟩)⟩
  .exact(Bm (bA hI.below) S4 (fun k hk=>by have:=Em k hk;omega) (by have:=hI.below.size;simp;omega)).trans ((D3 (fun k=>k=w.heap.size) rfl).below (fun k hk=>by omega) (by omega))
  .have:=(D3 (fun k=>k=w.heap.size) rfl).size
   omega
  .rw[ZA]
   exact CO (D3 (fun k=>k=w.heap.size) rfl) (fun b h1 h2=>by omega) Bi
  have key:∀u,SI (J1 3 (W.heap.size+6) A) A u y->SI (J1 3 (W.heap.size+6) (w1.setCell ⟨w.heap.size,0,none⟩ (.slice (some ⟨g',0,none⟩) (pre.length+1) Ey))) (w1.setCell ⟨w.heap.size,0,none⟩ (.slice (some ⟨g',0,none⟩) (pre.length+1) Ey)) u y:=fun u h=>by
   refine Dx (T:=fun k=>v.ownBlock=some k\/k=w.heap.size) (((Ak.later (bA (Zh _ _))).trans (Ak.grown S4 fun k hk=>.inl hk)).trans (D3 _ (.inr rfl))) (fun b hb h=>?_) h;rcases h with h|h
   .obtain⟨cs,hcs⟩:=hb.2
    rcases Ci.2 with⟨e,_⟩|⟨g,cap,cur,e,_,hg,_⟩
    .rw[e]at h;cases h
    rw[e]at h;cases h;rw[hg]at hcs;cases hcs
   have:=hb.1.1;omega
  by_cases Az:i<pre.length
  .rw[zl Az]at hy
   obtain⟨u,hu,hs⟩:=DF i y hy;exact⟨u,by rw[zl (Zm.1 hu).1];exact hu,key u hs⟩
  have aX:=(Zm.1 hy).1;rw[ZA,zb,zR]at aX;obtain rfl:i=pre.length:=by omega
  rw[Y1]at hy;cases hy;have uM:vals.length=pre.length:=by have:=Ci.1;omega
  refine⟨.slice ad x.length cc,by rw[<-uM,Y1],key _ (Sl.imp iA (fun b hb=>⟨⟨?_,hb.1.2⟩,hb.2⟩) (fun _ _ x=>x))⟩;have:=hb.1.1;omega
 intro A hI hD;obtain⟨v,vals,FY,Ci,DF⟩:=hI.box;have kb:=ch (i:=0) FY (v:=v) rfl;have HZ:=Zd hZ;clear hZ
 gi_wp2
 have kL:=HZ.out;have hT:Ak (fun k=>k=W.heap.size) A (A.putObj W.heap.size (.deferred none)):=(Ak.refl _ _).put rfl;have hBA:Bl w (A.putObj W.heap.size (.deferred none)):=hI.below.trans (hT.below (fun k hk=>by omega) hI.below.size);have Ox:=CO hT (fun b h1 h2=>by omega) Ci;have gI:∀(i:Nat) (x:List Int),(EH c)[i]?=some x->∃u,vals[i]?=some u/\SI (Cb w.heap.size (A.putObj W.heap.size (.deferred none))) (A.putObj W.heap.size (.deferred none)) u x:=fun i x hx=>by
  obtain⟨u,h1,h2⟩:=DF i x hx;exact⟨u,h1,Sl.imp (Dx hT (fun b hb h=>by have:=hb.1.1;omega) h2) (fun b hb=>⟨by have:=hb.1.1;omega,hb.1.2⟩) (fun _ _ x=>x)⟩
 refine⟨by simp,.inl ⟨_,_,rfl,run_takeDeferred hD,?_⟩⟩;exact⟨_,results_tmp rfl _ _ _,_,rfl,hBA,WM Ox (by omega) gI⟩
def aoH (hg:w.heap[bg]?=some (.cells (AW v1 v2 v3 v4 v5 ab) 62 (0,0)))(hR:RC S w v1 v2 v3 v4 v5 c)(hS:∀b,S b->b<w.heap.size)
 (Jm:c.Aa.length<=3) (B_:∀i,i<c.Aa.length->-2<=(Aj c.Aa i).low/\(Aj c.Aa i).high<=2):
  Calls Lp 23 #[.func (.func 54) #[] #[.pointer (some ⟨bg,0,none⟩)]] w fun e w'=>∃v,e=.returned v/\Bl w w'/\SL (Cb w.heap.size w') w' v (EH c):=by
 have aoI:=Zd (Zcx.1 (aoE hg hR hS Jm B_));go_enter Lp.func102,anb;go_wp2_with (go_at_call 53;refine aoI.out.mono ?_;rintro e w1 ⟨v,rfl,hB,hv⟩;obtain⟨a,cc,rfl,_⟩:=hv.val);go_ret;exact⟨_,rfl,hB,hv⟩
abbrev Key:=Int×(Int×Int×Int)×(Int×Int×Int)
def Dy (k:Key):Zf:=.agg #[C .i64 k.1,C .i64 k.2.1.1,C .i64 k.2.1.2.1,C .i64 k.2.1.2.2,C .i64 k.2.2.1,C .i64 k.2.2.2.1,C .i64 k.2.2.2.2]
def abL:Lp.underlying 134=some (.struct (Lp.fieldsOf 134)):=by kernel_rfl
def ahD:Lp.underlying 132=some (.array 3 3):=Cz Tryz.underlying132
def u3:Lp.underlying 3=some (.int .i64):=Cz Tryz.underlying3
def P2 (w:Zb)(xs:Array Zf)(i:Nat)(v:Int)(h:xs[i]?=some (C .i64 v)):(part 3 xs i).run Lp w=.ok (C .i64 v) w:=by
 have ha:∀w,(isAgg 3).run Lp w=.ok false w:=fun w=>Go.Proofs.run_isAgg_plain u3 rfl w;simp[part,zg,ha,zu,h]
def ahE (w:Zb)(d:Nat)(a b c x y z:Int):(ZaZ (d+2) 132 (.agg #[C .i64 a,C .i64 b,C .i64 c]) (.agg #[C .i64 x,C .i64 y,C .i64 z])).run Lp w=.ok (decide (a=x/\b=y/\c=z)) w:=by
 obtain⟨i0,hi,Fl,DR,EB⟩:=zp KY;have hc:Lp.cellsOf 3=1:=by kernel_rfl
 have he:∀w a b,(ZaZ (d+1) 3 (C .i64 a) (C .i64 b)).run Lp w=.ok (a==b) w:=fun w a b=>run_equalIn_int w d 3 .i64 .i64 a b u3;have p0:=fun w (a b c:Int)=>P2 w #[C .i64 a,C .i64 b,C .i64 c] 0 a rfl;have p1:=fun w (a b c:Int)=>P2 w #[C .i64 a,C .i64 b,C .i64 c] 1 b rfl;have p2:=fun w (a b c:Int)=>P2 w #[C .i64 a,C .i64 b,C .i64 c] 2 c rfl;rw[run_equalIn_array w (d+1) _ _ ahD (Dz hi),hc,show Yr 3=[0,1,2] from rfl];by_cases h1:a=x<;>by_cases h2:b=y<;>by_cases h3':c=z<;>simp[Op.eqItems,zg,p0,p1,p2,he,h1,h2,h3']
def iI (w:Zb)(xs:Array Zf)(i:Nat):(part 132 xs i).run Lp w=.ok (.agg (xs.extract i (i+3))) w:=by
 have ha:∀w,(isAgg 132).run Lp w=.ok true w:=fun w=>by kernel_rfl
 have hs:∀w,(sizeOf 132).run Lp w=.ok 3 w:=fun w=>by kernel_rfl
 simp[part,zg,ha,hs,zu]
def f213:Lp.fieldsOf 134= #[{name:= "singer",type:=3,offset:=0,embedded:=false,tag:= "",pkgPath:= "galloon/seam",byteOffset:=0}, {name:= "now",type:=132,offset:=1,embedded:=false,tag:= "",pkgPath:= "galloon/seam",byteOffset:=8}, {name:= "left",type:=132,offset:=4,embedded:=false,tag:= "",pkgPath:= "galloon/seam",byteOffset:=32}]:=by kernel_rfl
def xM (w:Zb)(k k':Key):(Zaa 134 (Dy k) (Dy k')).run Lp w=.ok (decide (k=k')) w:=by
 obtain⟨s,⟨a,b,c⟩,x,y,z⟩:=k;obtain⟨s',⟨a',b',c'⟩,x',y',z'⟩:=k';have he:∀w a b,(ZaZ 9999 3 (C .i64 a) (C .i64 b)).run Lp w=.ok (a==b) w:=fun w a b=>run_equalIn_int w 9998 3 .i64 .i64 a b u3;have qw:=fun w a b c x y z=>ahE w 9997 a b c x y z;simp only[ZaF]at qw;have p0:=fun w (s a b c x y z:Int)=>P2 w #[C .i64 s,C .i64 a,C .i64 b,C .i64 c,C .i64 x,C .i64 y,C .i64 z] 0 s rfl;unfold Zaa Op.maxDepth Dy;rw[run_equalIn_agg (d:=9999) (ht:=abL) (hp:=by kernel_rfl),f213];by_cases h1:s=s'<;>by_cases h2:a=a'/\b=b'/\c=c'<;>by_cases h3:x=x'/\y=y'/\z=z'<;>simp[Op.eqFields,zg,p0,iI,he,qw,h1,h2,h3]
def qy (w:Zb)(em:Bool)(n:Nat)(v:Int):(YD em (n+1) 3 (C .i64 v)).run Lp w=.ok () w:=by
 unfold YD;simp[zg,Y9 u3,zu]
def qz (w:Zb)(em:Bool)(n:Nat)(a b c:Int):(YD em (n+2) 132 (.agg #[C .i64 a,C .i64 b,C .i64 c])).run Lp w=.ok () w:=by
 have hs:∀w,(sizeOf 3).run Lp w=.ok 1 w:=fun w=>by kernel_rfl
 have p0:=fun w (a b c:Int)=>P2 w #[C .i64 a,C .i64 b,C .i64 c] 0 a rfl;have p1:=fun w (a b c:Int)=>P2 w #[C .i64 a,C .i64 b,C .i64 c] 1 b rfl;have p2:=fun w (a b c:Int)=>P2 w #[C .i64 a,C .i64 b,C .i64 c] 2 c rfl;unfold YD;simp only[zg,Y9 ahD,Zaw];simp only[Zdw,Std.Legacy.Range.size,Nat.sub_zero,Nat.add_one_sub_one,Nat.div_one];rw[show Zcq 0 3=[0,1,2] from rfl];simp[zg,hs,p0,p1,p2,qy,zu]
def Og (w:Zb)(em:Bool)(k:Key):(YD em 10000 134 (Dy k)).run Lp w=.ok () w:=by
 obtain⟨s,⟨a,b,c⟩,x,y,z⟩:=k;have p0:=fun w (s a b c x y z:Int)=>P2 w #[C .i64 s,C .i64 a,C .i64 b,C .i64 c,C .i64 x,C .i64 y,C .i64 z] 0 s rfl;have h3:=fun w v=>qy w em 9998 v;have qw:=fun w a b c=>qz w em 9997 a b c;simp only[ZaF]at h3 qw;unfold YD Dy;simp only[zg,Y9 abL,Zaw,f213];simp[zg,p0,iI,h3,qw,zu]
def qA (w:Zb)(k:Key):(Yi (Dy k) (Dy k)).run Lp w=.ok (Dy k) w:=by
 obtain⟨s,⟨a,b,c⟩,x,y,z⟩:=k;have h:zH 10000 (Dy (s,(a,b,c),x,y,z)) (Dy (s,(a,b,c),x,y,z))=true:=by
  simp[Dy,zH]
 simp[Yi,h]
def iJ (w:Zb)(k:Key):∀(es:List MapEntry) (i:Nat),(∀e∈es,∃k',e.key=Dy k')->
  ((zX 134 (Dy k) es i).run Lp w=.ok none w/\∀e∈es,e.key≠Dy k)\/∃j e,(zX 134 (Dy k) es i).run Lp w=.ok (some (i+j,e.val)) w/\es[j]?=some e/\e.key=Dy k
 | [],i,_=>.inl ⟨by simp[zX],fun e he=>by cases he⟩
 |e::es,i,h=>by
  obtain⟨k',hk⟩:=h e (zC ..);by_cases sZ:k=k'
  .subst sZ
   refine .inr ⟨0,e,?_,rfl,hk⟩;simp[zX,zg,hk,xM]
  have By:(zX 134 (Dy k) (e::es) i).run Lp w=(zX 134 (Dy k) es (i+1)).run Lp w:=by
   simp[zX,zg,hk,xM,sZ]
  rcases iJ w k es (i+1) fun x hx=>h x (zm _ hx) with⟨h1,h2⟩|⟨j,x,h1,h2,h3⟩
  .refine .inl ⟨By.trans h1,fun x hx=>?_⟩
   rcases List.mem_cons.1 hx with rfl|hx
   .rw[hk]
    intro e;apply sZ;obtain⟨s,⟨a,b,c⟩,x,y,z⟩:=k;obtain⟨s',⟨a',b',c'⟩,x',y',z'⟩:=k';simp[Dy]at e;simp[e]
   exact h2 x hx
  exact .inr ⟨j+1,x,by rw[By,h1];simp;omega,h2,h3⟩
def Td (w:Zb)(k:Key)(es:List MapEntry)(h:∀e∈es,∃k',e.key=Dy k'):
  ((Zaj 134 (Dy k) es).run Lp w=.ok none w)\/∃j e,(Zaj 134 (Dy k) es).run Lp w=.ok (some (j,e.val)) w/\es[j]?=some e/\e.key=Dy k:=by
 have e:(Zaj 134 (Dy k) es).run Lp w=(zX 134 (Dy k) es 0).run Lp w:=by
  unfold Zaj;simp only[zg,Y9 abL,Zaw];cases es with
  |nil=>simp[ZaJ,zX]
  |cons x r=>simp[ZaJ,Zbj]
 rw[e];rcases iJ w k es 0 h with⟨h1,_⟩|⟨j,x,h1,h2,h3⟩
 .exact .inl h1
 exact .inr ⟨j,x,by simpa using h1,h2,h3⟩
def Gy (G:Key->Zf->Zb->Prop)(b:Nat)(w:Zb):Prop:=∃es clk,w.heap[b]?=some (.map es clk)/\∀e∈es.toList,∃k,e.key=Dy k/\G k e.val w
def uN:Lp.underlying 67=some (.map 134 77):=Cz Tryz.underlying67
def uO (w:Zb):(zeroValue 77).run Lp w=.ok (.agg #[.slice none 0 0,C .i64 0,.bool false]) w:=by kernel_rfl
def uP {G:Key->Zf->Zb->Prop}(h:Gy G b w)(k:Key):
  (Za2 67 (.map (some b)) (Dy k) true).run Lp w=.ok (.tuple #[.agg #[.slice none 0 0,C .i64 0,.bool false],.bool false]) w\/∃v,(Za2 67 (.map (some b)) (Dy k) true).run Lp w=.ok (.tuple #[v,.bool true]) w/\∃k',Dy k'=Dy k/\G k' v w:=by
 obtain⟨es,clk,hb,he⟩:=h;have hg:(getObj b).run Lp w=.ok (.map es clk) w:=by simp[getObj,Sem.run,hb]
 rcases Td w k es.toList fun e h=>by obtain⟨k',h1,_⟩:=he e h;exact⟨k',h1⟩ with h1|⟨j,e,h1,h2,h3⟩
 .left
  simp[Za2,zg,Y9 uN,hg,Og,h1,uO,zu]
 right;obtain⟨k',h4,h5⟩:=he e (Z3 h2);refine⟨e.val,?_,k',h4.symm.trans h3,h5⟩;simp[Za2,zg,Y9 uN,hg,Og,h1,zu]
def kW {G:Key->Zf->Zb->Prop}{k:Key}(h:Gy G b w)(hv:∀es clk,G k v (w.putObj b (.map es clk)))(hk:∀k' v' es clk,G k' v' w->G k' v' (w.putObj b (.map es clk))):
  ∃es clk,(ZaS 67 (.map (some b)) (Dy k) v).run Lp w=.ok () (w.putObj b (.map es clk))/\Gy G b (w.putObj b (.map es clk)):=by
 obtain⟨es,clk,hb,he⟩:=h;have hg:(getObj b).run Lp w=.ok (.map es clk) w:=by simp[getObj,Sem.run,hb]
 have Az:=(Za.1 hb).1;have hs:∀o,(setObj b o).run Lp w=.ok () (w.putObj b o):=fun o=>by simp[setObj,Sem.run,hb,World.putObj]
 rcases Td w k es.toList fun e h=>by obtain⟨k',h1,_⟩:=he e h;exact⟨k',h1⟩ with h1|⟨j,e,h1,h2,h3⟩
 .refine⟨es.push {key:=Dy k,val:=v,born:=clk},clk+1,?_,_,_,Zau Az,fun e he'=>?_⟩
  .simp[ZaS,zg,Y9 uN,hg,Og,h1,hs,zu]
  rw[Array.toList_push]at he';rcases Zab.1 he' with h|h
  .obtain⟨k',h4,h5⟩:=he e h
   exact⟨k',h4,hk _ _ _ _ h5⟩
  rw[Yh.1 h];exact⟨k,rfl,hv _ _⟩
 have hj:es[j]?=some e:=by simpa using h2
 refine⟨es.modify j fun e=> {e with key:=Dy k,val:=v},clk,?_,_,_,Zau Az,fun x hx=>?_⟩
 .simp[ZaS,zg,Y9 uN,hg,Og,h1,hj,h3,qA,hs,zu]
 obtain⟨i,hi,rfl⟩:=Zas hx;have DN:i<es.size:=by simpa using hi
 simp only[Array.getElem_toList,Array.getElem_modify];split
 .exact⟨k,rfl,hv _ _⟩
 obtain⟨k',h4,h5⟩:=he es[i] (by simp);exact⟨k',h4,hk _ _ _ _ h5⟩
def LT (w:Zb)(b:Nat):Prop:=∃cs e,w.heap[b]?=some (.cells cs e (0,0))/\(e=3\/e=22)
def LS (n0 mb:Nat)(w:Zb)(b:Nat):Prop:=(b<n0/\b≠mb/\b<w.heap.size)\/LT w b
def Kept (n0 mb:Nat)(w w':Zb):Prop:=∀b,LS n0 mb w b->w'.heap[b]?=w.heap[b]?
def LL (n0 mb:Nat)(w:Zb)(u:Zf)(ls:List (List Int)):Prop:=SL (LS n0 mb w) w u ls
section
variable {n0 mb:Nat}{w w' Xd:Zb}{u:Zf}{ls:List (List Int)}
def LS.lt {b:Nat}(h:LS n0 mb w b):b<w.heap.size:=by
 rcases h with h|⟨cs,e,h,_⟩
 .exact h.2.2
 exact(Za.1 h).1
def LS.Ar (h:LS n0 mb w b)(hk:Kept n0 mb w w'):LS n0 mb w' b:=by
 have e:=hk b h;have hl:=h.lt;have Az:b<w'.heap.size:=by
  rw[Zx hl]at e;exact(Za.1 e).1
 rcases h with h|⟨cs,e',h,h2⟩
 .exact .inl ⟨h.1,h.2.1,Az⟩
 exact .inr ⟨cs,e',e.trans h,h2⟩
def LL.Ar (h:LL n0 mb w u ls)(hk:Kept n0 mb w w'):LL n0 mb w' u ls:=
 Sl.imp (SL.Ar h (w':=w') fun b hb _=>hk b hb) (fun _ hb=>hb.Ar hk) (fun _ _ ⟨u,e,h⟩=>⟨u,e,Sl.imp h (fun _ hb=>hb.Ar hk) fun _ _ x=>x⟩)
def Kept.refl (n0 mb:Nat)(w:Zb):Kept n0 mb w w:=fun _ _=>rfl
def Kept.trans (h:Kept n0 mb w w')(k:Kept n0 mb w' Xd):Kept n0 mb w Xd:=fun b hb=>(k b (hb.Ar h)).trans (h b hb)
def Kept.WN (h:B3 mb w w')(hm:∃es clk,w.heap[mb]?=some (.map es clk)):Kept n0 mb w w':=fun b hb=>h.block b hb.lt (by
 rcases hb with hb|⟨cs,e,hb,_⟩
 .exact hb.2.1
 rintro rfl;obtain⟨es,clk,hm⟩:=hm;rw[hb]at hm;cases hm)
def Kept.later (h:Bl w w'):Kept n0 mb w w':=fun b hb=>h.block b hb.lt
variable {cs:Array Zf}
def Kept.set (hq:w.heap[q]?=some (.cells cs e (0,0)))(he:e≠3/\e≠22)(hn:n0<=q):Kept n0 mb w (w.setCell ⟨q,i,none⟩ v):=fun b hb=>AZ (by
 rintro rfl;rcases hb with hb|⟨cs',e',hb,h2⟩
 .omega
 rw[hb]at hq;cases hq;rcases h2 with h2|h2
 .exact he.1 h2
 exact he.2 h2) _
def Kept.row {ys:Array Zf}(hq:w.heap[q]?=some (.cells cs e (0,0)))(he:e≠3/\e≠22)(hn:n0<=q):Kept n0 mb w (w.setRow q ys):=fun b hb=>setRow_other _ _ _ _ (by
 rintro rfl;rcases hb with hb|⟨cs',e',hb,h2⟩
 .omega
 rw[hb]at hq;cases hq;rcases h2 with h2|h2
 .exact he.1 h2
 exact he.2 h2)
variable {o:Obj}
def Kept.put (hm:∃es clk,w.heap[mb]?=some (.map es clk)):Kept n0 mb w (w.putObj mb o):=fun b hb=>zG (by
 rintro rfl;rcases hb with hb|⟨cs,e,hb,_⟩
 .exact hb.2.1 rfl
 obtain⟨es,clk,hm⟩:=hm;rw[hb]at hm;cases hm)
end
def Lh (n0 mb:Nat)(w:Zb)(v:Zf):Option (List (List Int)×Int)->Prop
 |none=>v=.agg #[.slice none 0 0,C .i64 0,.bool false]
 |some p=>∃u,v=.agg #[u,C .i64 p.2,.bool true]/\LL n0 mb w u p.1
def Lh.Ar {n0 mb:Nat}{w w':Zb}{v:Zf}{r:Option (List (List Int)×Int)}(h:Lh n0 mb w v r)(hk:Kept n0 mb w w'):Lh n0 mb w' v r:=by
 cases r with
 |none=>exact h
 |some p=>
  obtain⟨u,h1,h2⟩:=h;exact⟨u,h1,h2.Ar hk⟩
def Lh.val {n0 mb:Nat}{w:Zb}{v:Zf}{r:Option (List (List Int)×Int)}(h:Lh n0 mb w v r):∃a n c m s,v=.agg #[.slice a n c,C .i64 m,.bool s]/\s=r.isSome/\(∀p,r=some p->m=p.2/\LL n0 mb w (.slice a n c) p.1)/\(r=none->a=none/\n=0/\c=0/\m=0):=by
 cases r with
 |none=>exact⟨none,0,0,0,false,h,rfl,(fun p hp=>by cases hp),fun _=>⟨rfl,rfl,rfl,rfl⟩⟩
 |some p=>
  obtain⟨u,h1,h2⟩:=h;obtain⟨a,c,rfl,_⟩:=Sl.val h2;exact⟨a,_,c,p.2,true,h1,rfl,fun q hq=>by cases hq;exact⟨rfl,h2⟩,fun hq=>by cases hq⟩
def M5 (i:Nat)(d:A_):Key:=(i,(nth d.now 0,nth d.now 1,nth d.now 2),(Aj d.Aa 0).left,(Aj d.Aa 1).left,(Aj d.Aa 2).left)
def FI (n0 mb:Nat)(ab:Nat->Nat)(c:A_)(fits:List (List (List Int)))(k:Key)(v:Zf)(w:Zb):Prop:=
 ∀i d,i<=fits.length->kU c d->Dy (M5 i d)=Dy k->Lh n0 mb w v (Gx ab (fits.drop i) d)
variable {k':Key}
def qB {k:Key}(h:Dy k=Dy k'):k=k':=by
 obtain⟨s,⟨a,b,c⟩,x,y,z⟩:=k;obtain⟨s',⟨a',b',c'⟩,x',y',z'⟩:=k';simp[Dy]at h;simp[h]
def qC {d:A_}{i':Nat}(h:kU c d)(h':kU c d')(hf:c.Aa.length<=3)(e:M5 i d=M5 i' d'):i=i'/\d=d':=by
 unfold M5 at e;simp only[Prod.mk.injEq]at e;obtain⟨e0,⟨e1,e2,e3⟩,e4,e5,e6⟩:=e;refine⟨by omega,h.eq h' (fun j hj=>?_) (fun j hj=>?_)⟩
 .have:j=0\/j=1\/j=2:=by omega
  rcases this with rfl|rfl|rfl<;>assumption
 have:j=0\/j=1\/j=2:=by omega
 rcases this with rfl|rfl|rfl<;>assumption
variable {fits:List (List (List Int))}
def FI.of {d:A_}(hd:kU c d)(hf:c.Aa.length<=3)(h:Lh n0 mb w v (Gx ab (fits.drop i) d)):FI n0 mb ab c fits (M5 i d) v w:=
 fun i' d' _ cM e=>by
  obtain⟨rfl,rfl⟩:=qC cM hd hf (qB e);exact h
def FI.Ar {k:Key}(h:FI n0 mb ab c fits k v w)(hk:Kept n0 mb w w'):FI n0 mb ab c fits k v w':=
 fun i d hi hd e=>(h i d hi hd e).Ar hk
def Gy.Ar (h:Gy (FI n0 mb ab c fits) mb w)(hk:Kept n0 mb w w')(he:w'.heap[mb]?=w.heap[mb]?):Gy (FI n0 mb ab c fits) mb w':=by
 obtain⟨es,clk,h1,h2⟩:=h;refine⟨es,clk,he.trans h1,fun e hm=>?_⟩;obtain⟨k,h3,h4⟩:=h2 e hm;exact⟨k,h3,h4.Ar hk⟩
def Gy.is {G:Key->Zf->Zb->Prop}(h:Gy G b w):∃es clk,w.heap[b]?=some (.map es clk):=by
 obtain⟨es,clk,h1,_⟩:=h;exact⟨es,clk,h1⟩
def Rll (n0 mb:Nat)(w:Zb)(cs:List Zf)(x:List (List Int)):Prop:=∃u,cs=[u]/\LL n0 mb w u x
def E0 (k:Key):Array Zf:= #[C .i64 k.1,C .i64 k.2.1.1,C .i64 k.2.1.2.1,C .i64 k.2.1.2.2,C .i64 k.2.2.1,C .i64 k.2.2.2.1,C .i64 k.2.2.2.2]
structure FS (n0 mb:Nat)(ab:Nat->Nat)(c:A_)(fits:List (List (List Int)))(w:Zb)(vf:Zf)(g:Array Zf)(k:Key)(wr:Zb):Prop where
 Cn:B3 mb w wr
 xN:wr.heap[w.heap.size]?=some (.cells #[vf,.map (some mb)] 70 (0,0))
 Uf:wr.heap[w.heap.size+1]?=some (.cells g 62 (0,0))
 res:wr.heap[w.heap.size+1+1]?=some (.cells #[.slice none 0 0,C .i64 0,.bool false] 77 (0,0))
 key:wr.heap[w.heap.size+1+1+1]?=some (.cells (E0 k) 134 (0,0))
 kept:Kept n0 mb w wr
 map:Gy (FI n0 mb ab c fits) mb wr
section
variable {n0 mb:Nat}{ab:Nat->Nat}{c:A_}{fits:List (List (List Int))}{w wr wx:Zb}{vf:Zf}{g:Array Zf}{k:Key}
def FS.step (h:FS n0 mb ab c fits w vf g k wr)(hm:mb<w.heap.size)(hb:B3 mb wr wx)(hM:Gy (FI n0 mb ab c fits) mb wx):FS n0 mb ab c fits w vf g k wx:=by
 have hx:∀q o,q≠mb->wr.heap[q]?=some o->wx.heap[q]?=some o:=fun q o hq ho=>(hb.block q (Za.1 ho).1 hq).trans ho;refine⟨⟨hb.os.trans h.Cn.os,hb.tape.trans h.Cn.tape,hb.output.trans h.Cn.output,Zr h.Cn.size hb.size,fun q hq BL=>(hb.block q (Zl hq h.Cn.size) BL).trans (h.Cn.block q hq BL)⟩,hx _ _ (by omega) h.xN,hx _ _ (by omega) h.Uf,hx _ _ (by omega) h.res,hx _ _ (by omega) h.key,h.kept.trans (Kept.WN hb h.map.is),hM⟩
def FS.later (h:FS n0 mb ab c fits w vf g k wr)(hm:mb<w.heap.size)(hB:Bl wr wx):FS n0 mb ab c fits w vf g k wx:=by
 have hb:=(B3.refl mb wr).below hB;obtain⟨es,clk,Gv⟩:=h.map.is;exact h.step hm hb (h.map.Ar (Kept.later hB) (hB.block _ (Za.1 Gv).1))
variable {cs:Array Zf}
def FS.set (h:FS n0 mb ab c fits w vf g k wr)(hn:n0<=w.heap.size)(hm:mb<w.heap.size)(hq:wr.heap[q]?=some (.cells cs e (0,0)))(he:e≠3/\e≠22)(hz:w.heap.size+1+1+1<q):FS n0 mb ab c fits w vf g k (wr.setCell ⟨q,j,none⟩ v):=by
 have hk:Kept n0 mb wr (wr.setCell ⟨q,j,none⟩ v):=Kept.set hq he (by omega);refine⟨⟨h.Cn.os,h.Cn.tape,h.Cn.output,by simpa using h.Cn.size,fun x hx BL=>(AZ (by omega) _).trans (h.Cn.block x hx BL)⟩,(AZ (by omega) _).trans h.xN,(AZ (by omega) _).trans h.Uf,(AZ (by omega) _).trans h.res,(AZ (by omega) _).trans h.key,h.kept.trans hk,h.map.Ar hk (AZ (by omega) _)⟩
def FS.stage (h:FS n0 mb ab c fits w vf g k wr)(hn:n0<=w.heap.size)(hm:mb<w.heap.size){W:Zb}(hB:Ak (fun b=>b=w.heap.size+1+1+1) wr W)(hK:Kept n0 mb wr W)(hk:W.heap[w.heap.size+1+1+1]?=some (.cells (E0 k') 134 (0,0))):FS n0 mb ab c fits w vf g k' W:=by
 have hx:∀q o,q≠w.heap.size+1+1+1->wr.heap[q]?=some o->W.heap[q]?=some o:=fun q o hq ho=>(hB.block q (Za.1 ho).1 hq).trans ho;refine⟨⟨hB.os.trans h.Cn.os,hB.tape.trans h.Cn.tape,hB.output.trans h.Cn.output,Zr h.Cn.size hB.size,fun q hq BL=>(hB.block q (Zl hq h.Cn.size) (by omega)).trans (h.Cn.block q hq BL)⟩,hx _ _ (by omega) h.xN,hx _ _ (by omega) h.Uf,hx _ _ (by omega) h.res,hk,h.kept.trans hK,?_⟩;obtain⟨es,clk,Gv⟩:=h.map.is;exact h.map.Ar hK ((hx mb _ (by omega) Gv).trans Gv.symm)
end
structure FN (n0 mb:Nat)(ab:Nat->Nat)(c:A_)(fits:List (List (List Int)))(w W0 W:Zb):Prop where
 Cn:B3 mb w W
 kept:Kept n0 mb W0 W
 box:∃cs,W.heap[w.heap.size+1+1]?=some (.cells cs 77 (0,0))
 map:Gy (FI n0 mb ab c fits) mb W
section
variable {n0 mb:Nat}{ab:Nat->Nat}{c:A_}{fits:List (List (List Int))}{w W0 W W':Zb}{vf:Zf}{g:Array Zf}{k:Key}
def FS.fn (h:FS n0 mb ab c fits w vf g k W):FN n0 mb ab c fits w W W:=⟨h.Cn,Kept.refl _ _ _,⟨_,h.res⟩,h.map⟩
def FN.set (h:FN n0 mb ab c fits w W0 W)(hn:n0<=w.heap.size)(hm:mb<w.heap.size):FN n0 mb ab c fits w W0 (W.setCell ⟨w.heap.size+1+1,j,none⟩ v):=by
 obtain⟨cs,hb⟩:=h.box;have hk:Kept n0 mb W (W.setCell ⟨w.heap.size+1+1,j,none⟩ v):=Kept.set hb ⟨by decide,by decide⟩ (by omega);exact⟨⟨h.Cn.os,h.Cn.tape,h.Cn.output,by simpa using h.Cn.size,fun x hx BL=>(AZ (by omega) _).trans (h.Cn.block x hx BL)⟩,h.kept.trans hk,⟨_,Ba hb v⟩,h.map.Ar hk (AZ (by omega) _)⟩
def FN.later (h:FN n0 mb ab c fits w W0 W)(hB:Bl W W'):FN n0 mb ab c fits w W0 W':=by
 obtain⟨cs,hb⟩:=h.box;obtain⟨es,clk,Gv⟩:=h.map.is;exact⟨h.Cn.below hB,h.kept.trans (Kept.later hB),⟨_,(hB.block _ (Za.1 hb).1).trans hb⟩,h.map.Ar (Kept.later hB) (hB.block _ (Za.1 Gv).1)⟩
def FN.alloc (h:FN n0 mb ab c fits w W0 W)(o:Obj):FN n0 mb ab c fits w W0 (W.alloc o):=h.later (bA (Zh _ _))
end
abbrev qD (l:List (List (List Int)))(i:Nat):List (List Int):=l.getD i []
def Te {l:List (List (List Int))}(h:i<l.length):l[i]?=some (qD l i):=by simp[qD,h]
def ahF {l:List (List (List Int))}(h:i<l.length):l.drop i=qD l i::l.drop (i+1):=by
 obtain⟨hk,e⟩:=Zm.1 (Te h);rw[ZO hk,e]
abbrev SF (n0 mb:Nat)(w:Zb)(v:Zf)(l:List (List (List Int))):Prop:=Sl (LS n0 mb w) (Rll n0 mb) 1 w v l
def SF.at_ {a:Option Addr}{c:Nat}{l:List (List (List Int))}(h:SF n0 mb w (.slice a l.length c) l)(hi:i<l.length):
  ∃b o u,a=some ⟨b,o,none⟩/\LS n0 mb w b/\w.cell? ⟨b,o+i,none⟩=some u/\LL n0 mb w u (qD l i):=by
 obtain⟨a',c',h1,_,_,h4⟩:=h;cases h1;obtain⟨b,o,cs,g1,g2,g3,g4,u,rfl,hu⟩:=h4 i _ (Te hi);exact⟨b,o,u,g1,g2,by simpa using g4 0 _ rfl,hu⟩
def SF.Ar {l:List (List (List Int))}(h:SF n0 mb w v l)(hk:Kept n0 mb w w'):SF n0 mb w' v l:=
 Sl.imp (Sl.Ar (w':=w') h (fun b hb _=>hk b hb) (fun _ _ ⟨u,e,h⟩=>⟨u,e,LL.Ar h hk⟩)) (fun _ hb=>LS.Ar hb hk) (fun _ _ x=>x)
def Kept.cell (hk:Kept n0 mb w w'){o:Nat}(hb:LS n0 mb w b)(h:w.cell? ⟨b,o,none⟩=some v):w'.cell? ⟨b,o,none⟩=some v:=by
 unfold zy at h⊢;rw[show w'.heap[b]?=w.heap[b]? from hk b hb];exact h
variable {o:Obj}
def FS.put {wr:Zb}{vf:Zf}{g:Array Zf}{k:Key}(h:FS n0 mb ab c fits w vf g k wr)(hm:mb<w.heap.size)(hM:Gy (FI n0 mb ab c fits) mb (wr.putObj mb o)):FN n0 mb ab c fits w wr (wr.putObj mb o):=
 ⟨⟨h.Cn.os,h.Cn.tape,h.Cn.output,by simpa using h.Cn.size,fun q hq BL=>(zG BL).trans (h.Cn.block q hq BL)⟩,Kept.put h.map.is,⟨_,(zG (by omega)).trans h.res⟩,hM⟩
def abM {base:Nat}(h:A.ownsRow base 22 1 v ls.length vals)(hv:∀(i:Nat) (x:List Int),ls[i]?=some x->∃u,vals[i]?=some u/\SI (LS n0 mb A) A u x):LL n0 mb A v ls:=by
 refine Sl.imp (Lg (R:=Rl (LS n0 mb A)) (by decide) h fun i x hx=>?_) (fun b hb=>.inr ?_) (fun _ _ x=>x)
 .obtain⟨u,hu,hs⟩:=hv i x hx
  refine⟨u,?_,hs⟩;obtain⟨hi,e⟩:=Zm.1 hu;rw[Nat.mul_one,ZO hi,e]
  rfl
 obtain⟨_,cs,hc⟩:=hb;exact⟨cs,22,hc,.inr rfl⟩
def ahG (S:Nat->Prop)(w:Zb)(ls:List (List Int))(e:Ending)(w':Zb):Prop:=Bl w w'/\((∃v,e=.returned v/\SL (fun b=>S b\/J1 22 w.heap.size w' b) w' v ls)\/∃x,e=.panicked x/\PX x w')
def xO {v7:Zf}{s:List (Int×Int)}(h:RC S w v1 v2 v3 v4 v5 c)(hv:Fq c)(hl:SL S w v6 ls)(hs:SP S w v7 s)(hn:∀i,i<ls.length->(BM ls i).length<=c.Aa.length/\∀j,j<(BM ls i).length->-2<=nth (BM ls i) j/\nth (BM ls i) j<=2)
 (hsn:s.length<=c.base.length) (il:∀i,i<s.length->0<=(BV s i).1/\(BV s i).1<=99/\0<=(BV s i).2/\(BV s i).2<=99) (Xc:ls.length<=1000000) (hS:∀b,S b->b<w.heap.size) (s0 s1 s2:Nat):
  Calls Lp 25 #[.agg #[v1,v2,v3,v4,v5,C .u8 s0,C .u8 s1,C .u8 s2],v6,v7] w (ahG S w (ls.filter fun l=>BZ c l s)):=by
 obtain⟨a6,c6,rfl,l6,m6⟩:=hl.val;obtain⟨a7,c7,rfl,l7,m7⟩:=hs.val;have ahH:∀w₁,ET w.heap.size w w₁->bQ S w w₁:=fun w₁ hw p v hp hc=>hw p v (hS _ hp) hc;obtain⟨rows,Sz⟩:∃rows:Nat->Zf,∀i,i<ls.length->∃ad,a6=some ad/\ad.block<w.heap.size/\w.cell? (ad.add i)=some (rows i)/\SI S w (rows i) (BM ls i):=by
  refine⟨fun i=>match a6 with|some ad=>(w.cell? (ad.add i)).getD Ze|none=>Ze,fun i hi=>?_⟩;obtain⟨b,o,u,rfl,hb,hc,hu⟩:=hl.at_ hi;have e:(⟨b,o,none⟩:Addr).add i=⟨b,o+i,none⟩:=by unfold Zcu;split<;>simp_all
  refine⟨_,rfl,hS b hb,?_,?_⟩
  .simp only[e,hc];rfl
  simp only[e,hc];exact hu
 have hP:ME w.heap.size w #[v1,v2,v3,v4,v5,C .u8 s0,C .u8 s1,C .u8 s2] a6 ls.length c6 (.slice a7 s.length c7) rows (fun i=>BZ c (BM ls i) s):=by
  refine⟨Xc,⟨l6,m6⟩,rfl,fun i hi=>?_,fun i hi=>?_,⟨_,_,_,rfl⟩,fun i hi w₁ hw=>?_⟩
  .obtain⟨ad,e,h1,h2,_⟩:=Sz i hi
   exact⟨ad,e,h1,h2⟩
  .obtain⟨_,_,_,_,hu⟩:=Sz i hi
   obtain⟨a,c',e,_⟩:=hu.val;exact⟨_,_,_,e⟩
  obtain⟨_,_,_,_,hu⟩:=Sz i hi;have hk:=ahH w₁ hw;exact aha (h.H3 hk).live hv (Sl.live (hu.H3 hk) (by decide) fun _ _ x=>x) (Sl.live (hs.H3 hk) (by decide) fun _ _ x=>x) (hn i hi).1 (hn i hi).2 hsn il (fun b hb=>hb.2) s0 s1 s2
 cases h1:(((zJ 1 0 3).cut (w.tape w.drawn (.appendCap 1 0 3)):Int)==1) with
 |true=>
  refine(Sf _ _ _ w h1).mono fun e w' ⟨he,hB⟩=>⟨hB,.inr ⟨_,he,.inl ⟨_,_,_,_,_,_,_,_,_,rfl,hP.Ar ?_⟩⟩⟩;exact ET.below hB (Zj _)
 |false=>
  refine(aJ hP h1).mono fun e w' ⟨w₁,hB,h2,h3⟩=>?_;have hf:ls.filter (fun l=>BZ c l s)=((Zcq 0 ls.length).filter fun i=>BZ c (BM ls i) s).map (BM ls):=WI ls _;have hx:CX rows (fun i=>BZ c (BM ls i) s) 0 ls.length=((Zcq 0 ls.length).filter fun i=>BZ c (BM ls i) s).map rows:=rfl;have hlen:(CX rows (fun i=>BZ c (BM ls i) s) 0 ls.length).length=(ls.filter fun l=>BZ c l s).length:=by rw[hf,hx];simp
  by_cases h0:(CX rows (fun i=>BZ c (BM ls i) s) 0 ls.length).length=0
  .obtain⟨he,rfl⟩:=h2 h0
   refine⟨hB,.inl ⟨_,he,?_⟩⟩;rw[YM (hlen.symm.trans h0)];exact⟨none,0,rfl,Zj _,Zp _,fun i x hx=>by cases hx⟩
  obtain⟨he,rfl⟩:=h3 (Nat.pos_of_ne_zero h0);have Bb:Bl w (w₁.drew.alloc (.cells ((CX rows (fun i=>BZ c (BM ls i) s) 0 ls.length).toArray++Zt #[.slice none 0 0] (grownCap w₁ (CX rows (fun i=>BZ c (BM ls i) s) 0 ls.length).length 0 22 - (CX rows (fun i=>BZ c (BM ls i) s) 0 ls.length).length)) 22)):=bA hB.drew;have aoJ:(CX rows (fun i=>BZ c (BM ls i) s) 0 ls.length).length<=maxLen:=by
   rw[hlen];have:=Zac (fun l=>BZ c l s) ls;unfold maxLen;omega
  refine⟨Bb,.inl ⟨_,he,some ⟨w₁.heap.size,0,none⟩,_,by rw[hlen],by rw[<-hlen];exact grownCap_ge _ _ _ _,grownCap_le_maxLen _ _ _ _ aoJ,fun j x hj=>?_⟩⟩;rw[hf,YL]at hj;cases hI:((Zcq 0 ls.length).filter fun i=>BZ c (BM ls i) s)[j]? with
  |none=>rw[hI]at hj;cases hj
  |some i=>
   rw[hI]at hj;cases hj;have hi:i<ls.length:=by
    have:=(List.mem_filter.1 (Z3 hI)).1;rw[List.mem_range']at this;obtain⟨q,hq,rfl⟩:=this;omega
   obtain⟨ad,_,_,_,hu⟩:=Sz i hi;have hxj:(CX rows (fun i=>BZ c (BM ls i) s) 0 ls.length)[j]?=some (rows i):=by rw[hx,YL,hI];rfl
   have hjl:=(Zm.1 hxj).1;refine⟨w₁.heap.size,0,[rows i],rfl,.inr ⟨⟨hB.size,by simp⟩,_,Bp w₁.drew _⟩,rfl,fun q u hq=>?_,rows i,rfl,Sl.imp (hu.later Bb) (fun b hb=>.inl hb) (fun _ _ x=>x)⟩;cases q with
   |zero=>
    cases hq;rw[show 0+j*1+0=j by omega];refine cn w₁.drew _ 22 ?_;rw[zr (by simpa using hjl)];simpa using hxj
   |succ q=>cases hq
end Go.Proofs.Fit
