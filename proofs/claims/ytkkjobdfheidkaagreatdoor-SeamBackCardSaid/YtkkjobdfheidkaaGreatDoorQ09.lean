/- Part of a proof. -/
import Derived.Test.YtkkjobdfheidkaaGreatDoorQ07
import Derived.Lib.BufferRead
import Derived.RangeFuncNested
import Derived.OwnWalkIn
import Derived.Sort.LoopGhostIn
import Derived.TacticsInMore
import Derived.Laws.EntriesVeiled
import Derived.Shelf.Abstract
set_option maxRecDepth 100000
set_option maxHeartbeats 6400000
noncomputable section
set_option linter.all false
open Array renaming getElem?_eq_some_iff->Za,replicate_succ->ZaL,replicate_zero->ZaK,replicate->YD,getElem?_eq_getElem->ZC,getElem?_append_left->zv
open Bool renaming or_eq_true->Za1
open Go renaming World->Zc,Value->Ze,below_drewN->zl,wpQuiet_nil->zD,TypeId->Zr,bodyPost_ret->ZU,info_parts->zq,wpList_append_own->Yj,Program->Zp,execOp->ZbE,Operand->ZbX,callFunc->ZB,resolve->Zbp,callsIn_of_wp->Zd5,wpAnyIn_ready->YA,undef->Zf,ownsRow_succ->ZbD,run_underlying->Zae
open Go.Addr renaming add->Zcz
open Go.AllReadyIn renaming cons->zH,nil->Ye
open Go.BinOp renaming xor->Zdk
open Go.Builtin renaming zeroCells->Zs
open Go.Fence renaming wide->Zbu
open Go.Instr renaming makeSlice->Zdp,checkKey->YL,keyThatStays->Yr,sameBits->zQ,findAsking->Yd,findKey->Zal,findNow->ZaP,sameNow->Zbr,lookup->Za8,mapUpdate->ZaX
open Go.IntKind renaming u64->Zck,wrap_u64->Zbk
open Go.Lib renaming hid->Zb,byteCells->Yw,run_eql_slice_nil->ZaT
open Go.Op renaming equalIn->Za5,equal->Zaf
open Go.Oper renaming wp->ZbG,upon_value->Zde,semAt_some->ZcF
open Go.Proofs.Tryz renaming underlying166->Zb7,underlying22->Yg,underlying27->zY
open Go.Question renaming appendCap->zS
open Go.Region renaming wanted->Ym
open Go.Result renaming andThen->zB,andThen_ok->ZaB
open Go.RowKit renaming Below->YS
open Go.RowKit.Below renaming refl->Zg,heap_alloc->zJ
open Go.Sem renaming run_bind->zm
open Go.Value renaming int->ZS,oneCell'->Yv,int->C
open Go.World renaming alloc->ZaE,size_alloc->ZG,ownsRow_nil->zh,putObj_heap_other->zP,alloc_heap_new->ZdH,putObj_heap_same->Zaz,ownsRow_made->YK,cell?->zG
open List renaming ext_getElem?->zM,getElem?_eq_none->ZJ,length_cons->zp,range->ZL,length_append->ZF,map_append->Zaa,eq_nil_of_length_eq_zero->YR,length->ZbH,append_nil->Zap,mem_cons_self->zo,mem_cons_of_mem->Z9,all_eq_true->zt,getElem_of_mem->Yo,getElem?_eq_getElem->ZE,getD_eq_getElem?_getD->ZR,getElem?_eq_some_iff->Zl,mem_of_getElem?->Z8,drop_eq_getElem_cons->Zu,mem_map->Zby,length_map->Zbz,length_nil->Yt,append_assoc->Zah,nil_append->zZ,drop_eq_nil_iff->Zz,size_toArray->Zbe,push_toArray->Zbf,append_toArray->ZaS,cons_append->Za7,getElem?_toArray->Z1,getElem?_map->zU,getElem?_append_left->Z4,getElem?_concat_length->Zd9,range'->Zcv,mem_append->Zas,mem_singleton->YB
open Nat renaming zero_le->Zn,not_lt_zero->ZaM,le_refl->Zj,zero_add->zK,le_trans->Zt,mul_comm->ZcS,lt_of_lt_of_le->Zm,reduceAdd->ZaC,reduceSub->Zb8,pow_le_pow_right->Zbm
open Std.Legacy.Range renaming forIn_eq_forIn_range'->Zdw
open UInt8 renaming ofNat->Zcs
namespace Go.Proofs.Fit
open Go Go.RowKit
def IM (a b:List Int):Bool:=decide (a=b)
variable {a l:List Int}
def sQ {b:List Int}(hl:a.length=b.length)(h:∀j,j<a.length->nth a j=nth b j):a=b:=by
 apply zM;intro i;by_cases hi:i<a.length
 .rw[A_ hi,A_ (by omega),h i hi]
 .rw[ZJ (by omega),ZJ (by omega)]
variable {S T:Nat->Prop}
variable {w w' w0 A B:Zc}
variable {v v' u v1 v2 v3 v4 v5 v6:Ze}
def uP {b:List Int}(ha:SI S w v a)(hb:SI T w v' b)(hS:∀b,S b->b<w.heap.size)(hT:∀b,T b->b<w.heap.size):
  Calls Lp 46 #[v,v'] w fun e w'=>e=.returned (.bool (IM a b))/\Bl w w':=by
 obtain⟨a1,c1,rfl,l1,m1⟩:=ha.val;obtain⟨a2,c2,rfl,l2,m2⟩:=hb.val;have Gx:=CI;by_cases hl:a.length=b.length
 .have HL:=Zb hl
  clear hl;have hli:((a.length:Int) !=b.length)=false:=by simp[HL.out]
  go_enter Lp.func46,n46;go_wp2;go_loopg [5] a.length (fun g i wr=>∃k:Nat,k<=a.length/\g=a.length - k/\i=.int .i64 k/\(∀j,j<k->nth a j=nth b j)/\Bl w wr)
  case atStart=>exact⟨0,Zn _,rfl,rfl,fun j hj=>absurd hj (ZaM _),Zg _ _⟩
  case round=>
   obtain⟨k,hk,rfl,rfl,Cn,hB⟩:=hrel;have hf:=Zb Cn;clear Cn;by_cases AA:k<a.length
   .have sR:k<b.length:=by have:=HL.out;omega
    obtain⟨b1,o1,rfl,EJ,h1⟩:=ha.at_ AA;obtain⟨b2,o2,rfl,EA,h2⟩:=hb.at_ sR;rw[<-hB.cell (p:=⟨b1,o1+k,none⟩) (hS b1 EJ)]at h1;rw[<-hB.cell (p:=⟨b2,o2+k,none⟩) (hT b2 EA)]at h2;have i1:(k:Int)<(a.length:Int):=by omega
    have i2:(k:Int)<(b.length:Int):=by omega
    go_wp2;go_quiet (fail);go_wp2
    .have q:(nth a k !=nth b k)=true:=by assumption
     go_ret;refine⟨?_,zl hB _⟩;have:IM a b=false:=by
      unfold IM;refine decide_eq_false fun e=>aaP q (by rw[e])
     rw[this];rfl
    .have q:(nth a k !=nth b k)=false:=by assumption
     go_roundg (a.length - (k+1))
     case rel=>exact⟨k+1,by omega,rfl,by go_num,fun j hj=>by
      by_cases e:j=k
      .rw[e];exact aaO q
      .exact hf.out j (by omega),zl hB _⟩
     case measure=>omega
   .have e1:IM a b=true:=decide_eq_true (sQ HL.out fun j hj=>hf.out j (by omega))
    have E1:=Zb e1;clear e1 hf;go_wp2;go_ret;exact⟨by rw[E1.out];rfl,hB⟩
 .have hli:((a.length:Int) !=b.length)=true:=by simp;omega
  have E1:=Zb (show IM a b=false from decide_eq_false fun e=>hl (by rw[e]));clear hl;go_enter Lp.func46,n46;go_wp2;go_ret;exact⟨by rw[E1.out];rfl,Zg _ _⟩
def PU (a b:List (List Int)):Bool:=decide (a=b)
def n6 {a b:List (List Int)}(hl:a.length=b.length)(h:∀j,j<a.length->Cu a j=Cu b j):a=b:=by
 apply zM;intro i;by_cases hi:i<a.length
 .rw[C2 hi,C2 (by omega),h i hi]
 .rw[ZJ (by omega),ZJ (by omega)]
def c37 {a b:List (List Int)}(ha:SL S w v a)(hb:SL T w v' b)(hS:∀b,S b->b<w.heap.size)(hT:∀b,T b->b<w.heap.size):
  Calls Lp 37 #[v,v'] w fun e w'=>e=.returned (.bool (PU a b))/\Bl w w':=by
 obtain⟨a1,c1,rfl,l1,m1⟩:=ha.val;obtain⟨a2,c2,rfl,l2,m2⟩:=hb.val;have Gx:=CI;by_cases hl:a.length=b.length
 .have HL:=Zb hl
  clear hl;have hli:((a.length:Int) !=b.length)=false:=by simp[HL.out]
  go_enter Lp.func37,n37;go_wp2;go_loopg [5] a.length (fun g i wr=>∃k:Nat,k<=a.length/\g=a.length - k/\i=.int .i64 k/\(∀j,j<k->Cu a j=Cu b j)/\Bl w wr)
  case atStart=>exact⟨0,Zn _,rfl,rfl,fun j hj=>absurd hj (ZaM _),Zg _ _⟩
  case round=>
   obtain⟨k,hk,rfl,rfl,Cn,hB⟩:=hrel;have hf:=Zb Cn;clear Cn;by_cases AA:k<a.length
   .have sR:k<b.length:=by have:=HL.out;omega
    obtain⟨b1,o1,u1,rfl,EJ,h1,nO⟩:=ha.at_ AA;obtain⟨b2,o2,u2,rfl,EA,h2,LD⟩:=hb.at_ sR;rw[<-hB.cell (p:=⟨b1,o1+k,none⟩) (hS b1 EJ)]at h1;rw[<-hB.cell (p:=⟨b2,o2+k,none⟩) (hT b2 EA)]at h2;obtain⟨a3,c3,rfl,l3,m3⟩:=nO.val;obtain⟨a4,c4,rfl,l4,m4⟩:=LD.val;have i1:(k:Int)<(a.length:Int):=by omega
    have i2:(k:Int)<(b.length:Int):=by omega
    have z1:=fun p=>Al p h1;have z2:=fun p=>Al p h2;have n9:=Zb (fun W (EV:Bl w W)=>uP (w:=W) (nO.later EV) (LD.later EV) (AE hS EV) (AE hT EV));have HB:=Zb (fun p=>hB.trans ((BA wr p).mono hB.size));cases hq:IM (Cu a k) (Cu b k) with
    |true=>
     rw[hq]at n9;go_wp2;refine AH (by kernel_rfl) (by kernel_rfl) ?_
     repeat (first|go_big_quiet_step ((go_at_call 46;exact Bc (n9.out _ (HB.out _))))|quiet_step ((go_at_call 46;exact Bc (n9.out _ (HB.out _)))))
     refine zD ?_;rintro _ ⟨p,rfl⟩;have AW:=HB.out p;clear z1 z2;go_wp2;go_roundg (a.length - (k+1))
     case rel=>exact⟨k+1,by omega,rfl,by go_num,fun j hj=>by
      by_cases e:j=k
      .rw[e];exact of_decide_eq_true hq
      .exact hf.out j (by omega),AW⟩
     case measure=>omega
    |false=>
     rw[hq]at n9;have E1:=Zb (show PU a b=false from decide_eq_false fun e=>of_decide_eq_false hq (by rw[e]));clear hq;go_wp2;refine AH (by kernel_rfl) (by kernel_rfl) ?_
     repeat (first|go_big_quiet_step ((go_at_call 46;exact Bc (n9.out _ (HB.out _))))|quiet_step ((go_at_call 46;exact Bc (n9.out _ (HB.out _)))))
     refine zD ?_;rintro _ ⟨p,rfl⟩;have AW:=HB.out p;clear z1 z2;go_wp2;go_ret;exact⟨by rw[E1.out];rfl,AW⟩
   .have e1:PU a b=true:=decide_eq_true (n6 HL.out fun j hj=>hf.out j (by omega))
    have E1:=Zb e1;clear e1 hf;go_wp2;go_ret;exact⟨by rw[E1.out];rfl,hB⟩
 .have hli:((a.length:Int) !=b.length)=true:=by simp;omega
  have E1:=Zb (show PU a b=false from decide_eq_false fun e=>hl (by rw[e]));clear hl;go_enter Lp.func37,n37;go_wp2;go_ret;exact⟨by rw[E1.out];rfl,Zg _ _⟩
def Kf:∀(os:List Obj) (w:Zc),Bl w (os.foldl ZaE w)
 | [],w=>Zg _ _
 |o::r,w=>by
  have h1:Bl w (w.alloc o):=(Zg _ _).alloc (Zj _) _;exact h1.trans ((Kf r (w.alloc o)).mono h1.size)
def XY:∀(os:List Obj) (w:Zc) (i:Nat),i<os.length->(os.foldl ZaE w).heap[w.heap.size+i]?=os[i]?
 | [],_,_,h=>absurd h (ZaM _)
 |o::r,w,0,_=>by
  show(r.foldl ZaE (w.alloc o)).heap[w.heap.size]?=some o;rw[(Kf r (w.alloc o)).block _ (by simp)];exact Bt w o
 |o::r,w,i+1,h=>by
  have:=XY r (w.alloc o) i (by simpa using h);rw[ZG,show w.heap.size+1+i=w.heap.size+(i+1) by omega]at this;exact this
def PV:∀(os:List Obj) (w:Zc),(os.foldl ZaE w).heap.size=w.heap.size+os.length
 | [],_=>rfl
 |o::r,w=>by
  show(r.foldl ZaE (w.alloc o)).heap.size=_;rw[PV r,ZG,zp];omega
section
variable {S:Nat->Prop}{w:Zc}{b:Nat}{t:Zr}{f:Nat×Nat}
def Ns (l:List Int)(h:w.heap[b]?=some (.cells (l.map (ZS .i64)).toArray t f))(hS:S b)(hl:l.length<=maxLen):SI S w (.slice (some ⟨b,0,none⟩) l.length l.length) l:=by
 refine⟨_,_,rfl,Zj _,hl,fun i x hx=>⟨b,0,[C .i64 x],rfl,hS,rfl,fun j u hu=>?_,rfl⟩⟩;cases j with
 |zero=>
  cases hu;rw[show 0+i*1+0=i by omega];exact ch h (by simp[hx])
 |succ j=>cases hu
def T5 (l:List (Int×Int))(h:w.heap[b]?=some (.cells (l.flatMap fun p=> [ZS .i64 p.1,ZS .i64 p.2]).toArray t f))(hS:S b)(hl:l.length<=maxLen):SP S w (.slice (some ⟨b,0,none⟩) l.length l.length) l:=by
 have key:∀(l:List (Int×Int)) (i:Nat) (x:Int×Int),l[i]?=some x->(l.flatMap fun p=> [ZS .i64 p.1,ZS .i64 p.2])[i*2]?=some (C .i64 x.1)/\(l.flatMap fun p=> [ZS .i64 p.1,ZS .i64 p.2])[i*2+1]?=some (C .i64 x.2):=by
  intro l
  induction l with
  |nil=>intro i x hx;cases hx
  |cons p r ih=>
   intro i x hx;cases i with
   |zero=>cases hx;exact⟨rfl,rfl⟩
   |succ i=>
    have:=ih i x (by simpa using hx);rw[show(i+1)*2=i*2+1+1 by omega];exact this
 refine⟨_,_,rfl,Zj _,hl,fun i x hx=>⟨b,0,[C .i64 x.1,C .i64 x.2],rfl,hS,rfl,fun j u hu=>?_,rfl⟩⟩;obtain⟨k1,k2⟩:=key l i x hx
 match j,hu with
 |0,hu=>cases hu;exact ch h (by rw[zK];simpa using k1)
 |1,hu=>cases hu;exact ch h (by rw[zK];simpa using k2)
end
def c85 (a b c d:Int)(w:Zc):Calls Lp 85 #[C .i64 a,C .i64 b,C .i64 c,C .i64 d] w fun e w'=>e=.returned (.slice (some ⟨w.heap.size,0,none⟩) 2 2)/\Bl w w'/\SP (Cf w.heap.size w') w' (.slice (some ⟨w.heap.size,0,none⟩) 2 2) [(a,b),(c,d)]:=by
 go_enter Lp.func85,n85;go_wp2;go_ret;exact⟨rfl,(Zg _ _).alloc (Zj _) _,T5 [(a,b),(c,d)] (Bt w _) ⟨Zj _,by simp⟩ (by simp[maxLen])⟩
def FF (a b c:Int):A4:=⟨[40,30],[(0,4),(0,2)],[0,3],[⟨-2,2,[(0,2)],[],a⟩,⟨-1,2,[(0,1),(1,2)],[0],b⟩,⟨0,1,[(0,2)],[],c⟩],[0,0,0]⟩
def Wj (n:Nat)(a b c:Int):List Obj:=[.cells #[.slice (some ⟨n+1,0,none⟩) 2 2,.slice (some ⟨n+1+1,0,none⟩) 2 2,.slice (some ⟨n+1+1+1,0,none⟩) 2 2,.slice (some ⟨n+1+1+1+1+1+1+1+1,0,none⟩) 3 3,.slice (some ⟨n+1+1+1+1+1+1+1+1+1,0,none⟩) 3 3] 26,.cells #[C .i64 40,C .i64 30] 3,.cells #[C .i64 0,C .i64 4,C .i64 0,C .i64 2] 80,.cells #[C .i64 0,C .i64 3] 3,.cells #[C .i64 0,C .i64 2] 64,.cells #[C .i64 0,C .i64 1,C .i64 1,C .i64 2] 64,.cells #[C .i64 0] 3,.cells #[C .i64 0,C .i64 2] 64,.cells #[C .i64 (-2),C .i64 2,.slice (some ⟨n+1+1+1+1,0,none⟩) 1 1,.slice none 0 0,C .i64 a,C .i64 (-1),C .i64 2,.slice (some ⟨n+1+1+1+1+1,0,none⟩) 2 2,.slice (some ⟨n+1+1+1+1+1+1,0,none⟩) 1 1,C .i64 b,C .i64 0,C .i64 1,.slice (some ⟨n+1+1+1+1+1+1+1,0,none⟩) 1 1,.slice none 0 0,C .i64 c] 62,.cells #[C .i64 0,C .i64 0,C .i64 0] 3]
def sS (w:Zc)(c:A4)(e:Ending)(w':Zc):Prop:=∃u1 u2 u3 u4 u5,e=.returned (.agg #[u1,u2,u3,u4,u5])/\Bl w w'/\RC (Cf w.heap.size w') w' u1 u2 u3 u4 u5 c
def c84 (a b c:Int)(w:Zc):Calls Lp 84 #[C .i64 a,C .i64 b,C .i64 c] w (sS w (FF a b c)):=by
 go_enter Lp.func84,n84;go_wp2;refine ZU (v:=.agg #[.slice (some ⟨w.heap.size+1,0,none⟩) 2 2,.slice (some ⟨w.heap.size+1+1,0,none⟩) 2 2,.slice (some ⟨w.heap.size+1+1+1,0,none⟩) 2 2,.slice (some ⟨w.heap.size+1+1+1+1+1+1+1+1,0,none⟩) 3 3,.slice (some ⟨w.heap.size+1+1+1+1+1+1+1+1+1,0,none⟩) 3 3]) (by rw[A6 rfl];go_simp) rfl ?_;change sS w _ _ ((Wj w.heap.size a b c).foldl ZaE w);have hB:=Kf (Wj w.heap.size a b c) w;have hA:=XY (Wj w.heap.size a b c) w;have hZ:=PV (Wj w.heap.size a b c) w;refine⟨_,_,_,_,_,rfl,hB,?_⟩;obtain⟨W,hW⟩:∃W,W=(Wj w.heap.size a b c).foldl ZaE w:=⟨_,rfl⟩;rw[<-hW]at hB hA hZ⊢;clear hW hB;have hL:(Wj w.heap.size a b c).length=10:=rfl;rw[hL]at hZ;have hN:∀i,i<10->Cf w.heap.size W (w.heap.size+i):=fun i hi=>⟨by omega,by omega⟩;refine⟨Ns [40,30] (hA 1 (by rw[hL];omega)) (hN 1 (by omega)) (by decide),T5 [(0,4),(0,2)] (hA 2 (by rw[hL];omega)) (hN 2 (by omega)) (by decide),Ns [0,3] (hA 3 (by rw[hL];omega)) (hN 3 (by omega)) (by decide),?_,Ns [0,0,0] (hA 9 (by rw[hL];omega)) (hN 9 (by omega)) (by decide)⟩;have e4:=T5 [(0,2)] (hA 4 (by rw[hL];omega)) (hN 4 (by omega)) (by decide);have e5:=T5 [(0,1),(1,2)] (hA 5 (by rw[hL];omega)) (hN 5 (by omega)) (by decide);have e6:=Ns [0] (hA 6 (by rw[hL];omega)) (hN 6 (by omega)) (by decide);have e7:=T5 [(0,2)] (hA 7 (by rw[hL];omega)) (hN 7 (by omega)) (by decide);have e8:=hA 8 (by rw[hL];omega);refine⟨_,_,rfl,Zj _,by decide,fun i x hx=>?_⟩
 match i,hx with
 |0,hx=>
  cases hx;refine⟨w.heap.size+8,0,[C .i64 (-2),C .i64 2,.slice (some ⟨w.heap.size+4,0,none⟩) 1 1,.slice none 0 0,C .i64 a],rfl,hN 8 (by omega),rfl,fun j u hu=>?_,_,_,rfl,e4,XR⟩
  match j,hu with
  |0,hu=>cases hu;exact ch e8 rfl
  |1,hu=>cases hu;exact ch e8 rfl
  |2,hu=>cases hu;exact ch e8 rfl
  |3,hu=>cases hu;exact ch e8 rfl
  |4,hu=>cases hu;exact ch e8 rfl
 |1,hx=>
  cases hx;refine⟨w.heap.size+8,0,[C .i64 (-1),C .i64 2,.slice (some ⟨w.heap.size+5,0,none⟩) 2 2,.slice (some ⟨w.heap.size+6,0,none⟩) 1 1,C .i64 b],rfl,hN 8 (by omega),rfl,fun j u hu=>?_,_,_,rfl,e5,e6⟩
  match j,hu with
  |0,hu=>cases hu;exact ch e8 rfl
  |1,hu=>cases hu;exact ch e8 rfl
  |2,hu=>cases hu;exact ch e8 rfl
  |3,hu=>cases hu;exact ch e8 rfl
  |4,hu=>cases hu;exact ch e8 rfl
 |2,hx=>
  cases hx;refine⟨w.heap.size+8,0,[C .i64 0,C .i64 1,.slice (some ⟨w.heap.size+7,0,none⟩) 1 1,.slice none 0 0,C .i64 c],rfl,hN 8 (by omega),rfl,fun j u hu=>?_,_,_,rfl,e7,XR⟩
  match j,hu with
  |0,hu=>cases hu;exact ch e8 rfl
  |1,hu=>cases hu;exact ch e8 rfl
  |2,hu=>cases hu;exact ch e8 rfl
  |3,hu=>cases hu;exact ch e8 rfl
  |4,hu=>cases hu;exact ch e8 rfl
def OK (i:Nat)(n:Int):List UInt8:=if 0<n then [Zcs (97+i),43,Zcs (48+n).toNat] else if n<0 then [Zcs (97+i),45,Zcs (48 - n).toNat] else []
def Gc (l:List Int)(k:Nat):List UInt8:=(ZL k).flatMap fun i=>OK i (nth l i)
def QM (l:List Int)(k:Nat):Gc l (k+1)=Gc l k++OK k (nth l k):=by
 unfold Gc;rw[List.range_succ,List.flatMap_append];simp
def sT (i:Nat)(n:Int):(OK i n).length<=3:=by
 unfold OK;split
 .simp
 .split<;>simp
def Wk (l:List Int):∀k,(Gc l k).length<=3*k
 |0=>by simp[Gc]
 |k+1=>by
  have:=Wk l k;have:=sT k (nth l k);rw[QM,ZF];omega
def ajA:(Tryz.prog.info? 5).map (fun i=>(i.zero,i.size,i.bytes))=some (some (C .u8 0),1,1):=by kernel_rfl
variable {b k m t j d i q n0 bg mb:Nat}
def sU (hk:k<3)(hm:m=1\/m=2):Yw (OK k (m:Int))=[C .u8 (97+(k:Int)),C .u8 43,C .u8 (48+(m:Int))]:=by
 have:k=0\/k=1\/k=2:=by omega
 rcases this with rfl|rfl|rfl<;>rcases hm with rfl|rfl<;>rfl
def sV (hk:k<3)(hm:m=1\/m=2):Yw (OK k (-(m:Int)))=[C .u8 (97+(k:Int)),C .u8 45,C .u8 (48+(m:Int))]:=by
 have:k=0\/k=1\/k=2:=by omega
 rcases this with rfl|rfl|rfl<;>rcases hm with rfl|rfl<;>rfl
def n_ (k:Nat):OK k 0=[]:=rfl
def Wl (a b:List UInt8):Yw (a++b)=Yw a++Yw b:=by unfold Yw;exact Zaa
def dI {x y z:Ze}{t:Zr}(hj: [x,y,z][j]?=some u):(w.alloc (.cells #[x,y,z] t)).cell? ((⟨w.heap.size,0,none⟩:Addr).add j)=some u:=by
 rw[show(⟨w.heap.size,0,none⟩:Addr).add j=⟨w.heap.size,j,none⟩ by unfold Zcz;split<;>simp_all];exact cn w #[x,y,z] t (by simpa using hj)
def sW {base:Nat}{l:List UInt8}(h:w.ownsRow base 5 1 v l.length (Yw l)):(convert 166 9 v).run Lp w=.ok (.string ⟨l.toArray⟩) w:=by
 rcases h.2 with⟨rfl,h0⟩|⟨g,cap,cur,rfl,hb,hg,h1,h2,h3,h4⟩
 .have:l=[]:=YR h0
  subst this;exact Lib.run_convert_nil_bytes w 166 9 5 0 (CG Zb7) (CG Tryz.underlying5) (CG Tryz.underlying9)
 .exact run_convert_bytes_back w 166 9 5 ⟨g,0,none⟩ cap l (CG Zb7) (CG Tryz.underlying5) (CG Tryz.underlying9) (Lib.bytes_of_row hg (by simpa using h4))
def Nt (c:A4)(l:List Int):List UInt8:=if Ca c l=0 then Gc l l.length else []
variable {c d':A4}
def c69 (h:RC S w v1 v2 v3 v4 v5 c)(hl:SI S w v6 l)(hS:∀b,S b->b<w.heap.size):
  Calls Lp 69 #[.agg #[v1,v2,v3,v4,v5],v6] w fun e w'=>e=.returned (.tuple #[.string ⟨(Nt c l).toArray⟩,C .i64 (Ca c l)])/\Bl w w':=by
 obtain⟨a1,c1,rfl,l1,m1⟩:=h.base.val;obtain⟨a2,c2,rfl,l2,m2⟩:=h.Af.val;obtain⟨a3,c3,rfl,l3,m3⟩:=h.hooks.val;obtain⟨a4,c4,rfl,l4,m4⟩:=h.Aa.val;obtain⟨a5,c5,rfl,l5,m5⟩:=h.now.val;obtain⟨a6,c6,rfl,l6,m6⟩:=hl.val;have Gx:=CI;obtain⟨i0,hi,Fo,DX,EI⟩:=zq ajA;have hu:=CG Zb7;have Bb:Bl w (w.alloc (.cells #[.slice a1 c.base.length c1,.slice a2 c.Af.length c2,.slice a3 c.hooks.length c3,.slice a4 c.Aa.length c4,.slice a5 c.now.length c5] 26)):=(Zg _ _).alloc (Zj _) _;by_cases h0:Ca c l=0
 .obtain⟨Kd,Fp⟩:=A7 h0
  have hv:=EU Kd;have HA:=Zb h0;have HV:=Zb (show Nt c l=Gc l l.length by rw[Nt,if_pos h0]);have aqN:=TU hv Fp;have Tl:l.length<=3:=by have:=(D6 Fp).1;have:=hv.few;omega
  have Iu:=Zb (fun W hB=>Sb (w:=W) (h.later hB) (hl.later hB) (AE hS hB) Kd);rw[Fp]at Iu;clear h0 Kd Fp;go_enter Lp.func69,n69;go_wp2_with (go_at_call 112;refine(Iu.out _ Bb).mono ?_;rintro e w1 ⟨rfl,AW⟩;have Bg:=bA (o:=.cells (Bj (.slice a1 c.base.length c1) (.slice a2 c.Af.length c2) (.slice a3 c.hooks.length c3) (.slice a4 c.Aa.length c4) (.slice a5 c.now.length c5) (Au c.Aa)) 112) (Bb.trans (AW.mono Bb.size)));go_loopg [8,22] l.length (fun g v i wr=>∃k:Nat,k<=l.length/\g=l.length - k/\i=.int .i64 k/\wr.ownsRow w.heap.size 5 1 v (Gc l k).length (Yw (Gc l k))/\Bl w wr)
  case atStart=>exact⟨0,Zn _,rfl,rfl,zh _ _ _ _,Bg⟩
  case round=>
   obtain⟨k,hk,rfl,rfl,A3,hB⟩:=hrel;have hwl:=Wk l k;have Ek:=hB.size;have HS:=Zb (QM l k);by_cases AA:k<l.length
   .obtain⟨b,o,rfl,hb,hc⟩:=hl.at_ AA
    rw[<-hB.cell (p:=⟨b,o+k,none⟩) (hS b hb)]at hc;obtain⟨oa,eM⟩:=aqN k AA;obtain⟨n,hn⟩:∃n,n=nth l k:=⟨_,rfl⟩;rw[<-hn]at hc oa eM HS;clear hn;have Rh:k<3:=by omega
    by_cases hp:0<n
    .obtain⟨m,rfl⟩:∃m:Nat,n=m:=⟨n.toNat,by omega⟩
     have adO:m=1\/m=2:=by omega
     have hpc:=sU Rh adO;have HP:=Zb hpc;clear hpc;go_wp2_with (at_builtin;refine Yj _ rfl (.tmp 30) (.tmp 37) 166 rfl w.heap.size 5 i0 (C .u8 0) 1 1 hu (DC hi) Fo DX EI rfl (by decide) _ _ _ rfl (A3.alloc _) ⟨_,0,none⟩ 3 3 [C .u8 (97+(k:Int)),C .u8 43,C .u8 (48+(m:Int))] rfl rfl (fun j u hj=>dI hj) (by intro u hu;simp at hu;rcases hu with rfl|rfl|rfl<;>rfl) (by unfold maxLen;omega) (by omega) (by simp;omega) ?_;intro v' w9 Bq AJ FI);have H_:Bl w w9:=Ba (bA hB) AJ (fun q hq=>(A3.lt q hq).1) (by simp;omega);have CQ:w9.ownsRow w.heap.size 5 1 v' (Gc l (k+1)).length (Yw (Gc l (k+1))):=by
      have hlen:(OK k (m:Int)).length=3:=by
       have:=congrArg ZbH HP.out;simpa[Yw]using this
      rw[HS.out,Wl,HP.out,ZF,hlen];exact Bq
     clear Bq AJ FI;go_roundg (l.length - (k+1))
     case rel=>exact⟨k+1,by omega,rfl,by go_num,CQ,H_⟩
     case measure=>omega
    .by_cases hz:n=0
     .subst hz
      go_wp2;go_roundg (l.length - (k+1))
      case rel=>exact⟨k+1,by omega,rfl,by go_num,by rw[HS.out,n_,Zap];exact A3,hB⟩
      case measure=>omega
     obtain⟨m,rfl⟩:∃m:Nat,n= -(m:Int):=⟨(-n).toNat,by omega⟩;have adO:m=1\/m=2:=by omega
     have hpc:=sV Rh adO;have HP:=Zb hpc;clear hpc;go_wp2_with (at_builtin;refine Yj _ rfl (.tmp 42) (.tmp 49) 166 rfl w.heap.size 5 i0 (C .u8 0) 1 1 hu (DC hi) Fo DX EI rfl (by decide) _ _ _ rfl (A3.alloc _) ⟨_,0,none⟩ 3 3 [C .u8 (97+(k:Int)),C .u8 45,C .u8 (48+(m:Int))] rfl rfl (fun j u hj=>dI hj) (by intro u hu;simp at hu;rcases hu with rfl|rfl|rfl<;>rfl) (by unfold maxLen;omega) (by omega) (by simp;omega) ?_;intro v' w9 Bq AJ FI);have H_:Bl w w9:=Ba (bA hB) AJ (fun q hq=>(A3.lt q hq).1) (by simp;omega);have CQ:w9.ownsRow w.heap.size 5 1 v' (Gc l (k+1)).length (Yw (Gc l (k+1))):=by
      have hlen:(OK k (-(m:Int))).length=3:=by
       have:=congrArg ZbH HP.out;simpa[Yw]using this
      rw[HS.out,Wl,HP.out,ZF,hlen];exact Bq
     clear Bq AJ FI;go_roundg (l.length - (k+1))
     case rel=>exact⟨k+1,by omega,rfl,by go_num,CQ,H_⟩
     case measure=>omega
   .have WY:k=l.length:=by omega
    subst WY;have KB:=sW A3;obtain⟨a8,c8,rfl,_⟩:=J9 A3;have azJ:=Zb A3;clear A3;go_wp2;go_ret2;exact⟨by rw[HV.out,HA.out];rfl,hB⟩
 .have HV:=Zb (show Nt c l=[] by rw[Nt,if_neg h0])
  have Iu:=Zb (fun W hB=>r_ (w:=W) (h.later hB) (hl.later hB) (AE hS hB));obtain⟨x,hx⟩:∃x,x=Ca c l:=⟨_,rfl⟩;have Ll:x≠0:=by rw[hx];exact h0
  have HX:=Zb hx;clear h0 hx;go_enter Lp.func69,n69;go_wp2_with (go_at_call 112;refine(Iu.out _ Bb).mono ?_;rintro e w1 ⟨q1,q2,q3,q4,q5,n1,n2,n3,n4,n5,d1,d2,d3,d4,d5,k0,k1,k2,rfl,AW,_⟩;have Bg:=Bb.trans (AW.mono Bb.size);rw[<-HX.out]);go_ret2;refine⟨by rw[HV.out, <-HX.out];rfl,?_⟩
  repeat (with_reducible first|exact Bg|refine bA ?_|(refine bS ?_ (by omega))|refine bD ?_|refine bN ?_)
def kQ (x y:Int):0<=bits Zdk Zck x y / 256/\bits Zdk Zck x y / 256<18446744073709551616:=by
 have:0<=bits Zdk Zck x y/\bits Zdk Zck x y<18446744073709551616:=by
  unfold bits;simp only[Zbk];omega
 omega
def c87 {st:Int}(hv:SI S w v l)(hS:∀x,S x->x<w.heap.size/\x≠b)(hb:w.heap[b]?=some (.cells #[v,C .i64 d,C .u64 st] 106 (0,0)))(hd:d<4611686018427387904):
  Calls Lp 87 #[.pointer (some ⟨b,0,none⟩)] w fun e w'=>∃(RB n:Int),e=.returned (C .u64 n)/\(0<=n/\n<18446744073709551616)/\Cj b w w'/\w'.heap[b]?=some (.cells #[v,C .i64 ((d+1:Nat):Int),C .u64 RB] 106 (0,0)):=by
 obtain⟨a1,c1,rfl,l1,m1⟩:=hv.val;have Gx:=CI;have k0:=ch (i:=0) hb (v:=.slice a1 l.length c1) rfl;have k1:=ch (i:=1) hb (v:=.int .i64 d) rfl;have k2:=ch (i:=2) hb (v:=.int .u64 st) rfl;have f2:=cf (i:=2) hb;have f1:=cf (i:=1) hb;go_enter Lp.func87,n87;go_wp2;generalize IntKind.u64.wrap (IntKind.u64.wrap (st*6364136223846793005)+1442695040888963407)=st1;obtain⟨W1,oZ⟩:∃W1,W1=w.setCell ⟨b,2,none⟩ (C .u64 st1):=⟨_,rfl⟩;have EJ:W1.heap[b]?=some (.cells #[.slice a1 l.length c1,C .i64 d,C .u64 st1] 106 (0,0)):=by rw[oZ];exact A8 hb _
 have Rm:Cj b w W1:=by rw[oZ];exact(Cj.refl _ _).set
 rw[<-oZ];clear oZ k0 k1 k2 f1 f2 hb;have k0:=ch (i:=0) EJ (v:=.slice a1 l.length c1) rfl;have k1:=ch (i:=1) EJ (v:=.int .i64 d) rfl;have k2:=ch (i:=2) EJ (v:=.int .u64 st1) rfl;have f2:=cf (i:=2) EJ;have f1:=cf (i:=1) EJ;have ql:∀(W:Zc) (s2:Int),Cj b w W->W.heap[b]?=some (.cells #[.slice a1 l.length c1,C .i64 d,C .u64 s2] 106 (0,0))->True:=fun _ _ _ _=>trivial;clear ql;by_cases AA:d<l.length
 .obtain⟨b1,o1,rfl,aqO,hc⟩:=hv.at_ AA
  have NC:=(Rm.same (T:=fun x=>x≠b) (fun _ h=>h)).cell (p:=⟨b1,o1+d,none⟩) (hS b1 aqO).2 hc;clear hc;have i1:(d:Int)<(l.length:Int):=by omega
  have i2:(0:Int)<=(d:Int):=by omega
  obtain⟨x,hx⟩:∃x,x=nth l d:=⟨_,rfl⟩;rw[<-hx]at NC;clear hx;go_quiet (fail);go_wp2;obtain⟨W2,Sg⟩:∃W2,W2=W1.drewN nq:=⟨_,rfl⟩;have EA:W2.heap[b]?=some (.cells #[.slice (some ⟨b1,o1,none⟩) l.length c1,C .i64 d,C .u64 st1] 106 (0,0)):=by rw[Sg];exact EJ
  have T6:Cj b w W2:=by rw[Sg];exact Rm.below (zl (Zg W1.heap.size W1) nq)
  have ND:W2.cell? ⟨b1,o1+d,none⟩=some (C .i64 x):=by rw[Sg];exact NC
  rw[<-Sg];clear Sg k0 k1 k2 f1 f2 NC EJ;have k0:=ch (i:=0) EA (v:=.slice (some ⟨b1,o1,none⟩) l.length c1) rfl;have k1:=ch (i:=1) EA (v:=.int .i64 d) rfl;have k2:=ch (i:=2) EA (v:=.int .u64 st1) rfl;have f2:=cf (i:=2) EA;have f1:=cf (i:=1) EA;go_still_tail 20,(by kernel_rfl);change wpList _ _ _ _ _ W2.drew;go_wp2;generalize IntKind.u64.wrap (st1+IntKind.u64.wrap (IntKind.u64.wrap x*2862933555777941757))=st2;obtain⟨W3,H3⟩:∃W3,W3=((W2.setCell ⟨b,2,none⟩ (C .u64 st2)).setCell ⟨b,1,none⟩ (C .i64 (d+1))).drew:=⟨_,rfl⟩;have Xr:W3.heap[b]?=some (.cells #[.slice (some ⟨b1,o1,none⟩) l.length c1,C .i64 (d+1),C .u64 st2] 106 (0,0)):=by rw[H3];exact A8 (A8 EA _) _
  have Ho:Cj b w W3:=by rw[H3];exact(T6.set.set).below (Zg _ _).drew
  rw[<-H3];clear H3 k0 k1 k2 f1 f2;have k2:=ch (i:=2) Xr (v:=.int .u64 st2) rfl;go_quiet (fail);go_wp2;go_ret;exact⟨_,_,rfl,kQ _ _,(Ho.below (Zg _ _)).below (zl (Zg W3.heap.size W3) nq),Xr⟩
 .go_quiet (fail)
  go_wp2;have T6:=(Rm.below (Zg _ _)).below (zl (Zg W1.heap.size W1) nq);obtain⟨W3,H3⟩:∃W3,W3=(W1.drewN nq).setCell ⟨b,1,none⟩ (C .i64 (d+1)):=⟨_,rfl⟩;have Xr:W3.heap[b]?=some (.cells #[.slice a1 l.length c1,C .i64 (d+1),C .u64 st1] 106 (0,0)):=by rw[H3];exact A8 (show(W1.drewN nq).heap[b]?=some _ from EJ) _
  have Ho:Cj b w W3:=by rw[H3];exact T6.set
  rw[<-H3];clear H3 k0 k1 k2 f1 f2;have k2:=ch (i:=2) Xr (v:=.int .u64 st1) rfl;go_quiet (fail);go_wp2;go_ret;exact⟨_,_,rfl,kQ _ _,(Ho.below (Zg _ _)).below (zl (Zg W3.heap.size W3) nq),Xr⟩
def BQ (w:Zc)(b:Nat)(v:Ze)(d:Nat):Prop:=∃st:Int,w.heap[b]?=some (.cells #[v,C .i64 d,C .u64 st] 106 (0,0))
def Lot (w:Zc)(b:Nat)(v:Ze)(d m:Nat)(e:Ending)(w':Zc):Prop:=∃(r d':Nat),e=.returned (C .i64 r)/\r<=m/\Cj b w w'/\BQ w' b v d'/\d'<=d+1
def c27 (v:Ze)(hv:∃a n c,v=.slice a n c)(w:Zc):Calls Lp 27 #[v] w fun e w'=>e=.returned (.pointer (some ⟨w.heap.size,0,none⟩))/\w'=w.alloc (.cells #[v,C .i64 0,C .u64 1] 106):=by
 obtain⟨a,n,c,rfl⟩:=hv;go_enter Lp.func27,n27;go_wp2;go_ret;exact⟨rfl,rfl⟩
variable {n lo hi:Int}
def c29 (hv:SI S w v l)(hS:∀x,S x->x<w.heap.size/\x≠b)(hL:BQ w b v d)(hd:d<4611686018427387904)(hn:n<4611686018427387904):
  Calls Lp 29 #[.pointer (some ⟨b,0,none⟩),C .i64 n] w (Lot w b v d n.toNat):=by
 obtain⟨st,hb⟩:=hL;have H87:=Zb (c87 hv hS hb hd);by_cases h1:n<1
 .go_enter Lp.func29,n29
  go_wp2;go_ret;exact⟨0,d,rfl,Zn _,Cj.refl _ _,⟨st,hb⟩,by omega⟩
 .obtain⟨m,rfl⟩:∃m:Nat,n=m:=⟨n.toNat,by omega⟩
  have HB:=Zb hb;clear hb;go_enter Lp.func29,n29;go_wp2_with (go_at_call 87;refine H87.out.mono ?_;rintro e w1 ⟨RB,q,rfl,⟨hq0,XL⟩,hU,EJ⟩;obtain⟨q',rfl⟩:∃q':Nat,q=q':=⟨q.toNat,by omega⟩);have wC:(0:Int)<=(q':Int) % ((m:Int)+1):=Int.emod_nonneg _ (by omega);have aE:(q':Int) % ((m:Int)+1)<(m:Int)+1:=Int.emod_lt_of_pos _ (by omega);have e1:wrap64 ((q':Int) % ((m:Int)+1))=(((q':Int) % ((m:Int)+1)).toNat:Int):=by rw[IntWalk.wrap64_in _ (by omega)];omega
  have E1:=Zb e1;clear e1;go_ret;refine⟨((q':Int) % ((m:Int)+1)).toNat,d+1,by rw[<-E1.out];rfl,by omega,hU,⟨RB,EJ⟩,Zj _⟩
def c61 (hv:SI S w v l)(hS:∀x,S x->x<w.heap.size/\x≠b)(hL:BQ w b v d)(hd:d<4611686018427387904)(h1: -1000000<=lo/\lo<=1000000)(h2: -1000000<=hi/\hi<=1000000):
  Calls Lp 61 #[.pointer (some ⟨b,0,none⟩),C .i64 lo,C .i64 hi] w fun e w'=>∃(r d':Nat),e=.returned (C .i64 (lo+r))/\r<=(hi - lo).toNat/\Cj b w w'/\BQ w' b v d'/\d'<=d+1:=by
 have pC:=Zb (c29 (n:=hi - lo) hv hS hL hd (by omega));go_enter Lp.func61,n61;go_wp2_with (go_at_call 29;refine pC.out.mono ?_;rintro e w1 ⟨r,d',rfl,hr,hU,Ut,eN⟩);go_ret;exact⟨r,d',rfl,hr,hU,Ut,eN⟩
def c99 (hv:SI S w v l)(hS:∀x,S x->x<w.heap.size/\x≠b)(hL:BQ w b v d)(hd:d<4611686018427387904)(hn: -1000000<=n/\n<=1000000):
  Calls Lp 99 #[.pointer (some ⟨b,0,none⟩),C .i64 n] w fun e w'=>∃(r:Bool) (d':Nat),e=.returned (.bool r)/\Cj b w w'/\BQ w' b v d'/\d'<=d+1:=by
 have pC:=Zb (c29 (n:=n - 1) hv hS hL hd (by omega));go_enter Lp.func99,n99;go_wp2_with (go_at_call 29;refine pC.out.mono ?_;rintro e w1 ⟨r,d',rfl,hr,hU,Ut,eN⟩)
 all_goals
  go_ret;exact⟨_,d',rfl,hU,Ut,eN⟩
def c98 {s:List Int}(hv:SI S w v l)(hS:∀x,S x->x<w.heap.size/\x≠b)(hL:BQ w b v d)(hd:d<4611686018427387904)(hs:SI T w v2 s)(hT:∀x,T x->x<w.heap.size/\x≠b)(h1:1<=s.length)(h2:s.length<=1000):
  Calls Lp 98 #[.pointer (some ⟨b,0,none⟩),v2] w fun e w'=>∃(r d':Nat),e=.returned (C .i64 (nth s r))/\r<s.length/\Cj b w w'/\BQ w' b v d'/\d'<=d+1:=by
 obtain⟨a2,c2,rfl,l2,m2⟩:=hs.val;have Gx:=CI;have pC:=Zb (c29 (n:=(s.length:Int) - 1) hv hS hL hd (by omega));go_enter Lp.func98,n98;go_wp2_with (go_at_call 29;refine pC.out.mono ?_;rintro e w1 ⟨r,d',rfl,hr,hU,Ut,eN⟩;(have KN:r<s.length:=by omega);obtain⟨b2,o2,rfl,EA,hc⟩:=hs.at_ KN;have ND:=(hU.same (T:=fun x=>x≠b) (fun _ h=>h)).cell (p:=⟨b2,o2+r,none⟩) (hT b2 EA).2 hc;clear hc);go_ret;exact⟨r,d',rfl,KN,hU,Ut,eN⟩
section
variable {P:Zp}{ops:Array Oper}{Q:Exit->Act->Zc->Prop}{T:Nat->Zc->Prop}
variable {r:List (Bool×Nat)}
def QN {o:Oper}{a:Act}(ho:ops[i]?=some o)(hg:o.guard=none)(h:o.wp P a w (fun a' w'=>T i w'/\Ec P ops Q T r a' w') Q):Ec P ops Q T ((false,i)::r) a w:=by
 unfold Ec wpOp;simp only[ho];rw[if_pos (by simp[Ym,hg])];exact .inl h
def Kg {o:Oper}{a:Act}(ho:ops[i]?=some o)(hg:o.guard=none)(hr:(ZbE a.eval o).run P w=.ok (.value v) w')(hT:T i w')
 (h:Ec P ops Q T r (a.put o.dst v) w'):Ec P ops Q T ((false,i)::r) a w:=by
 refine QN ho hg ?_;unfold ZbG;rw[hr,Zde];exact⟨hT,h⟩
end
def RelA (R:Nat->Nat->Prop)(ab:Nat->Nat):Prop:=∀j b,(ab j).testBit b=true->R j b
section
variable {R:Nat->Nat->Prop}{ab:Nat->Nat}
def sX (tr:∀a b c,R a b->R b c->R a c){o:Nat}(h:RelA R ab)(hr:R i o):RelA R (Rf ab i o):=by
 intro j b hb;unfold Rf at hb;split at hb
 .next e=>
  subst e;rw[Nat.testBit_or,Za1]at hb;rcases hb with hb|hb
  .exact h _ _ hb
  .unfold IE at hb
   rw[Nat.testBit_or,Za1]at hb;rcases hb with hb|hb
   .exact tr _ _ _ hr (h _ _ hb)
   .rw[Nat.one_shiftLeft,Nat.testBit_two_pow]at hb
    have:o=b:=by simpa using hb
    exact this▸hr
 .exact h _ _ hb
def T7 (tr:∀a b c,R a b->R b c->R a c){i:Nat}:∀(l:List Int) (ab:Nat->Nat),RelA R ab->(∀x∈l,R i x.toNat)->RelA R (F9 ab i l)
 | [],_,h,_=>h
 |x::r,_,h,hx=>T7 tr r _ (sX tr h (hx x (zo ..))) fun y hy=>hx y (Z9 _ hy)
def T8 (tr:∀a b c,R a b->R b c->R a c):∀(l:List Aq) (ab:Nat->Nat) (i:Nat),RelA R ab->(∀k,k<l.length->∀x∈(Ah l k).over,R (i+k) x.toNat)->RelA R (Fz ab i l)
 | [],_,_,h,_=>h
 |s::r,ab,i,h,hx=>T8 tr r _ (i+1) (T7 tr s.over ab h (hx 0 (Nat.succ_pos _))) fun k hk x hm=>by
  have:=hx (k+1) (Nat.succ_lt_succ hk) x hm;rwa[show i+1+k=i+(k+1) by omega]
def QO (tr:∀a b c,R a b->R b c->R a c){l:List Aq}(hx:∀k,k<l.length->∀x∈(Ah l k).over,R k x.toNat):∀(n:Nat) (ab:Nat->Nat),RelA R ab->RelA R (DR ab l n)
 |0,_,h=>h
 |n+1,ab,h=>QO tr hx n _ (T8 tr l ab 0 h fun k hk x hm=>by rw[zK];exact hx k hk x hm)
def dJ (tr:∀a b c,R a b->R b c->R a c)(ir:∀a,¬R a a){l:List Aq}(hx:∀k,k<l.length->∀x∈(Ah l k).over,R k x.toNat):H9 l=true:=by
 unfold H9;rw[zt];intro i _;have h:RelA R (Au l):=QO tr hx _ _ fun j b hb=>by simp at hb
 cases e:hasB (Au l i) i
 .rfl
 .exact absurd (h i i e) (ir i)
end
def Gd (h:lo<=n/\n<=hi):AD n lo hi=false:=by simp[AD];omega
def Ie {α:Type}{f:α->Int}:∀ {l:List α},(∀x∈l,f x=0)->Bd f l=0
 | [],_=>rfl
 |x::r,h=>by
  unfold Bd;rw[if_pos (h x (zo ..))];exact Ie fun y hy=>h y (Z9 _ hy)
def Kh {α:Type}{f:Nat->α->Int}:∀ {l:List α} {i:Nat},(∀k x,l[k]?=some x->f (i+k) x=0)->CZ f i l=0
 | [],_,_=>rfl
 |x::r,i,h=>by
  unfold CZ;rw[if_pos (show f i x=0 from h 0 x rfl)];exact Kh fun k y hy=>by
   have:=h (k+1) y (by simpa using hy);rwa[show i+1+k=i+(k+1) by omega]
def OL {m:Int}(h:1<=n/\n<=m):Dt n m=0:=by
 unfold Dt;rw[if_neg (by omega),if_neg (by omega)]
def dK {p:Int×Int}(h:lo<=p.1/\p.1<=p.2/\p.2<=hi):C9 p lo hi=0:=by
 unfold C9;rw[if_neg (by rw[Gd (by omega),Gd (by omega)];simp),if_neg (by omega)]
def Sh (h:lo<=n/\n<=hi):Fy lo hi n=0:=TF (Gd h)
structure LI (g n own:Nat)(s:Aq):Prop where
 step: -2<=s.low/\s.low<=s.high/\s.high<=2
 few:1<=s.Ak.length/\s.Ak.length<=2
 pull:∀p∈s.Ak,0<=p.1/\p.1<g/\p.2≠0/\-4<=p.2/\p.2<=4
 twice:s.Ak.length=2->(BF s.Ak 1).1≠(BF s.Ak 0).1
 over:∀o∈s.over,0<=o/\o<n/\o≠own
 rising:s.over.Pairwise (· < ·)
 left:0<=s.left/\s.left<=4
def Ig (c:A4)(l:List Int):Prop:=l.length=c.Aa.length/\∀i,i<l.length->(Ah c.Aa i).low<=nth l i/\nth l i<=(Ah c.Aa i).high
structure FG (c:A4):Prop where
 EG:1<=c.base.length/\c.base.length<=3
 base:∀x∈c.base,20<=x/\x<=30
 QG:c.Af.length=c.base.length
 Af:∀p∈c.Af,-2<=p.1/\p.1<=p.2/\p.2<=5
 hooks:c.hooks.length=c.base.length
 hook:∀x∈c.hooks,0<=x/\x<=5
 few:1<=c.Aa.length/\c.Aa.length<=3
 seam:∀i,i<c.Aa.length->LI c.base.length c.Aa.length i (Ah c.Aa i)
 way:(∀i,i<c.Aa.length->∀o∈(Ah c.Aa i).over,(i:Int)<o)\/∀i,i<c.Aa.length->∀o∈(Ah c.Aa i).over,o<(i:Int)
 now:Ig c c.now
def kR (h:Ig c l):Cz c l=0:=by
 unfold Cz;have hl:=h.1;rw[if_neg (by omega),if_neg (by omega)];refine Ie fun p hp=>?_;obtain⟨i,hi,e⟩:=Yo hp;have m_:i<l.length:=by simp at hi;omega
 have:=Ox (l:=l) (m:=c.Aa) m_ (by omega);rw[ZE hi,e]at this;cases this;exact Sh (h.2 i m_)
def FG.H9 (h:FG c):H9 c.Aa=true:=by
 rcases h.way with hw|hw
 .exact dJ (R:=fun a b=>a<b) (fun a b c=>Nat.lt_trans) (fun a=>Nat.lt_irrefl a) fun k hk x hx=>by have:=hw k hk x hx;omega
 .exact dJ (R:=fun a b=>b<a) (fun a b c h1 h2=>Nat.lt_trans h2 h1) (fun a=>Nat.lt_irrefl a) fun k hk x hx=>by
   have:=hw k hk x hx;have:=((h.seam k hk).over x hx).1;omega
def iI (h:l.Pairwise (· < ·))(h0:0<i)(hi:i<l.length):nth l (i - 1)<nth l i:=by
 have:=List.pairwise_iff_getElem.1 h (i - 1) i (by omega) hi (by omega);simpa[nth,ZR,hi,show i - 1<l.length by omega]using this
def FG.ES (h:FG c)(hi:i<c.Aa.length):ES c i=0:=by
 have hs:=h.seam i hi;unfold Go.Proofs.Fit.ES;rw[B0 (dK hs.step),B0 (OL (by have:=hs.few;omega)),B0 (Kh fun k p hp=>?_),B0 (Kh fun k o ho=>?_)]
 .exact Sh hs.left
 .have hk:=(Zl.1 ho).1
  have hm:=hs.over o (Z8 ho);rw[zK];unfold DZ;rw[if_neg (by rw[Gd (by omega)];simp;omega),if_neg];rintro⟨h0,hle⟩;have:=iI hs.rising h0 hk;rw[show nth (Ah c.Aa i).over k=o by unfold nth;rw[ZR,ho];rfl]at this;omega
 .have hk:=(Zl.1 hp).1
  have hm:=hs.pull p (Z8 hp);have hf:=hs.few;rw[zK];unfold Fj;rw[Gd (by omega),if_neg (by decide),Gd (by omega),if_neg (by simp;omega),if_neg];rintro⟨h0,e⟩;have h1:k=1:=by omega
  subst h1;refine hs.twice (by omega) ?_;rw[<-e];unfold BF;rw[ZR,hp]
  rfl
def FG.begin (h:FG c):B_ c=0:=by
 unfold B_ Dy;have e1:Dt (c.base.length:Int) 3=0:=OL (by have:=h.EG;omega);have e2:Bd (Fy 1 60) c.base=0:=Ie fun x hx=>Sh (by have:=h.base x hx;omega);have e3:Bd (fun p=>C9 p (-9) 9) c.Af=0:=Ie fun p hp=>dK (by have:=h.Af p hp;omega);have e4:Bd (Fy 0 5) c.hooks=0:=Ie fun x hx=>Sh (h.hook x hx);have e5:Dt (c.Aa.length:Int) 3=0:=OL (by have:=h.few;omega);have e6:J6 c=0:=by
  unfold J6;exact Kh fun k x hx=>by rw[zK];exact h.ES (Zl.1 hx).1
 rw[B0 e1,B0 e2,if_neg (fun x=>x h.QG),B0 e3,if_neg (fun x=>x h.hooks),B0 e4,B0 e5,B0 e6,if_pos h.H9];exact kR h.now
def FG.valid (h:FG c):FB c:=EU h.begin
def FG.asked (h:FG c)(hl:Ig c l):Ca c l=0:=by
 unfold Ca;rw[B0 h.begin,kR hl]
def T9 (lo hi:Int):List Int:=(ZL (hi+1 - lo).toNat).map fun k:Nat=>lo+(k:Int)
def Nu:List Aq->List (List Int)
 | []=> [[]]
 |s::r=>(T9 s.low s.high).flatMap fun n=>(Nu r).map (n:: ·)
def LJ (c:A4):List (List Int):=Nu c.Aa
def Mj (n:Int):Option (List (List Int)×Int)->Bool
 |none=>true
 |some p=>decide (n<p.2)
def DT (ab:Nat->Nat)(d:A4)(g:A4->Option (List (List Int)×Int))(out:Option (List (List Int)×Int))(l:List Int):Option (List (List Int)×Int):=
 match J_ d (Cb ab d.now l) with
 |some _=>out
 |none=>match g (Ea d l (Cb ab d.now l)) with
  |none=>out
  |some p=>if Mj ((Av (Cb ab d.now l)).length+p.2) out=true then some (l::p.1,(Av (Cb ab d.now l)).length+p.2) else out
def GI (ab:Nat->Nat):List (List (List Int))->A4->Option (List (List Int)×Int)
 | [],_=>some ([],0)
 |f::r,d=>f.foldl (DT ab d (GI ab r)) none
variable {α:Type}
def iJ {g:α->List Int->α}{a:α}{f:List (List Int)}(h:k<f.length):(f.drop k).foldl g a=(f.drop (k+1)).foldl g (g a (Cu f k)):=by
 obtain⟨hk,e⟩:=Zl.1 (C2 h);rw[Zu hk,e]
 rfl
def ob {d:A4}(h:J_ d t=none):∀x∈Av t,1<=(Ah d.Aa x.toNat).left:=fun x hx=>by
 have:=List.find?_eq_none.1 h x hx;unfold Oz at this;simp at this;omega
structure oc (c d:A4):Prop where
 base:d.base=c.base
 Af:d.Af=c.Af
 hooks:d.hooks=c.hooks
 len:d.Aa.length=c.Aa.length
 now:d.now.length=c.Aa.length
 left:∀i,i<c.Aa.length->0<=(Ah d.Aa i).left/\(Ah d.Aa i).left<=4
 rest:∀i,i<c.Aa.length->(Ah d.Aa i).Ak=(Ah c.Aa i).Ak/\(Ah d.Aa i).over=(Ah c.Aa i).over/\(Ah d.Aa i).low=(Ah c.Aa i).low/\(Ah d.Aa i).high=(Ah c.Aa i).high
def oc.adI {d:A4}(h:oc c d)(hl:l.length=c.Aa.length)(hx:∀x,x∈Av t->0<=x/\x<d.Aa.length)(hs:J_ d t=none):oc c (Ea d l t):=by
 refine⟨h.base,h.Af,h.hooks,(Mh _ _).trans h.len,hl,fun i hi=>?_,fun i hi=>?_⟩
 .have:=h.left i hi
  show 0<=(Ah (BP d.Aa (Av t)) i).left/\(Ah (BP d.Aa (Av t)) i).left<=4;by_cases hm:(i:Int)∈Av t
  .have h1:=ob hs _ hm
   rw[Int.toNat_natCast]at h1;rcases Ke (Av t) d.Aa i (IK t) hx with e|e<;>rw[e]<;>omega
  .rw[IL _ _ _ hx hm]
   exact this
 .have:=h.rest i hi
  obtain⟨e1,e2,e3,e4⟩:=Nq (Av t) d.Aa i hx;show(Ah (BP d.Aa (Av t)) i).Ak=_/\(Ah (BP d.Aa (Av t)) i).over=_/\(Ah (BP d.Aa (Av t)) i).low=_/\(Ah (BP d.Aa (Av t)) i).high=_;rw[e1,e2,e3,e4];exact this
def sY {b:List Int}(h:a.length=b.length)(hn:∀i,i<a.length->nth a i=nth b i):a=b:=by
 apply zM fun i=>?_;by_cases hi:i<a.length
 .rw[A_ hi,A_ (by omega),hn i hi]
 .rw[ZJ (by omega),ZJ (by omega)]
def sZ {a b:List Aq}(h:a.length=b.length)(hn:∀i,i<a.length->Ah a i=Ah b i):a=b:=by
 apply zM fun i=>?_;by_cases hi:i<a.length
 .rw[Ct hi,Ct (by omega),hn i hi]
 .rw[ZJ (by omega),ZJ (by omega)]
def Aq.ext' {a b:Aq}(h1:a.low=b.low)(h2:a.high=b.high)(h3:a.Ak=b.Ak)(h4:a.over=b.over)(h5:a.left=b.left):a=b:=by
 cases a;cases b;simp_all
def oc.eq {d:A4}(h:oc c d)(h':oc c d')(hn:∀i,i<c.Aa.length->nth d.now i=nth d'.now i)(hl:∀i,i<c.Aa.length->(Ah d.Aa i).left=(Ah d'.Aa i).left):d=d':=by
 have e1:=h.base.trans h'.base.symm;have e2:=h.Af.trans h'.Af.symm;have e3:=h.hooks.trans h'.hooks.symm;have e4:d.Aa=d'.Aa:=sZ (h.len.trans h'.len.symm) fun i hi=>by
  have Da:i<c.Aa.length:=by have:=h.len;omega
  obtain⟨a1,a2,a3,a4⟩:=h.rest i Da;obtain⟨b1,b2,b3,b4⟩:=h'.rest i Da;exact Aq.ext' (a3.trans b3.symm) (a4.trans b4.symm) (a1.trans b1.symm) (a2.trans b2.symm) (hl i Da)
 have e5:d.now=d'.now:=sY (h.now.trans h'.now.symm) fun i hi=>hn i (by have:=h.now;omega);cases d;cases d';simp_all
def Nv (ab:Nat->Nat):∀(fs:List (List (List Int))) (d:A4) (p:List (List Int)×Int),GI ab fs d=some p->0<=p.2/\p.2<=3*fs.length/\p.1.length=fs.length
 | [],_,p,h=>by cases h;simp
 |f::r,d,p,h=>by
  have key:∀(l:List (List Int)) (o:Option (List (List Int)×Int)),(∀q,o=some q->0<=q.2/\q.2<=3*((f::r).length:Int)/\q.1.length=(f::r).length)->∀q,l.foldl (DT ab d (GI ab r)) o=some q->0<=q.2/\q.2<=3*((f::r).length:Int)/\q.1.length=(f::r).length:=by
   intro l
   induction l with
   |nil=>intro o ho q hq;exact ho q hq
   |cons x l ih=>
    intro o ho q hq;refine ih _ (fun q' Q7=>?_) q hq;unfold DT at Q7;split at Q7
    .exact ho q' Q7
    .split at Q7
     .exact ho q' Q7
     .next p' Xd=>
      split at Q7
      .cases Q7
       have:=Nv ab r _ p' Xd;have hc:=JG (Cb ab d.now x) 3;change(Av (Cb ab d.now x)).length<=3 at hc;simp only[zp];omega
      .exact ho q' Q7
  exact key f none (fun q hq=>by cases hq) p h
def iK {x:Int}(h:x∈T9 lo hi):lo<=x/\x<=hi:=by
 unfold T9 at h;obtain⟨k,hk,rfl⟩:=Zby.1 h;rw[List.mem_range]at hk;omega
def T_:∀(s:List Aq) (l:List Int),l∈Nu s->l.length=s.length/\∀i,i<l.length->(Ah s i).low<=nth l i/\nth l i<=(Ah s i).high
 | [],l,h=>by
  obtain rfl:l=[]:=by simpa[Nu]using h
  exact⟨rfl,fun i hi=>absurd hi (ZaM _)⟩
 |t::s,l,h=>by
  unfold Nu at h;obtain⟨n,hn,hl⟩:=List.mem_flatMap.1 h;obtain⟨r,hr,rfl⟩:=Zby.1 hl;obtain⟨h1,h2⟩:=T_ s r hr;refine⟨by simp[h1],fun i hi=>?_⟩;cases i with
  |zero=>exact iK hn
  |succ i=>exact h2 i (by simpa using hi)
def dL {α β:Type}{f:α->List β}{k:Nat}:∀(l:List α),(∀x∈l,(f x).length<=k)->(l.flatMap f).length<=l.length*k
 | [],_=>by simp
 |x::r,h=>by
  have h1:=h x (zo ..);have h2:=dL r fun y hy=>h y (Z9 _ hy);rw[List.flatMap_cons,ZF,zp,Nat.add_mul];omega
def iL (lo hi:Int):(T9 lo hi).length=(hi+1 - lo).toNat:=by simp[T9]
def Ua:∀(s:List Aq),(∀i,i<s.length->-2<=(Ah s i).low/\(Ah s i).high<=2)->(Nu s).length<=5^s.length
 | [],_=>by simp[Nu]
 |t::s,h=>by
  have h0:=h 0 (Nat.succ_pos _);change -2<=t.low/\t.high<=2 at h0;have ih:=Ua s fun i hi=>h (i+1) (Nat.succ_lt_succ hi);unfold Nu;refine Zt (dL _ fun n _=>by rw[Zbz];exact ih) ?_;rw[iL,zp,Nat.pow_succ,ZcS];exact Nat.mul_le_mul_left _ (by omega)
structure Am (T:Nat->Prop)(w W:Zc):Prop where
 os:W.os=w.os
 tape:W.tape=w.tape
 output:W.output=w.output
 size:w.heap.size<=W.heap.size
 block:∀k,k<w.heap.size->¬T k->W.heap[k]?=w.heap[k]?
section
variable {T U:Nat->Prop}{w W W':Zc}
def Am.refl (T:Nat->Prop)(w:Zc):Am T w w:=⟨rfl,rfl,rfl,Zj _,fun _ _ _=>rfl⟩
def Am.trans (h:Am T w W)(k:Am T W W'):Am T w W':=
 ⟨k.os.trans h.os,k.tape.trans h.tape,k.output.trans h.output,Zt h.size k.size,fun i hi ht=>(k.block i (Zm hi h.size) ht).trans (h.block i hi ht)⟩
def Am.mono (h:Am T w W)(hs:∀k,T k->U k):Am U w W:=⟨h.os,h.tape,h.output,h.size,fun k hk hu=>h.block k hk fun x=>hu (hs k x)⟩
def Am.DY {n:Nat}(h:YS n w W)(hT:∀x,n<=x->x<w.heap.size->T x):Am T w W:=
 ⟨h.os,h.tape,h.output,h.size,fun x hx ht=>h.block x (Nat.lt_of_not_le fun y=>ht (hT x y hx))⟩
def Am.later (h:Bl w W):Am T w W:=Am.DY h fun k h1 h2=>absurd h2 (Nat.not_lt_of_le h1)
def Am.below {n:Nat}(h:Am T w W)(hT:∀k,T k->n<=k)(hn:n<=w.heap.size):YS n w W:=
 ⟨h.os,h.tape,h.output,h.size,fun k hk=>h.block k (Zm hk hn) fun x=>absurd (hT k x) (Nat.not_le_of_lt hk)⟩
variable {o:Obj}
def Am.put {l:Nat}(h:Am T w W)(hl:T l):Am T w (W.putObj l o):=
 ⟨h.os,h.tape,h.output,by simpa using h.size,fun k hk ht=>(zP fun e=>ht (by rw[e];exact hl)).trans (h.block k hk ht)⟩
def Am.set (h:Am T w W)(hq:T q):Am T w (W.setCell ⟨q,i,none⟩ v):=
 ⟨h.os,h.tape,h.output,by simpa using h.size,fun k hk ht=>(AY (fun e=>ht (by rw[e];exact hq)) _).trans (h.block k hk ht)⟩
def Am.uQ (h:Am T w W)(hB:Bl W W'):Am T w W':=h.trans (Am.later hB)
def Am.same (h:Am T w W)(hS:∀b,S b->¬T b):CC S w W:=fun b hb hl=>h.block b hl (hS b hb)
end
def O8 (e:Zr)(n:Nat)(w:Zc)(b:Nat):Prop:=Cf n w b/\∃cs,w.heap[b]?=some (.cells cs e (0,0))
def KP (n m k:Nat):Prop:=n<=k/\k<n+m
def ajC (P:Zp)(g:Nat)(lb:Array Ze)(m:Nat)(K:Nat->Prop)(xs:List (List Int))(w0:Zc):Prop:=
 ∀(l:Nat) (J:List (List Int)->Zc->Prop) (W:Zc),w0.heap.size<=W.heap.size->(∀k,K k->k<w0.heap.size->W.heap[k]?=w0.heap[k]?)->
  (∀A,Bl W A->W.heap.size+m<=A.heap.size->J [] A)->
  (∀pre A B,J pre A->Am (KP W.heap.size m) A B->J pre B)->
  (∀pre x u A0 A,J pre A0->Am (KP W.heap.size m) A0 A->W.heap.size+m<=A0.heap.size->pre++ [x]<+:xs->SI (O8 3 A0.heap.size A) A u x->
   YieldAt Zbu 0 P l #[u] A fun e A'=>e=.returned (.bool true)/\J (pre++ [x]) A'/\Am (fun k=>¬KP W.heap.size m k/\¬K k) A A')->
  CallsIn Zbu 0 P g (#[.func (.yield l) #[] #[]]++lb) W fun e A=>(∃v,e=.returned v)/\J xs A
variable {xs ls:List (List Int)}
def oe {P:Zp}{g:ZbX}{p:Tmp}{assign body:Code}{Q:Exit->Act->Zc->Prop}{a:Act}{gf:Nat}{lb:Array Ze}{K:Nat->Prop}(hg:a.eval g=.func (.func gf) #[] lb)(eg:∀args w,(ZB gf args).run P w=.ok (.enter gf args) w)
 (xF:ajC P gf lb m K xs w0) (hw:w0.heap.size<=w.heap.size) (hK:∀k,K k->k<w0.heap.size/\w.heap[k]?=w0.heap[k]?)
 (I:List (List Int)->Zc->Prop) (h0:∀A,Bl w A->w.heap.size+(m+2)<=A.heap.size->I [] A)
 (hI:∀pre A B,I pre A->Am (KP w.heap.size (m+2)) A B->I pre B) (fN:Ze->Act)
 (xG:∀(l:Nat) (u:Ze) (W:Zc) (K:Act->Zc->Prop),(∃ad n c,u=.slice ad n c)->K (fN u) W->assign.wpIn (Fence.wide.inRound l) 0 P (Exit.then K (fun _ _ _=>False)) {tmps:=((#[p]:Array Tmp).zip #[u]).foldl (fun t (p,v)=>t.setIfInBounds p v) a.tmps,defers:=[]} W)
 (ajD:∀(l:Nat) (pre:List (List Int)) (x:List Int) (u:Ze) (A0 A:Zc),I pre A0->Am (KP w.heap.size (m+2)) A0 A->w.heap.size+(m+2)<=A0.heap.size->pre++ [x]<+:xs->SI (O8 3 A0.heap.size A) A u x->
 body.wpIn (Fence.wide.inRound l) 0 P (fun e _ W'=>e=.normal/\I (pre++ [x]) W'/\Am (fun k=>¬KP w.heap.size (m+2) k/\¬K k) A W') (fN u) A)
 (ajE:∀A,I xs A->A.heap[w.heap.size]?=some (.deferred (some []))->Q .normal {a with defers:= {target:=.collected w.heap.size,args:= #[]}::a.defers} A):
  (Code.rangeFunc g #[p] assign body).wpIn Zbu 0 P Q a w:=by
 refine wpIn_rangeFunc ?_;intro fn G7;obtain⟨rec,XV⟩:∃rec:LoopState->Option Code->Loop,rec=fun st pe=> {state:=st,pending:=pe,fn,tmps:=a.tmps,params:= #[p],assign,body,defers:=w.heap.size}:=⟨_,rfl⟩;obtain⟨W1,oZ⟩:∃W1,(w.alloc (.deferred (some []))).alloc (.loop (rec .ready none))=W1:=⟨_,rfl⟩;have LK:W1.heap[w.heap.size+1]?=some (.loop (rec .ready none)):=by
  rw[<-oZ];have:=ZdH (w.alloc (.deferred (some []))) (.loop (rec .ready none));rwa[ZG]at this
 have pj:W1.heap[w.heap.size]?=some (.deferred (some [])):=by
  rw[<-oZ];exact(zJ _ _ _ (by simp)).trans (ZdH w _)
 have Bb:Bl w W1:=by rw[<-oZ];exact((Zg _ w).alloc (Zj _) _).alloc (by simp) _
 have DX:W1.heap.size=w.heap.size+2:=by rw[<-oZ];simp
 have adP:∀k,KP W1.heap.size m k->KP w.heap.size (m+2) k:=fun k h=>by unfold KP at*;omega
 refine⟨w.heap.size+1,[{target:=.collected w.heap.size,args:= #[]}],W1, {target:=.fn (.func gf) lb,args:= #[.func (.yield (w.heap.size+1)) #[] #[]]},W1,gf,
  #[.func (.yield (w.heap.size+1)) #[] #[]]++lb,W1,?_,?_,?_,?_,(fun h=>by cases h),?_⟩
 .rw[<-oZ,XV];exact run_enterLoop_outer _ _ _ _ _
 .simp only[Zbp,hg]
  simp[go_sem]
 .intro f' _;trivial
 .simp[invoke,go_sem,eg]
 .refine(xF (w.heap.size+1) (fun pre A=>I pre A/\A.heap[w.heap.size+1]?=some (.loop (rec .ready none))/\A.heap[w.heap.size]?=some (.deferred (some []))) W1 (by omega)
   (fun k hk _=>(Bb.block k (Zm (hK k hk).1 hw)).trans (hK k hk).2)
   (fun A hA hs=>⟨h0 A (Bb.trans (hA.mono Bb.size)) (by omega),(hA.block _ (by omega)).trans LK,(hA.block _ (by omega)).trans pj⟩)
   (fun pre A B hj hT=>⟨hI pre A B hj.1 (hT.mono adP),(hT.block _ (Za.1 hj.2.1).1 (by unfold KP;omega)).trans hj.2.1,(hT.block _ (Za.1 hj.2.2).1 (by unfold KP;omega)).trans hj.2.2⟩)
   ?_).mono ?_
  .rintro pre x u A0 A ⟨hi,mi,eH⟩ hT hz hlen hu
   have hl:A.heap[w.heap.size+1]?=some (.loop (rec .ready none)):=(hT.block _ (Za.1 mi).1 (by unfold KP;omega)).trans mi;have hk:A.heap[w.heap.size]?=some (.deferred (some [])):=(hT.block _ (Za.1 eH).1 (by unfold KP;omega)).trans eH;have AA:w.heap.size+1<A.heap.size:=(Za.1 hl).1;have azP:w.heap.size+1<A0.heap.size:=(Za.1 mi).1;have hy:=run_yield (P:=P) (args:= #[u]) hl (by rw[XV];rfl);rw[XV]at hy;refine⟨fn,_,assign,body,hy,roundIn_of_wpIn trivial (xG _ u A _ ?_ ⟨_,run_beginRound hl (by rw[XV]),?_⟩)⟩
   .obtain⟨ad,c,rfl,_⟩:=hu.val
    exact⟨ad,_,c,rfl⟩
   obtain⟨A2,U0⟩:∃A2,A2=A.putObj (w.heap.size+1) (.loop {rec .ready none with state:=.busy}):=⟨_,rfl⟩;rw[<-U0];have MI:A2.heap[w.heap.size+1]?=some (.loop {rec .ready none with state:=.busy}):=by rw[U0];exact Zaz AA
   have hk2:A2.heap[w.heap.size]?=some (.deferred (some [])):=by rw[U0];exact(zP (by omega)).trans hk
   have Ff:Am (KP w.heap.size (m+2)) A0 A2:=by rw[U0];exact(hT.mono adP).put (by unfold KP;omega)
   have EI:A2.heap.size=A.heap.size:=by rw[U0];simp
   have EA:∀k,k≠w.heap.size+1->A2.heap[k]?=A.heap[k]? :=fun k h=>by rw[U0];exact zP h
   have ht2:A2.os=A.os/\A2.tape=A.tape/\A2.output=A.output:=by rw[U0];exact⟨rfl,rfl,rfl⟩
   have LD:SI (O8 3 A0.heap.size A2) A2 u x:=Sl.imp (hu.Aw (fun b hb _=>EA b (by have:=hb.1.1;omega))) (fun b hb=>⟨⟨hb.1.1,by rw[EI];exact hb.1.2⟩,by rw[EA b (by have:=hb.1.1;omega)];exact hb.2⟩) (fun _ _ x=>x);clear U0;refine wpIn_mono (ajD _ pre x u A0 A2 hi Ff (by omega) hlen LD) ?_;rintro e a3 W3 ⟨rfl,xH,Ub⟩;have Nn:W3.heap[w.heap.size+1]?=some (.loop {rec .ready none with state:=.busy}):=(Ub.block _ (by omega) (fun h=>h.1 (by unfold KP;omega))).trans MI;have Ow:W3.heap[w.heap.size]?=some (.deferred (some [])):=(Ub.block _ (by omega) (fun h=>h.1 (by unfold KP;omega))).trans hk2;have MV:=run_endRound (P:=P) none Nn;refine⟨_,_,MV,rfl,⟨hI _ _ _ xH ((Am.refl _ _).put (by unfold KP;omega)),?_,?_⟩,?_⟩
   .rw[Zaz (Za.1 Nn).1,XV];rfl
   .exact(zP (by omega)).trans Ow
   .refine⟨Ub.os.trans ht2.1,Ub.tape.trans ht2.2.1,Ub.output.trans ht2.2.2,by have:=Ub.size;simp;omega,fun k hk hn=>?_⟩
    by_cases WY:k=w.heap.size+1
    .exfalso
     refine hn ⟨by unfold KP;omega,fun eO=>?_⟩;have:=(hK k eO).1;omega
    .rw[zP WY]
     by_cases hm:KP w.heap.size (m+2) k
     .rw[Ub.block k (by omega) (fun h=>h.1 hm),EA k WY]
     .rw[Ub.block k (by omega) (fun h=>hn ⟨fun h'=>hm (adP k h'),h.2⟩),EA k WY]
  .rintro e W2 ⟨⟨v,rfl⟩,hi,hl,hk⟩
   refine⟨none,_,by have:=run_endLoop (P:=P) hl (by rw[XV];simp);rw[XV]at this;exact this,?_⟩;exact ajE _ (hI _ _ _ hi ((Am.refl _ _).put (by unfold KP;omega))) ((zP (by omega)).trans hk)
attribute [local go_sem] ZcF
structure IT (S:Nat->Prop)(n0 l bg:Nat)(v1 v2 v3 v4 v5:Ze)(ab:Nat->Nat)(c:A4)(p:List Int)(A:Zc):Prop where
 yb:A.heap[n0]?=some (.cells #[.func (.yield l) #[] #[]] 65 (0,0))
 row:∃tl,(p++tl).length=c.Aa.length/\A.heap[n0+1]?=some (.cells ((p++tl).map (ZS .i64)).toArray 3 (0,0))
 sb:A.heap[n0+2]?=some (.cells #[.slice (some ⟨n0+1,0,none⟩) c.Aa.length c.Aa.length] 22 (0,0))
 fb:A.heap[n0+3]?=some (.cells #[.func (.func 154) #[] #[.pointer (some ⟨n0+2,0,none⟩),.pointer (some ⟨n0,0,none⟩),.pointer (some ⟨bg,0,none⟩),.pointer (some ⟨n0+3,0,none⟩)]] 129 (0,0))
 gb:A.heap[bg]?=some (.cells (Bj v1 v2 v3 v4 v5 ab) 112 (0,0))
 rc:RC S A v1 v2 v3 v4 v5 c
section
variable {S:Nat->Prop}{n0 l bg:Nat}{v1 v2 v3 v4 v5:Ze}{ab:Nat->Nat}{c:A4}{p:List Int}{A B:Zc}
def IT.Aw (h:IT S n0 l bg v1 v2 v3 v4 v5 ab c p A)(hT:Am (fun k=>¬KP n0 4 k/\¬(S k\/k=bg)) A B):IT S n0 l bg v1 v2 v3 v4 v5 ab c p B:=by
 have hm:∀k x,k<4->A.heap[n0+k]?=some x->B.heap[n0+k]?=some x:=fun k x hk h=>(hT.block _ (Za.1 h).1 (fun q=>q.1 (by unfold KP;omega))).trans h;obtain⟨tl,h1,h2⟩:=h.row;exact⟨hm 0 _ (by omega) h.yb,⟨tl,h1,hm 1 _ (by omega) h2⟩,hm 2 _ (by omega) h.sb,hm 3 _ (by omega) h.fb,(hT.block _ (Za.1 h.gb).1 (fun q=>q.2 (.inr rfl))).trans h.gb,h.rc.Aw (hT.same fun b hb q=>q.2 (.inl hb))⟩
def IT.step (h:IT S n0 l bg v1 v2 v3 v4 v5 ab c p A)(hb:∀b,S b\/b=bg->b<n0)(hp:p.length<c.Aa.length)(x:Int):IT S n0 l bg v1 v2 v3 v4 v5 ab c (p++ [x]) (A.setCell ⟨n0+1,p.length,none⟩ (C .i64 x)):=by
 have hm:∀k y,k≠n0+1->A.heap[k]?=some y->(A.setCell ⟨n0+1,p.length,none⟩ (C .i64 x)).heap[k]?=some y:=fun k y hk h=>(AY hk _).trans h;obtain⟨tl,h1,h2⟩:=h.row;refine⟨hm _ _ (by omega) h.yb,⟨tl.drop 1,?_,?_⟩,hm _ _ (by omega) h.sb,hm _ _ (by omega) h.fb,hm _ _ (by have:=hb bg (.inr rfl);omega) h.gb,h.rc.Aw fun b hS _=>AY (by have:=hb b (.inl hS);omega) _⟩
 .simp only[ZF,zp,Yt,List.length_drop]at h1⊢
  omega
 .have h3:=A8 (i:=p.length) h2 (C .i64 x)
  rw[h3];cases tl with
  |nil=>simp at h1;omega
  |cons y r=>simp
def IT.cut {q:List Int}(h:IT S n0 l bg v1 v2 v3 v4 v5 ab c (p++q) A):IT S n0 l bg v1 v2 v3 v4 v5 ab c p A:=by
 obtain⟨tl,h1,h2⟩:=h.row;exact⟨h.yb,⟨q++tl,by rw[<-Zah];exact h1,by rw[<-Zah];exact h2⟩,h.sb,h.fb,h.gb,h.rc⟩
end
def XZ (lo:Int)(rest:List Aq)(q:Nat):List (List Int):=((ZL q).map fun k:Nat=>lo+(k:Int)).flatMap fun n=>(Nu rest).map (n:: ·)
def PW (lo:Int)(rest:List Aq)(q:Nat):XZ lo rest (q+1)=XZ lo rest q++(Nu rest).map ((lo+(q:Int)):: ·):=by
 unfold XZ;rw[List.range_succ,Zaa,List.flatMap_append];simp
def og {l:List Aq}(h:i<l.length):l.drop i=Ah l i::l.drop (i+1):=by
 obtain⟨hk,e⟩:=Zl.1 (Ct h);rw[Zu hk,e]
def aaZ {rest:List Aq}(h:q<=m):XZ lo rest q<+:XZ lo rest m:=by
 induction h with
 |refl=>exact List.prefix_rfl
 |step _ ih=>rw[PW];exact ih.trans (List.prefix_append _ _)
def adQ (n0 l:Nat)(K:Nat->Prop)(J:List (List Int)->Zc->Prop)(xs:List (List Int)):Prop:=
 ∀pre x u A0 A,J pre A0->Am (KP n0 4) A0 A->n0+4<=A0.heap.size->pre++ [x]<+:xs->SI (O8 3 A0.heap.size A) A u x->
  YieldAt Zbu 0 Lp l #[u] A fun e A'=>e=.returned (.bool true)/\J (pre++ [x]) A'/\Am (fun k=>¬KP n0 4 k/\¬K k) A A'
variable {e:Zr}
def Nw {R:Zc->List Ze->α->Prop}{l:List α}{base:Nat}{xs:List Ze}(hk:0<k)(h:w.ownsRow base e k v l.length xs)(hR:∀i x,l[i]?=some x->R w ((xs.drop (i*k)).take k) x):Sl (O8 e base w) R k w v l:=by
 obtain⟨a,c,h1,h2,h3,h4⟩:=PL hk h hR;refine⟨a,c,h1,h2,h3,fun i x hx=>?_⟩;obtain⟨b,o,cs,g1,g2,g3,g4,g5⟩:=h4 i x hx;refine⟨b,o,cs,g1,⟨g2,?_⟩,g3,g4,g5⟩;rcases h.2 with⟨_,h0⟩|⟨g,cap,cur,hv,_,hg,_⟩
 .have:=(Zl.1 hx).1
  omega
 .rw[hv]at h1
  cases h1;cases g1;exact⟨_,hg⟩
def ab4 (h:Sl S Ri 1 w v l)(hlen:l.length<=1000):Calls Lp 106 #[v] w fun e w'=>∃v',e=.returned v'/\Bl w w'/\Sl (O8 3 w.heap.size w') Ri 1 w' v' l:=by
 obtain⟨a,c,rfl,l1,m1⟩:=h.val;obtain⟨i0,hi,Fo,DX,EI⟩:=zq Jx;have hu:=CG Yg;have q22:∀(w:Zc) (a:Option Addr) (n c n' c':Nat),(binOp .eql 22 (.slice a n c) (.slice none n' c')).run Lp w=.ok (.bool a.isNone) w:=fun w a n c n' c'=>ZaT w _ _ a n c n' c' hu;cases a with
 |none=>
  have hl:l=[]:=by
   cases l with
   |nil=>rfl
   |cons x r=>
    obtain⟨a',c',h1,_,_,h4⟩:=h;cases h1;obtain⟨b,o,cs,e,_⟩:=h4 0 x rfl;cases e
  subst hl;go_enter Lp.func106,xd;go_wp2;go_ret;exact⟨_,rfl,Zg _ _,none,0,rfl,Zj _,Zn _,fun i x hx=>by cases hx⟩
 |some ad=>
  obtain⟨news,hn,hR,hc⟩:=Sl.row h (by decide) ad rfl;have h1:=row_one (by decide) hn hR sj;have HC:=Zb hc;have HR:=Zb hR;clear hc hR;go_enter Lp.func106,xd;go_wp2_with (at_builtin;refine Yj _ rfl _ _ 22 rfl w.heap.size 3 i0 (C .i64 0) 1 8 hu (DC hi) Fo DX EI rfl (by decide) _ 0 [] rfl (YK w #[] 0 (Zj _) (Zn _) rfl) ad l.length c news rfl hn (fun j u hj=>ca (HC.out j u hj) _) h1 (by unfold maxLen;omega) (by omega) (by simp) ?_;intro v' w1 Bq AJ FI);have hB:Bl w w1:=Ba (bA (Zg _ _)) AJ (fun k hk=>by cases hk;exact Zj _) (by simp);have WX:Sl (O8 3 w.heap.size w1) Ri 1 w1 v' l:=Nw (by decide) (by rw[zK,zZ]at Bq;exact Bq) (fun i x hx=>HR.out i x hx);clear Bq AJ FI;go_ret;exact⟨_,rfl,hB,WX⟩
variable {ab:Nat->Nat}
def aqR {l:Nat}{J:List (List Int)->Zc->Prop}(hJ:∀pre A B,J pre A->Am (KP n0 4) A B->J pre B)
 (hY:adQ n0 l (fun k=>S k\/k=bg) J xs) (hb:∀b,S b\/b=bg->b<n0) (I9:c.Aa.length<=3) (B5:∀i,i<c.Aa.length->-2<=(Ah c.Aa i).low/\(Ah c.Aa i).high<=2):
  ∀(k i:Nat) (p:List Int) (pre:List (List Int)) (A:Zc),i+k=c.Aa.length->p.length=i->IT S n0 l bg v1 v2 v3 v4 v5 ab c p A->J pre A->n0+4<=A.heap.size->pre++(Nu (c.Aa.drop i)).map (p++ ·)<+:xs->
   CallsIn Zbu 0 Lp 154 #[C .i64 i,.pointer (some ⟨n0+2,0,none⟩),.pointer (some ⟨n0,0,none⟩),.pointer (some ⟨bg,0,none⟩),.pointer (some ⟨n0+3,0,none⟩)] A fun e A'=>
    e=.returned (.bool true)/\IT S n0 l bg v1 v2 v3 v4 v5 ab c p A'/\J (pre++(Nu (c.Aa.drop i)).map (p++ ·)) A'/\n0+4<=A'.heap.size:=by
 intro k
 induction k with
 |zero=>
  intro i p pre A xx hp hI hj hz hN;have hi:i=c.Aa.length:=by omega
  subst hi;have e1:Nu (c.Aa.drop c.Aa.length)=[[]]:=by rw[Zz.2 (Zj _)];rfl
  rw[e1]at hN⊢;simp only[List.map_cons,List.map_nil,Zap]at hN⊢;obtain⟨tl,hl,Cr⟩:=hI.row;obtain rfl:tl=[]:=YR (by rw[ZF]at hl;omega);rw[Zap]at Cr hl;have hsi:SI (fun b=>b=n0+1) A (.slice (some ⟨n0+1,0,none⟩) p.length p.length) p:=Ns p Cr rfl (by unfold maxLen;omega);rw[hp]at hsi;have k1:=ch (i:=0) hI.sb (v:=.slice (some ⟨n0+1,0,none⟩) c.Aa.length c.Aa.length) rfl;have k2:=ch (i:=0) hI.yb (v:=.func (.yield l) #[] #[]) rfl;have gp:=Zb (fun B (hB:Bl A B)=>callsIn_wide (n:=0).2 (ab4 (w:=B) (hsi.later hB) (by omega)));have hlq:(c.Aa.length:Int)=(c.Aa.length:Int):=rfl;refine Zd5 Lp.func154 rfl trivial ?_ rfl;simp only[aiX,Zbe,zp,Yt,ZaC,Zb8,ZaL,ZaK,Zbf,ZaS,zZ,Za7]
  gi_wp2
  refine wpIn_region_any (by kernel_rfl) ?_;change wpAnyIn _ _ _ _ _ _ _ _ _ A.drew;refine YA (rs:=[0,1]) (by kernel_rfl) (by simp) ?_;refine zH rfl (fun K hK=>?_) (zH rfl (fun K hK=>?_) Ye)
  .go_simp
   refine hK _ _ ?_;clear hK;refine YA (rs:=[1]) (by kernel_rfl) (by simp) ?_;refine zH rfl (fun K hK=>?_) Ye
   go_simp
   refine hK _ _ ?_;clear hK;refine YA (rs:=[2]) (by kernel_rfl) (by simp) ?_;refine zH rfl (fun K hK=>?_) Ye
   go_simp
   refine⟨trivial,rfl,?_⟩;refine(gp.out A.drew (Zg _ _).drew).mono ?_;rintro e w1 ⟨u,rfl,hB,hu⟩;refine hK _ _ ?_;clear hK;have Bb:Bl A w1:=(Zg _ _).drew.trans (hB.mono (Zj _));obtain⟨fn,tmps,assign,body,hy,hR⟩:=hY pre p u A w1 hj (Am.later Bb) hz hN hu;refine YA (rs:=[3]) (by kernel_rfl) (by simp) ?_;refine zH rfl (fun K hK=>?_) Ye
   go_simp
   refine⟨rfl,?_⟩;refine hR.mono ?_;rintro e w2 ⟨rfl,hj2,Ff⟩;refine hK _ _ ?_;clear hK hR hy;refine YA (rs:=[4]) (by kernel_rfl) (by simp) ?_;refine zH rfl (fun K hK=>?_) Ye
   go_simp
   refine hK _ _ ?_;clear hK;refine wpAnyIn_done (by kernel_rfl) ?_ _;have xJ:=(hI.Aw (Am.later Bb)).Aw Ff;have EI:n0+4<=w2.heap.size:=Zt (Zt hz Bb.size) Ff.size;clear Ff Bb hu
   gi_wp2
   refine ZU (results_tmp rfl _ _ _) rfl ?_;exact⟨rfl,xJ,hj2,EI⟩
  .go_simp
   refine hK _ _ ?_;clear hK;refine YA (rs:=[0,2]) (by kernel_rfl) (by simp) ?_;refine zH rfl (fun K hK=>?_) (zH rfl (fun K hK=>?_) Ye)
   .go_simp
    refine hK _ _ ?_;clear hK;refine YA (rs:=[2]) (by kernel_rfl) (by simp) ?_;refine zH rfl (fun K hK=>?_) Ye
    go_simp
    refine⟨trivial,rfl,?_⟩;refine(gp.out A.drew (Zg _ _).drew).mono ?_;rintro e w1 ⟨u,rfl,hB,hu⟩;refine hK _ _ ?_;clear hK;have Bb:Bl A w1:=(Zg _ _).drew.trans (hB.mono (Zj _));obtain⟨fn,tmps,assign,body,hy,hR⟩:=hY pre p u A w1 hj (Am.later Bb) hz hN hu;refine YA (rs:=[3]) (by kernel_rfl) (by simp) ?_;refine zH rfl (fun K hK=>?_) Ye
    go_simp
    refine⟨rfl,?_⟩;refine hR.mono ?_;rintro e w2 ⟨rfl,hj2,Ff⟩;refine hK _ _ ?_;clear hK hR hy;refine YA (rs:=[4]) (by kernel_rfl) (by simp) ?_;refine zH rfl (fun K hK=>?_) Ye
    go_simp
    refine hK _ _ ?_;clear hK;refine wpAnyIn_done (by kernel_rfl) ?_ _;have xJ:=(hI.Aw (Am.later Bb)).Aw Ff;have EI:n0+4<=w2.heap.size:=Zt (Zt hz Bb.size) Ff.size;clear Ff Bb hu
    gi_wp2
    refine ZU (results_tmp rfl _ _ _) rfl ?_;exact⟨rfl,xJ,hj2,EI⟩
   .go_simp
    refine⟨trivial,rfl,?_⟩;refine(gp.out A.drew (Zg _ _).drew).mono ?_;rintro e w1 ⟨u,rfl,hB,hu⟩;refine hK _ _ ?_;clear hK;have Bb:Bl A w1:=(Zg _ _).drew.trans (hB.mono (Zj _));have k3:=(Bb.cell (p:=⟨n0,0,none⟩) (by show n0<_;omega)).trans k2;refine YA (rs:=[0]) (by kernel_rfl) (by simp) ?_;refine zH rfl (fun K hK=>?_) Ye
    go_simp
    refine hK _ _ ?_;clear hK;clear k3;obtain⟨fn,tmps,assign,body,hy,hR⟩:=hY pre p u A w1 hj (Am.later Bb) hz hN hu;refine YA (rs:=[3]) (by kernel_rfl) (by simp) ?_;refine zH rfl (fun K hK=>?_) Ye
    go_simp
    refine⟨rfl,?_⟩;refine hR.mono ?_;rintro e w2 ⟨rfl,hj2,Ff⟩;refine hK _ _ ?_;clear hK hR hy;refine YA (rs:=[4]) (by kernel_rfl) (by simp) ?_;refine zH rfl (fun K hK=>?_) Ye
    go_simp
    refine hK _ _ ?_;clear hK;refine wpAnyIn_done (by kernel_rfl) ?_ _;have xJ:=(hI.Aw (Am.later Bb)).Aw Ff;have EI:n0+4<=w2.heap.size:=Zt (Zt hz Bb.size) Ff.size;clear Ff Bb hu
    gi_wp2
    refine ZU (results_tmp rfl _ _ _) rfl ?_;exact⟨rfl,xJ,hj2,EI⟩
 |succ k ih=>
  intro i p pre A xx hp hI hj hz hN;have hin:i<c.Aa.length:=by omega
  have azQ:(i:Int)<(c.Aa.length:Int):=by omega
  have Bn:((i:Int)==(c.Aa.length:Int))=false:=by simp;omega
  have Gx:=CI;obtain⟨QD,O3⟩:=B5 i hin;obtain⟨m,hm⟩:∃m,m=((Ah c.Aa i).high+1 - (Ah c.Aa i).low).toNat:=⟨_,rfl⟩;have Eb:Nu (c.Aa.drop i)=XZ (Ah c.Aa i).low (c.Aa.drop (i+1)) m:=by rw[og hin,hm];rfl
  rw[Eb]at hN⊢;obtain⟨lo,hlo⟩:∃lo,lo=(Ah c.Aa i).low:=⟨_,rfl⟩;obtain⟨hi,hhi⟩:∃hi,hi=(Ah c.Aa i).high:=⟨_,rfl⟩;rw[<-hlo, <-hhi]at hm;rw[<-hlo]at QD hN Eb⊢;rw[<-hhi]at O3;obtain⟨a4,c4,rfl,l4,m4⟩:=hI.rc.Aa.val;have Tk:∀B,IT S n0 l bg v1 v2 v3 (.slice a4 c.Aa.length c4) v5 ab c p B->∃b o,a4=some ⟨b,o,none⟩/\B.cell? ⟨b,o+i*5,none⟩=some (C .i64 lo)/\B.cell? ⟨b,o+i*5+1,none⟩=some (C .i64 hi):=fun B h=>by
   obtain⟨b,o,_,_,e,_,x1,x2,_⟩:=h.rc.Aa.at_ hin;rw[hlo,hhi];exact⟨b,o,e,x1,x2⟩
  obtain⟨b,o,rfl,kl,kh⟩:=Tk A hI;have k3:=ch (i:=3) hI.gb (v:=.slice (some ⟨b,o,none⟩) c.Aa.length c4) rfl;have k1:=ch (i:=0) hI.sb (v:=.slice (some ⟨n0+1,0,none⟩) c.Aa.length c.Aa.length) rfl;clear hlo hhi Eb;refine Zd5 Lp.func154 rfl trivial ?_ rfl;simp only[aiX,Zbe,zp,Yt,ZaC,Zb8,ZaL,ZaK,Zbf,ZaS,zZ,Za7]
  gi_wp2
  clear k1 k3 kl kh
  gi_loopg [7] m (fun g v wr=>∃q:Nat,q<=m/\g=m - q/\v=.int .i64 (lo+q)/\IT S n0 l bg v1 v2 v3 (.slice (some ⟨b,o,none⟩) c.Aa.length c4) v5 ab c p wr/\J (pre++(XZ lo (c.Aa.drop (i+1)) q).map (p++ ·)) wr/\n0+4<=wr.heap.size)
  case atStart=>exact⟨0,Zn _,rfl,by simp,hI,by simpa[XZ]using hj,hz⟩
  case round=>
   obtain⟨q,hq,rfl,rfl,hIr,hjr,hzr⟩:=hrel;obtain⟨_,_,e,_,kh⟩:=Tk wr hIr;cases e;have k3:=ch (i:=3) hIr.gb (v:=.slice (some ⟨b,o,none⟩) c.Aa.length c4) rfl;have k1:=ch (i:=0) hIr.sb (v:=.slice (some ⟨n0+1,0,none⟩) c.Aa.length c.Aa.length) rfl;by_cases AA:q<m
   .have hle:lo+(q:Int)<=hi:=by omega
    obtain⟨tl,hl,Cr⟩:=hIr.row;have kr:wr.cell? ⟨n0+1,i,none⟩=some (C .i64 (nth (p++tl) i)):=ch Cr (by rw[Z1,zU,A_ (by omega)];rfl);have fr:=cf (i:=i) Cr;have k4:=ch (i:=0) hIr.fb (v:=.func (.func 154) #[] #[.pointer (some ⟨n0+2,0,none⟩),.pointer (some ⟨n0,0,none⟩),.pointer (some ⟨bg,0,none⟩),.pointer (some ⟨n0+3,0,none⟩)]) rfl;have xJ:=hIr.step hb (by omega) (lo+(q:Int));rw[hp]at xJ;have hj2:=hJ _ _ _ hjr ((Am.refl (KP n0 4) wr).set (q:=n0+1) (i:=i) (v:=.int .i64 (lo+(q:Int))) (by unfold KP;omega));have hN2:(pre++(XZ lo (c.Aa.drop (i+1)) q).map (p++ ·))++(Nu (c.Aa.drop (i+1))).map ((p++ [lo+(q:Int)])++ ·)<+:xs:=by
     have h1:=(aaZ (lo:=lo) (rest:=c.Aa.drop (i+1)) (show q+1<=m from AA)).map (p++ ·);rw[PW,Zaa]at h1;have h2:=((List.prefix_append_right_inj pre).2 h1).trans hN;simpa[Function.comp_def,Zah]using h2
    have H:=Zb (ih (i+1) (p++ [lo+(q:Int)]) _ _ (by omega) (by simp;omega) xJ hj2 (by simpa using hzr) hN2);clear xJ hj2 hN2 hIr hjr Cr hl
    gi_wp2
    refine⟨trivial,rfl,?_⟩;refine CallsIn.mono H.out ?_;rintro e w1 ⟨rfl,hI3,hj3,Sa⟩
    gi_wp2
    gi_roundg (m - (q+1))
    case rel=>
     refine⟨q+1,AA,rfl,by go_num,hI3.cut,?_,Sa⟩;rw[PW,Zaa, <-Zah];simpa[Function.comp_def,Zah]using hj3
    case measure=>omega
   .have hle:hi<lo+(q:Int):=by omega
    have Wm:q=m:=by omega
    subst Wm
    gi_wp2
    refine ZU (results_tmp rfl _ _ _) rfl ?_;exact⟨rfl,hIr,hjr,hzr⟩
attribute [local go_sem] ZcF
def xK (n:Nat)(hn:n<=1000)(w:Zc):(Zdp 22 (C .i64 n) (C .i64 n)).run Lp w=.ok (.slice (some ⟨w.heap.size,0,none⟩) n n) (w.alloc (.cells (List.replicate n (ZS .i64 0)).toArray 3)):=by
 obtain⟨i0,hi,Fo,DX,EI⟩:=zq Jx;have h:=run_make (P:=Lp) w 22 3 i0 (C .i64 0) (CG Yg) (DC hi) Fo .i64 .i64 n n (by omega) (Int.le_refl _) (by rw[EI];omega) (by omega);rw[h,DX];simp only[Int.toNat_natCast]
 congr 3
 apply Array.ext
 .simp[madeCells]
 .intro i h1 h2
  simp[madeCells,Value.cells,Nat.mod_one]
def adR (hg:w0.heap[bg]?=some (.cells (Bj v1 v2 v3 v4 v5 ab) 112 (0,0)))(hR:RC S w0 v1 v2 v3 v4 v5 c)(hS:∀b,S b->b<w0.heap.size)
 (I9:c.Aa.length<=3) (B5:∀i,i<c.Aa.length->-2<=(Ah c.Aa i).low/\(Ah c.Aa i).high<=2):ajC Lp 153 #[.pointer (some ⟨bg,0,none⟩)] 4 (fun k=>S k\/k=bg) (LJ c) w0:=by
 intro l J W hW hK hJ0 hJ hY;have hbg:=(Za.1 hg).1;have hb:∀b,S b\/b=bg->b<W.heap.size:=fun b h=>by
  rcases h with h|rfl
  .exact Zm (hS b h) hW
  .exact Zm hbg hW
 have hgW:=(hK bg (.inr rfl) hbg).trans hg;have hRW:RC S W v1 v2 v3 v4 v5 c:=hR.Aw fun b h1 h2=>hK b (.inl h1) h2;obtain⟨a4,c4,rfl,l4,m4⟩:=hRW.Aa.val;have Gx:=CI;have k3:=ch (i:=3) hgW (v:=.slice a4 c.Aa.length c4) rfl;have aqT:=Zb (fun k i p pre A=>aqR (S:=S) (n0:=W.heap.size) (l:=l) (bg:=bg) (xs:=LJ c) (v1:=v1) (v2:=v2) (v3:=v3) (v4:=.slice a4 c.Aa.length c4) (v5:=v5) (ab:=ab) (c:=c) (J:=J) hJ hY hb I9 B5 k i p pre A);have hmk:=xK c.Aa.length (by omega);refine Zd5 Lp.func153 rfl trivial ?_ rfl;show Code.wpIn _ _ _ _ _ {tmps:= #[.func (.yield l) #[] #[],.pointer (some ⟨bg,0,none⟩)]++_,defers:=[]} _;simp only[apN,Zbe,zp,Yt,ZaC,Zb8,ZaL,ZaK,Zbf,ZaS,zZ,Za7]
 gi_wp2
 refine⟨trivial,rfl,?_⟩;obtain⟨os,UC⟩:∃os:List Obj,os=[.cells #[.func (.yield l) #[] #[]] 65,.cells (YD c.Aa.length (C .i64 0)) 3,.cells #[.slice (some ⟨W.heap.size+1,0,none⟩) c.Aa.length c.Aa.length] 22,.cells #[.func (.func 154) #[] #[.pointer (some ⟨W.heap.size+2,0,none⟩),.pointer (some ⟨W.heap.size,0,none⟩),.pointer (some ⟨bg,0,none⟩),.pointer (some ⟨W.heap.size+3,0,none⟩)]] 129]:=⟨_,rfl⟩;have hB:=Kf os W;have hA:=XY os W;have hZ:=PV os W;have hL:os.length=4:=by rw[UC];rfl
 have hA0:=(hA 0 (by omega)).trans (show os[0]?=some (.cells #[.func (.yield l) #[] #[]] 65) by rw[UC];rfl);have gw:=(hA 1 (by omega)).trans (show os[1]?=some (.cells (YD c.Aa.length (C .i64 0)) 3) by rw[UC];rfl);have U0:=(hA 2 (by omega)).trans (show os[2]?=some (.cells #[.slice (some ⟨W.heap.size+1,0,none⟩) c.Aa.length c.Aa.length] 22) by rw[UC];rfl);have pf:=(hA 3 (by omega)).trans (show os[3]?=some (.cells #[.func (.func 154) #[] #[.pointer (some ⟨W.heap.size+2,0,none⟩),.pointer (some ⟨W.heap.size,0,none⟩),.pointer (some ⟨bg,0,none⟩),.pointer (some ⟨W.heap.size+3,0,none⟩)]] 129) by rw[UC];rfl);obtain⟨W4,ER⟩:∃W4,W4=os.foldl ZaE W:=⟨_,rfl⟩;rw[<-ER]at hB hZ hA0 gw U0 pf;rw[hL]at hZ;rw[UC]at ER;change W4=(((W.alloc _).alloc _).alloc _).alloc _ at ER;change CallsIn _ _ _ _ _ ((((W.alloc _).alloc _).alloc _).alloc _) _;rw[<-ER];clear ER hA UC hL;have hIT:IT S W.heap.size l bg v1 v2 v3 (.slice a4 c.Aa.length c4) v5 ab c [] W4:=
  ⟨hA0,⟨List.replicate c.Aa.length 0,by simp,by rw[gw];simp⟩,U0,pf,(hB.block _ (hb bg (.inr rfl))).trans hgW,hRW.Aw fun b h _=>hB.block b (hb b (.inl h))⟩
 have hJ4:=hJ0 W4 hB (by omega);refine(aqT.out c.Aa.length 0 [] [] W4 (by omega) rfl hIT hJ4 (by omega) (by simp[LJ])).mono ?_;rintro e W5 ⟨rfl,_,hJ5,_⟩
 gi_wp2
 go_end0
 refine⟨⟨_,rfl⟩,?_⟩;simpa[LJ]using hJ5
def aqU (xs:Array Ze)(hx:xs.size=8)(h1:∀x∈xs.toList,x.oneCell'=true)(w:Zc):Calls Lp 103 #[.agg xs] w fun e w'=>e=.returned (.func (.func 153) #[] #[.pointer (some ⟨w.heap.size,0,none⟩)])/\w'=w.alloc (.cells xs 112):=by
 go_enter Lp.func103,aps;go_wp2;go_ret;exact⟨rfl,rfl⟩
attribute [local go_sem] ZcF
structure AQ (w:Zc)(base:Nat)(pre:List (List Int))(A:Zc):Prop where
 below:Bl w A
 size:base<=A.heap.size
 box:∃v vals,A.heap[w.heap.size]?=some (.cells #[v] 27 (0,0))/\A.ownsRow base 22 1 v pre.length vals/\∀(i:Nat) (x:List Int),pre[i]?=some x->∃u,vals[i]?=some u/\SI (O8 3 base A) A u x
def JI {base:Nat}(hT:Am T A B)(hx:∀b,O8 e base A b->¬T b){x:List Int}(h:SI (O8 e base A) A u x):SI (O8 e base B) B u x:=
 Sl.imp (h.Aw (hT.same hx)) (fun b hb=>⟨⟨hb.1.1,Zm hb.1.2 hT.size⟩,by rw[hT.block b hb.1.2 (hx b hb)];exact hb.2⟩) (fun _ _ x=>x)
def D2 {n base:Nat}{xs:List Ze}(hT:Am T A B)(hx:∀b,base<=b->¬T b)(h:A.ownsRow base e k v n xs):B.ownsRow base e k v n xs:=by
 refine⟨h.1,?_⟩;rcases h.2 with h1|⟨g,cap,cur,h1,h2,h3,h4⟩
 .exact .inl h1
 .exact .inr ⟨g,cap,cur,h1,h2,(hT.block g (Za.1 h3).1 (hx g h2)).trans h3,h4⟩
def Am.grown {row:Option Nat}(h:A.grownBy B row)(hr:∀k,row=some k->T k):Am T A B:=
 ⟨h.os,h.tape,h.output,h.size,fun k hk ht=>h.block k hk fun e=>ht (hr k e.symm)⟩
def AQ.CX {base n:Nat}{pre:List (List Int)}(h:AQ w base pre A)(hn:w.heap.size<n)(hb:base=n+m)(hT:Am (KP n m) A B):AQ w base pre B:=by
 have hx:∀b,base<=b->¬KP n m b:=fun b h1 h2=>by unfold KP at h2;omega
 obtain⟨v,vals,h1,h2,h3⟩:=h.box;refine⟨h.below.trans (hT.below (fun k hk=>by unfold KP at hk;omega) h.below.size),Zt h.size hT.size,v,vals,(hT.block _ (Za.1 h1).1 (by unfold KP;omega)).trans h1,D2 hT hx h2,fun i x hi=>?_⟩;obtain⟨u,hu,hs⟩:=h3 i x hi;exact⟨u,hu,JI hT (fun b hb=>hx b hb.1.1) hs⟩
variable {vals:List Ze}
def X9 {base n:Nat}(h:A.ownsRow base 22 1 v ls.length vals)(hn:n<=base)(hv:∀(i:Nat) (x:List Int),ls[i]?=some x->∃u,vals[i]?=some u/\SI (Cf n A) A u x):SL (Cf n A) A v ls:=by
 obtain⟨a,c,h1,h2,h3,h4⟩:=Df h;refine⟨a,c,h1,h2,h3,fun i x hx=>?_⟩;obtain⟨u,hu,hs⟩:=hv i x hx;obtain⟨b,hb,hN,hc⟩:=h4 i u hu;refine⟨b,0,[u],hb,⟨Zt hn hN.1,hN.2⟩,rfl,fun j y hy=>?_,u,rfl,hs⟩;cases j with
 |zero=>cases hy;exact hc
 |succ j=>cases hy
def aqV (hg:w.heap[bg]?=some (.cells (Bj v1 v2 v3 v4 v5 ab) 112 (0,0)))(hR:RC S w v1 v2 v3 v4 v5 c)(hS:∀b,S b->b<w.heap.size)
 (I9:c.Aa.length<=3) (B5:∀i,i<c.Aa.length->-2<=(Ah c.Aa i).low/\(Ah c.Aa i).high<=2):
  CallsIn Zbu 0 Lp 152 #[.slice none 0 0,.func (.func 153) #[] #[.pointer (some ⟨bg,0,none⟩)]] w fun e w'=>∃v,e=.returned v/\Bl w w'/\SL (Cf w.heap.size w') w' v (LJ c):=by
 have xF:=adR hg hR hS I9 B5;have hbg:=(Za.1 hg).1;obtain⟨K,hK⟩:∃K:Nat->Prop,K=fun k=>S k\/k=bg:=⟨_,rfl⟩;have uy:∀k,K k->k<w.heap.size:=fun k h=>by
  rw[hK]at h;rcases h with h|rfl
  .exact hS k h
  .exact hbg
 rw[<-hK]at xF;clear hK;have hN:(LJ c).length<=125:=by
  have:=Ua c.Aa B5;have h2:5^c.Aa.length<=5^3:=Zbm (by decide) I9;exact Zt this h2
 obtain⟨i0,hi,Fo,DX,EI⟩:=zq G3;have hu:=CG zY;refine callsIn_of_wp_marks Lp.func152 rfl trivial ?_ rfl;show Code.wpIn _ _ _ _ _ {tmps:= #[.slice none 0 0,.func (.func 153) #[] #[.pointer (some ⟨bg,0,none⟩)]]++_,defers:=[]} _;simp only[apM,Zbe,zp,Yt,ZaC,Zb8,ZaL,ZaK,Zbf,ZaS,zZ,Za7]
 gi_wp2
 obtain⟨W,hW⟩:∃W,W=w.alloc (.cells #[.slice none 0 0] 27):=⟨_,rfl⟩;have hB:Bl w W:=by rw[hW];exact bA (Zg _ _)
 have hZ:W.heap.size=w.heap.size+1:=by rw[hW];simp
 have hX:W.heap[w.heap.size]?=some (.cells #[.slice none 0 0] 27 (0,0)):=by rw[hW];exact Bt _ _
 rw[<-hW];clear hW;refine oe (gf:=153) (lb:= #[.pointer (some ⟨bg,0,none⟩)]) rfl (Go.Proofs.enters_of Lp.func153 (by kernel_rfl) rfl) xF hB.size (fun k hk=>?_) (AQ w (W.heap.size+6)) (fun A hA hs=>?_) (fun pre A B h hT=>h.CX (by omega) rfl hT)
  (fun u=> {tmps:= #[.slice none 0 0,.func (.func 153) #[] #[.pointer (some ⟨bg,0,none⟩)],.pointer (some ⟨w.heap.size,0,none⟩),Zf,.slice none 0 0,u,.func (.func 153) #[] #[.pointer (some ⟨bg,0,none⟩)],u,Zf,Zf,Zf,Zf,Zf],defers:=[]}) ?assign ?body ?done
 .exact⟨uy k hk,hB.block k (uy k hk)⟩
 .exact⟨hB.trans (hA.mono hB.size),by omega,_,[],(hA.block _ (by omega)).trans hX,zh _ _ _ _,fun i x hx=>by cases hx⟩
 case assign=>
  rintro l u W' K ⟨ad,n,cc,rfl⟩ hK
  gi_wp2
  exact hK
 case body=>
  intro l pre x u A0 A hI0 hT hz hlen nO;have hlen:=hlen.length_le;rw[ZF,zp,Yt]at hlen;have hI:=hI0.CX (by omega) rfl hT;obtain⟨v,vals,Ms,Cr,Ha⟩:=hI.box;obtain⟨ad,cc,rfl,lu,mu⟩:=nO.val;have hzA:W.heap.size+6<=A.heap.size:=hI.size;have hwW:w.heap.size<W.heap.size:=by omega
  have HZ:=Zb hZ;clear hZ;have kb:=ch (i:=0) Ms (v:=v) rfl;have fb:=cf (i:=0) Ms
  gi_wp2_with (gi_at_builtin;refine wpListIn_append_own _ rfl _ _ 27 rfl (W.heap.size+6) 22 i0 (.slice none 0 0) 1 24 hu (DC hi) Fo DX EI rfl (by decide) _ _ _ rfl (Cr.alloc _) ⟨A.heap.size,0,none⟩ 1 1 [.slice ad x.length cc] rfl rfl (cell_one_new _ _ _) (by simp[Yv]) (by unfold maxLen;omega) (by omega) (by simp;omega) ?_;intro v' w1 Bq AJ FI;obtain⟨g',GR,rfl⟩:=ZbD Bq;have kM:(A.alloc (.cells #[.slice ad x.length cc] 22)).grownBy w1 v.ownBlock:=AJ;have Fq:∀k,v.ownBlock=some k->W.heap.size+6<=k:=fun k hk=>(Cr.lt k hk).1;have s9:w1.heap[w.heap.size]?=some (.cells #[v] 27 (0,0)):=(kM.block _ (by simp;omega) (fun e=>by have:=Fq _ e.symm;omega)).trans (Bo Ms _);have kb1:=ch (i:=0) s9 (v:=v) rfl;have fb1:=cf (i:=0) s9)
  have sO:=HZ.out;have Mr:Am (fun k=>¬KP W.heap.size (4+2) k/\¬K k) A w1:=(Am.later (bA (Zg _ _))).trans (Am.grown kM fun k hk=>by
   have:=Fq k hk;exact⟨by unfold KP;omega,fun h=>by have:=uy k h;omega⟩)
  have DX:A.heap.size<w1.heap.size:=by have:=kM.size;simp at this;omega
  have Ff:∀(T:Nat->Prop),T w.heap.size->Am T w1 (w1.setCell ⟨w.heap.size,0,none⟩ (.slice (some ⟨g',0,none⟩) (pre.length+1) GR)):=fun T h=>(Am.refl _ _).set h;refine⟨⟨?_,?_,_,vals++ [.slice ad x.length cc],A8 s9 _,?_,fun i y hy=>?_⟩,Mr.trans (Ff _ ⟨by unfold KP;omega,fun h=>by have:=uy _ h;omega⟩)⟩
  .exact(Ba (bA hI.below) kM (fun k hk=>by have:=Fq k hk;omega) (by have:=hI.below.size;simp;omega)).trans ((Ff (fun k=>k=w.heap.size) rfl).below (fun k hk=>by omega) (by omega))
  .have:=(Ff (fun k=>k=w.heap.size) rfl).size
   omega
  .rw[ZF]
   exact D2 (Ff (fun k=>k=w.heap.size) rfl) (fun b h1 h2=>by omega) Bq
  .have key:∀u,SI (O8 3 (W.heap.size+6) A) A u y->SI (O8 3 (W.heap.size+6) (w1.setCell ⟨w.heap.size,0,none⟩ (.slice (some ⟨g',0,none⟩) (pre.length+1) GR))) (w1.setCell ⟨w.heap.size,0,none⟩ (.slice (some ⟨g',0,none⟩) (pre.length+1) GR)) u y:=fun u h=>by
    refine JI (T:=fun k=>v.ownBlock=some k\/k=w.heap.size) (((Am.later (bA (Zg _ _))).trans (Am.grown kM fun k hk=>.inl hk)).trans (Ff _ (.inr rfl))) (fun b hb h=>?_) h;rcases h with h|h
    .obtain⟨cs,hcs⟩:=hb.2
     rcases Cr.2 with⟨e,_⟩|⟨g,cap,cur,e,_,hg,_⟩
     .rw[e]at h;cases h
     .rw[e]at h
      cases h;rw[hg]at hcs;cases hcs
    .have:=hb.1.1
     omega
   by_cases AA:i<pre.length
   .rw[Z4 AA]at hy
    obtain⟨u,hu,hs⟩:=Ha i y hy;exact⟨u,by rw[Z4 (Zl.1 hu).1];exact hu,key u hs⟩
   .have m_:=(Zl.1 hy).1
    rw[ZF,zp,Yt]at m_;obtain rfl:i=pre.length:=by omega
    rw[Zd9]at hy;cases hy;have hvl:vals.length=pre.length:=by have:=Cr.1;omega
    refine⟨.slice ad x.length cc,by rw[<-hvl,Zd9],key _ (Sl.imp nO (fun b hb=>⟨⟨?_,hb.1.2⟩,hb.2⟩) (fun _ _ x=>x))⟩;have:=hb.1.1;omega
 case done=>
  intro A hI hD;obtain⟨v,vals,Ms,Cr,Ha⟩:=hI.box;have kb:=ch (i:=0) Ms (v:=v) rfl;have HZ:=Zb hZ;clear hZ
  gi_wp2
  have sO:=HZ.out;have hT:Am (fun k=>k=W.heap.size) A (A.putObj W.heap.size (.deferred none)):=(Am.refl _ _).put rfl;have hBA:Bl w (A.putObj W.heap.size (.deferred none)):=hI.below.trans (hT.below (fun k hk=>by omega) hI.below.size);have QX:=D2 hT (fun b h1 h2=>by omega) Cr;have eF:∀(i:Nat) (x:List Int),(LJ c)[i]?=some x->∃u,vals[i]?=some u/\SI (Cf w.heap.size (A.putObj W.heap.size (.deferred none))) (A.putObj W.heap.size (.deferred none)) u x:=fun i x hx=>by
   obtain⟨u,h1,h2⟩:=Ha i x hx;exact⟨u,h1,Sl.imp (JI hT (fun b hb h=>by have:=hb.1.1;omega) h2) (fun b hb=>⟨by have:=hb.1.1;omega,hb.1.2⟩) (fun _ _ x=>x)⟩
  refine⟨by simp,.inl ⟨_,_,rfl,run_takeDeferred hD,?_⟩⟩;exact⟨_,results_tmp rfl _ _ _,_,rfl,hBA,X9 QX (by omega) eF⟩
def aqW (hg:w.heap[bg]?=some (.cells (Bj v1 v2 v3 v4 v5 ab) 112 (0,0)))(hR:RC S w v1 v2 v3 v4 v5 c)(hS:∀b,S b->b<w.heap.size)
 (I9:c.Aa.length<=3) (B5:∀i,i<c.Aa.length->-2<=(Ah c.Aa i).low/\(Ah c.Aa i).high<=2):
  Calls Lp 102 #[.func (.func 153) #[] #[.pointer (some ⟨bg,0,none⟩)]] w fun e w'=>∃v,e=.returned v/\Bl w w'/\SL (Cf w.heap.size w') w' v (LJ c):=by
 have aqX:=Zb (callsIn_wide.1 (aqV hg hR hS I9 B5));go_enter Lp.func102,apr;go_wp2_with (go_at_call 152;refine aqX.out.mono ?_;rintro e w1 ⟨v,rfl,hB,hv⟩;obtain⟨a,cc,rfl,_⟩:=hv.val);go_ret;exact⟨_,rfl,hB,hv⟩
abbrev Key:=Int×(Int×Int×Int)×(Int×Int×Int)
def DI (k:Key):Ze:=.agg #[C .i64 k.1,C .i64 k.2.1.1,C .i64 k.2.1.2.1,C .i64 k.2.1.2.2,C .i64 k.2.2.1,C .i64 k.2.2.2.1,C .i64 k.2.2.2.2]
def adS:Lp.underlying 213=some (.struct (Lp.fieldsOf 213)):=by kernel_rfl
def ajG:Lp.underlying 149=some (.array 3 3):=CG Tryz.underlying149
def u3:Lp.underlying 3=some (.int .i64):=CG Tryz.underlying3
def QP (w:Zc)(xs:Array Ze)(i:Nat)(v:Int)(h:xs[i]?=some (C .i64 v)):(part 3 xs i).run Lp w=.ok (C .i64 v) w:=by
 have ha:∀w,(isAgg 3).run Lp w=.ok false w:=fun w=>Go.Proofs.run_isAgg_plain u3 rfl w;simp[part,zm,ha,zB,h]
def ajH (w:Zc)(d:Nat)(a b c x y z:Int):(Za5 (d+2) 149 (.agg #[C .i64 a,C .i64 b,C .i64 c]) (.agg #[C .i64 x,C .i64 y,C .i64 z])).run Lp w=.ok (decide (a=x/\b=y/\c=z)) w:=by
 obtain⟨i0,hi,Fo,DX,EI⟩:=zq Jx;have hc:Lp.cellsOf 3=1:=by kernel_rfl
 have he:∀w a b,(Za5 (d+1) 3 (C .i64 a) (C .i64 b)).run Lp w=.ok (a==b) w:=fun w a b=>run_equalIn_int w d 3 .i64 .i64 a b u3;have p0:=fun w (a b c:Int)=>QP w #[C .i64 a,C .i64 b,C .i64 c] 0 a rfl;have p1:=fun w (a b c:Int)=>QP w #[C .i64 a,C .i64 b,C .i64 c] 1 b rfl;have p2:=fun w (a b c:Int)=>QP w #[C .i64 a,C .i64 b,C .i64 c] 2 c rfl;rw[run_equalIn_array w (d+1) _ _ ajG (DC hi),hc,show ZL 3=[0,1,2] from rfl];by_cases h1:a=x<;>by_cases h2:b=y<;>by_cases h3':c=z<;>simp[Op.eqItems,zm,p0,p1,p2,he,h1,h2,h3']
def kS (w:Zc)(xs:Array Ze)(i:Nat):(part 149 xs i).run Lp w=.ok (.agg (xs.extract i (i+3))) w:=by
 have ha:∀w,(isAgg 149).run Lp w=.ok true w:=fun w=>by kernel_rfl
 have hs:∀w,(sizeOf 149).run Lp w=.ok 3 w:=fun w=>by kernel_rfl
 simp[part,zm,ha,hs,zB]
def f213:Lp.fieldsOf 213= #[{name:= "singer",type:=3,offset:=0,embedded:=false,tag:= "",pkgPath:= "galloon/seam",byteOffset:=0}, {name:= "now",type:=149,offset:=1,embedded:=false,tag:= "",pkgPath:= "galloon/seam",byteOffset:=8}, {name:= "left",type:=149,offset:=4,embedded:=false,tag:= "",pkgPath:= "galloon/seam",byteOffset:=32}]:=by kernel_rfl
def ab8 (w:Zc)(k k':Key):(Zaf 213 (DI k) (DI k')).run Lp w=.ok (decide (k=k')) w:=by
 obtain⟨s,⟨a,b,c⟩,x,y,z⟩:=k;obtain⟨s',⟨a',b',c'⟩,x',y',z'⟩:=k';have he:∀w a b,(Za5 9999 3 (C .i64 a) (C .i64 b)).run Lp w=.ok (a==b) w:=fun w a b=>run_equalIn_int w 9998 3 .i64 .i64 a b u3;have tc:=fun w a b c x y z=>ajH w 9997 a b c x y z;simp only[ZaC]at tc;have p0:=fun w (s a b c x y z:Int)=>QP w #[C .i64 s,C .i64 a,C .i64 b,C .i64 c,C .i64 x,C .i64 y,C .i64 z] 0 s rfl;unfold Zaf Op.maxDepth DI;rw[run_equalIn_agg (d:=9999) (ht:=adS) (hp:=by kernel_rfl),f213];by_cases h1:s=s'<;>by_cases h2:a=a'/\b=b'/\c=c'<;>by_cases h3:x=x'/\y=y'/\z=z'<;>simp[Op.eqFields,zm,p0,kS,he,tc,h1,h2,h3]
def te (w:Zc)(em:Bool)(n:Nat)(v:Int):(YL em (n+1) 3 (C .i64 v)).run Lp w=.ok () w:=by
 unfold YL;simp[zm,Zae u3,zB]
def tf (w:Zc)(em:Bool)(n:Nat)(a b c:Int):(YL em (n+2) 149 (.agg #[C .i64 a,C .i64 b,C .i64 c])).run Lp w=.ok () w:=by
 have hs:∀w,(sizeOf 3).run Lp w=.ok 1 w:=fun w=>by kernel_rfl
 have p0:=fun w (a b c:Int)=>QP w #[C .i64 a,C .i64 b,C .i64 c] 0 a rfl;have p1:=fun w (a b c:Int)=>QP w #[C .i64 a,C .i64 b,C .i64 c] 1 b rfl;have p2:=fun w (a b c:Int)=>QP w #[C .i64 a,C .i64 b,C .i64 c] 2 c rfl;unfold YL;simp only[zm,Zae ajG,ZaB];simp only[Zdw,Std.Legacy.Range.size,Nat.sub_zero,Nat.add_one_sub_one,Nat.div_one];rw[show Zcv 0 3=[0,1,2] from rfl];simp[zm,hs,p0,p1,p2,te,zB]
def OM (w:Zc)(em:Bool)(k:Key):(YL em 10000 213 (DI k)).run Lp w=.ok () w:=by
 obtain⟨s,⟨a,b,c⟩,x,y,z⟩:=k;have p0:=fun w (s a b c x y z:Int)=>QP w #[C .i64 s,C .i64 a,C .i64 b,C .i64 c,C .i64 x,C .i64 y,C .i64 z] 0 s rfl;have h3:=fun w v=>te w em 9998 v;have tc:=fun w a b c=>tf w em 9997 a b c;simp only[ZaC]at h3 tc;unfold YL DI;simp only[zm,Zae adS,ZaB,f213];simp[zm,p0,kS,h3,tc,zB]
def th (w:Zc)(k:Key):(Yr (DI k) (DI k)).run Lp w=.ok (DI k) w:=by
 obtain⟨s,⟨a,b,c⟩,x,y,z⟩:=k;have h:zQ 10000 (DI (s,(a,b,c),x,y,z)) (DI (s,(a,b,c),x,y,z))=true:=by
  simp[DI,zQ]
 simp[Yr,h]
def kT (w:Zc)(k:Key):∀(es:List MapEntry) (i:Nat),(∀e∈es,∃k',e.key=DI k')->
  ((Yd 213 (DI k) es i).run Lp w=.ok none w/\∀e∈es,e.key≠DI k)\/∃j e,(Yd 213 (DI k) es i).run Lp w=.ok (some (i+j,e.val)) w/\es[j]?=some e/\e.key=DI k
 | [],i,_=>.inl ⟨by simp[Yd],fun e he=>by cases he⟩
 |e::es,i,h=>by
  obtain⟨k',hk⟩:=h e (zo ..);by_cases vV:k=k'
  .subst vV
   refine .inr ⟨0,e,?_,rfl,hk⟩;simp[Yd,zm,hk,ab8]
  .have BD:(Yd 213 (DI k) (e::es) i).run Lp w=(Yd 213 (DI k) es (i+1)).run Lp w:=by
    simp[Yd,zm,hk,ab8,vV]
   rcases kT w k es (i+1) fun x hx=>h x (Z9 _ hx) with⟨h1,h2⟩|⟨j,x,h1,h2,h3⟩
   .refine .inl ⟨BD.trans h1,fun x hx=>?_⟩
    rcases List.mem_cons.1 hx with rfl|hx
    .rw[hk]
     intro e;apply vV;obtain⟨s,⟨a,b,c⟩,x,y,z⟩:=k;obtain⟨s',⟨a',b',c'⟩,x',y',z'⟩:=k';simp[DI]at e;simp[e]
    .exact h2 x hx
   .exact .inr ⟨j+1,x,by rw[BD,h1];simp;omega,h2,h3⟩
def Uc (w:Zc)(k:Key)(es:List MapEntry)(h:∀e∈es,∃k',e.key=DI k'):
  ((Zal 213 (DI k) es).run Lp w=.ok none w)\/∃j e,(Zal 213 (DI k) es).run Lp w=.ok (some (j,e.val)) w/\es[j]?=some e/\e.key=DI k:=by
 have e:(Zal 213 (DI k) es).run Lp w=(Yd 213 (DI k) es 0).run Lp w:=by
  unfold Zal;simp only[zm,Zae adS,ZaB];cases es with
  |nil=>simp[ZaP,Yd]
  |cons x r=>simp[ZaP,Zbr]
 rw[e];rcases kT w k es 0 h with⟨h1,_⟩|⟨j,x,h1,h2,h3⟩
 .exact .inl h1
 .exact .inr ⟨j,x,by simpa using h1,h2,h3⟩
def GJ (G:Key->Ze->Zc->Prop)(b:Nat)(w:Zc):Prop:=∃es clk,w.heap[b]?=some (.map es clk)/\∀e∈es.toList,∃k,e.key=DI k/\G k e.val w
def xL:Lp.underlying 132=some (.map 213 141):=CG Tryz.underlying132
def xM (w:Zc):(zeroValue 141).run Lp w=.ok (.agg #[.slice none 0 0,C .i64 0,.bool false]) w:=by kernel_rfl
def xN {G:Key->Ze->Zc->Prop}(h:GJ G b w)(k:Key):
  (Za8 132 (.map (some b)) (DI k) true).run Lp w=.ok (.tuple #[.agg #[.slice none 0 0,C .i64 0,.bool false],.bool false]) w\/∃v,(Za8 132 (.map (some b)) (DI k) true).run Lp w=.ok (.tuple #[v,.bool true]) w/\∃k',DI k'=DI k/\G k' v w:=by
 obtain⟨es,clk,hb,he⟩:=h;have hg:(getObj b).run Lp w=.ok (.map es clk) w:=by simp[getObj,Sem.run,hb]
 rcases Uc w k es.toList fun e h=>by obtain⟨k',h1,_⟩:=he e h;exact⟨k',h1⟩ with h1|⟨j,e,h1,h2,h3⟩
 .left
  simp[Za8,zm,Zae xL,hg,OM,h1,xM,zB]
 .right
  obtain⟨k',h4,h5⟩:=he e (Z8 h2);refine⟨e.val,?_,k',h4.symm.trans h3,h5⟩;simp[Za8,zm,Zae xL,hg,OM,h1,zB]
def oh {G:Key->Ze->Zc->Prop}{k:Key}(h:GJ G b w)(hv:∀es clk,G k v (w.putObj b (.map es clk)))(hk:∀k' v' es clk,G k' v' w->G k' v' (w.putObj b (.map es clk))):
  ∃es clk,(ZaX 132 (.map (some b)) (DI k) v).run Lp w=.ok () (w.putObj b (.map es clk))/\GJ G b (w.putObj b (.map es clk)):=by
 obtain⟨es,clk,hb,he⟩:=h;have hg:(getObj b).run Lp w=.ok (.map es clk) w:=by simp[getObj,Sem.run,hb]
 have AA:=(Za.1 hb).1;have hs:∀o,(setObj b o).run Lp w=.ok () (w.putObj b o):=fun o=>by simp[setObj,Sem.run,hb,World.putObj]
 rcases Uc w k es.toList fun e h=>by obtain⟨k',h1,_⟩:=he e h;exact⟨k',h1⟩ with h1|⟨j,e,h1,h2,h3⟩
 .refine⟨es.push {key:=DI k,val:=v,born:=clk},clk+1,?_,_,_,Zaz AA,fun e he'=>?_⟩
  .simp[ZaX,zm,Zae xL,hg,OM,h1,hs,zB]
  .rw[Array.toList_push]at he'
   rcases Zas.1 he' with h|h
   .obtain⟨k',h4,h5⟩:=he e h
    exact⟨k',h4,hk _ _ _ _ h5⟩
   .rw[YB.1 h]
    exact⟨k,rfl,hv _ _⟩
 .have hj:es[j]?=some e:=by simpa using h2
  refine⟨es.modify j fun e=> {e with key:=DI k,val:=v},clk,?_,_,_,Zaz AA,fun x hx=>?_⟩
  .simp[ZaX,zm,Zae xL,hg,OM,h1,hj,h3,th,hs,zB]
  .obtain⟨i,hi,rfl⟩:=Yo hx
   have Da:i<es.size:=by simpa using hi
   simp only[Array.getElem_toList,Array.getElem_modify];split
   .exact⟨k,rfl,hv _ _⟩
   .obtain⟨k',h4,h5⟩:=he es[i] (by simp)
    exact⟨k',h4,hk _ _ _ _ h5⟩
def LT (w:Zc)(b:Nat):Prop:=∃cs e,w.heap[b]?=some (.cells cs e (0,0))/\(e=3\/e=22)
def LS (n0 mb:Nat)(w:Zc)(b:Nat):Prop:=(b<n0/\b≠mb/\b<w.heap.size)\/LT w b
def Kept (n0 mb:Nat)(w w':Zc):Prop:=∀b,LS n0 mb w b->w'.heap[b]?=w.heap[b]?
def LL (n0 mb:Nat)(w:Zc)(u:Ze)(ls:List (List Int)):Prop:=SL (LS n0 mb w) w u ls
section
variable {n0 mb:Nat}{w w' aB:Zc}{u:Ze}{ls:List (List Int)}
def LS.lt {b:Nat}(h:LS n0 mb w b):b<w.heap.size:=by
 rcases h with h|⟨cs,e,h,_⟩
 .exact h.2.2
 .exact(Za.1 h).1
def LS.Aw (h:LS n0 mb w b)(hk:Kept n0 mb w w'):LS n0 mb w' b:=by
 have e:=hk b h;have hl:=h.lt;have AA:b<w'.heap.size:=by
  rw[ZC hl]at e;exact(Za.1 e).1
 rcases h with h|⟨cs,e',h,h2⟩
 .exact .inl ⟨h.1,h.2.1,AA⟩
 .exact .inr ⟨cs,e',e.trans h,h2⟩
def LL.Aw (h:LL n0 mb w u ls)(hk:Kept n0 mb w w'):LL n0 mb w' u ls:=
 Sl.imp (SL.Aw h (w':=w') fun b hb _=>hk b hb) (fun _ hb=>hb.Aw hk) (fun _ _ ⟨u,e,h⟩=>⟨u,e,Sl.imp h (fun _ hb=>hb.Aw hk) fun _ _ x=>x⟩)
def Kept.refl (n0 mb:Nat)(w:Zc):Kept n0 mb w w:=fun _ _=>rfl
def Kept.trans (h:Kept n0 mb w w')(k:Kept n0 mb w' aB):Kept n0 mb w aB:=fun b hb=>(k b (hb.Aw h)).trans (h b hb)
def Kept.X_ (h:Cj mb w w')(hm:∃es clk,w.heap[mb]?=some (.map es clk)):Kept n0 mb w w':=fun b hb=>h.block b hb.lt (by
 rcases hb with hb|⟨cs,e,hb,_⟩
 .exact hb.2.1
 .rintro rfl
  obtain⟨es,clk,hm⟩:=hm;rw[hb]at hm;cases hm)
def Kept.later (h:Bl w w'):Kept n0 mb w w':=fun b hb=>h.block b hb.lt
variable {cs:Array Ze}
def Kept.set (hq:w.heap[q]?=some (.cells cs e (0,0)))(he:e≠3/\e≠22)(hn:n0<=q):Kept n0 mb w (w.setCell ⟨q,i,none⟩ v):=fun b hb=>AY (by
 rintro rfl;rcases hb with hb|⟨cs',e',hb,h2⟩
 .omega
 .rw[hb]at hq
  cases hq;rcases h2 with h2|h2
  .exact he.1 h2
  .exact he.2 h2) _
def Kept.row {ys:Array Ze}(hq:w.heap[q]?=some (.cells cs e (0,0)))(he:e≠3/\e≠22)(hn:n0<=q):Kept n0 mb w (w.setRow q ys):=fun b hb=>setRow_other _ _ _ _ (by
 rintro rfl;rcases hb with hb|⟨cs',e',hb,h2⟩
 .omega
 .rw[hb]at hq
  cases hq;rcases h2 with h2|h2
  .exact he.1 h2
  .exact he.2 h2)
variable {o:Obj}
def Kept.put (hm:∃es clk,w.heap[mb]?=some (.map es clk)):Kept n0 mb w (w.putObj mb o):=fun b hb=>zP (by
 rintro rfl;rcases hb with hb|⟨cs,e,hb,_⟩
 .exact hb.2.1 rfl
 .obtain⟨es,clk,hm⟩:=hm
  rw[hb]at hm;cases hm)
end
def LM (n0 mb:Nat)(w:Zc)(v:Ze):Option (List (List Int)×Int)->Prop
 |none=>v=.agg #[.slice none 0 0,C .i64 0,.bool false]
 |some p=>∃u,v=.agg #[u,C .i64 p.2,.bool true]/\LL n0 mb w u p.1
def LM.Aw {n0 mb:Nat}{w w':Zc}{v:Ze}{r:Option (List (List Int)×Int)}(h:LM n0 mb w v r)(hk:Kept n0 mb w w'):LM n0 mb w' v r:=by
 cases r with
 |none=>exact h
 |some p=>
  obtain⟨u,h1,h2⟩:=h;exact⟨u,h1,h2.Aw hk⟩
def LM.val {n0 mb:Nat}{w:Zc}{v:Ze}{r:Option (List (List Int)×Int)}(h:LM n0 mb w v r):∃a n c m s,v=.agg #[.slice a n c,C .i64 m,.bool s]/\s=r.isSome/\(∀p,r=some p->m=p.2/\LL n0 mb w (.slice a n c) p.1)/\(r=none->a=none/\n=0/\c=0/\m=0):=by
 cases r with
 |none=>exact⟨none,0,0,0,false,h,rfl,(fun p hp=>by cases hp),fun _=>⟨rfl,rfl,rfl,rfl⟩⟩
 |some p=>
  obtain⟨u,h1,h2⟩:=h;obtain⟨a,c,rfl,_⟩:=Sl.val h2;exact⟨a,_,c,p.2,true,h1,rfl,fun q hq=>by cases hq;exact⟨rfl,h2⟩,fun hq=>by cases hq⟩
def Nx (i:Nat)(d:A4):Key:=(i,(nth d.now 0,nth d.now 1,nth d.now 2),(Ah d.Aa 0).left,(Ah d.Aa 1).left,(Ah d.Aa 2).left)
def FX (n0 mb:Nat)(ab:Nat->Nat)(c:A4)(fits:List (List (List Int)))(k:Key)(v:Ze)(w:Zc):Prop:=
 ∀i d,i<=fits.length->oc c d->DI (Nx i d)=DI k->LM n0 mb w v (GI ab (fits.drop i) d)
variable {k':Key}
def tj {k:Key}(h:DI k=DI k'):k=k':=by
 obtain⟨s,⟨a,b,c⟩,x,y,z⟩:=k;obtain⟨s',⟨a',b',c'⟩,x',y',z'⟩:=k';simp[DI]at h;simp[h]
def tk {d:A4}{i':Nat}(h:oc c d)(h':oc c d')(hf:c.Aa.length<=3)(e:Nx i d=Nx i' d'):i=i'/\d=d':=by
 unfold Nx at e;simp only[Prod.mk.injEq]at e;obtain⟨e0,⟨e1,e2,e3⟩,e4,e5,e6⟩:=e;refine⟨by omega,h.eq h' (fun j hj=>?_) (fun j hj=>?_)⟩
 .have:j=0\/j=1\/j=2:=by omega
  rcases this with rfl|rfl|rfl<;>assumption
 .have:j=0\/j=1\/j=2:=by omega
  rcases this with rfl|rfl|rfl<;>assumption
variable {fits:List (List (List Int))}
def FX.of {d:A4}(hd:oc c d)(hf:c.Aa.length<=3)(h:LM n0 mb w v (GI ab (fits.drop i) d)):FX n0 mb ab c fits (Nx i d) v w:=
 fun i' d' _ eN e=>by
  obtain⟨rfl,rfl⟩:=tk eN hd hf (tj e);exact h
def FX.Aw {k:Key}(h:FX n0 mb ab c fits k v w)(hk:Kept n0 mb w w'):FX n0 mb ab c fits k v w':=
 fun i d hi hd e=>(h i d hi hd e).Aw hk
def GJ.Aw (h:GJ (FX n0 mb ab c fits) mb w)(hk:Kept n0 mb w w')(he:w'.heap[mb]?=w.heap[mb]?):GJ (FX n0 mb ab c fits) mb w':=by
 obtain⟨es,clk,h1,h2⟩:=h;refine⟨es,clk,he.trans h1,fun e hm=>?_⟩;obtain⟨k,h3,h4⟩:=h2 e hm;exact⟨k,h3,h4.Aw hk⟩
def GJ.is {G:Key->Ze->Zc->Prop}(h:GJ G b w):∃es clk,w.heap[b]?=some (.map es clk):=by
 obtain⟨es,clk,h1,_⟩:=h;exact⟨es,clk,h1⟩
def Rll (n0 mb:Nat)(w:Zc)(cs:List Ze)(x:List (List Int)):Prop:=∃u,cs=[u]/\LL n0 mb w u x
def Fg (k:Key):Array Ze:= #[C .i64 k.1,C .i64 k.2.1.1,C .i64 k.2.1.2.1,C .i64 k.2.1.2.2,C .i64 k.2.2.1,C .i64 k.2.2.2.1,C .i64 k.2.2.2.2]
structure FS (n0 mb:Nat)(ab:Nat->Nat)(c:A4)(fits:List (List (List Int)))(w:Zc)(vf:Ze)(g:Array Ze)(k:Key)(wr:Zc):Prop where
 Cg:Cj mb w wr
 sea:wr.heap[w.heap.size]?=some (.cells #[vf,.map (some mb)] 134 (0,0))
 Vd:wr.heap[w.heap.size+1]?=some (.cells g 112 (0,0))
 res:wr.heap[w.heap.size+1+1]?=some (.cells #[.slice none 0 0,C .i64 0,.bool false] 141 (0,0))
 key:wr.heap[w.heap.size+1+1+1]?=some (.cells (Fg k) 213 (0,0))
 kept:Kept n0 mb w wr
 map:GJ (FX n0 mb ab c fits) mb wr
section
variable {n0 mb:Nat}{ab:Nat->Nat}{c:A4}{fits:List (List (List Int))}{w wr wx:Zc}{vf:Ze}{g:Array Ze}{k:Key}
def FS.step (h:FS n0 mb ab c fits w vf g k wr)(hm:mb<w.heap.size)(hb:Cj mb wr wx)(hM:GJ (FX n0 mb ab c fits) mb wx):FS n0 mb ab c fits w vf g k wx:=by
 have hx:∀q o,q≠mb->wr.heap[q]?=some o->wx.heap[q]?=some o:=fun q o hq ho=>(hb.block q (Za.1 ho).1 hq).trans ho;refine⟨⟨hb.os.trans h.Cg.os,hb.tape.trans h.Cg.tape,hb.output.trans h.Cg.output,Zt h.Cg.size hb.size,fun q hq Bn=>(hb.block q (Zm hq h.Cg.size) Bn).trans (h.Cg.block q hq Bn)⟩,hx _ _ (by omega) h.sea,hx _ _ (by omega) h.Vd,hx _ _ (by omega) h.res,hx _ _ (by omega) h.key,h.kept.trans (Kept.X_ hb h.map.is),hM⟩
def FS.later (h:FS n0 mb ab c fits w vf g k wr)(hm:mb<w.heap.size)(hB:Bl wr wx):FS n0 mb ab c fits w vf g k wx:=by
 have hb:=(Cj.refl mb wr).below hB;obtain⟨es,clk,GN⟩:=h.map.is;exact h.step hm hb (h.map.Aw (Kept.later hB) (hB.block _ (Za.1 GN).1))
variable {cs:Array Ze}
def FS.set (h:FS n0 mb ab c fits w vf g k wr)(hn:n0<=w.heap.size)(hm:mb<w.heap.size)(hq:wr.heap[q]?=some (.cells cs e (0,0)))(he:e≠3/\e≠22)(hz:w.heap.size+1+1+1<q):FS n0 mb ab c fits w vf g k (wr.setCell ⟨q,j,none⟩ v):=by
 have hk:Kept n0 mb wr (wr.setCell ⟨q,j,none⟩ v):=Kept.set hq he (by omega);refine⟨⟨h.Cg.os,h.Cg.tape,h.Cg.output,by simpa using h.Cg.size,fun x hx Bn=>(AY (by omega) _).trans (h.Cg.block x hx Bn)⟩,(AY (by omega) _).trans h.sea,(AY (by omega) _).trans h.Vd,(AY (by omega) _).trans h.res,(AY (by omega) _).trans h.key,h.kept.trans hk,h.map.Aw hk (AY (by omega) _)⟩
def FS.stage (h:FS n0 mb ab c fits w vf g k wr)(hn:n0<=w.heap.size)(hm:mb<w.heap.size){W:Zc}(hB:Am (fun b=>b=w.heap.size+1+1+1) wr W)(hK:Kept n0 mb wr W)(hk:W.heap[w.heap.size+1+1+1]?=some (.cells (Fg k') 213 (0,0))):FS n0 mb ab c fits w vf g k' W:=by
 have hx:∀q o,q≠w.heap.size+1+1+1->wr.heap[q]?=some o->W.heap[q]?=some o:=fun q o hq ho=>(hB.block q (Za.1 ho).1 hq).trans ho;refine⟨⟨hB.os.trans h.Cg.os,hB.tape.trans h.Cg.tape,hB.output.trans h.Cg.output,Zt h.Cg.size hB.size,fun q hq Bn=>(hB.block q (Zm hq h.Cg.size) (by omega)).trans (h.Cg.block q hq Bn)⟩,hx _ _ (by omega) h.sea,hx _ _ (by omega) h.Vd,hx _ _ (by omega) h.res,hk,h.kept.trans hK,?_⟩;obtain⟨es,clk,GN⟩:=h.map.is;exact h.map.Aw hK ((hx mb _ (by omega) GN).trans GN.symm)
end
structure FN (n0 mb:Nat)(ab:Nat->Nat)(c:A4)(fits:List (List (List Int)))(w W0 W:Zc):Prop where
 Cg:Cj mb w W
 kept:Kept n0 mb W0 W
 box:∃cs,W.heap[w.heap.size+1+1]?=some (.cells cs 141 (0,0))
 map:GJ (FX n0 mb ab c fits) mb W
section
variable {n0 mb:Nat}{ab:Nat->Nat}{c:A4}{fits:List (List (List Int))}{w W0 W W':Zc}{vf:Ze}{g:Array Ze}{k:Key}
def FS.fn (h:FS n0 mb ab c fits w vf g k W):FN n0 mb ab c fits w W W:=⟨h.Cg,Kept.refl _ _ _,⟨_,h.res⟩,h.map⟩
def FN.set (h:FN n0 mb ab c fits w W0 W)(hn:n0<=w.heap.size)(hm:mb<w.heap.size):FN n0 mb ab c fits w W0 (W.setCell ⟨w.heap.size+1+1,j,none⟩ v):=by
 obtain⟨cs,hb⟩:=h.box;have hk:Kept n0 mb W (W.setCell ⟨w.heap.size+1+1,j,none⟩ v):=Kept.set hb ⟨by decide,by decide⟩ (by omega);exact⟨⟨h.Cg.os,h.Cg.tape,h.Cg.output,by simpa using h.Cg.size,fun x hx Bn=>(AY (by omega) _).trans (h.Cg.block x hx Bn)⟩,h.kept.trans hk,⟨_,A8 hb v⟩,h.map.Aw hk (AY (by omega) _)⟩
def FN.later (h:FN n0 mb ab c fits w W0 W)(hB:Bl W W'):FN n0 mb ab c fits w W0 W':=by
 obtain⟨cs,hb⟩:=h.box;obtain⟨es,clk,GN⟩:=h.map.is;exact⟨h.Cg.below hB,h.kept.trans (Kept.later hB),⟨_,(hB.block _ (Za.1 hb).1).trans hb⟩,h.map.Aw (Kept.later hB) (hB.block _ (Za.1 GN).1)⟩
def FN.alloc (h:FN n0 mb ab c fits w W0 W)(o:Obj):FN n0 mb ab c fits w W0 (W.alloc o):=h.later (bA (Zg _ _))
end
abbrev tq (l:List (List (List Int)))(i:Nat):List (List Int):=l.getD i []
def Ud {l:List (List (List Int))}(h:i<l.length):l[i]?=some (tq l i):=by simp[tq,h]
def ajI {l:List (List (List Int))}(h:i<l.length):l.drop i=tq l i::l.drop (i+1):=by
 obtain⟨hk,e⟩:=Zl.1 (Ud h);rw[Zu hk,e]
abbrev SF (n0 mb:Nat)(w:Zc)(v:Ze)(l:List (List (List Int))):Prop:=Sl (LS n0 mb w) (Rll n0 mb) 1 w v l
def SF.at_ {a:Option Addr}{c:Nat}{l:List (List (List Int))}(h:SF n0 mb w (.slice a l.length c) l)(hi:i<l.length):
  ∃b o u,a=some ⟨b,o,none⟩/\LS n0 mb w b/\w.cell? ⟨b,o+i,none⟩=some u/\LL n0 mb w u (tq l i):=by
 obtain⟨a',c',h1,_,_,h4⟩:=h;cases h1;obtain⟨b,o,cs,g1,g2,g3,g4,u,rfl,hu⟩:=h4 i _ (Ud hi);exact⟨b,o,u,g1,g2,by simpa using g4 0 _ rfl,hu⟩
def SF.Aw {l:List (List (List Int))}(h:SF n0 mb w v l)(hk:Kept n0 mb w w'):SF n0 mb w' v l:=
 Sl.imp (Sl.Aw (w':=w') h (fun b hb _=>hk b hb) (fun _ _ ⟨u,e,h⟩=>⟨u,e,LL.Aw h hk⟩)) (fun _ hb=>LS.Aw hb hk) (fun _ _ x=>x)
def Kept.cell (hk:Kept n0 mb w w'){o:Nat}(hb:LS n0 mb w b)(h:w.cell? ⟨b,o,none⟩=some v):w'.cell? ⟨b,o,none⟩=some v:=by
 unfold zG at h⊢;rw[show w'.heap[b]?=w.heap[b]? from hk b hb];exact h
variable {o:Obj}
def FS.put {wr:Zc}{vf:Ze}{g:Array Ze}{k:Key}(h:FS n0 mb ab c fits w vf g k wr)(hm:mb<w.heap.size)(hM:GJ (FX n0 mb ab c fits) mb (wr.putObj mb o)):FN n0 mb ab c fits w wr (wr.putObj mb o):=
 ⟨⟨h.Cg.os,h.Cg.tape,h.Cg.output,by simpa using h.Cg.size,fun q hq Bn=>(zP Bn).trans (h.Cg.block q hq Bn)⟩,Kept.put h.map.is,⟨_,(zP (by omega)).trans h.res⟩,hM⟩
def adT {base:Nat}(h:A.ownsRow base 22 1 v ls.length vals)(hv:∀(i:Nat) (x:List Int),ls[i]?=some x->∃u,vals[i]?=some u/\SI (LS n0 mb A) A u x):LL n0 mb A v ls:=by
 refine Sl.imp (Nw (R:=Rl (LS n0 mb A)) (by decide) h fun i x hx=>?_) (fun b hb=>.inr ?_) (fun _ _ x=>x)
 .obtain⟨u,hu,hs⟩:=hv i x hx
  refine⟨u,?_,hs⟩;obtain⟨hi,e⟩:=Zl.1 hu;rw[Nat.mul_one,Zu hi,e]
  rfl
 .obtain⟨_,cs,hc⟩:=hb
  exact⟨cs,22,hc,.inr rfl⟩
def ajJ (S:Nat->Prop)(w:Zc)(ls:List (List Int))(e:Ending)(w':Zc):Prop:=Bl w w'/\((∃v,e=.returned v/\SL (fun b=>S b\/O8 22 w.heap.size w' b) w' v ls)\/∃x,e=.panicked x/\PX x w')
def ajK {v7:Ze}{s:List (Int×Int)}(h:RC S w v1 v2 v3 v4 v5 c)(hv:FB c)(hl:SL S w v6 ls)(hs:SP S w v7 s)(hn:∀i,i<ls.length->(Cu ls i).length<=c.Aa.length/\∀j,j<(Cu ls i).length->-2<=nth (Cu ls i) j/\nth (Cu ls i) j<=2)
 (hsn:s.length<=c.base.length) (kI:∀i,i<s.length->0<=(BF s i).1/\(BF s i).1<=99/\0<=(BF s i).2/\(BF s i).2<=99) (Rx:ls.length<=1000000) (hS:∀b,S b->b<w.heap.size) (s0 s1 s2:Nat):
  Calls Lp 104 #[.agg #[v1,v2,v3,v4,v5,C .u8 s0,C .u8 s1,C .u8 s2],v6,v7] w (ajJ S w (ls.filter fun l=>D1 c l s)):=by
 obtain⟨a6,c6,rfl,l6,m6⟩:=hl.val;obtain⟨a7,c7,rfl,l7,m7⟩:=hs.val;have ajL:∀w₁,E_ w.heap.size w w₁->dA S w w₁:=fun w₁ hw p v hp hc=>hw p v (hS _ hp) hc;obtain⟨rows,Tx⟩:∃rows:Nat->Ze,∀i,i<ls.length->∃ad,a6=some ad/\ad.block<w.heap.size/\w.cell? (ad.add i)=some (rows i)/\SI S w (rows i) (Cu ls i):=by
  refine⟨fun i=>match a6 with|some ad=>(w.cell? (ad.add i)).getD Zf|none=>Zf,fun i hi=>?_⟩;obtain⟨b,o,u,rfl,hb,hc,hu⟩:=hl.at_ hi;have e:(⟨b,o,none⟩:Addr).add i=⟨b,o+i,none⟩:=by unfold Zcz;split<;>simp_all
  refine⟨_,rfl,hS b hb,?_,?_⟩
  .simp only[e,hc];rfl
  .simp only[e,hc];exact hu
 have hP:Na w.heap.size w #[v1,v2,v3,v4,v5,C .u8 s0,C .u8 s1,C .u8 s2] a6 ls.length c6 (.slice a7 s.length c7) rows (fun i=>D1 c (Cu ls i) s):=by
  refine⟨Rx,⟨l6,m6⟩,rfl,fun i hi=>?_,fun i hi=>?_,⟨_,_,_,rfl⟩,fun i hi w₁ hw=>?_⟩
  .obtain⟨ad,e,h1,h2,_⟩:=Tx i hi
   exact⟨ad,e,h1,h2⟩
  .obtain⟨_,_,_,_,hu⟩:=Tx i hi
   obtain⟨a,c',e,_⟩:=hu.val;exact⟨_,_,_,e⟩
  .obtain⟨_,_,_,_,hu⟩:=Tx i hi
   have hk:=ajL w₁ hw;exact ajh (h.Ic hk).live hv (Sl.live (hu.Ic hk) (by decide) fun _ _ x=>x) (Sl.live (hs.Ic hk) (by decide) fun _ _ x=>x) (hn i hi).1 (hn i hi).2 hsn kI (fun b hb=>hb.2) s0 s1 s2
 cases h1:(((zS 1 0 3).cut (w.tape w.drawn (.appendCap 1 0 3)):Int)==1) with
 |true=>
  refine(Th _ _ _ w h1).mono fun e w' ⟨he,hB⟩=>⟨hB,.inr ⟨_,he,.inl ⟨_,_,_,_,_,_,_,_,_,rfl,hP.Aw ?_⟩⟩⟩;exact E_.below hB (Zj _)
 |false=>
  refine(cC hP h1).mono fun e w' ⟨w₁,hB,h2,h3⟩=>?_;have hf:ls.filter (fun l=>D1 c l s)=((Zcv 0 ls.length).filter fun i=>D1 c (Cu ls i) s).map (Cu ls):=XU ls _;have hx:C_ rows (fun i=>D1 c (Cu ls i) s) 0 ls.length=((Zcv 0 ls.length).filter fun i=>D1 c (Cu ls i) s).map rows:=rfl;have hlen:(C_ rows (fun i=>D1 c (Cu ls i) s) 0 ls.length).length=(ls.filter fun l=>D1 c l s).length:=by rw[hf,hx];simp
  by_cases h0:(C_ rows (fun i=>D1 c (Cu ls i) s) 0 ls.length).length=0
  .obtain⟨he,rfl⟩:=h2 h0
   refine⟨hB,.inl ⟨_,he,?_⟩⟩;rw[YR (hlen.symm.trans h0)];exact⟨none,0,rfl,Zj _,Zn _,fun i x hx=>by cases hx⟩
  .obtain⟨he,rfl⟩:=h3 (Nat.pos_of_ne_zero h0)
   have AW:Bl w (w₁.drew.alloc (.cells ((C_ rows (fun i=>D1 c (Cu ls i) s) 0 ls.length).toArray++Zs #[.slice none 0 0] (grownCap w₁ (C_ rows (fun i=>D1 c (Cu ls i) s) 0 ls.length).length 0 22 - (C_ rows (fun i=>D1 c (Cu ls i) s) 0 ls.length).length)) 22)):=bA hB.drew;have aqY:(C_ rows (fun i=>D1 c (Cu ls i) s) 0 ls.length).length<=maxLen:=by
    rw[hlen];have:=List.length_filter_le (fun l=>D1 c l s) ls;unfold maxLen;omega
   refine⟨AW,.inl ⟨_,he,some ⟨w₁.heap.size,0,none⟩,_,by rw[hlen],by rw[<-hlen];exact grownCap_ge _ _ _ _,grownCap_le_maxLen _ _ _ _ aqY,fun j x hj=>?_⟩⟩;rw[hf,zU]at hj;cases hI:((Zcv 0 ls.length).filter fun i=>D1 c (Cu ls i) s)[j]? with
   |none=>rw[hI]at hj;cases hj
   |some i=>
    rw[hI]at hj;cases hj;have hi:i<ls.length:=by
     have:=(List.mem_filter.1 (Z8 hI)).1;rw[List.mem_range']at this;obtain⟨q,hq,rfl⟩:=this;omega
    obtain⟨ad,_,_,_,hu⟩:=Tx i hi;have hxj:(C_ rows (fun i=>D1 c (Cu ls i) s) 0 ls.length)[j]?=some (rows i):=by rw[hx,zU,hI];rfl
    have hjl:=(Zl.1 hxj).1;refine⟨w₁.heap.size,0,[rows i],rfl,.inr ⟨⟨hB.size,by simp⟩,_,Bt w₁.drew _⟩,rfl,fun q u hq=>?_,rows i,rfl,Sl.imp (hu.later AW) (fun b hb=>.inl hb) (fun _ _ x=>x)⟩;cases q with
    |zero=>
     cases hq;rw[show 0+j*1+0=j by omega];refine cn w₁.drew _ 22 ?_;rw[zv (by simpa using hjl)];simpa using hxj
    |succ q=>cases hq
end Go.Proofs.Fit
