/- Part of a proof. -/
import Derived.Test.YtkkjobdfheidkaaGreatDoorQ05
import Derived.BigQuiet
import Derived.Deep.LoopGhost
import Derived.WalkSmall
import Derived.StillTailTactics
import Derived.Deep.RegionHeld3
import Derived.Laws.CopyOwn
import Derived.Lib.SliceRun
set_option maxRecDepth 100000
set_option maxHeartbeats 6400000
noncomputable section
set_option linter.all false
open And renaming intro->ZX
open Array renaming getElem?_modify->Zac,getElem?_eq_some_iff->Za,ext_getElem?->Zec,getElem?_append_left->zv,getElem?_append_right->Zaq,getElem?_extract->Zd3,getElem?_eq_none->YX,setIfInBounds_comm->Zda,replicate->YD,getElem?_setIfInBounds_self_of_lt->Z5,getElem?_eq_getElem->ZC,getElem?_setIfInBounds_ne->Zk
open Bool renaming and_eq_true->ZI,or_eq_true->Za1
open Classical renaming byContradiction->YW
open Go renaming World->Zc,Value->Ze,below_drewN->zl,TypeId->Zr,bodyPost_ret->ZU,results_cell_tmp->YJ,Program->Zp,undef->Zf,info_parts->zq,wpList_append_own->Yj,FuncId->ZaV,wpQuiet_nil->zD,wpOp_mono->Zch,YieldsIf->ZbK,ready_mono->ZbU,mem_ready->ZcX,getD_set_ne->Zdc,wp_region_any->Zd4,Operand->ZbX,execOp->ZbE
open Go.Act renaming put->Zcp
open Go.Addr renaming add->Zcz
open Go.Calls renaming quiet_of_same->Zay
open Go.Code renaming region->Yb
open Go.Ending renaming returned->ZbP
open Go.IntKind renaming u8->ZcH,i64->I
open Go.IntWalk renaming i64_in->ZcG
open Go.Lib renaming hid->Zb,run_eql_slice_nil->ZaT
open Go.Oper renaming wp->ZbG,upon_enter->Zdf,upon_value->Zde,upon_skip->ZcR
open Go.Proofs.Tryz renaming underlying22->Yg,underlying60->ZcC
open Go.Question renaming appendCap->zS
open Go.Region renaming Mode->YU,ready->zw,binds->Yu,noSelect->YM,free->Za9,noSelect_spec->Zdx,wanted->Ym
open Go.Result renaming andThen->zB
open Go.RowKit renaming Below->YS
open Go.RowKit.Below renaming refl->Zg,heap_setCell->Zab,heap_alloc->zJ
open Go.Sem renaming run_bind->zm
open Go.Value renaming int->ZS,slice->ZA,slice->U,int->J
open Go.World renaming block_lt_of_cell?->Zy,cell?->zG,cell?_alloc_lt->ZbL,size_alloc->ZG,frozen?->Yy,setCell->zb,ownsRow_nil->zh,ownsRow_made->YK
open List renaming getElem?_eq_some_iff->Zl,drop_eq_getElem_cons->Zu,drop_eq_nil_iff->Zz,range->ZL,all_eq_true->zt,getElem?_map->zU,length_map->Zbz,mem_map->Zby,eq_nil_of_length_eq_zero->YR,getElem?_take_of_lt->ZV,ext_getElem?->zM,getElem?_drop->Yi,getElem?_eq_getElem->ZE,getElem?_eq_none->ZJ,getElem_of_mem->Yo,mem_of_getElem?->Z8,nil_append->zZ,find?_cons->Zdh,mem_cons_self->zo,mem_cons_of_mem->Z9,all_cons->Zba,filterMap_cons->zr,mem_singleton->YB,filterMap_nil->zL,getElem?_toArray->Z1,getElem?_cons_succ->ZQ,getElem?_cons_zero->ZP,getD_eq_getElem?_getD->ZR,range'->Zcv
open Nat renaming le_refl->Zj,zero_le->Zn,or_lt_two_pow->Zbi,not_lt_zero->ZaM,lt_of_lt_of_le->Zm,le_trans->Zt,mul_le_mul_right->Zd7,add_assoc->Zb4,div_lt_of_lt_mul->Zd8,mul_comm->ZcS,zero_add->zK,lt_or_ge->Zaw,le_of_not_lt->Zdg,two_pow_pos->ZdA,pow_le_pow_right->Zbm
open Ne renaming symm->Zbq
open Option.some renaming inj->ZK
namespace Go.Proofs.Fit
open Go
def n3:Tryz.f3.ntmps=148:=rfl
def n4:Tryz.f4.ntmps=178:=rfl
def n5:Tryz.f5.ntmps=127:=rfl
def n7:Tryz.f7.ntmps=98:=rfl
def n8:Tryz.f8.ntmps=129:=rfl
def n26:Tryz.f26.ntmps=119:=rfl
def n27:Tryz.f27.ntmps=6:=rfl
def n29:Tryz.f29.ntmps=14:=rfl
def n30:Tryz.f30.ntmps=32:=rfl
def n32:Tryz.f32.ntmps=6:=rfl
def n33:Tryz.f33.ntmps=37:=rfl
def n34:Tryz.f34.ntmps=65:=rfl
def n36:Tryz.f36.ntmps=64:=rfl
def n37:Tryz.f37.ntmps=27:=rfl
def n40:Tryz.f40.ntmps=6:=rfl
def n41:Tryz.f41.ntmps=96:=rfl
def n43:Tryz.f43.ntmps=26:=rfl
def n44:Tryz.f44.ntmps=75:=rfl
def n45:Tryz.f45.ntmps=27:=rfl
def n46:Tryz.f46.ntmps=26:=rfl
def n47:Tryz.f47.ntmps=56:=rfl
def n51:Tryz.f51.ntmps=19:=rfl
def n52:Tryz.f52.ntmps=81:=rfl
def n53:Tryz.f53.ntmps=62:=rfl
def n54:Tryz.f54.ntmps=70:=rfl
def n55:Tryz.f55.ntmps=41:=rfl
def n56:Tryz.f56.ntmps=19:=rfl
def n59:Tryz.f59.ntmps=25:=rfl
def n61:Tryz.f61.ntmps=14:=rfl
def n62:Tryz.f62.ntmps=30:=rfl
def n69:Tryz.f69.ntmps=54:=rfl
def n84:Tryz.f84.ntmps=29:=rfl
def n85:Tryz.f85.ntmps=16:=rfl
def n86:Tryz.f86.ntmps=13:=rfl
def n87:Tryz.f87.ntmps=67:=rfl
def n88:Tryz.f88.ntmps=51:=rfl
def n89:Tryz.f89.ntmps=41:=rfl
def n90:Tryz.f90.ntmps=32:=rfl
def n92:Tryz.f92.ntmps=35:=rfl
def n97:Tryz.f97.ntmps=60:=rfl
def n98:Tryz.f98.ntmps=13:=rfl
def n99:Tryz.f99.ntmps=10:=rfl
def apq:Tryz.f100.ntmps=12:=rfl
def adk:Tryz.f101.ntmps=34:=rfl
def apr:Tryz.f102.ntmps=5:=rfl
def aps:Tryz.f103.ntmps=4:=rfl
def aiW:Tryz.f105.ntmps=114:=rfl
def xd:Tryz.f106.ntmps=8:=rfl
def apu:Tryz.f110.ntmps=84:=rfl
def apv:Tryz.f111.ntmps=86:=rfl
def apw:Tryz.f112.ntmps=21:=rfl
def apx:Tryz.f113.ntmps=47:=rfl
def adl:Tryz.f119.ntmps=32:=rfl
def apy:Tryz.f120.ntmps=17:=rfl
def apz:Tryz.f121.ntmps=41:=rfl
def apA:Tryz.f122.ntmps=10:=rfl
def apB:Tryz.f123.ntmps=9:=rfl
def apC:Tryz.f124.ntmps=38:=rfl
def apD:Tryz.f126.ntmps=76:=rfl
def apE:Tryz.f134.ntmps=15:=rfl
def apF:Tryz.f136.ntmps=5:=rfl
def apG:Tryz.f139.ntmps=33:=rfl
def apH:Tryz.f143.ntmps=65:=rfl
def apI:Tryz.f144.ntmps=107:=rfl
def apJ:Tryz.f145.ntmps=66:=rfl
def apK:Tryz.f150.ntmps=54:=rfl
def apL:Tryz.f151.ntmps=24:=rfl
def apM:Tryz.f152.ntmps=13:=rfl
def apN:Tryz.f153.ntmps=13:=rfl
def aiX:Tryz.f154.ntmps=43:=rfl
def apO:Tryz.f161.ntmps=15:=rfl
def apP:Tryz.f162.ntmps=6:=rfl
def aiY:Tryz.f166.ntmps=8:=rfl
def apQ:Tryz.f167.ntmps=8:=rfl
def aiZ:Tryz.f168.ntmps=8:=rfl
end Go.Proofs.Fit
namespace Go.Proofs.Fit
open Go Go.RowKit
abbrev Bl (A B:Zc):Prop:=YS A.heap.size A B
def CI:maxLen=9223372036854775807:=rfl
def CC (S:Nat->Prop)(w w':Zc):Prop:=∀b,S b->b<w.heap.size->w'.heap[b]?=w.heap[b]?
variable {S T:Nat->Prop}
variable {w w' W:Zc}
variable {v v1 v2 v3 v4 v5 v6 x1 x2 x3 x4 x5 v7 u1 u2 u5:Ze}
def CC.cell (h:CC S w w'){p:Addr}(hs:S p.block)(hc:w.cell? p=some v):w'.cell? p=some v:=by
 have:=h p.block hs (Zy w _ hc);unfold zG at*;rw[this];exact hc
def CC.DY (h:Bl w w'):CC S w w':=fun b _ hb=>h.block b hb
def CC.refl (S:Nat->Prop)(w:Zc):CC S w w:=fun _ _ _=>rfl
def Sl {α:Type}(S:Nat->Prop)(R:Zc->List Ze->α->Prop)(k:Nat)(w:Zc)(v:Ze)(l:List α):Prop:=
 ∃a c,v=.slice a l.length c/\l.length<=c/\c<=maxLen/\∀i x,l[i]?=some x->∃b o cs,a=some ⟨b,o,none⟩/\S b/\cs.length=k/\(∀j u,cs[j]?=some u->w.cell? ⟨b,o+i*k+j,none⟩=some u)/\R w cs x
section
variable {α:Type}{S T:Nat->Prop}{R R':Zc->List Ze->α->Prop}{k:Nat}{w w':Zc}{v:Ze}{l:List α}
def Sl.imp (h:Sl S R k w v l)(hs:∀b,S b->T b)(hR:∀cs x,R w cs x->R' w cs x):Sl T R' k w v l:=by
 obtain⟨a,c,h1,h2,h3,h4⟩:=h;refine⟨a,c,h1,h2,h3,fun i x hx=>?_⟩;obtain⟨b,o,cs,g1,g2,g3,g4,g5⟩:=h4 i x hx;exact⟨b,o,cs,g1,hs b g2,g3,g4,hR _ _ g5⟩
def Sl.Aw (h:Sl S R k w v l)(hw:CC S w w')(hR:∀cs x,R w cs x->R w' cs x):Sl S R k w' v l:=by
 obtain⟨a,c,h1,h2,h3,h4⟩:=h;refine⟨a,c,h1,h2,h3,fun i x hx=>?_⟩;obtain⟨b,o,cs,g1,g2,g3,g4,g5⟩:=h4 i x hx;exact⟨b,o,cs,g1,g2,g3,fun j u hu=>hw.cell (p:=⟨b,o+i*k+j,none⟩) g2 (g4 j u hu),hR _ _ g5⟩
def Sl.val (h:Sl S R k w v l):∃a c,v=.slice a l.length c/\l.length<=c/\c<=maxLen:=by
 obtain⟨a,c,h1,h2,h3,_⟩:=h;exact⟨a,c,h1,h2,h3⟩
end
def Ri (_:Zc)(cs:List Ze)(x:Int):Prop:=cs=[J I x]
def Rp (_:Zc)(cs:List Ze)(x:Int×Int):Prop:=cs=[J I x.1,J I x.2]
abbrev SI (S:Nat->Prop):=Sl S Ri 1
abbrev SP (S:Nat->Prop):=Sl S Rp 2
variable {l L:List Int}
def SI.Aw (h:SI S w v l)(hw:CC S w w'):SI S w' v l:=Sl.Aw h hw fun _ _ h=>h
def SP.Aw {l:List (Int×Int)}(h:SP S w v l)(hw:CC S w w'):SP S w' v l:=Sl.Aw h hw fun _ _ h=>h
def nth (l:List Int)(i:Nat):Int:=l.getD i 0
def BF (l:List (Int×Int))(i:Nat):Int×Int:=l.getD i (0,0)
variable {i s k n b t j q d cap b7:Nat}
def A_ (h:i<l.length):l[i]?=some (nth l i):=by simp[nth,h]
def DH {l:List (Int×Int)}(h:i<l.length):l[i]?=some (BF l i):=by simp[BF,h]
def SI.at_ {a:Option Addr}{c:Nat}(h:SI S w (U a l.length c) l)(hi:i<l.length):∃b o,a=some ⟨b,o,none⟩/\S b/\w.cell? ⟨b,o+i,none⟩=some (J I (nth l i)):=by
 obtain⟨a',c',h1,_,_,h4⟩:=h;cases h1;obtain⟨b,o,cs,g1,g2,g3,g4,g5⟩:=h4 i _ (A_ hi);subst g5;exact⟨b,o,g1,g2,by simpa using g4 0 _ rfl⟩
def SP.at_ {a:Option Addr}{c:Nat}{l:List (Int×Int)}(h:SP S w (U a l.length c) l)(hi:i<l.length):
  ∃b o,a=some ⟨b,o,none⟩/\S b/\w.cell? ⟨b,o+i*2,none⟩=some (J I (BF l i).1)/\w.cell? ⟨b,o+i*2+1,none⟩=some (J I (BF l i).2):=by
 obtain⟨a',c',h1,_,_,h4⟩:=h;cases h1;obtain⟨b,o,cs,g1,g2,g3,g4,g5⟩:=h4 i _ (DH hi);unfold Rp at g5;subst g5;exact⟨b,o,g1,g2,by simpa using g4 0 _ rfl,by simpa using g4 1 _ rfl⟩
def AD (n lo hi:Int):Bool:=decide (n<lo)||decide (hi<n)
def Dt (n most:Int):Int:=if n=0 then 7 else if most<n then 6 else 0
def C9 (p:Int×Int)(lo hi:Int):Int:=if AD p.1 lo hi=true\/AD p.2 lo hi=true then 1 else if p.2<p.1 then 5 else 0
def J4 (n:Int)(p:Int×Int):Bool:=decide (p.1<=n)&&decide (n<=p.2)
def db (n lo hi:Int)(w:Zc):Calls Lp 134 #[J I n,J I lo,J I hi] w fun e w'=>e=.returned (.bool (AD n lo hi))/\w'=w:=by
 go_enter Lp.func134,apE;go_wp2
 all_goals go_ret
 .exact⟨rfl,rfl⟩
 .exact⟨by simp[AD, *],rfl⟩
def xe (n most:Int)(w:Zc):Calls Lp 100 #[J I n,J I most] w fun e w'=>e=.returned (J I (Dt n most))/\w'=w:=by
 go_enter Lp.func100,apq;go_wp2
 all_goals go_ret
 all_goals simp_all[Dt]
def aj0 (n a b:Int)(w:Zc):Calls Lp 161 #[J I n,.agg #[J I a,J I b]] w fun e w'=>e=.returned (.bool (J4 n (a,b)))/\Bl w w':=by
 go_enter Lp.func161,apO;go_wp2
 all_goals go_ret
 all_goals refine⟨?_,(Zg _ _).alloc (Zj _) _⟩
 all_goals simp[J4, *]
 all_goals omega
def adm (a b:Int)(lo hi:Int)(w:Zc):Calls Lp 151 #[.agg #[J I a,J I b],J I lo,J I hi] w fun e w'=>e=.returned (J I (C9 (a,b) lo hi))/\Bl w w':=by
 go_enter Lp.func151,apL;go_wp2_with (go_at_call 134;refine(db _ _ _ _).mono ?_;rintro e w' ⟨rfl,rfl⟩)
 all_goals go_ret
 all_goals refine⟨?_,(Zg _ _).alloc (Zj _) _⟩
 all_goals simp_all[C9]
 all_goals omega
structure Aq where
 low:Int
 high:Int
 Ak:List (Int×Int)
 over:List Int
 left:Int
structure A4 where
 base:List Int
 Af:List (Int×Int)
 hooks:List Int
 Aa:List Aq
 now:List Int
def Rs (S:Nat->Prop)(w:Zc)(cs:List Ze)(s:Aq):Prop:=∃v2 v3,cs=[J I s.low,J I s.high,v2,v3,J I s.left]/\SP S w v2 s.Ak/\SI S w v3 s.over
abbrev SS (S:Nat->Prop):=Sl S (Rs S) 5
structure RC (S:Nat->Prop)(w:Zc)(v1 v2 v3 v4 v5:Ze)(c:A4):Prop where
 base:SI S w v1 c.base
 Af:SP S w v2 c.Af
 hooks:SI S w v3 c.hooks
 Aa:SS S w v4 c.Aa
 now:SI S w v5 c.now
def Rs.Aw {cs:List Ze}{s:Aq}(h:Rs S w cs s)(hw:CC S w w'):Rs S w' cs s:=by
 obtain⟨v2,v3,h1,h2,h3⟩:=h;exact⟨v2,v3,h1,h2.Aw hw,h3.Aw hw⟩
def SS.Aw {l:List Aq}(h:SS S w v l)(hw:CC S w w'):SS S w' v l:=Sl.Aw h hw fun _ _ h=>h.Aw hw
variable {c:A4}
def RC.Aw (h:RC S w v1 v2 v3 v4 v5 c)(hw:CC S w w'):RC S w' v1 v2 v3 v4 v5 c:=
 ⟨h.base.Aw hw,h.Af.Aw hw,h.hooks.Aw hw,h.Aa.Aw hw,h.now.Aw hw⟩
section
variable {α:Type}
def Bd (f:α->Int):List α->Int
 | []=>0
 |x::r=>if f x=0 then Bd f r else f x
def Fi {f:α->Int}{l:List α}{x:α}(h:l[k]?=some x):Bd f (l.drop k)=if f x=0 then Bd f (l.drop (k+1)) else f x:=by
 obtain⟨hk,rfl⟩:=Zl.1 h;rw[Zu hk]
 rfl
def F8 {f:α->Int}{l:List α}(h:l.length<=k):Bd f (l.drop k)=0:=by
 rw[Zz.2 h];rfl
end
def Fy (lo hi:Int)(n:Int):Int:=if AD n lo hi=true then 1 else 0
variable {lo hi hook:Int}
def XJ {n:Int}(h:AD n lo hi=true):Fy lo hi n=1:=if_pos h
def TF {n:Int}(h:AD n lo hi=false):Fy lo hi n=0:=if_neg (by rw[h];decide)
def QC (a b:Int):Int:=if a=0 then b else a
def B0 {a b:Int}(h:a=0):QC a b=b:=if_pos h
def Ls {a b:Int}(h:a≠0):QC a b=a:=if_neg h
def Bp {a b:Int}(h:a=b):ZbP (J I a)=.returned (J I b):=by rw[h]
def VX {a:Nat}(h:((a:Int) !=b)=false):a=b:=by simp at h;omega
def aaL {a:Nat}(h:((a:Int) !=b)=true):a≠b:=by simp at h;omega
def FT {a:Int}(h:(a !=0)=false):a=0:=by simpa using h
def GF {a:Int}(h:(a !=0)=true):a≠0:=by simpa using h
def Dy (c:A4):Int:=
 QC (Dt c.base.length 3) (QC (Bd (Fy 1 60) c.base) (if c.Af.length≠c.base.length then 9 else QC (Bd (fun p=>C9 p (-9) 9) c.Af) (if c.hooks.length≠c.base.length then 9 else Bd (Fy 0 5) c.hooks)))
def apR (h:RC S w v1 v2 v3 v4 v5 c)(hS:∀b,S b->b<w.heap.size):Calls Lp 143 #[.agg #[v1,v2,v3,v4,v5]] w fun e w'=>e=.returned (J I (Dy c))/\Bl w w':=by
 obtain⟨a1,c1,rfl,l1,m1⟩:=h.base.val;obtain⟨a2,c2,rfl,l2,m2⟩:=h.Af.val;obtain⟨a3,c3,rfl,l3,m3⟩:=h.hooks.val;obtain⟨a4,c4,rfl,l4,m4⟩:=h.Aa.val;obtain⟨a5,c5,rfl,l5,m5⟩:=h.now.val;have Gx:=CI;have hB:Bl w (w.alloc (.cells #[U a1 c.base.length c1,U a2 c.Af.length c2,U a3 c.hooks.length c3,U a4 c.Aa.length c4,U a5 c.now.length c5] 26)):=(Zg _ _).alloc (Zj _) _;go_enter Lp.func143,apH;go_wp2_with (go_at_call 100;refine(xe _ _ _).mono ?_;rintro e w' ⟨rfl,rfl⟩)
 .have q1:(Dt c.base.length 3 !=0)=true:=by assumption
  go_ret;exact⟨Bp (by rw[Dy,Ls (GF q1)]),hB⟩
 rename (Dt _ _ !=0)=false=>q1
 have Q1:=Zb q1;clear q1;go_loopg [21] c.base.length (fun g i wr=>∃k:Nat,k<=c.base.length/\g=c.base.length - k/\i=.int I k/\Bd (Fy 1 60) (c.base.drop k)=Bd (Fy 1 60) c.base/\wr=(w.alloc (.cells #[U a1 c.base.length c1,U a2 c.Af.length c2,U a3 c.hooks.length c3,U a4 c.Aa.length c4,U a5 c.now.length c5] 26)))
 case atStart=>exact⟨0,Zn _,rfl,rfl,rfl,rfl⟩
 case round=>
  obtain⟨k,hk,rfl,rfl,Cn,rfl⟩:=hrel;have hf:=Zb Cn;clear Cn;by_cases AA:k<c.base.length
  .obtain⟨b,o,rfl,hb,hc⟩:=h.base.at_ AA
   have Pl:=hB.cell (p:=⟨b,o+k,none⟩) (hS b hb);rw[hc]at Pl;have hd:=Zb (Fi (f:=Fy 1 60) (A_ AA));go_wp2_with (go_at_call 134;refine(db _ _ _ _).mono ?_;rintro e w' ⟨rfl,rfl⟩)
   .have q2:AD (nth c.base k) 1 60=true:=by assumption
    go_ret;have e2:Bd (Fy 1 60) c.base=1:=by rw[<-hf.out,hd.out,XJ q2];rfl
    exact⟨Bp (by rw[Dy,B0 (FT Q1.out),e2];rfl),hB⟩
   .have q2:AD (nth c.base k) 1 60=false:=by assumption
    go_roundg (c.base.length - (k+1))
    case rel=>exact⟨k+1,by omega,rfl,by go_num,by rw[<-hf.out,hd.out,TF q2];rfl,rfl⟩
    case measure=>omega
  .have Q2:=Zb (show Bd (Fy 1 60) c.base=0 by rw[<-hf.out];exact F8 (by omega))
   clear hf;go_wp2
   .have q3:((c.Af.length:Int) !=c.base.length)=true:=by assumption
    go_ret;exact⟨Bp (by rw[Dy,B0 (FT Q1.out),B0 Q2.out,if_pos (aaL q3)]),hB⟩
   rename (_ !=_)=false=>q3
   have Q3:=Zb q3;clear q3;go_loopg [38] c.Af.length (fun g i wr=>∃k:Nat,k<=c.Af.length/\g=c.Af.length - k/\i=.int I k/\Bd (fun p=>C9 p (-9) 9) (c.Af.drop k)=Bd (fun p=>C9 p (-9) 9) c.Af/\Bl w wr/\wr.cell? ⟨w.heap.size,0,none⟩=some (U a1 c.base.length c1)/\wr.cell? ⟨w.heap.size,2,none⟩=some (U a3 c.hooks.length c3))
   case atStart=>exact⟨0,Zn _,rfl,rfl,rfl,hB,by simp,by simp⟩
   case round=>
    obtain⟨k,hk,rfl,rfl,Cn,AW,Oo,ND⟩:=hrel;have hf:=Zb Cn;clear Cn;by_cases AA:k<c.Af.length
    .obtain⟨b,o,rfl,hb,hca,o_⟩:=h.Af.at_ AA
     rw[<-AW.cell (p:=⟨b,o+k*2,none⟩) (hS b hb)]at hca;rw[<-AW.cell (p:=⟨b,o+k*2+1,none⟩) (hS b hb)]at o_;have hd:=Zb (Fi (f:=fun p=>C9 p (-9) 9) (DH AA));go_wp2_with (go_at_call 151;refine(adm _ _ _ _ _).mono ?_;rintro e w' ⟨rfl,Bg⟩)
     .have q4:(C9 (BF c.Af k) (-9) 9 !=0)=true:=by assumption
      go_ret;have e4:Bd (fun p=>C9 p (-9) 9) c.Af=C9 (BF c.Af k) (-9) 9:=by rw[<-hf.out,hd.out,if_neg (GF q4)]
      exact⟨Bp (by rw[Dy,B0 (FT Q1.out),B0 Q2.out,if_neg (fun x=>x (VX Q3.out)),e4,Ls (GF q4)]),(AW.alloc AW.size _).trans (Bg.mono (by simp;have:=AW.size;omega))⟩
     .have q4:(C9 (BF c.Af k) (-9) 9 !=0)=false:=by assumption
      have CU:Bl w w':=(AW.alloc AW.size _).trans (Bg.mono (by simp;have:=AW.size;omega));have uB:w.heap.size<wr.heap.size:=Zy wr _ Oo;have apT:=(Bg.cell (p:=⟨w.heap.size,0,none⟩) (by simp;omega)).trans ((ZbL _ _ _ uB).trans Oo);have apU:=(Bg.cell (p:=⟨w.heap.size,2,none⟩) (by simp;omega)).trans ((ZbL _ _ _ uB).trans ND);go_roundg (c.Af.length - (k+1))
      case rel=>exact⟨k+1,by omega,rfl,by go_num,by rw[<-hf.out,hd.out,if_pos (FT q4)],CU,apT,apU⟩
      case measure=>omega
    .have Q4:=Zb (show Bd (fun p=>C9 p (-9) 9) c.Af=0 by rw[<-hf.out];exact F8 (by omega))
     clear hf;go_wp2
     .have q5:((c.hooks.length:Int) !=c.base.length)=true:=by assumption
      go_ret;exact⟨Bp (by rw[Dy,B0 (FT Q1.out),B0 Q2.out,if_neg (fun x=>x (VX Q3.out)),B0 Q4.out,if_pos (aaL q5)]),AW⟩
     rename (_ !=_)=false=>q5
     have Q5:=Zb q5;clear q5;go_loopg [58] c.hooks.length (fun g i wx=>∃k:Nat,k<=c.hooks.length/\g=c.hooks.length - k/\i=.int I k/\Bd (Fy 0 5) (c.hooks.drop k)=Bd (Fy 0 5) c.hooks/\wx=wr)
     case atStart=>exact⟨0,Zn _,rfl,rfl,rfl,rfl⟩
     case round=>
      obtain⟨k,hk,rfl,rfl,Cn,rfl⟩:=hrel;have hf:=Zb Cn;clear Cn;by_cases AA:k<c.hooks.length
      .obtain⟨b,o,rfl,hb,hc⟩:=h.hooks.at_ AA
       rw[<-AW.cell (p:=⟨b,o+k,none⟩) (hS b hb)]at hc;have hd:=Zb (Fi (f:=Fy 0 5) (A_ AA));go_wp2_with (go_at_call 134;refine(db _ _ _ _).mono ?_;rintro e w' ⟨rfl,rfl⟩)
       .have q2:AD (nth c.hooks k) 0 5=true:=by assumption
        go_ret;have e2:Bd (Fy 0 5) c.hooks=1:=by rw[<-hf.out,hd.out,XJ q2];rfl
        exact⟨Bp (by rw[Dy,B0 (FT Q1.out),B0 Q2.out,if_neg (fun x=>x (VX Q3.out)),B0 Q4.out,if_neg (fun x=>x (VX Q5.out)),e2]),AW⟩
       .have q2:AD (nth c.hooks k) 0 5=false:=by assumption
        go_roundg (c.hooks.length - (k+1))
        case rel=>exact⟨k+1,by omega,rfl,by go_num,by rw[<-hf.out,hd.out,TF q2];rfl,rfl⟩
        case measure=>omega
      .have Q6:=Zb (show Bd (Fy 0 5) c.hooks=0 by rw[<-hf.out];exact F8 (by omega))
       clear hf;go_wp2;go_ret;exact⟨Bp (by rw[Dy,B0 (FT Q1.out),B0 Q2.out,if_neg (fun x=>x (VX Q3.out)),B0 Q4.out,if_neg (fun x=>x (VX Q5.out)),Q6.out]),AW⟩
def rX:Aq:=⟨0,0,[],[],0⟩
def Ah (l:List Aq)(i:Nat):Aq:=l.getD i rX
def Ct {l:List Aq}(h:i<l.length):l[i]?=some (Ah l i):=by simp[Ah,h]
def SS.at_ {a:Option Addr}{c:Nat}{l:List Aq}(h:SS S w (U a n c) l)(hi:i<l.length):
  ∃b o v2 v3,a=some ⟨b,o,none⟩/\S b/\w.cell? ⟨b,o+i*5,none⟩=some (J I (Ah l i).low)/\w.cell? ⟨b,o+i*5+1,none⟩=some (J I (Ah l i).high)/\
   w.cell? ⟨b,o+i*5+2,none⟩=some v2/\w.cell? ⟨b,o+i*5+3,none⟩=some v3/\w.cell? ⟨b,o+i*5+4,none⟩=some (J I (Ah l i).left)/\SP S w v2 (Ah l i).Ak/\SI S w v3 (Ah l i).over:=by
 obtain⟨a',c',h1,_,_,h4⟩:=h;cases h1;obtain⟨b,o,cs,g1,g2,g3,g4,v2,v3,rfl,g6,g7⟩:=h4 i _ (Ct hi);exact⟨b,o,v2,v3,g1,g2,by simpa using g4 0 _ rfl,g4 1 _ rfl,g4 2 _ rfl,g4 3 _ rfl,g4 4 _ rfl,g6,g7⟩
def Cz (c:A4)(l:List Int):Int:=if l.length<c.Aa.length then 7 else if c.Aa.length<l.length then 6 else Bd (fun p:Int×Aq=>Fy p.2.low p.2.high p.1) (l.zip c.Aa)
def Ox {m:List Aq}(h1:k<l.length)(h2:k<m.length):(l.zip m)[k]?=some (nth l k,Ah m k):=by
 rw[List.getElem?_zip_eq_some];exact⟨A_ h1,Ct h2⟩
def c89 (h:RC S w v1 v2 v3 v4 v5 c)(hl:SI S w v6 l)(hS:∀b,S b->b<w.heap.size):Calls Lp 89 #[.agg #[v1,v2,v3,v4,v5],v6] w fun e w'=>e=.returned (J I (Cz c l))/\Bl w w':=by
 obtain⟨a1,c1,rfl,l1,m1⟩:=h.base.val;obtain⟨a2,c2,rfl,l2,m2⟩:=h.Af.val;obtain⟨a3,c3,rfl,l3,m3⟩:=h.hooks.val;obtain⟨a4,c4,rfl,l4,m4⟩:=h.Aa.val;obtain⟨a5,c5,rfl,l5,m5⟩:=h.now.val;obtain⟨a6,c6,rfl,l6,m6⟩:=hl.val;have Gx:=CI;have hB:Bl w (w.alloc (.cells #[U a1 c.base.length c1,U a2 c.Af.length c2,U a3 c.hooks.length c3,U a4 c.Aa.length c4,U a5 c.now.length c5] 26)):=(Zg _ _).alloc (Zj _) _;by_cases TG:l.length<c.Aa.length
 .go_enter Lp.func89,n89
  go_wp2;go_ret;exact⟨Bp (by rw[Cz,if_pos TG]),hB⟩
 by_cases MI:c.Aa.length<l.length
 .go_enter Lp.func89,n89
  go_wp2;go_ret;exact⟨Bp (by rw[Cz,if_neg TG,if_pos MI]),hB⟩
 have hle:l.length=c.Aa.length:=by omega
 have hE:Cz c l=Bd (fun p:Int×Aq=>Fy p.2.low p.2.high p.1) (l.zip c.Aa):=by rw[Cz,if_neg TG,if_neg MI]
 have hzl:(l.zip c.Aa).length=l.length:=by simp[hle]
 have HE:=Zb hE;have HZ:=Zb hzl;have HL:=Zb hle;clear hE hzl hle;go_enter Lp.func89,n89;go_wp2;go_loopg [21] l.length (fun g i wr=>∃k:Nat,k<=l.length/\g=l.length - k/\i=.int I k/\Bd (fun p:Int×Aq=>Fy p.2.low p.2.high p.1) ((l.zip c.Aa).drop k)=Bd (fun p:Int×Aq=>Fy p.2.low p.2.high p.1) (l.zip c.Aa)/\Bl w wr/\wr.cell? ⟨w.heap.size,3,none⟩=some (U a4 c.Aa.length c4))
 case atStart=>exact⟨0,Zn _,rfl,rfl,rfl,hB,by simp⟩
 case round=>
  obtain⟨k,hk,rfl,rfl,Cn,AW,o_⟩:=hrel;have hf:=Zb Cn;clear Cn;by_cases AA:k<l.length
  .have GG:k<c.Aa.length:=by have:=HL.out;omega
   obtain⟨b,o,rfl,hb,hc⟩:=hl.at_ AA;obtain⟨b',o',s2,s3,rfl,GZ,QD,O3,_⟩:=h.Aa.at_ GG;rw[<-AW.cell (p:=⟨b,o+k,none⟩) (hS b hb)]at hc;rw[<-AW.cell (p:=⟨b',o'+k*5,none⟩) (hS b' GZ)]at QD;rw[<-AW.cell (p:=⟨b',o'+k*5+1,none⟩) (hS b' GZ)]at O3;have hd:=Zb (Fi (f:=fun p:Int×Aq=>Fy p.2.low p.2.high p.1) (Ox AA GG));go_wp2;go_quiet (first|(go_at_call 134;refine Zay (db _ _ _ _)))
   all_goals go_wp2
   .have q2:AD (nth l k) (Ah c.Aa k).low (Ah c.Aa k).high=true:=by assumption
    go_ret;exact⟨Bp (by rw[HE.out, <-hf.out,hd.out,XJ q2];rfl),zl AW _⟩
   .have q2:AD (nth l k) (Ah c.Aa k).low (Ah c.Aa k).high=false:=by assumption
    go_roundg (l.length - (k+1))
    case rel=>exact⟨k+1,by omega,rfl,by go_num,by rw[<-hf.out,hd.out,TF q2];rfl,zl AW _,by simpa using o_⟩
    case measure=>omega
  .have Q2:=Zb (show Cz c l=0 by rw[HE.out, <-hf.out];exact F8 (by have:=HZ.out;omega))
   clear hf;go_wp2;go_ret;exact⟨Bp Q2.out.symm,AW⟩
def hasB (s i:Nat):Bool:=s.testBit i
def IE (s i:Nat):Nat:=s|||(1<<<i)
def adn (s i:Nat)(hs:s<8)(hi:i<3)(w:Zc):Calls Lp 122 #[J .u8 s,J I i] w fun e w'=>e=.returned (.bool (hasB s i))/\w'=w:=by
 have h1:s=0\/s=1\/s=2\/s=3\/s=4\/s=5\/s=6\/s=7:=by omega
 have h2:i=0\/i=1\/i=2:=by omega
 rcases h1 with rfl|rfl|rfl|rfl|rfl|rfl|rfl|rfl<;>rcases h2 with rfl|rfl|rfl
 all_goals
  go_enter Lp.func122,apA;go_wp2;go_ret;exact⟨rfl,rfl⟩
def ado (s i:Nat)(hs:s<8)(hi:i<3)(w:Zc):Calls Lp 123 #[J .u8 s,J I i] w fun e w'=>e=.returned (J .u8 (IE s i))/\w'=w:=by
 have h1:s=0\/s=1\/s=2\/s=3\/s=4\/s=5\/s=6\/s=7:=by omega
 have h2:i=0\/i=1\/i=2:=by omega
 rcases h1 with rfl|rfl|rfl|rfl|rfl|rfl|rfl|rfl<;>rcases h2 with rfl|rfl|rfl
 all_goals
  go_enter Lp.func123,apB;go_wp2;go_ret;exact⟨rfl,rfl⟩
section
variable {α:Type}
def CZ (f:Nat->α->Int):Nat->List α->Int
 |_,[]=>0
 |i,x::r=>if f i x=0 then CZ f (i+1) r else f i x
def Lu {f:Nat->α->Int}{l:List α}{x:α}(h:l[k]?=some x):CZ f k (l.drop k)=if f k x=0 then CZ f (k+1) (l.drop (k+1)) else f k x:=by
 obtain⟨hk,rfl⟩:=Zl.1 h;rw[Zu hk]
 rfl
def Nh {f:Nat->α->Int}{l:List α}(h:l.length<=k):CZ f i (l.drop k)=0:=by
 rw[Zz.2 h];rfl
end
def Fj (EG:Nat)(l:List (Int×Int))(i:Nat)(p:Int×Int):Int:=
 if AD p.1 0 ((EG:Int) - 1)=true then 3 else if p.2=0\/AD p.2 (-4) 4=true then 1 else if 0<i/\p.1=(BF l 0).1 then 4 else 0
def DZ (Aa:Nat)(number:Nat)(l:List Int)(i:Nat)(o:Int):Int:=
 if AD o 0 ((Aa:Int) - 1)=true\/o=number then 3 else if 0<i/\o<=nth l (i - 1) then 5 else 0
def ES (c:A4)(n:Nat):Int:=
 QC (C9 ((Ah c.Aa n).low,(Ah c.Aa n).high) (-2) 2) (QC (Dt (Ah c.Aa n).Ak.length 2) (QC (CZ (Fj c.base.length (Ah c.Aa n).Ak) 0 (Ah c.Aa n).Ak)
  (QC (CZ (DZ c.Aa.length n (Ah c.Aa n).over) 0 (Ah c.Aa n).over) (Fy 0 4 (Ah c.Aa n).left))))
def ca {p:Addr}(h:w.cell? p=some v)(o:Obj):(w.alloc o).cell? p=some v:=(ZbL _ _ _ (Zy w _ h)).trans h
def cn (w:Zc)(xs:Array Ze)(t:Zr)(h:xs[i]?=some v):(w.alloc (.cells xs t)).cell? ⟨w.heap.size,i,none⟩=some v:=(World.cell?_alloc_at _ _ _ _ rfl).trans h
variable {cs xs args cur g:Array Ze}
def nA {ys:Array Ze}{s t:Zr}(h:YS ((w.alloc (.cells xs s)).alloc (.cells ys t)).heap.size ((w.alloc (.cells xs s)).alloc (.cells ys t)) w'):
  Bl w w'/\(∀i v,xs[i]?=some v->w'.cell? ⟨w.heap.size,i,none⟩=some v)/\(∀i v,ys[i]?=some v->w'.cell? ⟨w.heap.size+1,i,none⟩=some v):=by
 refine⟨(((Zg _ _).alloc (Zj _) _).alloc (by simp) _).trans (h.mono (by simp;omega)),fun i v hv=>?_,fun i v hv=>?_⟩
 .rw[h.cell (p:=⟨w.heap.size,i,none⟩) (by simp;omega)]
  exact ca (cn w xs s hv) _
 .rw[h.cell (p:=⟨w.heap.size+1,i,none⟩) (by simp)]
  have:=cn (w.alloc (.cells xs s)) ys t hv;rwa[ZG]at this
def apW (h:RC S w v1 v2 v3 v4 v5 c)(hn:n<c.Aa.length)(hS:∀b,S b->b<w.heap.size):Calls Lp 144 #[.agg #[v1,v2,v3,v4,v5],J I n] w fun e w'=>e=.returned (J I (ES c n))/\Bl w w':=by
 obtain⟨a1,c1,rfl,l1,m1⟩:=h.base.val;obtain⟨a2,c2,rfl,l2,m2⟩:=h.Af.val;obtain⟨a3,c3,rfl,l3,m3⟩:=h.hooks.val;obtain⟨a4,c4,rfl,l4,m4⟩:=h.Aa.val;obtain⟨a5,c5,rfl,l5,m5⟩:=h.now.val;have Gx:=CI;obtain⟨b,o,s2,s3,rfl,hb,Fp,QD,O3,po,pv,hp,ho⟩:=h.Aa.at_ hn;obtain⟨a6,c6,rfl,l6,m6⟩:=hp.val;obtain⟨a7,c7,rfl,l7,m7⟩:=ho.val;have Ni:=hS b hb;obtain⟨s,hs⟩:∃s,s=Ah c.Aa n:=⟨_,rfl⟩;have hsE:ES c n=QC (C9 (s.low,s.high) (-2) 2) (QC (Dt s.Ak.length 2) (QC (CZ (Fj c.base.length s.Ak) 0 s.Ak) (QC (CZ (DZ c.Aa.length n s.over) 0 s.over) (Fy 0 4 s.left)))):=by rw[ES,hs]
 have HE:=Zb hsE;rw[<-hs]at Fp QD O3 po pv hp ho l6 l7;clear hs hsE;obtain⟨adp,rY,B6,Ce,TH⟩:=s;dsimp only at*;go_enter Lp.func144,apI;go_wp2_with (first|(go_at_call 100;refine(xe _ _ _).mono ?_;rintro e w' ⟨rfl,rfl⟩)|(go_at_call 151;refine(adm _ _ _ _ _).mono ?_;rintro e w' ⟨rfl,Bg⟩;obtain⟨CU,hf,hg⟩:=nA Bg;have f0:=hf 0 (U a1 c.base.length c1) rfl;have f3:=hf 3 (U (some ⟨b,o,none⟩) c.Aa.length c4) rfl;have g2:=hg 2 (U a6 B6.length c6) rfl;have g3:=hg 3 (U a7 Ce.length c7) rfl;have g4:=hg 4 (J I TH) rfl;clear hf hg Bg))
 .have q1:(C9 (adp,rY) (-2) 2 !=0)=true:=by assumption
  go_ret;exact⟨Bp (by rw[HE.out,Ls (GF q1)]),CU⟩
 .have q1:(C9 (adp,rY) (-2) 2 !=0)=false:=by assumption
  have q2:(Dt B6.length 2 !=0)=true:=by assumption
  go_ret;exact⟨Bp (by rw[HE.out,B0 (FT q1),Ls (GF q2)]),CU⟩
 rename (C9 _ _ _ !=0)=false=>q1
 rename (Dt _ _ !=0)=false=>q2
 have xf:=Zb (show ES c n=QC (CZ (Fj c.base.length B6) 0 B6) (QC (CZ (DZ c.Aa.length n Ce) 0 Ce) (Fy 0 4 TH)) by rw[HE.out,B0 (FT q1),B0 (FT q2)]);have Q1:=Zb q1;have Q2:=Zb q2;clear q1 q2 HE Fp QD O3 po pv;have Ek:=Zy w' _ g4;have Td:w.heap.size+1<w'.heap.size:=Ek;clear Ek;go_loopg [36] B6.length (fun g i wr=>∃k:Nat,k<=B6.length/\g=B6.length - k/\i=.int I k/\CZ (Fj c.base.length B6) k (B6.drop k)=CZ (Fj c.base.length B6) 0 B6/\Bl w wr/\Bl w' wr)
 case atStart=>exact⟨0,Zn _,rfl,rfl,rfl,CU,Zg _ _⟩
 case round=>
  obtain⟨k,hk,rfl,rfl,Cn,hB,hW⟩:=hrel;have hf:=Zb Cn;clear Cn;rw[<-hW.cell (p:=⟨w.heap.size,0,none⟩) (by simp;omega)]at f0;rw[<-hW.cell (p:=⟨w.heap.size,3,none⟩) (by simp;omega)]at f3;rw[<-hW.cell (p:=⟨w.heap.size+1,2,none⟩) (by simp;omega)]at g2;rw[<-hW.cell (p:=⟨w.heap.size+1,3,none⟩) (by simp;omega)]at g3;rw[<-hW.cell (p:=⟨w.heap.size+1,4,none⟩) (by simp;omega)]at g4;by_cases AA:k<B6.length
  .obtain⟨b6,o6,rfl,Xt,NC,ND⟩:=hp.at_ AA
   obtain⟨b6',o6',e,_,Oo,_⟩:=hp.at_ (i:=0) (by omega);cases e;rw[<-hB.cell (p:=⟨b6,o6+k*2,none⟩) (hS b6 Xt)]at NC;rw[<-hB.cell (p:=⟨b6,o6+k*2+1,none⟩) (hS b6 Xt)]at ND;rw[<-hB.cell (p:=⟨b6,o6+0*2,none⟩) (hS b6 Xt)]at Oo;have hd:=Zb (Lu (f:=Fj c.base.length B6) (DH AA));have uB:=hB.size;have hWs:=hW.size;have Fo:w.heap.size<wr.heap.size:=by omega
   have DX:w.heap.size+1<wr.heap.size:=by omega
   have EI:b6<wr.heap.size:=by have:=hS b6 Xt;omega
   obtain⟨x,hx⟩:∃x,x=BF B6 k:=⟨_,rfl⟩;rw[<-hx]at NC ND hd;have HX:=Zb hx;clear hx;obtain⟨xg,xb⟩:=x;dsimp only at NC ND;go_wp2_with (go_at_call 134;refine(db _ _ _ _).mono ?_;rintro e w' ⟨rfl,rfl⟩)
   .have q3:AD xg 0 ((c.base.length:Int) - 1)=true:=by assumption
    have e3:Fj c.base.length B6 k (xg,xb)=3:=by unfold Fj;rw[if_pos q3]
    go_ret;exact⟨Bp (by rw[xf.out, <-hf.out,hd.out,e3];rfl),hB.alloc (by omega) _⟩
   .have q3:AD xg 0 ((c.base.length:Int) - 1)=false:=by assumption
    have q4:xb=0:=by assumption
    have e3:Fj c.base.length B6 k (xg,xb)=1:=by unfold Fj;rw[if_neg (by rw[q3];decide),if_pos (.inl q4)]
    go_ret;exact⟨Bp (by rw[xf.out, <-hf.out,hd.out,e3];rfl),hB.alloc (by omega) _⟩
   .have q3:AD xg 0 ((c.base.length:Int) - 1)=false:=by assumption
    have q4:(xb==0)=true\/AD xb (-4) 4=true:=by assumption
    have e3:Fj c.base.length B6 k (xg,xb)=1:=by unfold Fj;rw[if_neg (by rw[q3];decide),if_pos (by simpa using q4)]
    go_ret;exact⟨Bp (by rw[xf.out, <-hf.out,hd.out,e3];rfl),hB.alloc (by omega) _⟩
   rename AD xg 0 _=false=>q3
   rename ((xb==0)=false/\_)=>q4
   have e3:Fj c.base.length B6 k (xg,xb)=if 0<k/\xg=(BF B6 0).1 then 4 else 0:=by unfold Fj;rw[if_neg (by rw[q3];decide),if_neg (by simpa using q4)]
   have E3:=Zb e3;have Q3:=Zb q3;have Q4:=Zb q4;clear e3 q3 q4
   rename¬xb=0=>q5
   clear q5;rw[Nat.zero_mul,Nat.add_zero]at Oo;have nB:∀nq,Bl w ((wr.alloc (.cells #[J I xg,J I xb] 64)).drewN nq):=fun nq=>zl (hB.alloc (by omega) _) _;have hWn:∀nq,Bl w' ((wr.alloc (.cells #[J I xg,J I xb] 64)).drewN nq):=fun nq=>zl (hW.alloc hWs _) _;by_cases eH:0<k
   .go_quiet (fail)
    go_wp2
    .have q6:(xg==(BF B6 0).1)=true:=by assumption
     go_ret;have e4:Fj c.base.length B6 k (xg,xb)=4:=by rw[E3.out,if_pos ⟨eH,by simpa using q6⟩]
     exact⟨Bp (by rw[xf.out, <-hf.out,hd.out,e4];rfl),nB _⟩
    .have q6:(xg==(BF B6 0).1)=false:=by assumption
     have e4:Fj c.base.length B6 k (xg,xb)=0:=by rw[E3.out,if_neg (fun x=>by simp at q6;exact q6 x.2)]
     go_roundg (B6.length - (k+1))
     case rel=>exact⟨k+1,by omega,rfl,by go_num,by rw[<-hf.out,hd.out,e4];rfl,nB _,hWn _⟩
     case measure=>omega
   .go_quiet (fail)
    go_wp2;have e4:Fj c.base.length B6 k (xg,xb)=0:=by rw[E3.out,if_neg (fun x=>eH x.1)]
    go_roundg (B6.length - (k+1))
    case rel=>exact⟨k+1,by omega,rfl,by go_num,by rw[<-hf.out,hd.out,e4];rfl,nB _,hWn _⟩
    case measure=>omega
  .have Q3:=Zb (show CZ (Fj c.base.length B6) 0 B6=0 by rw[<-hf.out];exact Nh (by omega))
   have HE3:=Zb (show ES c n=QC (CZ (DZ c.Aa.length n Ce) 0 Ce) (Fy 0 4 TH) by rw[xf.out,B0 Q3.out]);have hWs:=hW.size;have DX:w.heap.size+1<wr.heap.size:=by omega
   clear hf xf f0 g2 hW hWs Td;go_wp2;go_loopg [75] Ce.length (fun g i wx=>∃k:Nat,k<=Ce.length/\g=Ce.length - k/\i=.int I k/\CZ (DZ c.Aa.length n Ce) k (Ce.drop k)=CZ (DZ c.Aa.length n Ce) 0 Ce/\wx=wr)
   case atStart=>exact⟨0,Zn _,rfl,rfl,rfl,rfl⟩
   case round=>
    obtain⟨k,hk,rfl,rfl,Cn,rfl⟩:=hrel;have hf:=Zb Cn;clear Cn;by_cases AA:k<Ce.length
    .obtain⟨b7,o7,rfl,U2,NC⟩:=ho.at_ AA
     rw[<-hB.cell (p:=⟨b7,o7+k,none⟩) (hS b7 U2)]at NC;have Oo:0<k->wr.cell? ⟨b7,o7+(k - 1),none⟩=some (J I (nth Ce (k - 1))):=fun h0=>by
      obtain⟨b7',o7',e,_,hc⟩:=ho.at_ (i:=k - 1) (by omega);cases e;rw[<-hB.cell (p:=⟨b7,o7+(k - 1),none⟩) (hS b7 U2)]at hc;exact hc
     have hd:=Zb (Lu (f:=DZ c.Aa.length n Ce) (A_ AA));obtain⟨x,hx⟩:∃x,x=nth Ce k:=⟨_,rfl⟩;rw[<-hx]at NC hd;have HX:=Zb hx;clear hx;by_cases eH:0<k
     .have Oo:=Oo eH
      go_wp2_with (go_at_call 134;refine(db _ _ _ _).mono ?_;rintro e w' ⟨rfl,rfl⟩)
      .have q3:AD x 0 ((c.Aa.length:Int) - 1)=true:=by assumption
       have e3:DZ c.Aa.length n Ce k x=3:=by unfold DZ;rw[if_pos (.inl q3)]
       go_ret;exact⟨Bp (by rw[HE3.out, <-hf.out,hd.out,e3];rfl),hB⟩
      .have q3:(x==(n:Int))=true:=by assumption
       have e3:DZ c.Aa.length n Ce k x=3:=by unfold DZ;rw[if_pos (.inr (by simpa using q3))]
       go_ret;exact⟨Bp (by rw[HE3.out, <-hf.out,hd.out,e3];rfl),hB⟩
      .have q3:¬AD x 0 ((c.Aa.length:Int) - 1)=true:=by assumption
       have q4:(x==(n:Int))=false:=by assumption
       have q5:x<=nth Ce (k - 1):=by assumption
       have e3:DZ c.Aa.length n Ce k x=5:=by unfold DZ;rw[if_neg (fun y=>y.elim q3 (by simpa using q4)),if_pos ⟨eH,q5⟩]
       go_ret;exact⟨Bp (by rw[HE3.out, <-hf.out,hd.out,e3];rfl),hB⟩
      .have q3:¬AD x 0 ((c.Aa.length:Int) - 1)=true:=by assumption
       have q4:(x==(n:Int))=false:=by assumption
       have q5:nth Ce (k - 1)<x:=by assumption
       have e3:DZ c.Aa.length n Ce k x=0:=by unfold DZ;rw[if_neg (fun y=>y.elim q3 (by simpa using q4)),if_neg (fun y=>by have:=y.2;omega)]
       go_roundg (Ce.length - (k+1))
       case rel=>exact⟨k+1,by omega,rfl,by go_num,by rw[<-hf.out,hd.out,e3];rfl,rfl⟩
       case measure=>omega
     .clear Oo
      go_wp2_with (go_at_call 134;refine(db _ _ _ _).mono ?_;rintro e w' ⟨rfl,rfl⟩)
      .have q3:AD x 0 ((c.Aa.length:Int) - 1)=true:=by assumption
       have e3:DZ c.Aa.length n Ce k x=3:=by unfold DZ;rw[if_pos (.inl q3)]
       go_ret;exact⟨Bp (by rw[HE3.out, <-hf.out,hd.out,e3];rfl),hB⟩
      .have q3:(x==(n:Int))=true:=by assumption
       have e3:DZ c.Aa.length n Ce k x=3:=by unfold DZ;rw[if_pos (.inr (by simpa using q3))]
       go_ret;exact⟨Bp (by rw[HE3.out, <-hf.out,hd.out,e3];rfl),hB⟩
      .have q3:¬AD x 0 ((c.Aa.length:Int) - 1)=true:=by assumption
       have q4:(x==(n:Int))=false:=by assumption
       have e3:DZ c.Aa.length n Ce k x=0:=by unfold DZ;rw[if_neg (fun y=>y.elim q3 (by simpa using q4)),if_neg (fun y=>eH y.1)]
       go_roundg (Ce.length - (k+1))
       case rel=>exact⟨k+1,by omega,rfl,by go_num,by rw[<-hf.out,hd.out,e3];rfl,rfl⟩
       case measure=>omega
    .have HE4:=Zb (show ES c n=Fy 0 4 TH by rw[HE3.out,B0 (by rw[<-hf.out];exact Nh (by omega))])
     clear hf;go_wp2_with (go_at_call 134;refine(db _ _ _ _).mono ?_;rintro e w' ⟨rfl,rfl⟩)
     .have q3:AD TH 0 4=true:=by assumption
      go_ret;exact⟨Bp (by rw[HE4.out,XJ q3]),hB⟩
     .have q3:AD TH 0 4=false:=by assumption
      go_ret;exact⟨Bp (by rw[HE4.out,TF q3]),hB⟩
def Rf (ab:Nat->Nat)(i o:Nat):Nat->Nat:=fun j=>if j=i then ab i|||IE (ab o) o else ab j
def F9 (ab:Nat->Nat)(i:Nat):List Int->Nat->Nat
 | []=>ab
 |o::r=>F9 (Rf ab i o.toNat) i r
def Fz (ab:Nat->Nat)(i:Nat):List Aq->Nat->Nat
 | []=>ab
 |s::r=>Fz (F9 ab i s.over) (i+1) r
def DR (ab:Nat->Nat)(l:List Aq):Nat->Nat->Nat
 |0=>ab
 |n+1=>DR (Fz ab 0 l) l n
def Au (l:List Aq):Nat->Nat:=DR (fun _=>0) l l.length
variable {ab:Nat->Nat}
def dc (h:k<l.length):F9 ab i (l.drop k)=F9 (Rf ab i (nth l k).toNat) i (l.drop (k+1)):=by
 have:=A_ h;obtain⟨hk,e⟩:=Zl.1 this;rw[Zu hk,e]
 rfl
def de {l:List Aq}(h:k<l.length):Fz ab i (l.drop k)=Fz (F9 ab i (Ah l k).over) (i+1) (l.drop (k+1)):=by
 have:=Ct h;obtain⟨hk,e⟩:=Zl.1 this;rw[Zu hk,e]
 rfl
structure J5 (l:List Aq):Prop where
 few:l.length<=3
 over:∀i,i<l.length->∀k,k<(Ah l i).over.length->0<=nth (Ah l i).over k/\nth (Ah l i).over k<l.length
def ch {t:Zr}{f:Nat×Nat}(h:w.heap[b]?=some (.cells cs t f))(hv:cs[i]?=some v):w.cell? ⟨b,i,none⟩=some v:=by
 unfold zG;rw[h];exact hv
def cf {t:Zr}(h:w.heap[b]?=some (.cells cs t (0,0))):w.frozen? ⟨b,i,none⟩=false:=by
 unfold Yy;rw[h];simp
def A8 {t:Zr}{f:Nat×Nat}(h:w.heap[b]?=some (.cells cs t f))(v:Ze):(w.setCell ⟨b,i,none⟩ v).heap[b]?=some (.cells (cs.setIfInBounds i v) t f):=by
 unfold zb;simp only[Zac,if_pos];rw[h];rfl
def AY {c:Nat}(h:c≠b)(v:Ze):(w.setCell ⟨b,i,none⟩ v).heap[c]?=w.heap[c]? :=Zab _ _ _ _ h
def Bt (w:Zc)(o:Obj):(w.alloc o).heap[w.heap.size]?=some o:=by
 show(w.heap.push o)[w.heap.size]?=_;simp
def Bo {x:Obj}(h:w.heap[b]?=some x)(o:Obj):(w.alloc o).heap[b]?=some x:=(zJ w o b (Za.1 h).1).trans h
def JE (hs:s<8)(hi:i<3):IE s i<8:=by
 have h1:s=0\/s=1\/s=2\/s=3\/s=4\/s=5\/s=6\/s=7:=by omega
 have h2:i=0\/i=1\/i=2:=by omega
 rcases h1 with rfl|rfl|rfl|rfl|rfl|rfl|rfl|rfl<;>rcases h2 with rfl|rfl|rfl<;>decide
def gW {a:Nat}(ha:a<8)(hb:b<8):a|||b<8:=Zbi (n:=3) ha hb
def xh {o:Nat}(h:∀j,j<3->ab j<8)(hi:i<3)(ho:o<3):∀j,j<3->Rf ab i o j<8:=by
 intro j hj;unfold Rf;split
 .exact gW (h i hi) (JE (h o ho) ho)
 .exact h j hj
def df {a:Nat}(ha:a<8)(hb:b<8):bits BinOp.or ZcH (a:Int) (b:Int)=((a|||b:Nat):Int):=by
 have h1:a=0\/a=1\/a=2\/a=3\/a=4\/a=5\/a=6\/a=7:=by omega
 have h2:b=0\/b=1\/b=2\/b=3\/b=4\/b=5\/b=6\/b=7:=by omega
 rcases h1 with rfl|rfl|rfl|rfl|rfl|rfl|rfl|rfl<;>rcases h2 with rfl|rfl|rfl|rfl|rfl|rfl|rfl|rfl<;>rfl
def Bj (x1 x2 x3 x4 x5:Ze)(ab:Nat->Nat):Array Ze:= #[x1,x2,x3,x4,x5,J .u8 (ab 0),J .u8 (ab 1),J .u8 (ab 2)]
def H8 (h:i<3):(Bj x1 x2 x3 x4 x5 ab)[5+i]?=some (J .u8 (ab i)):=by
 have:i=0\/i=1\/i=2:=by omega
 rcases this with rfl|rfl|rfl<;>rfl
def gX {o:Nat}(h:i<3):(Bj x1 x2 x3 x4 x5 ab).setIfInBounds (5+i) (J .u8 ((ab i|||IE (ab o) o:Nat):Int))=Bj x1 x2 x3 x4 x5 (Rf ab i o):=by
 have:i=0\/i=1\/i=2:=by omega
 rcases this with rfl|rfl|rfl<;>simp[Bj,Rf]
def dg:Array Ze:= #[U none 0 0,U none 0 0,U none 0 0,U none 0 0,U none 0 0,J .u8 0,J .u8 0,J .u8 0]
structure GW (w:Zc)(x1 x2 x3 x4 x5:Ze)(ab:Nat->Nat)(wr:Zc):Prop where
 below:Bl w wr
 res:wr.heap[w.heap.size+1]?=some (.cells dg 112 (0,0))
 En:wr.heap[w.heap.size+1+1]?=some (.cells (Bj x1 x2 x3 x4 x5 ab) 112 (0,0))
 lt:∀j,j<3->ab j<8
def GW.set {wr:Zc}{o:Nat}(h:GW w x1 x2 x3 x4 x5 ab wr)(hi:i<3)(ho:o<3):GW w x1 x2 x3 x4 x5 (Rf ab i o) (wr.setCell ⟨w.heap.size+1+1,5+i,none⟩ (J .u8 ((ab i|||IE (ab o) o:Nat):Int))):=
 ⟨h.below.setCell (p:=⟨w.heap.size+1+1,5+i,none⟩) (by show w.heap.size<=w.heap.size+1+1;omega) _,(AY (by omega) _).trans h.res,by rw[<-gX hi];exact A8 h.En _,xh h.lt hi ho⟩
def GW.drew {wr:Zc}(h:GW w x1 x2 x3 x4 x5 ab wr):GW w x1 x2 x3 x4 x5 ab wr.drew:=⟨h.below.drew,h.res,h.En,h.lt⟩
def TL {wr:Zc}(h:Bl w wr)(y0 y1 y2 y3 y4 y5 y6 y7:Ze):Bl w ((((((((wr.setCell ⟨w.heap.size+1,0,none⟩ y0).setCell ⟨w.heap.size+1,1,none⟩ y1).setCell ⟨w.heap.size+1,2,none⟩ y2).setCell ⟨w.heap.size+1,3,none⟩ y3).setCell ⟨w.heap.size+1,4,none⟩ y4).setCell ⟨w.heap.size+1,5,none⟩ y5).setCell ⟨w.heap.size+1,6,none⟩ y6).setCell ⟨w.heap.size+1,7,none⟩ y7):=by
 have h1:w.heap.size<=w.heap.size+1:=by omega
 exact((((((((h.setCell (p:=⟨_,0,none⟩) h1 _).setCell (p:=⟨_,1,none⟩) h1 _).setCell (p:=⟨_,2,none⟩) h1 _).setCell (p:=⟨_,3,none⟩) h1 _).setCell (p:=⟨_,4,none⟩) h1 _).setCell (p:=⟨_,5,none⟩) h1 _).setCell (p:=⟨_,6,none⟩) h1 _).setCell (p:=⟨_,7,none⟩) h1 _)
def nC {p:Nat->Bool}(hk:k<n)(h:p k=false):(ZL n).all p=false:=by
 rw[List.all_eq_false];exact⟨k,List.mem_range.2 hk,by simp[h]⟩
def apY (h:RC S w v1 v2 v3 v4 v5 c)(JN:J5 c.Aa)(hS:∀b,S b->b<w.heap.size):
  Calls Lp 145 #[.agg #[v1,v2,v3,v4,v5]] w fun e w'=>e=.returned (.tuple #[.agg #[v1,v2,v3,v4,v5,J .u8 (Au c.Aa 0),J .u8 (Au c.Aa 1),J .u8 (Au c.Aa 2)],.bool ((ZL c.Aa.length).all fun i=> !hasB (Au c.Aa i) i)])/\Bl w w':=by
 obtain⟨a1,c1,rfl,l1,m1⟩:=h.base.val;obtain⟨a2,c2,rfl,l2,m2⟩:=h.Af.val;obtain⟨a3,c3,rfl,l3,m3⟩:=h.hooks.val;obtain⟨a4,c4,rfl,l4,m4⟩:=h.Aa.val;obtain⟨a5,c5,rfl,l5,m5⟩:=h.now.val;have Gx:=CI;have I9:=JN.few;have HE:=Zb (show Au c.Aa=DR (fun _=>0) c.Aa c.Aa.length from rfl);go_enter Lp.func145,apJ;go_wp2;go_loopg [16] c.Aa.length (fun g i wr=>∃(r:Nat) (ab:Nat->Nat),r<=c.Aa.length/\g=c.Aa.length - r/\i=.int I r/\DR ab c.Aa (c.Aa.length - r)=DR (fun _=>0) c.Aa c.Aa.length/\GW w (U a1 c.base.length c1) (U a2 c.Af.length c2) (U a3 c.hooks.length c3) (U a4 c.Aa.length c4) (U a5 c.now.length c5) ab wr)
 case atStart=>exact⟨0,fun _=>0,Zn _,rfl,rfl,rfl,(((Zg _ _).alloc (Zj _) _).alloc (by simp) _).alloc (by simp;omega) _,Bo (by have:=Bt (w.alloc (.cells #[U a1 c.base.length c1,U a2 c.Af.length c2,U a3 c.hooks.length c3,U a4 c.Aa.length c4,U a5 c.now.length c5] 26)) (.cells dg 112 (0,0));rwa[ZG]at this) _,by have:=Bt ((w.alloc (.cells #[U a1 c.base.length c1,U a2 c.Af.length c2,U a3 c.hooks.length c3,U a4 c.Aa.length c4,U a5 c.now.length c5] 26)).alloc (.cells dg 112 (0,0))) (.cells (Bj (U a1 c.base.length c1) (U a2 c.Af.length c2) (U a3 c.hooks.length c3) (U a4 c.Aa.length c4) (U a5 c.now.length c5) (fun _=>0)) 112 (0,0));rwa[ZG,ZG]at this,fun _ _=>by decide⟩
 case round=>
  obtain⟨r,ab,hr,rfl,rfl,Cn,hG⟩:=hrel;have hf:=Zb Cn;clear Cn;by_cases AA:r<c.Aa.length
  .have g3:=ch (i:=3) hG.En (v:=.slice a4 c.Aa.length c4) rfl
   go_wp2;go_loopg [22] c.Aa.length (fun g i wr=>∃(k:Nat) (ab:Nat->Nat),k<=c.Aa.length/\g=c.Aa.length - k/\i=.int I k/\DR (Fz ab k (c.Aa.drop k)) c.Aa (c.Aa.length - (r+1))=DR (fun _=>0) c.Aa c.Aa.length/\GW w (U a1 c.base.length c1) (U a2 c.Af.length c2) (U a3 c.hooks.length c3) (U a4 c.Aa.length c4) (U a5 c.now.length c5) ab wr)
   case atStart=>exact⟨0,ab,Zn _,rfl,rfl,by rw[<-hf.out,show c.Aa.length - r=(c.Aa.length - (r+1))+1 by omega];rfl,hG⟩
   case round=>
    obtain⟨k,ab2,hk,rfl,rfl,Cn,U3⟩:=hrel;have Kx:=Zb Cn;clear Cn;by_cases GG:k<c.Aa.length
    .obtain⟨b,o,s2,s3,rfl,hb,Fp,QD,O3,po,pv,hp,ho⟩:=h.Aa.at_ (i:=k) GG
     obtain⟨a6,c6,rfl,l6,m6⟩:=hp.val;obtain⟨a7,c7,rfl,l7,m7⟩:=ho.val;have UE:=JN.over k GG;rw[<-U3.below.cell (p:=⟨b,o+k*5,none⟩) (hS b hb)]at Fp;rw[<-U3.below.cell (p:=⟨b,o+k*5+1,none⟩) (hS b hb)]at QD;rw[<-U3.below.cell (p:=⟨b,o+k*5+2,none⟩) (hS b hb)]at O3;rw[<-U3.below.cell (p:=⟨b,o+k*5+3,none⟩) (hS b hb)]at po;rw[<-U3.below.cell (p:=⟨b,o+k*5+4,none⟩) (hS b hb)]at pv;obtain⟨s,hs⟩:∃s,s=Ah c.Aa k:=⟨_,rfl⟩;have K1:=Zb (de (ab:=ab2) (i:=k) (l:=c.Aa) (k:=k) GG);rw[<-hs]at Fp QD O3 po pv hp ho UE l6 l7 K1;clear hs;obtain⟨adp,rY,B6,Ce,TH⟩:=s;dsimp only at*;have hwl:=U3.below.size;have Fo:w.heap.size+1<wr.heap.size:=(Za.1 U3.res).1;have DX:w.heap.size+1+1<wr.heap.size:=(Za.1 U3.En).1;go_wp2;go_loopg [30] Ce.length (fun g i wx=>∃(m:Nat) (ab:Nat->Nat),m<=Ce.length/\g=Ce.length - m/\i=.int I m/\F9 ab k (Ce.drop m)=F9 ab2 k Ce/\GW w (U a1 c.base.length c1) (U a2 c.Af.length c2) (U a3 c.hooks.length c3) (U (some ⟨b,o,none⟩) c.Aa.length c4) (U a5 c.now.length c5) ab wx)
     case atStart=>exact⟨0,ab2,Zn _,rfl,rfl,rfl,U3.below.alloc hwl _,Bo U3.res _,Bo U3.En _,U3.lt⟩
     case round=>
      obtain⟨m,ab3,hm,rfl,rfl,Cn,uI⟩:=hrel;have eI:=Zb Cn;clear Cn;by_cases gY:m<Ce.length
      .obtain⟨b7,o7,rfl,U2,NC⟩:=ho.at_ gY
       rw[<-uI.below.cell (p:=⟨b7,o7+m,none⟩) (hS b7 U2)]at NC;have hod:=Zb (dc (ab:=ab3) (i:=k) gY);obtain⟨XE,eF⟩:=UE m gY;obtain⟨x,hx⟩:∃x:Nat,nth Ce m=x:=⟨(nth Ce m).toNat,by omega⟩;rw[hx]at NC XE eF hod;have HX:=Zb hx;clear hx Fp QD O3 po pv;have eJ:x<3:=by omega
       have Ow:k<3:=by omega
       have gk:=ch uI.En (H8 Ow);have gx:=ch uI.En (H8 eJ);have gf:=cf (i:=5+k) uI.En;have hlx:=uI.lt x eJ;have hlk:=uI.lt k Ow;have MH:=fun w=>ado (ab3 x) x hlx eJ w;have Rh:(k:Int)<3:=by omega
       have hxi:(x:Int)<3:=by omega
       go_wp2;go_still_tail 13,(by kernel_rfl)
       still_call (MH _)
       repeat still_step
       refine wpStill_nil ?_;change wpList _ _ _ _ _ wr.drew;rw[df hlk (JE hlx eJ)];go_wp2;go_roundg (Ce.length - (m+1))
       case rel=>exact⟨m+1,Rf ab3 k x,by omega,rfl,by go_num,by rw[<-eI.out,hod.out];rfl,(uI.set Ow eJ).drew⟩
       case measure=>omega
      .have e3:F9 ab2 k Ce=ab3:=by rw[<-eI.out,Zz.2 (by omega)];rfl
       go_wp2;go_roundg (c.Aa.length - (k+1))
       case rel=>exact⟨k+1,ab3,by omega,rfl,by go_num,by rw[<-Kx.out,K1.out,e3],uI⟩
       case measure=>omega
    .have e2:Fz ab2 k (c.Aa.drop k)=ab2:=by rw[Zz.2 (by omega)];rfl
     have E2:=Zb e2;clear e2;go_wp2;go_roundg (c.Aa.length - (r+1))
     case rel=>exact⟨r+1,ab2,by omega,rfl,by go_num,by rw[<-Kx.out,E2.out],U3⟩
     case measure=>omega
  .have e1:Au c.Aa=ab:=by
    rw[HE.out, <-hf.out,show c.Aa.length - r=0 by omega];rfl
   have E1:=Zb e1;clear e1 hf;have g3:=ch (i:=3) hG.En (v:=.slice a4 c.Aa.length c4) rfl;go_wp2;go_loopg [54] c.Aa.length (fun g i wx=>∃k:Nat,k<=c.Aa.length/\g=c.Aa.length - k/\i=.int I k/\(∀j,j<k->hasB (ab j) j=false)/\wx=wr)
   case atStart=>exact⟨0,Zn _,rfl,rfl,fun _ h=>absurd h (ZaM _),rfl⟩
   case round=>
    obtain⟨k,hk,rfl,rfl,Cn,rfl⟩:=hrel;have hf:=Zb Cn;clear Cn;have g0:=ch (i:=0) hG.En (v:=.slice a1 c.base.length c1) rfl;have g1:=ch (i:=1) hG.En (v:=.slice a2 c.Af.length c2) rfl;have g2:=ch (i:=2) hG.En (v:=.slice a3 c.hooks.length c3) rfl;have g4:=ch (i:=4) hG.En (v:=.slice a5 c.now.length c5) rfl;have g5:=ch (i:=5) hG.En (v:=.int .u8 (ab 0)) rfl;have g6:=ch (i:=6) hG.En (v:=.int .u8 (ab 1)) rfl;have g7:=ch (i:=7) hG.En (v:=.int .u8 (ab 2)) rfl;have r0:=cf (i:=0) hG.res;have r1:=cf (i:=1) hG.res;have r2:=cf (i:=2) hG.res;have r3:=cf (i:=3) hG.res;have r4:=cf (i:=4) hG.res;have r5:=cf (i:=5) hG.res;have r6:=cf (i:=6) hG.res;have r7:=cf (i:=7) hG.res;have s0:=ch (i:=0) hG.res (v:=.slice none 0 0) rfl;have s1:=ch (i:=1) hG.res (v:=.slice none 0 0) rfl;have s2:=ch (i:=2) hG.res (v:=.slice none 0 0) rfl;have s3:=ch (i:=3) hG.res (v:=.slice none 0 0) rfl;have s4:=ch (i:=4) hG.res (v:=.slice none 0 0) rfl;have s5:=ch (i:=5) hG.res (v:=.int .u8 0) rfl;have s6:=ch (i:=6) hG.res (v:=.int .u8 0) rfl;have s7:=ch (i:=7) hG.res (v:=.int .u8 0) rfl;by_cases GG:k<c.Aa.length
    .have Ow:k<3:=by omega
     have gk:=ch hG.En (H8 Ow);have Rh:(k:Int)<3:=by omega
     have MH:=fun w=>adn (ab k) k (hG.lt k Ow) Ow w;go_wp2_with (go_at_call 122;refine(MH _).mono ?_;rintro e w' ⟨rfl,rfl⟩)
     .have q1:hasB (ab k) k=true:=by assumption
      refine ZU (v:=.tuple #[.agg (Bj (U a1 c.base.length c1) (U a2 c.Af.length c2) (U a3 c.hooks.length c3) (U a4 c.Aa.length c4) (U a5 c.now.length c5) ab),.bool false]) ?_ rfl ?_
      .rw[YJ rfl]
       go_simp
       rfl
      .refine⟨?_,?_⟩
       .rw[E1.out,nC (k:=k) GG (by rw[q1];rfl)];rfl
       .exact TL hG.below _ _ _ _ _ _ _ _
     .have q1:hasB (ab k) k=false:=by assumption
      go_roundg (c.Aa.length - (k+1))
      case rel=>exact⟨k+1,by omega,rfl,by go_num,fun j hj=>by
       by_cases h:j=k
       .rw[h];exact q1
       .exact hf.out j (by omega),rfl⟩
      case measure=>omega
    .have q2:((ZL c.Aa.length).all fun i=> !hasB (ab i) i)=true:=by
      rw[zt];intro j hj;rw[hf.out j (by have:=List.mem_range.1 hj;omega)];rfl
     have Q2:=Zb q2;clear q2;go_wp2;refine ZU (v:=.tuple #[.agg (Bj (U a1 c.base.length c1) (U a2 c.Af.length c2) (U a3 c.hooks.length c3) (U a4 c.Aa.length c4) (U a5 c.now.length c5) ab),.bool true]) ?_ rfl ?_
     .rw[YJ rfl]
      go_simp
      rfl
     .refine⟨?_,?_⟩
      .rw[E1.out,Q2.out];rfl
      .exact TL hG.below _ _ _ _ _ _ _ _
def J6 (c:A4):Int:=CZ (fun i _=>ES c i) 0 c.Aa
def H9 (l:List Aq):Bool:=(ZL l.length).all fun i=> !hasB (Au l i) i
def B_ (c:A4):Int:=QC (Dy c) (QC (Dt c.Aa.length 3) (QC (J6 c) (if H9 c.Aa=true then Cz c c.now else 9)))
def Fl {α:Type}{f:Nat->α->Int}:∀ {l:List α} {i:Nat},CZ f i l=0->∀k x,l[k]?=some x->f (i+k) x=0
 | [],_,_,k,x,h=>by simp at h
 |y::r,i,h0,k,x,h=>by
  unfold CZ at h0;split at h0
  .next hy=>
   cases k with
   |zero=>simp at h;subst h;exact hy
   |succ k=>
    have:=Fl h0 k x (by simpa using h);rwa[show i+1+k=i+(k+1) by omega]at this
  .next hy=>exact absurd h0 hy
def J7 {n most:Int}(h:Dt n most=0):n≠0/\n<=most:=by
 unfold Dt at h;split at h
 .cases h
 .next h1=>
  split at h
  .cases h
  .next h2=>exact⟨h1,by omega⟩
def F_ {n:Int}(h:AD n lo hi=false):lo<=n/\n<=hi:=by
 unfold AD at h;simp at h;exact h
def A7 {a b:Int}(h:QC a b=0):a=0/\b=0:=by
 unfold QC at h;split at h
 .next h1=>exact⟨h1,h⟩
 .next h1=>exact absurd h h1
def xj (h:ES c n=0)(hk:k<(Ah c.Aa n).over.length):0<=nth (Ah c.Aa n).over k/\nth (Ah c.Aa n).over k<c.Aa.length:=by
 have h1:=(A7 (A7 (A7 (A7 h).2).2).2).1;have h2:=Fl h1 k _ (A_ hk);unfold DZ at h2;split at h2
 .cases h2
 .next h3=>
  have h4:AD (nth (Ah c.Aa n).over k) 0 ((c.Aa.length:Int) - 1)=false:=by
   cases e:AD (nth (Ah c.Aa n).over k) 0 ((c.Aa.length:Int) - 1)
   .rfl
   .exact absurd (.inl e) h3
  have:=F_ h4;omega
def TN (h1:Dt c.Aa.length 3=0)(h2:J6 c=0):J5 c.Aa:=
 ⟨by have:=(J7 h1).2;omega,fun i hi k hk=>xj (Fl h2 i _ (Ct hi)|>fun h=>by simpa using h) hk⟩
def QE {o1 o2:Obj}(h:YS ((w.alloc o1).alloc o2).heap.size ((w.alloc o1).alloc o2) w'):w.heap.size<w'.heap.size/\w.heap.size+1<w'.heap.size:=by
 have:=h.size;rw[ZG,ZG]at this;omega
def bA {o:Obj}(h:Bl w w'):Bl w (w'.alloc o):=h.alloc h.size _
def bS (h:Bl w w')(hb:w.heap.size<=b):Bl w (w'.setCell ⟨b,i,none⟩ v):=h.setCell (p:=⟨b,i,none⟩) hb _
def bD (h:Bl w w'):Bl w w'.drew:=h.drew
def bN (h:Bl w w'):Bl w (w'.drewN n):=zl h n
def aj3 (w:Zc)(v1 v2 v3 v4 v5:Ze)(c:A4)(e:Ending)(w':Zc):Prop:=
 ∃(q1 q2 q3 q4 q5:Option Addr) (n1 n2 n3 n4 n5 d1 d2 d3 d4 d5 k0 k1 k2:Nat),e=.returned (.tuple #[.agg #[U q1 n1 d1,U q2 n2 d2,U q3 n3 d3,U q4 n4 d4,U q5 n5 d5,J .u8 (k0:Nat),J .u8 (k1:Nat),J .u8 (k2:Nat)],J I (B_ c)])/\Bl w w'/\(B_ c=0->#[U q1 n1 d1,U q2 n2 d2,U q3 n3 d3,U q4 n4 d4,U q5 n5 d5,J .u8 (k0:Nat),J .u8 (k1:Nat),J .u8 (k2:Nat)]=Bj v1 v2 v3 v4 v5 (Au c.Aa))
def c88 (h:RC S w v1 v2 v3 v4 v5 c)(hS:∀b,S b->b<w.heap.size):Calls Lp 88 #[.agg #[v1,v2,v3,v4,v5]] w (aj3 w v1 v2 v3 v4 v5 c):=by
 obtain⟨a1,c1,rfl,l1,m1⟩:=h.base.val;obtain⟨a2,c2,rfl,l2,m2⟩:=h.Af.val;obtain⟨a3,c3,rfl,l3,m3⟩:=h.hooks.val;obtain⟨a4,c4,rfl,l4,m4⟩:=h.Aa.val;obtain⟨a5,c5,rfl,l5,m5⟩:=h.now.val;have Gx:=CI;have aj4:∀W,Bl w W->Calls Lp 143 #[.agg #[U a1 c.base.length c1,U a2 c.Af.length c2,U a3 c.hooks.length c3,U a4 c.Aa.length c4,U a5 c.now.length c5]] W fun e w'=>e=.returned (J I (Dy c))/\Bl W w':=fun W hB=>apR (h.Aw (CC.DY hB)) (fun b hb=>by have:=hS b hb;have:=hB.size;omega);have aj5:∀W n,n<c.Aa.length->Bl w W->Calls Lp 144 #[.agg #[U a1 c.base.length c1,U a2 c.Af.length c2,U a3 c.hooks.length c3,U a4 c.Aa.length c4,U a5 c.now.length c5],J I n] W fun e w'=>e=.returned (J I (ES c n))/\Bl W w':=fun W n hn hB=>apW (h.Aw (CC.DY hB)) hn (fun b hb=>by have:=hS b hb;have:=hB.size;omega);have aj6:∀W,J5 c.Aa->Bl w W->Calls Lp 145 #[.agg #[U a1 c.base.length c1,U a2 c.Af.length c2,U a3 c.hooks.length c3,U a4 c.Aa.length c4,U a5 c.now.length c5]] W fun e w'=>e=.returned (.tuple #[.agg #[U a1 c.base.length c1,U a2 c.Af.length c2,U a3 c.hooks.length c3,U a4 c.Aa.length c4,U a5 c.now.length c5,J .u8 (Au c.Aa 0),J .u8 (Au c.Aa 1),J .u8 (Au c.Aa 2)],.bool (H9 c.Aa)])/\Bl W w':=fun W JN hB=>apY (h.Aw (CC.DY hB)) JN (fun b hb=>by have:=hS b hb;have:=hB.size;omega);have h89:∀W,Bl w W->Calls Lp 89 #[.agg #[U a1 c.base.length c1,U a2 c.Af.length c2,U a3 c.hooks.length c3,U a4 c.Aa.length c4,U a5 c.now.length c5],U a5 c.now.length c5] W fun e w'=>e=.returned (J I (Cz c c.now))/\Bl W w':=fun W hB=>c89 (h.Aw (CC.DY hB)) (h.now.Aw (CC.DY hB)) (fun b hb=>by have:=hS b hb;have:=hB.size;omega);have AW:Bl w ((w.alloc (.cells #[U a1 c.base.length c1,U a2 c.Af.length c2,U a3 c.hooks.length c3,U a4 c.Aa.length c4,U a5 c.now.length c5] 26)).alloc (.cells dg 112)):=((Zg _ _).alloc (Zj _) _).alloc (by simp) _;unfold dg at AW;have aq0:=Zb aj4;have aq1:=Zb aj5;have aq2:=Zb aj6;have H89:=Zb h89;clear aj4 aj5 aj6 h89;go_enter Lp.func88,n88;go_wp2_with (first|(go_at_call 143;refine(aq0.out _ AW).mono ?_;rintro e w1 ⟨rfl,Bg⟩;obtain⟨NC,eK⟩:=DV Bg)|(go_at_call 100;refine(xe _ _ _).mono ?_;rintro e w' ⟨rfl,rfl⟩))
 .have q1:(Dy c !=0)=true:=by assumption
  have e1:B_ c=Dy c:=by rw[B_,Ls (GF q1)]
  refine ZU (v:=.tuple #[.agg #[U none 0 0,U none 0 0,U none 0 0,U none 0 0,U none 0 0,J .u8 0,J .u8 0,J .u8 0],J I (Dy c)]) (by rw[YJ rfl];go_simp) rfl ?_;exact⟨none,none,none,none,none,0,0,0,0,0,0,0,0,0,0,0,0,0,by rw[e1];rfl,TL (AW.trans (Bg.mono (by simp;omega))) _ _ _ _ _ _ _ _,fun x=>absurd (e1▸x) (GF q1)⟩
 .have q1:(Dy c !=0)=false:=by assumption
  have q2:(Dt c.Aa.length 3 !=0)=true:=by assumption
  have e1:B_ c=Dt c.Aa.length 3:=by rw[B_,B0 (FT q1),Ls (GF q2)]
  refine ZU (v:=.tuple #[.agg #[U none 0 0,U none 0 0,U none 0 0,U none 0 0,U none 0 0,J .u8 0,J .u8 0,J .u8 0],J I (Dt c.Aa.length 3)]) (by rw[YJ rfl];go_simp) rfl ?_;exact⟨none,none,none,none,none,0,0,0,0,0,0,0,0,0,0,0,0,0,by rw[e1];rfl,TL (AW.trans (Bg.mono (by simp;omega))) _ _ _ _ _ _ _ _,fun x=>absurd (e1▸x) (GF q2)⟩
 rename (Dy c !=0)=false=>q1
 rename (Dt _ _ !=0)=false=>q2
 have JN:J6 c=0->J5 c.Aa:=TN (FT q2);have HOK:=Zb JN;have HE:=Zb (show B_ c=QC (J6 c) (if H9 c.Aa=true then Cz c c.now else 9) by rw[B_,B0 (FT q1),B0 (FT q2)]);have Q1:=Zb q1;have Q2:=Zb q2;clear q1 q2 NC eK JN;go_loopg [27] c.Aa.length (fun g i wr=>∃k:Nat,k<=c.Aa.length/\g=c.Aa.length - k/\i=.int I k/\CZ (fun i _=>ES c i) k (c.Aa.drop k)=J6 c/\YS ((w.alloc (.cells #[U a1 c.base.length c1,U a2 c.Af.length c2,U a3 c.hooks.length c3,U a4 c.Aa.length c4,U a5 c.now.length c5] 26)).alloc (.cells #[U none 0 0,U none 0 0,U none 0 0,U none 0 0,U none 0 0,J .u8 0,J .u8 0,J .u8 0] 112)).heap.size ((w.alloc (.cells #[U a1 c.base.length c1,U a2 c.Af.length c2,U a3 c.hooks.length c3,U a4 c.Aa.length c4,U a5 c.now.length c5] 26)).alloc (.cells #[U none 0 0,U none 0 0,U none 0 0,U none 0 0,U none 0 0,J .u8 0,J .u8 0,J .u8 0] 112)) wr)
 case atStart=>exact⟨0,Zn _,rfl,rfl,rfl,Bg⟩
 case round=>
  obtain⟨k,hk,rfl,rfl,Cn,hX⟩:=hrel;have hf:=Zb Cn;clear Cn;obtain⟨hcx,hfx⟩:=DV hX;have QF:Bl w wr:=AW.trans (hX.mono (by simp;omega));by_cases AA:k<c.Aa.length
  .have hd:=Zb (Lu (f:=fun i _=>ES c i) (Ct AA))
   go_wp2_with (go_at_call 144;refine(aq1.out _ _ AA QF).mono ?_;rintro e w2 ⟨rfl,CU⟩;have BS:=hX.trans (CU.mono hX.size);obtain⟨ND,Kx⟩:=DV BS)
   .have q3:(ES c k !=0)=true:=by assumption
    have e3:J6 c=ES c k:=by rw[<-hf.out,hd.out,if_neg (GF q3)]
    have e1:B_ c=ES c k:=by rw[HE.out,e3,Ls (GF q3)]
    refine ZU (v:=.tuple #[.agg #[U none 0 0,U none 0 0,U none 0 0,U none 0 0,U none 0 0,J .u8 0,J .u8 0,J .u8 0],J I (ES c k)]) (by rw[YJ rfl];go_simp) rfl ?_;exact⟨none,none,none,none,none,0,0,0,0,0,0,0,0,0,0,0,0,0,by rw[e1];rfl,TL (AW.trans (BS.mono (by simp;omega))) _ _ _ _ _ _ _ _,fun x=>absurd (e1▸x) (GF q3)⟩
   .have q3:(ES c k !=0)=false:=by assumption
    go_roundg (c.Aa.length - (k+1))
    case rel=>exact⟨k+1,by omega,rfl,by go_num,by rw[<-hf.out,hd.out,if_pos (FT q3)],BS⟩
    case measure=>omega
  .have e3:J6 c=0:=by rw[<-hf.out];exact Nh (by omega)
   have JN:=HOK.out e3;have xf:=Zb (show B_ c=(if H9 c.Aa=true then Cz c c.now else 9) by rw[HE.out,B0 e3]);clear hf e3;go_wp2_with (go_at_call 145;refine(aq2.out _ JN QF).mono ?_;rintro e w2 ⟨rfl,CU⟩;have BS:=hX.trans (CU.mono hX.size);obtain⟨ND,Kx⟩:=DV BS;clear hcx hfx;obtain⟨Fo,DX⟩:=QE BS)
   .have q3:(!H9 c.Aa)=true:=by assumption
    have e1:B_ c=9:=by rw[xf.out,if_neg (by simpa using q3)]
    refine ZU (v:=.tuple #[.agg #[U none 0 0,U none 0 0,U none 0 0,U none 0 0,U none 0 0,J .u8 0,J .u8 0,J .u8 0],J I (9)]) (by rw[YJ rfl];go_simp) rfl ?_;have Oy:=AW.trans (BS.mono (by simp;omega));refine⟨none,none,none,none,none,0,0,0,0,0,0,0,0,0,0,0,0,0,by rw[e1];rfl,?_,fun x=>by rw[e1]at x;cases x⟩
    repeat (with_reducible first|exact Oy|refine bA ?_|(refine bS ?_ (by omega))|refine bD ?_|refine bN ?_)
   .have q3:(!H9 c.Aa)=false:=by assumption
    have HE3:=Zb (show B_ c=Cz c c.now by rw[xf.out,if_pos (by simpa using q3)]);clear q3
    rename (!H9 c.Aa)=false=>q4
    clear q4;have Dv:=BS.alloc BS.size (.cells #[U a1 c.base.length c1,U a2 c.Af.length c2,U a3 c.hooks.length c3,U a4 c.Aa.length c4,U a5 c.now.length c5,J .u8 (Au c.Aa 0),J .u8 (Au c.Aa 1),J .u8 (Au c.Aa 2)] 112);have Oy:=AW.trans (Dv.mono (by simp;omega));obtain⟨W4,ER⟩:∃W4,W4=(w2.alloc (.cells #[U a1 c.base.length c1,U a2 c.Af.length c2,U a3 c.hooks.length c3,U a4 c.Aa.length c4,U a5 c.now.length c5,J .u8 (Au c.Aa 0),J .u8 (Au c.Aa 1),J .u8 (Au c.Aa 2)] 112)):=⟨_,rfl⟩;have y0:=cn w2 #[U a1 c.base.length c1,U a2 c.Af.length c2,U a3 c.hooks.length c3,U a4 c.Aa.length c4,U a5 c.now.length c5,J .u8 (Au c.Aa 0),J .u8 (Au c.Aa 1),J .u8 (Au c.Aa 2)] 112 (i:=0) rfl;rw[<-ER]at Dv Oy y0⊢;obtain⟨hc4,hf4⟩:=DV Dv;have EI:w.heap.size<W4.heap.size:=by rw[ER,ZG];omega
    have Sa:w.heap.size+1<W4.heap.size:=by rw[ER,ZG];omega
    have hz4:w2.heap.size<W4.heap.size:=by rw[ER,ZG];omega
    have y1:∀j v,#[U a1 c.base.length c1,U a2 c.Af.length c2,U a3 c.hooks.length c3,U a4 c.Aa.length c4,U a5 c.now.length c5,J .u8 (Au c.Aa 0),J .u8 (Au c.Aa 1),J .u8 (Au c.Aa 2)][j]?=some v->W4.cell? ⟨w2.heap.size,j,none⟩=some v:=fun j v hv=>by rw[ER];exact cn _ _ _ hv
    have t0:W4.cell? ⟨w2.heap.size,0,none⟩=some (U a1 c.base.length c1):=y1 0 _ rfl;have t1:W4.cell? ⟨w2.heap.size,1,none⟩=some (U a2 c.Af.length c2):=y1 1 _ rfl;have t2:W4.cell? ⟨w2.heap.size,2,none⟩=some (U a3 c.hooks.length c3):=y1 2 _ rfl;have t3:W4.cell? ⟨w2.heap.size,3,none⟩=some (U a4 c.Aa.length c4):=y1 3 _ rfl;have t4:W4.cell? ⟨w2.heap.size,4,none⟩=some (U a5 c.now.length c5):=y1 4 _ rfl;have t5:W4.cell? ⟨w2.heap.size,5,none⟩=some (J .u8 (Au c.Aa 0)):=y1 5 _ rfl;have t6:W4.cell? ⟨w2.heap.size,6,none⟩=some (J .u8 (Au c.Aa 1)):=y1 6 _ rfl;have t7:W4.cell? ⟨w2.heap.size,7,none⟩=some (J .u8 (Au c.Aa 2)):=y1 7 _ rfl;clear ER y0 y1 ND Kx CU
    go_region_with (first|(go_at_call 89;refine(H89.out _ Oy.drew).mono ?_;rintro e w5 ⟨rfl,JF⟩;have H_:=Dv.drew.trans (JF.mono Dv.drew.size);obtain⟨hc5,hf5⟩:=DV (show Bl W4 w5 from(Zg W4.heap.size W4).drew.trans JF)))
    all_goals
     go_wp2;refine ZU (v:=.tuple #[.agg #[U a1 c.base.length c1,U a2 c.Af.length c2,U a3 c.hooks.length c3,U a4 c.Aa.length c4,U a5 c.now.length c5,J .u8 (Au c.Aa 0),J .u8 (Au c.Aa 1),J .u8 (Au c.Aa 2)],J I (Cz c c.now)]) (by rw[YJ rfl];go_simp) rfl ?_;have PI:=AW.trans (H_.mono (by simp;omega));refine⟨_,_,_,_,_,_,_,_,_,_,_,_,_,_,_,_,_,_,by rw[HE3.out],?_,fun _=>rfl⟩
     repeat (with_reducible first|exact PI|refine bA ?_|(refine bS ?_ (by omega))|refine bD ?_|refine bN ?_)
def rZ (h:RC S w v1 v2 v3 v4 v5 c)(hS:∀b,S b->b<w.heap.size)(h0:B_ c=0):
  Calls Lp 88 #[.agg #[v1,v2,v3,v4,v5]] w fun e w'=>e=.returned (.tuple #[.agg #[v1,v2,v3,v4,v5,J .u8 (Au c.Aa 0),J .u8 (Au c.Aa 1),J .u8 (Au c.Aa 2)],J I 0])/\Bl w w':=
 (c88 h hS).mono fun e w' ⟨q1,q2,q3,q4,q5,n1,n2,n3,n4,n5,d1,d2,d3,d4,d5,k0,k1,k2,he,hB,hx⟩=>⟨by rw[he,hx h0,h0];rfl,hB⟩
def Ca (c:A4)(l:List Int):Int:=QC (B_ c) (Cz c l)
def RC.later (h:RC S w v1 v2 v3 v4 v5 c)(hB:Bl w W):RC S W v1 v2 v3 v4 v5 c:=h.Aw (CC.DY hB)
def AE (hS:∀b,S b->b<w.heap.size)(hB:Bl w W):∀b,S b->b<W.heap.size:=fun b hb=>Zm (hS b hb) hB.size
def SI.later (h:SI S w v l)(hB:Bl w W):SI S W v l:=h.Aw (CC.DY hB)
def SP.later {l:List (Int×Int)}(h:SP S w v l)(hB:Bl w W):SP S W v l:=h.Aw (CC.DY hB)
def SS.later {l:List Aq}(h:SS S w v l)(hB:Bl w W):SS S W v l:=h.Aw (CC.DY hB)
def aj8 (w:Zc)(v1 v2 v3 v4 v5:Ze)(c:A4)(l:List Int)(e:Ending)(w':Zc):Prop:=
 ∃(q1 q2 q3 q4 q5:Option Addr) (n1 n2 n3 n4 n5 d1 d2 d3 d4 d5 k0 k1 k2:Nat),e=.returned (.tuple #[.agg #[U q1 n1 d1,U q2 n2 d2,U q3 n3 d3,U q4 n4 d4,U q5 n5 d5,J .u8 (k0:Nat),J .u8 (k1:Nat),J .u8 (k2:Nat)],J I (Ca c l)])/\Bl w w'/\(B_ c=0->#[U q1 n1 d1,U q2 n2 d2,U q3 n3 d3,U q4 n4 d4,U q5 n5 d5,J .u8 (k0:Nat),J .u8 (k1:Nat),J .u8 (k2:Nat)]=Bj v1 v2 v3 v4 v5 (Au c.Aa))
def r_ (h:RC S w v1 v2 v3 v4 v5 c)(hl:SI S w v6 l)(hS:∀b,S b->b<w.heap.size):Calls Lp 112 #[.agg #[v1,v2,v3,v4,v5],v6] w (aj8 w v1 v2 v3 v4 v5 c l):=by
 obtain⟨a1,c1,rfl,l1,m1⟩:=h.base.val;obtain⟨a2,c2,rfl,l2,m2⟩:=h.Af.val;obtain⟨a3,c3,rfl,l3,m3⟩:=h.hooks.val;obtain⟨a4,c4,rfl,l4,m4⟩:=h.Aa.val;obtain⟨a5,c5,rfl,l5,m5⟩:=h.now.val;have Gx:=CI;obtain⟨a6,c6,rfl,l6,m6⟩:=hl.val;have AW:Bl w ((w.alloc (.cells #[U a1 c.base.length c1,U a2 c.Af.length c2,U a3 c.hooks.length c3,U a4 c.Aa.length c4,U a5 c.now.length c5] 26)).alloc (.cells #[U none 0 0,U none 0 0,U none 0 0,U none 0 0,U none 0 0,J .u8 0,J .u8 0,J .u8 0] 112)):=((Zg _ _).alloc (Zj _) _).alloc (by simp) _;have uJ:=Zb (fun W hB=>c88 (w:=W) (h.later hB) (AE hS hB));have H89:=Zb (fun W hB=>c89 (w:=W) (h.later hB) (hl.later hB) (AE hS hB));go_enter Lp.func112,apw;go_wp2_with (go_at_call 88;refine(uJ.out _ AW).mono ?_;rintro e w2 ⟨q1,q2,q3,q4,q5,n1,n2,n3,n4,n5,d1,d2,d3,d4,d5,k0,k1,k2,rfl,BS,hx⟩;obtain⟨ND,Kx⟩:=DV BS;obtain⟨Fo,DX⟩:=QE BS;have HX:=Zb hx;clear hx)
 .have q1:(B_ c !=0)=true:=by assumption
  have e1:Ca c l=B_ c:=by rw[Ca,Ls (GF q1)]
  refine ZU (v:=.tuple #[.agg #[U none 0 0,U none 0 0,U none 0 0,U none 0 0,U none 0 0,J .u8 0,J .u8 0,J .u8 0],J I (B_ c)]) (by rw[YJ rfl];go_simp) rfl ?_;have Oy:=AW.trans (BS.mono AW.size);refine⟨none,none,none,none,none,0,0,0,0,0,0,0,0,0,0,0,0,0,by rw[e1];rfl,?_,fun x=>absurd x (GF q1)⟩
  repeat (with_reducible first|exact Oy|refine bA ?_|(refine bS ?_ (by omega))|refine bD ?_|refine bN ?_)
 rename (B_ c !=0)=false=>q1
 have HE:=Zb (show Ca c l=Cz c l by rw[Ca,B0 (FT q1)]);clear q1;have Dv:=BS.alloc BS.size (.cells #[U q1 n1 d1,U q2 n2 d2,U q3 n3 d3,U q4 n4 d4,U q5 n5 d5,J .u8 (k0:Nat),J .u8 (k1:Nat),J .u8 (k2:Nat)] 112);have Oy:=AW.trans (Dv.mono AW.size);obtain⟨W4,ER⟩:∃W4,W4=(w2.alloc (.cells #[U q1 n1 d1,U q2 n2 d2,U q3 n3 d3,U q4 n4 d4,U q5 n5 d5,J .u8 (k0:Nat),J .u8 (k1:Nat),J .u8 (k2:Nat)] 112)):=⟨_,rfl⟩;have y1:∀j v,#[U q1 n1 d1,U q2 n2 d2,U q3 n3 d3,U q4 n4 d4,U q5 n5 d5,J .u8 (k0:Nat),J .u8 (k1:Nat),J .u8 (k2:Nat)][j]?=some v->(w2.alloc (.cells #[U q1 n1 d1,U q2 n2 d2,U q3 n3 d3,U q4 n4 d4,U q5 n5 d5,J .u8 (k0:Nat),J .u8 (k1:Nat),J .u8 (k2:Nat)] 112)).cell? ⟨w2.heap.size,j,none⟩=some v:=fun j v hv=>cn _ _ _ hv;rw[<-ER]at Dv Oy y1⊢;obtain⟨hc4,hf4⟩:=DV Dv;have EI:w.heap.size<W4.heap.size:=by rw[ER,ZG];omega
 have Sa:w.heap.size+1<W4.heap.size:=by rw[ER,ZG];omega
 have hz4:w2.heap.size<W4.heap.size:=by rw[ER,ZG];omega
 have t0:W4.cell? ⟨w2.heap.size,0,none⟩=some (U q1 n1 d1):=y1 0 _ rfl;have t1:W4.cell? ⟨w2.heap.size,1,none⟩=some (U q2 n2 d2):=y1 1 _ rfl;have t2:W4.cell? ⟨w2.heap.size,2,none⟩=some (U q3 n3 d3):=y1 2 _ rfl;have t3:W4.cell? ⟨w2.heap.size,3,none⟩=some (U q4 n4 d4):=y1 3 _ rfl;have t4:W4.cell? ⟨w2.heap.size,4,none⟩=some (U q5 n5 d5):=y1 4 _ rfl;have t5:W4.cell? ⟨w2.heap.size,5,none⟩=some (J .u8 (k0:Nat)):=y1 5 _ rfl;have t6:W4.cell? ⟨w2.heap.size,6,none⟩=some (J .u8 (k1:Nat)):=y1 6 _ rfl;have t7:W4.cell? ⟨w2.heap.size,7,none⟩=some (J .u8 (k2:Nat)):=y1 7 _ rfl;clear ER y1 ND Kx
 go_region_with (first|(go_at_call 89;refine(H89.out _ Oy.drew).mono ?_;rintro e w5 ⟨rfl,JF⟩;have H_:=Dv.drew.trans (JF.mono Dv.drew.size);obtain⟨hc5,hf5⟩:=DV (show Bl W4 w5 from(Zg W4.heap.size W4).drew.trans JF)))
 all_goals
  go_wp2;refine ZU (v:=.tuple #[.agg #[U q1 n1 d1,U q2 n2 d2,U q3 n3 d3,U q4 n4 d4,U q5 n5 d5,J .u8 (k0:Nat),J .u8 (k1:Nat),J .u8 (k2:Nat)],J I (Cz c l)]) (by rw[YJ rfl];go_simp) rfl ?_;have PI:=AW.trans (H_.mono AW.size);refine⟨_,_,_,_,_,_,_,_,_,_,_,_,_,_,_,_,_,_,by rw[HE.out],?_,HX.out⟩
  repeat (with_reducible first|exact PI|refine bA ?_|(refine bS ?_ (by omega))|refine bD ?_|refine bN ?_)
def Sb (h:RC S w v1 v2 v3 v4 v5 c)(hl:SI S w v6 l)(hS:∀b,S b->b<w.heap.size)(h0:B_ c=0):
  Calls Lp 112 #[.agg #[v1,v2,v3,v4,v5],v6] w fun e w'=>e=.returned (.tuple #[.agg #[v1,v2,v3,v4,v5,J .u8 (Au c.Aa 0),J .u8 (Au c.Aa 1),J .u8 (Au c.Aa 2)],J I (Cz c l)])/\Bl w w':=
 (r_ h hl hS).mono fun e w' ⟨q1,q2,q3,q4,q5,n1,n2,n3,n4,n5,d1,d2,d3,d4,d5,k0,k1,k2,he,hB,hx⟩=>⟨by rw[he,hx h0,Ca,B0 h0];rfl,hB⟩
def Ir (m:Nat->Int)(n:Int)(p:Int×Int):Nat->Int:=fun j=>if(j:Int)=p.1 then m j+p.2*n else m j
def Bz (m:Nat->Int)(n:Int):List (Int×Int)->Nat->Int
 | []=>m
 |p::r=>Bz (Ir m n p) n r
def ET (m:Nat->Int):List (Int×Aq)->Nat->Int
 | []=>m
 |x::r=>ET (Bz m x.1 x.2.Ak) r
def measure (c:A4)(l:List Int):Nat->Int:=ET (fun j=>nth c.base j) (l.zip c.Aa)
structure FB (c:A4):Prop where
 EG:1<=c.base.length/\c.base.length<=3
 base:∀i,i<c.base.length->1<=nth c.base i/\nth c.base i<=60
 QG:c.Af.length=c.base.length
 Af:∀i,i<c.Af.length->-9<=(BF c.Af i).1/\(BF c.Af i).2<=9/\(BF c.Af i).1<=(BF c.Af i).2
 hooks:c.hooks.length=c.base.length
 hook:∀i,i<c.hooks.length->0<=nth c.hooks i/\nth c.hooks i<=5
 few:1<=c.Aa.length/\c.Aa.length<=3
 step:∀i,i<c.Aa.length->-2<=(Ah c.Aa i).low/\(Ah c.Aa i).high<=2/\(Ah c.Aa i).low<=(Ah c.Aa i).high
 Ak:∀i,i<c.Aa.length->1<=(Ah c.Aa i).Ak.length/\(Ah c.Aa i).Ak.length<=2
 pull:∀i,i<c.Aa.length->∀k,k<(Ah c.Aa i).Ak.length->0<=(BF (Ah c.Aa i).Ak k).1/\(BF (Ah c.Aa i).Ak k).1<c.base.length/\-4<=(BF (Ah c.Aa i).Ak k).2/\(BF (Ah c.Aa i).Ak k).2<=4
 over:J5 c.Aa
 left:∀i,i<c.Aa.length->0<=(Ah c.Aa i).left/\(Ah c.Aa i).left<=4
 ring:H9 c.Aa=true
 now:Cz c c.now=0
def U4 (m:Nat->Int):Array Ze:= #[J I (m 0),J I (m 1),J I (m 2)]
variable {m:Nat->Int}
def GH (h:i<3):(U4 m)[i]?=some (J I (m i)):=by
 have:i=0\/i=1\/i=2:=by omega
 rcases this with rfl|rfl|rfl<;>rfl
def sd (h:i<3)(n b:Int):(U4 m).setIfInBounds i (J I (m i+b*n))=U4 (Ir m n ((i:Int),b)):=by
 have:i=0\/i=1\/i=2:=by omega
 rcases this with rfl|rfl|rfl<;>simp[U4,Ir]
def sg (b:List Int)(h1:1<=b.length)(h3:b.length<=3):(([J I 0,J I 0,J I 0]:List Ze).take 0++(b.map (ZS I)++([J I 0,J I 0,J I 0]:List Ze).drop (0+(b.map (ZS I)).length))).toArray=U4 (fun j=>nth b j):=by
 match b,h1,h3 with
 | [x],_,_=>rfl
 | [x,y],_,_=>rfl
 | [x,y,z],_,_=>rfl
structure MW (w:Zc)(xs:Array Ze)(m:Nat->Int)(wr:Zc):Prop where
 below:Bl w wr
 box:wr.heap[w.heap.size]?=some (.cells xs 112 (0,0))
 res:wr.heap[w.heap.size+1]?=some (.cells #[J I 0,J I 0,J I 0] 150 (0,0))
 row:wr.heap[w.heap.size+1+1]?=some (.cells (U4 m) 150 (0,0))
def MW.alloc {wr:Zc}(h:MW w xs m wr)(o:Obj):MW w xs m (wr.alloc o):=⟨bA h.below,Bo h.box _,Bo h.res _,Bo h.row _⟩
def MW.drew {wr:Zc}(h:MW w xs m wr):MW w xs m wr.drew:=⟨h.below.drew,h.box,h.res,h.row⟩
def MW.set {wr:Zc}(h:MW w xs m wr)(hi:i<3)(n b:Int):MW w xs (Ir m n ((i:Int),b)) (wr.setCell ⟨w.heap.size+1+1,i,none⟩ (J I (m i+b*n))):=
 ⟨bS h.below (by omega),(AY (by omega) _).trans h.box,(AY (by omega) _).trans h.res,by rw[<-sd hi];exact A8 h.row _⟩
def MW.xk {wr:Zc}(h:MW w xs m wr)(m':Nat->Int):MW w xs m' (wr.setRow (w.heap.size+1+1) (U4 m')):=
 ⟨below_setRow h.below (by omega) _,(setRow_other _ _ _ _ (by omega)).trans h.box,(setRow_other _ _ _ _ (by omega)).trans h.res,setRow_heap _ _ _ _ _ _ h.row⟩
def Lw {n:Int}{l:List (Int×Int)}(h:k<l.length):Bz m n (l.drop k)=Bz (Ir m n (BF l k)) n (l.drop (k+1)):=by
 obtain⟨hk,e⟩:=Zl.1 (DH h);rw[Zu hk,e]
 rfl
def TP {s:List Aq}(h1:k<l.length)(h2:k<s.length):ET m ((l.zip s).drop k)=ET (Bz m (nth l k) (Ah s k).Ak) ((l.zip s).drop (k+1)):=by
 obtain⟨hk,e⟩:=Zl.1 (Ox h1 h2);rw[Zu hk,e]
 rfl
variable {p:Int×Int}
def Ia {n N:Int}(h:∀j,-N<=m j/\m j<=N)(hp: -4<=p.2/\p.2<=4)(hn: -2<=n/\n<=2):∀j,-(N+8)<=Ir m n p j/\Ir m n p j<=N+8:=by
 intro j;have hj:=h j;have: -8<=p.2*n/\p.2*n<=8:=by
  have:n= -2\/n= -1\/n=0\/n=1\/n=2:=by omega
  rcases this with h|h|h|h|h<;>rw[h]<;>omega
 unfold Ir;split<;>omega
def prod_bound {a n:Int}(hp: -4<=a/\a<=4)(hn: -2<=n/\n<=2): -8<=a*n/\a*n<=8:=by
 have:n= -2\/n= -1\/n=0\/n=1\/n=2:=by omega
 rcases this with h|h|h|h|h<;>rw[h]<;>omega
def xl (h:l.length<=i):nth l i=0:=by simp[nth,h]
def J8 (hv:FB c):∀j,-60<=nth c.base j/\nth c.base j<=60:=by
 intro j;by_cases h:j<c.base.length
 .have:=hv.base j h;omega
 .rw[xl (by omega)];omega
variable {ty e:Zr}
def A6 {fn:Func}{p:Tmp}(h:fn.results= #[.cell p ty])(tmps:Array Ze)(P:Zp)(w:Zc):
  (results fn tmps).run P w=((asAddr (tmps.getD p Zf)).run P w).andThen fun a w₁=>(loadVar ty a).run P w₁:=by
 simp only[results,h];simp[zm,zB]
def aj9 (h:RC S w v1 v2 v3 v4 v5 c)(hv:FB c)(hl:SI S w v6 l)(hn:l.length<=c.Aa.length)(hb:∀i,i<l.length->-2<=nth l i/\nth l i<=2)(hS:∀b,S b->b<w.heap.size)(s0 s1 s2:Nat):
  Calls Lp 113 #[.agg #[v1,v2,v3,v4,v5,J .u8 s0,J .u8 s1,J .u8 s2],v6] w fun e w'=>e=.returned (.agg #[J I (measure c l 0),J I (measure c l 1),J I (measure c l 2)])/\Bl w w':=by
 obtain⟨a1,c1,rfl,l1,m1⟩:=h.base.val;obtain⟨a2,c2,rfl,l2,m2⟩:=h.Af.val;obtain⟨a3,c3,rfl,l3,m3⟩:=h.hooks.val;obtain⟨a4,c4,rfl,l4,m4⟩:=h.Aa.val;obtain⟨a5,c5,rfl,l5,m5⟩:=h.now.val;obtain⟨a6,c6,rfl,l6,m6⟩:=hl.val;have Gx:=CI;obtain⟨ks,XC⟩:=hv.EG;obtain⟨b1,o1,rfl,EJ,eH⟩:=h.base.at_ (i:=0) (by omega);have Ni:=hS b1 EJ;have HB:=Zb (fun(W:Zc) (hB:Bl w W) (j:Nat) (u:Ze) (hj:(c.base.map (ZS I))[j]?=some u)=>show W.cell? ((⟨b1,o1,none⟩:Addr).add j)=some u by
  rw[zU]at hj;cases hx:c.base[j]? with
  |none=>rw[hx]at hj;cases hj
  |some x=>
   rw[hx]at hj;cases hj;have AA:j<c.base.length:=(Zl.1 hx).1;obtain⟨b',o',e,_,hc⟩:=h.base.at_ AA;cases e;rw[show(⟨b1,o1,none⟩:Addr).add j=⟨b1,o1+j,none⟩ by unfold Zcz;split<;>simp_all,hB.cell (p:=⟨b1,o1+j,none⟩) Ni,hc];have:=A_ AA;rw[hx]at this;cases this
   rfl)
 have HM:=Zb (show measure c l=ET (fun j=>nth c.base j) (l.zip c.Aa) from rfl);go_enter Lp.func113,apx;go_wp2;obtain⟨W3,H3⟩:∃W3,W3=(((w.alloc (.cells #[U (some ⟨b1,o1,none⟩) c.base.length c1,U a2 c.Af.length c2,U a3 c.hooks.length c3,U a4 c.Aa.length c4,U a5 c.now.length c5,J .u8 s0,J .u8 s1,J .u8 s2] 112)).alloc (.cells #[J I 0,J I 0,J I 0] 150)).alloc (.cells #[J I 0,J I 0,J I 0] 150)):=⟨_,rfl⟩;have hM0:MW w #[U (some ⟨b1,o1,none⟩) c.base.length c1,U a2 c.Af.length c2,U a3 c.hooks.length c3,U a4 c.Aa.length c4,U a5 c.now.length c5,J .u8 s0,J .u8 s1,J .u8 s2] (fun _=>0) W3:=by
  rw[H3];refine⟨bA (bA (bA (Zg _ _))),Bo (Bo (Bt _ _) _) _,Bo (by have:=Bt (w.alloc (.cells #[U (some ⟨b1,o1,none⟩) c.base.length c1,U a2 c.Af.length c2,U a3 c.hooks.length c3,U a4 c.Aa.length c4,U a5 c.now.length c5,J .u8 s0,J .u8 s1,J .u8 s2] 112)) (.cells #[J I 0,J I 0,J I 0] 150);rwa[ZG]at this) _,by have:=Bt ((w.alloc (.cells #[U (some ⟨b1,o1,none⟩) c.base.length c1,U a2 c.Af.length c2,U a3 c.hooks.length c3,U a4 c.Aa.length c4,U a5 c.now.length c5,J .u8 s0,J .u8 s1,J .u8 s2] 112)).alloc (.cells #[J I 0,J I 0,J I 0] 150)) (.cells #[J I 0,J I 0,J I 0] 150);rwa[ZG,ZG]at this⟩
 have Oo:W3.cell? ⟨w.heap.size,0,none⟩=some (U (some ⟨b1,o1,none⟩) c.base.length c1):=by
  exact ch hM0.box rfl
 rw[<-H3];clear H3;go_still_tail 4,(by kernel_rfl);change wpList _ _ _ _ _ W3.drew;refine wpList_copy_own (P:=Lp) rfl (.tmp 10) (.tmp 13) 22 22 rfl 3 (CG Yg) (by kernel_rfl) (w.heap.size+1+1) 0 3 3 ⟨b1,o1,none⟩ c.base.length c1 rfl rfl #[J I 0,J I 0,J I 0] 150 hM0.row (c.base.map (ZS I)) (by rw[Zbz];exact(Nat.min_eq_left XC).symm) (HB.out _ hM0.below.drew) (by simp;omega) (by intro v hv;obtain⟨x,_,rfl⟩:=Zby.1 hv;rfl) ?_;rw[show(#[J I 0,J I 0,J I 0]:Array Ze).toList=[J I 0,J I 0,J I 0] from rfl,sg _ ks XC];obtain⟨W4,ER⟩:∃W4,W4=W3.drew.setRow (w.heap.size+1+1) (U4 fun j=>nth c.base j):=⟨_,rfl⟩;have hM4:=hM0.drew.xk (fun j=>nth c.base j);rw[<-ER]at hM4⊢;clear ER hM0 Oo HB;have hbb:=J8 hv;go_wp2;go_loopg [17] l.length (fun g i wr=>∃(k:Nat) (m:Nat->Int),k<=l.length/\g=l.length - k/\i=.int I k/\ET m ((l.zip c.Aa).drop k)=measure c l/\(∀j,-(60+16*k)<=m j/\m j<=60+16*k)/\MW w #[U (some ⟨b1,o1,none⟩) c.base.length c1,U a2 c.Af.length c2,U a3 c.hooks.length c3,U a4 c.Aa.length c4,U a5 c.now.length c5,J .u8 s0,J .u8 s1,J .u8 s2] m wr)
 case atStart=>exact⟨0,_,Zn _,rfl,rfl,rfl,fun j=>by have:=hbb j;omega,hM4⟩
 case round=>
  obtain⟨k,m,hk,rfl,rfl,Cn,hbd,hM⟩:=hrel;have hf:=Zb Cn;clear Cn;by_cases AA:k<l.length
  .have aH:k<c.Aa.length:=by omega
   have nB:=hb k AA;have hd:=Zb (TP (m:=m) AA aH);obtain⟨b6,o6,rfl,Xt,uK⟩:=hl.at_ AA;rw[<-hM.below.cell (p:=⟨b6,o6+k,none⟩) (hS b6 Xt)]at uK;obtain⟨b,o,s2,s3,rfl,Uv,Fp,QD,O3,po,pv,hp,ho⟩:=h.Aa.at_ (i:=k) aH;obtain⟨a7,c7,rfl,l7,m7⟩:=hp.val;rw[<-hM.below.cell (p:=⟨b,o+k*5+2,none⟩) (hS b Uv)]at O3;clear Fp QD po pv;have aT:=hv.pull k aH;have hpn:=hv.Ak k aH;have I9:=hv.few;have g3:=ch (i:=3) hM.box (v:=.slice (some ⟨b,o,none⟩) c.Aa.length c4) rfl;have hwl:=hM.below.size;have Fo:w.heap.size+1<wr.heap.size:=(Za.1 hM.res).1;have DX:w.heap.size+1+1<wr.heap.size:=(Za.1 hM.row).1;obtain⟨n,FI⟩:∃n,n=nth l k:=⟨_,rfl⟩;rw[<-FI]at uK nB hd;clear FI;obtain⟨ps,jO⟩:∃ps,ps=(Ah c.Aa k).Ak:=⟨_,rfl⟩;rw[<-jO]at O3 hp l7 aT hpn hd;clear jO;go_wp2;go_loopg [30] ps.length (fun g i wx=>∃(j:Nat) (mm:Nat->Int),j<=ps.length/\g=ps.length - j/\i=.int I j/\Bz mm n (ps.drop j)=Bz m n ps/\(∀i,-(60+16*(k:Int)+8*j)<=mm i/\mm i<=60+16*(k:Int)+8*j)/\MW w #[U (some ⟨b1,o1,none⟩) c.base.length c1,U a2 c.Af.length c2,U a3 c.hooks.length c3,U (some ⟨b,o,none⟩) c.Aa.length c4,U a5 c.now.length c5,J .u8 s0,J .u8 s1,J .u8 s2] mm wx)
   case atStart=>exact⟨0,m,Zn _,rfl,rfl,rfl,fun i=>by have:=hbd i;omega,hM⟩
   case round=>
    obtain⟨j,mm,hj,rfl,rfl,Cn,gZ,UF⟩:=hrel;have Kx:=Zb Cn;clear Cn;by_cases GG:j<ps.length
    .obtain⟨b7,o7,rfl,U2,p1,p2⟩:=hp.at_ GG
     rw[<-UF.below.cell (p:=⟨b7,o7+j*2,none⟩) (hS b7 U2)]at p1;rw[<-UF.below.cell (p:=⟨b7,o7+j*2+1,none⟩) (hS b7 U2)]at p2;have hpd:=Zb (Lw (m:=mm) (n:=n) GG);obtain⟨Ll,O5,px,nD⟩:=aT j GG;obtain⟨q,hq⟩:∃q,q=BF ps j:=⟨_,rfl⟩;rw[<-hq]at p1 p2 hpd Ll O5 px nD;clear hq;obtain⟨x',y⟩:=q;obtain⟨x,rfl⟩:∃x:Nat,x'=x:=⟨x'.toNat,by simp only at Ll;omega⟩;dsimp only at p1 p2 Ll O5 px nD;have eJ:x<3:=by omega
     have hxi:(x:Int)<3:=by omega
     have hpr:=prod_bound ⟨px,nD⟩ nB;have hmx:=gZ x;have g8:=UF.alloc (.cells #[J I x,J I y] 64);have EI:w.heap.size+1+1<wr.heap.size:=(Za.1 UF.row).1;obtain⟨W5,JO⟩:∃W5,W5=wr.alloc (.cells #[J I x,J I y] 64):=⟨_,rfl⟩;have e0:W5.cell? ⟨wr.heap.size,0,none⟩=some (J I x):=by rw[JO];exact cn _ _ _ rfl
     have e1:W5.cell? ⟨wr.heap.size,1,none⟩=some (J I y):=by rw[JO];exact cn _ _ _ rfl
     rw[<-JO]at g8;have r0:W5.cell? ⟨w.heap.size+1+1,x,none⟩=some (J I (mm x)):=ch g8.row (GH eJ);have rf:=cf (i:=x) g8.row;go_wp2;rw[<-JO];clear JO;go_still_tail 10,(by kernel_rfl);change wpList _ _ _ _ _ W5.drew;have hM6:=g8.drew.set (i:=x) eJ n y;go_wp2;go_roundg (ps.length - (j+1))
     case rel=>exact⟨j+1,Ir mm n ((x:Int),y),by omega,rfl,by go_num,by rw[<-Kx.out,hpd.out],fun i=>by have:=Ia (N:=60+16*(k:Int)+8*j) (p:=((x:Int),y)) gZ ⟨px,nD⟩ nB i;omega,hM6⟩
     case measure=>omega
    .have e2:mm=Bz m n ps:=by rw[<-Kx.out,Zz.2 (by omega)];rfl
     subst e2;go_wp2;go_roundg (l.length - (k+1))
     case rel=>exact⟨k+1,_,by omega,rfl,by go_num,by rw[<-hf.out,hd.out],fun i=>by have:=gZ i;have:(j:Int)<=2:=(by omega);omega,UF⟩
     case measure=>omega
  .have e1:m=measure c l:=by rw[<-hf.out,Zz.2 (by simp;omega)];rfl
   subst e1;have g0:=ch (i:=0) hM.row (v:=.int I (measure c l 0)) rfl;have g1:=ch (i:=1) hM.row (v:=.int I (measure c l 1)) rfl;have g2:=ch (i:=2) hM.row (v:=.int I (measure c l 2)) rfl;have f0:=cf (i:=0) hM.res;have f1:=cf (i:=1) hM.res;have f2:=cf (i:=2) hM.res;have t0:=ch (i:=0) hM.res (v:=.int I 0) rfl;have t1:=ch (i:=1) hM.res (v:=.int I 0) rfl;have t2:=ch (i:=2) hM.res (v:=.int I 0) rfl;have hB:=hM.below;go_wp2;refine ZU (v:=.agg #[J I (measure c l 0),J I (measure c l 1),J I (measure c l 2)]) (by rw[A6 rfl];go_simp) rfl ?_;refine⟨rfl,?_⟩
   repeat (with_reducible first|exact hB|refine bA ?_|(refine bS ?_ (by omega))|refine bD ?_|refine bN ?_)
def Cf (n:Nat)(w:Zc)(b:Nat):Prop:=n<=b/\b<w.heap.size
def Df {base:Nat}{xs:List Ze}(h:w.ownsRow base e 1 v n xs):
  ∃a c,v=.slice a n c/\n<=c/\c<=maxLen/\∀i u,xs[i]?=some u->∃b,a=some ⟨b,0,none⟩/\Cf base w b/\w.cell? ⟨b,0+i*1+0,none⟩=some u:=by
 rcases h.2 with⟨rfl,rfl⟩|⟨g,cap,cur,rfl,hb,hg,h1,h2,h3,h4⟩
 .refine⟨none,0,rfl,Zj _,Zn _,fun i u hu=>?_⟩
  have:=h.1;have:xs=[]:=YR (by simpa using this);subst this;cases hu
 .refine⟨_,_,rfl,h1,h2,fun i u hu=>⟨g,rfl,⟨hb,(Za.1 hg).1⟩,?_⟩⟩
  have hi:i<n:=by
   have:=(Zl.1 hu).1;rw[h.1]at this;omega
  rw[<-h4,ZV (by omega)]at hu;rw[show 0+i*1+0=i by omega];exact ch hg (by simpa using hu)
def g9 {base:Nat}(h:w.ownsRow base e 1 v l.length (l.map (ZS I))):SI (Cf base w) w v l:=by
 obtain⟨a,c,h1,h2,h3,h4⟩:=Df h;refine⟨a,c,h1,h2,h3,fun i x hx=>?_⟩;obtain⟨b,hb,hn,hc⟩:=h4 i (J I x) (by rw[zU,hx];rfl);refine⟨b,0,[J I x],hb,hn,rfl,fun j u hu=>?_,rfl⟩;cases j with
 |zero=>cases hu;exact hc
 |succ j=>cases hu
def Cf.mono {m:Nat}(h:w.heap.size<=w'.heap.size)(hn:m<=n)(hb:Cf n w b):Cf m w' b:=⟨Zt hn hb.1,Zm hb.2 h⟩
def Ba {B:Nat}{w0:Zc}{row:Option Nat}(h:YS B w0 w)(hg:w.grownBy w' row)(hr:∀k,row=some k->B<=k)(hB:B<=w.heap.size):YS B w0 w':=
 h.trans ⟨hg.os,hg.tape,hg.output,hg.size,fun k hk=>hg.block k (Zm hk hB) (fun e=>absurd (hr k e.symm) (by omega))⟩
def Ib (n:Nat)(s:List (Int×Int)):Int:=if s.length<n then 7 else if n<s.length then 6 else Bd (fun p=>C9 p 0 99) s
def ajc {s:List (Int×Int)}(h:RC S w v1 v2 v3 v4 v5 c)(hs:SP S w v6 s)(hS:∀b,S b->b<w.heap.size)(s0 s1 s2:Nat):Calls Lp 101 #[.agg #[v1,v2,v3,v4,v5,J .u8 s0,J .u8 s1,J .u8 s2],v6] w fun e w'=>e=.returned (J I (Ib c.base.length s))/\Bl w w':=by
 obtain⟨a1,c1,rfl,l1,m1⟩:=h.base.val;obtain⟨a2,c2,rfl,l2,m2⟩:=h.Af.val;obtain⟨a3,c3,rfl,l3,m3⟩:=h.hooks.val;obtain⟨a4,c4,rfl,l4,m4⟩:=h.Aa.val;obtain⟨a5,c5,rfl,l5,m5⟩:=h.now.val;obtain⟨a6,c6,rfl,l6,m6⟩:=hs.val;have Gx:=CI;have hB:Bl w (w.alloc (.cells #[U a1 c.base.length c1,U a2 c.Af.length c2,U a3 c.hooks.length c3,U a4 c.Aa.length c4,U a5 c.now.length c5,J .u8 s0,J .u8 s1,J .u8 s2] 112)):=(Zg _ _).alloc (Zj _) _;by_cases TG:s.length<c.base.length
 .go_enter Lp.func101,adk
  go_wp2;go_ret;exact⟨Bp (by rw[Ib,if_pos TG]),hB⟩
 by_cases MI:c.base.length<s.length
 .go_enter Lp.func101,adk
  go_wp2;go_ret;exact⟨Bp (by rw[Ib,if_neg TG,if_pos MI]),hB⟩
 have HE:=Zb (show Ib c.base.length s=Bd (fun p=>C9 p 0 99) s by rw[Ib,if_neg TG,if_neg MI]);go_enter Lp.func101,adk;go_wp2;go_loopg [24] s.length (fun g i wr=>∃k:Nat,k<=s.length/\g=s.length - k/\i=.int I k/\Bd (fun p=>C9 p 0 99) (s.drop k)=Bd (fun p=>C9 p 0 99) s/\Bl w wr)
 case atStart=>exact⟨0,Zn _,rfl,rfl,rfl,hB⟩
 case round=>
  obtain⟨k,hk,rfl,rfl,Cn,AW⟩:=hrel;have hf:=Zb Cn;clear Cn;by_cases AA:k<s.length
  .obtain⟨b,o,rfl,hb,hca,o_⟩:=hs.at_ AA
   rw[<-AW.cell (p:=⟨b,o+k*2,none⟩) (hS b hb)]at hca;rw[<-AW.cell (p:=⟨b,o+k*2+1,none⟩) (hS b hb)]at o_;have hd:=Zb (Fi (f:=fun p=>C9 p 0 99) (DH AA));go_wp2_with (go_at_call 151;refine(adm _ _ _ _ _).mono ?_;rintro e w' ⟨rfl,Bg⟩)
   .have q4:(C9 (BF s k) 0 99 !=0)=true:=by assumption
    go_ret;have e4:Bd (fun p=>C9 p 0 99) s=C9 (BF s k) 0 99:=by rw[<-hf.out,hd.out,if_neg (GF q4)]
    exact⟨Bp (by rw[HE.out,e4]),(AW.alloc AW.size _).trans (Bg.mono (by simp;have:=AW.size;omega))⟩
   .have q4:(C9 (BF s k) 0 99 !=0)=false:=by assumption
    have CU:Bl w w':=(AW.alloc AW.size _).trans (Bg.mono (by simp;have:=AW.size;omega));go_roundg (s.length - (k+1))
    case rel=>exact⟨k+1,by omega,rfl,by go_num,by rw[<-hf.out,hd.out,if_pos (FT q4)],CU⟩
    case measure=>omega
  .have Q4:=Zb (show Ib c.base.length s=0 by rw[HE.out, <-hf.out];exact F8 (by omega))
   clear hf;go_wp2;go_ret;exact⟨Bp Q4.out.symm,AW⟩
def Ga (ab:Nat->Nat)(now:List Int):Nat->List Int->Nat->Nat
 |_,[],s=>s
 |i,n::r,s=>Ga ab now (i+1) r (if n=nth now i then s else s|||IE (ab i) i)
def Cb (ab:Nat->Nat)(now l:List Int):Nat:=Ga ab now 0 l 0
def Lx {now:List Int}(h:k<l.length):Ga ab now k (l.drop k) s=Ga ab now (k+1) (l.drop (k+1)) (if nth l k=nth now k then s else s|||IE (ab k) k):=by
 obtain⟨hk,e⟩:=Zl.1 (A_ h);rw[Zu hk,e]
 rfl
def Nj {now:List Int}(h:l.length<=k):Ga ab now k (l.drop k) s=s:=by
 rw[Zz.2 h];rfl
def VY {ab:Nat->Nat}{now:List Int}(ha:∀i,i<3->ab i<8):∀(l:List Int) (k s:Nat),k+l.length<=3->s<8->Ga ab now k l s<8
 | [],_,_,_,h=>h
 |n::r,k,s,hk,h=>by
  have h1:k+(r.length+1)<=3:=hk;refine VY ha r (k+1) _ (by omega) ?_;split
  .exact h
  .exact gW h (JE (ha k (by omega)) (by omega))
def Mc {now:List Int}(ha:∀i,i<3->ab i<8)(hl:l.length<=3):Cb ab now l<8:=VY ha l 0 0 (by omega) (by omega)
def aaO {a b:Int}(h:(a !=b)=false):a=b:=by simpa using h
def aaP {a b:Int}(h:(a !=b)=true):a≠b:=by simpa using h
def aq6 (h:RC S w v1 v2 v3 v4 v5 c)(hl:SI S w v6 l)(hn:l.length<=c.now.length)(hn3:c.now.length<=3)(ha:∀i,i<3->ab i<8)(hS:∀b,S b->b<w.heap.size):
  Calls Lp 139 #[.agg #[v1,v2,v3,v4,v5,J .u8 (ab 0),J .u8 (ab 1),J .u8 (ab 2)],v6] w fun e w'=>e=.returned (J .u8 (Cb ab c.now l))/\Bl w w':=by
 obtain⟨a1,c1,rfl,l1,m1⟩:=h.base.val;obtain⟨a2,c2,rfl,l2,m2⟩:=h.Af.val;obtain⟨a3,c3,rfl,l3,m3⟩:=h.hooks.val;obtain⟨a4,c4,rfl,l4,m4⟩:=h.Aa.val;obtain⟨a5,c5,rfl,l5,m5⟩:=h.now.val;obtain⟨a6,c6,rfl,l6,m6⟩:=hl.val;have Gx:=CI;have hB:Bl w (w.alloc (.cells (Bj (U a1 c.base.length c1) (U a2 c.Af.length c2) (U a3 c.hooks.length c3) (U a4 c.Aa.length c4) (U a5 c.now.length c5) ab) 112)):=(Zg _ _).alloc (Zj _) _;have hG:=Bt w (.cells (Bj (U a1 c.base.length c1) (U a2 c.Af.length c2) (U a3 c.hooks.length c3) (U a4 c.Aa.length c4) (U a5 c.now.length c5) ab) 112);have HE:=Zb (show Cb ab c.now l=Ga ab c.now 0 (l.drop 0) 0 from rfl);obtain⟨W,hW⟩:∃W,W=(w.alloc (.cells (Bj (U a1 c.base.length c1) (U a2 c.Af.length c2) (U a3 c.hooks.length c3) (U a4 c.Aa.length c4) (U a5 c.now.length c5) ab) 112)):=⟨_,rfl⟩;rw[<-hW]at hB hG;have HW:=Zb hW;clear hW;go_enter Lp.func139,apG;go_wp2;rw[show(w.alloc (.cells #[U a1 c.base.length c1,U a2 c.Af.length c2,U a3 c.hooks.length c3,U a4 c.Aa.length c4,U a5 c.now.length c5,J .u8 (ab 0),J .u8 (ab 1),J .u8 (ab 2)] 112))=W from HW.out.symm];go_loopg [5,10] l.length (fun g v i wr=>∃k s:Nat,k<=l.length/\g=l.length - k/\i=.int I k/\v=.int .u8 s/\s<8/\Ga ab c.now k (l.drop k) s=Cb ab c.now l/\wr=W)
 case atStart=>exact⟨0,0,Zn _,rfl,rfl,rfl,by omega,rfl,rfl⟩
 case round=>
  obtain⟨k,s,hk,rfl,rfl,rfl,hs8,Cn,rfl⟩:=hrel;have hf:=Zb Cn;clear Cn;by_cases AA:k<l.length
  .obtain⟨b,o,rfl,hb,hc⟩:=hl.at_ AA
   obtain⟨b',o',rfl,GZ,Pl⟩:=h.now.at_ (i:=k) (by omega);rw[<-hB.cell (p:=⟨b,o+k,none⟩) (hS b hb)]at hc;rw[<-hB.cell (p:=⟨b',o'+k,none⟩) (hS b' GZ)]at Pl;have hd:=Zb (Lx (ab:=ab) (now:=c.now) (l:=l) (s:=s) AA);have Ow:k<3:=by omega
   have Rh:(k:Int)<3:=by omega
   have hkn:k<c.now.length:=by omega
   have g4:=ch (i:=4) hG (v:=.slice (some ⟨b',o',none⟩) c.now.length c5) rfl;have gk:=ch hG (H8 Ow);have hak:=ha k Ow;go_wp2_with (go_at_call 123;refine(ado (ab k) k hak Ow _).mono ?_;rintro e w' ⟨rfl,rfl⟩)
   .have q:(nth l k !=nth c.now k)=true:=by assumption
    rw[df hs8 (JE hak Ow)];go_roundg (l.length - (k+1))
    case rel=>exact⟨k+1,_,by omega,rfl,by go_num,rfl,gW hs8 (JE hak Ow),by rw[<-hf.out,hd.out,if_neg (aaP q)],rfl⟩
    case measure=>omega
   .have q:(nth l k !=nth c.now k)=false:=by assumption
    go_roundg (l.length - (k+1))
    case rel=>exact⟨k+1,_,by omega,rfl,by go_num,rfl,hs8,by rw[<-hf.out,hd.out,if_pos (aaO q)],rfl⟩
    case measure=>omega
  .have e1:s=Cb ab c.now l:=by rw[<-hf.out,Nj (by omega)]
   have E1:=Zb e1;clear hf e1;go_wp2;go_ret;exact⟨by rw[E1.out];rfl,hB⟩
def FU (s n:Nat):List Int:=((ZL n).filter (hasB s)).map fun i:Nat=>(i:Int)
def Av (s:Nat):List Int:=FU s 3
def g_ (s n:Nat):FU s (n+1)=if hasB s n=true then FU s n++ [(n:Int)] else FU s n:=by
 unfold FU;rw[List.range_succ,List.filter_append];split
 .rename_i h;simp[h]
 .rename_i h;simp[h]
def JG (s n:Nat):(FU s n).length<=n:=by
 unfold FU;rw[Zbz];exact Zt (List.length_filter_le _ _) (by simp)
def xm (hs:s<8):Calls Lp 120 #[J .u8 s] w fun e w'=>∃v,e=.returned v/\Bl w w'/\SI (Cf w.heap.size w') w' v (Av s)/\(Av s=[]->v=.slice none 0 0):=by
 obtain⟨i0,hi,Fo,DX,EI⟩:=zq Jx;have hu:=CG Yg;have MH:=Zb (fun k (hk:k<3) w=>adn s k hs hk w);go_enter Lp.func120,apy;go_wp2;go_loopg [3,5] 3 (fun g v i wr=>∃k:Nat,k<=3/\g=3 - k/\i=.int I k/\wr.ownsRow w.heap.size 3 1 v (FU s k).length ((FU s k).map (ZS I))/\Bl w wr/\(FU s k=[]->v=.slice none 0 0))
 case atStart=>exact⟨0,Zn _,rfl,rfl,zh _ _ _ _,Zg _ _,fun _=>rfl⟩
 case round=>
  obtain⟨k,hk,rfl,rfl,A3,hB,ajd⟩:=hrel;have hle:=JG s k;have Ek:=hB.size;by_cases AA:k<3
  .have Rh:(k:Int)<3:=by omega
   have HS:=Zb (g_ s k);go_wp2_with (first|(go_at_call 122;refine(MH.out _ AA _).mono ?_;rintro e w' ⟨rfl,rfl⟩)|(at_builtin;refine Yj _ rfl _ _ 22 rfl w.heap.size 3 i0 (J I 0) 1 8 hu (DC hi) Fo DX EI rfl (by decide) _ _ _ rfl (A3.alloc _) ⟨_,0,none⟩ 1 1 [J I k] rfl rfl (by intro j u hj;match j,hj with|0,hj=>(simp at hj;subst hj;simp[Zcz])) (by intro u hu;simp at hu;subst hu;rfl) (by unfold maxLen;omega) (by omega) (by simp;omega) ?_;intro v' w1 Bq AJ FI))
   .have q:hasB s k=true:=by assumption
    have e1:FU s (k+1)=FU s k++ [(k:Int)]:=by rw[HS.out,if_pos q]
    have hg:(w'.alloc (.cells #[J I k] 3)).grownBy w1 u3.ownBlock:=AJ;have Bb:Bl w w1:=Ba (bA hB) hg (fun k hk=>(A3.lt k hk).1) (by simp;omega);have CQ:w1.ownsRow w.heap.size 3 1 v' (FU s (k+1)).length ((FU s (k+1)).map (ZS I)):=by
     rw[e1];simpa using Bq
    go_roundg (3 - (k+1))
    case rel=>exact⟨k+1,by omega,rfl,by go_num,CQ,Bb,fun h=>absurd h (by rw[e1];simp)⟩
    case measure=>omega
   .have q:hasB s k=false:=by assumption
    have e1:FU s (k+1)=FU s k:=by rw[HS.out,if_neg (by rw[q];decide)]
    go_roundg (3 - (k+1))
    case rel=>exact⟨k+1,by omega,rfl,by go_num,by rw[e1];exact A3,hB,by rw[e1];exact ajd⟩
    case measure=>omega
  .have Ow:k=3:=by omega
   subst Ow;have hsi:=g9 A3;go_wp2;go_ret;exact⟨_,rfl,hB,hsi,ajd⟩
def aq8 (s:Nat)(hs:s<8)(w:Zc):Calls Lp 162 #[J .u8 s] w fun e w'=>e=.returned (J I (Av s).length)/\w'=w:=by
 have h1:s=0\/s=1\/s=2\/s=3\/s=4\/s=5\/s=6\/s=7:=by omega
 rcases h1 with rfl|rfl|rfl|rfl|rfl|rfl|rfl|rfl
 all_goals
  go_enter Lp.func162,apP;go_wp2;go_ret;exact⟨by kernel_rfl,rfl⟩
def aq9 (s:Nat)(hs:s<8)(w:Zc):Calls Lp 136 #[J .u8 s] w fun e w'=>e=.returned (J I (Av s).length)/\w'=w:=by
 go_enter Lp.func136,apF;go_wp2_with (go_at_call 162;refine(aq8 s hs _).mono ?_;rintro e w' ⟨rfl,rfl⟩);go_ret;exact⟨rfl,rfl⟩
def J9 {base:Nat}{size:Nat}{xs:List Ze}(h:w.ownsRow base e size v n xs):
  ∃a c,v=.slice a n c/\n<=c/\c<=maxLen/\∀j u,xs[j]?=some u->∃b,a=some ⟨b,0,none⟩/\Cf base w b/\w.cell? ⟨b,j,none⟩=some u:=by
 rcases h.2 with⟨rfl,rfl⟩|⟨g,cap,cur,rfl,hb,hg,h1,h2,h3,h4⟩
 .refine⟨none,0,rfl,Zj _,Zn _,fun i u hu=>?_⟩
  have:=h.1;have:xs=[]:=YR (by simpa using this);subst this;cases hu
 .refine⟨_,_,rfl,h1,h2,fun i u hu=>⟨g,rfl,⟨hb,(Za.1 hg).1⟩,?_⟩⟩
  have hi:i<n*size:=by
   have:=(Zl.1 hu).1;rw[h.1]at this;omega
  rw[<-h4,ZV (by omega)]at hu;exact ch hg (by simpa using hu)
section
variable {α:Type}{S:Nat->Prop}{R R':Zc->List Ze->α->Prop}{k:Nat}{w w':Zc}{v:Ze}{l:List α}
def kG {k:Nat}(hi:i<n)(hj:j<k):i*k+j<n*k:=by
 have:(i+1)*k<=n*k:=Zd7 k hi;rw[Nat.add_mul]at this;omega
def Sl.row {a:Option Addr}{c:Nat}(h:Sl S R k w (U a l.length c) l)(hk:0<k)(ad:Addr)(ha:a=some ad):
  ∃news:List Ze,news.length=l.length*k/\(∀i x,l[i]?=some x->R w ((news.drop (i*k)).take k) x)/\∀j u,news[j]?=some u->w.cell? (ad.add j)=some u:=by
 obtain⟨a',c',h1,h2,h3,h4⟩:=h;cases h1;subst ha;refine⟨(ZL (l.length*k)).map fun j=>(w.cell? (ad.add j)).getD Zf,by simp,fun i x hx=>?_,fun j u hu=>?_⟩
 .obtain⟨b,o,cs,e,_,hl,hc,hr⟩:=h4 i x hx
  cases e;have hi:=(Zl.1 hx).1;refine Eq.mpr (congrArg (fun y=>R w y x) (?_:_=cs)) hr;apply zM;intro j;by_cases hj:j<k
  .rw[ZV hj,Yi,zU,List.getElem?_range (kG hi hj)]
   have:cs[j]?=some (cs[j]'(by omega)):=ZE _;rw[this];have:=hc j _ this;show some ((w.cell? ((⟨b,o,none⟩:Addr).add (i*k+j))).getD Zf)=_;rw[show(⟨b,o,none⟩:Addr).add (i*k+j)=⟨b,o+i*k+j,none⟩ by rw[Zb4];unfold Zcz;split<;>simp_all,this]
   rfl
  .rw[ZJ (by simp;omega),ZJ (by omega)]
 .obtain⟨hj,rfl⟩:=Zl.1 hu
  simp only[Zbz,List.length_range]at hj;have hi:j / k<l.length:=Zd8 (by rwa[ZcS]);obtain⟨b,o,cs,e,_,hl,hc,hr⟩:=h4 (j / k) _ (ZE hi);cases e;have hm:=Nat.mod_lt j hk;have:=hc (j % k) _ (ZE (by omega));have qd:j / k*k+j % k=j:=by rw[ZcS];exact Nat.div_add_mod j k
  rw[Zb4,qd]at this;simp only[List.getElem_map,List.getElem_range];rw[show(⟨b,o,none⟩:Addr).add j=⟨b,o+j,none⟩ by unfold Zcz;split<;>simp_all,this]
  rfl
def PL {base:Nat}{xs:List Ze}(hk:0<k)(h:w.ownsRow base e k v l.length xs)(hR:∀i x,l[i]?=some x->R w ((xs.drop (i*k)).take k) x):Sl (Cf base w) R k w v l:=by
 obtain⟨a,c,h1,h2,h3,h4⟩:=J9 h;refine⟨a,c,h1,h2,h3,fun i x hx=>?_⟩;have hi:=(Zl.1 hx).1;have hl:=h.1;have hlen:((xs.drop (i*k)).take k).length=k:=by
  have:(i+1)*k<=l.length*k:=Zd7 k hi;rw[Nat.add_mul]at this;simp;omega
 have dh:∀j u,((xs.drop (i*k)).take k)[j]?=some u->xs[i*k+j]?=some u:=fun j u hj=>by
  have di:j<k:=by have:=(Zl.1 hj).1;omega
  rwa[ZV di,Yi]at hj
 obtain⟨b,hb,hn,_⟩:=h4 (i*k+0) _ (dh 0 _ (ZE (by omega)));refine⟨b,0,_,hb,hn,hlen,fun j u hu=>?_,hR i x hx⟩;obtain⟨b',GZ,_,hc⟩:=h4 _ _ (dh j u hu);rw[hb]at GZ;cases GZ;rwa[zK]
def sh (R:Zc->List Ze->α->Prop):Prop:=∀w cs x,R w cs x->∀u∈cs,u.oneCell'=true
def row_one {news:List Ze}(hk:0<k)(hn:news.length=l.length*k)(h:∀i x,l[i]?=some x->R w ((news.drop (i*k)).take k) x)(h1:sh R):∀u∈news,u.oneCell'=true:=by
 intro u hu;obtain⟨j,hj,rfl⟩:=Yo hu;have hi:j / k<l.length:=Zd8 (by rw[ZcS, <-hn];exact hj);refine h1 _ _ _ (h (j / k) _ (ZE hi)) _ ?_;have hm:=Nat.mod_lt j hk;have qd:j / k*k+j % k=j:=by rw[ZcS];exact Nat.div_add_mod j k
 refine Z8 (i:=j % k) ?_;rw[ZV hm,Yi,qd];exact ZE hj
end
def sj:sh Ri:=fun _ _ _ h u hu=>by unfold Ri at h;subst h;simp at hu;subst hu;rfl
def dj:sh Rp:=fun _ _ _ h u hu=>by unfold Rp at h;subst h;simp at hu;rcases hu with rfl|rfl<;>rfl
def aje:sh (Rs S):=fun _ _ _ h u hu=>by
 obtain⟨v2,v3,rfl,h2,h3⟩:=h;obtain⟨a2,c2,rfl,_⟩:=h2.val;obtain⟨a3,c3,rfl,_⟩:=h3.val;simp at hu;rcases hu with rfl|rfl|rfl|rfl|rfl<;>rfl
def h_ {α:Type}(R:Zc->List Ze->α->Prop)(k:Nat)(w:Zc)(l:List α)(e:Ending)(w':Zc):Prop:=∃v',e=.returned v'/\Bl w w'/\Sl (Cf w.heap.size w') R k w' v' l
def ia:(Tryz.prog.info? 80).map (fun i=>(i.zero,i.size,i.bytes))=some (some (.agg #[J I 0,J I 0]),2,16):=by kernel_rfl
def XK:(Tryz.prog.info? 64).map (fun i=>(i.zero,i.size,i.bytes))=some (some (.agg #[J I 0,J I 0]),2,16):=by kernel_rfl
def ib:(Tryz.prog.info? 62).map (fun i=>(i.zero,i.size,i.bytes))=some (some (.agg #[J I 0,J I 0,U none 0 0,U none 0 0,J I 0]),5,72):=by kernel_rfl
def nE (h:Sl S Ri 1 w v l)(hlen:l.length<=1000):Calls Lp 106 #[v] w (h_ Ri 1 w l):=by
 obtain⟨a,c,rfl,l1,m1⟩:=h.val;obtain⟨i0,hi,Fo,DX,EI⟩:=zq Jx;have hu:=CG Yg;have q22:∀(w:Zc) (a:Option Addr) (n c n' c':Nat),(binOp .eql 22 (U a n c) (U none n' c')).run Lp w=.ok (.bool a.isNone) w:=fun w a n c n' c'=>ZaT w _ _ a n c n' c' hu;cases a with
 |none=>
  have hl:l=[]:=by
   cases l with
   |nil=>rfl
   |cons x r=>
    obtain⟨a',c',h1,_,_,h4⟩:=h;cases h1;obtain⟨b,o,cs,e,_⟩:=h4 0 x rfl;cases e
  subst hl;go_enter Lp.func106,xd;go_wp2;go_ret;exact⟨_,rfl,Zg _ _,none,0,rfl,Zj _,Zn _,fun i x hx=>by cases hx⟩
 |some ad=>
  obtain⟨news,hn,hR,hc⟩:=Sl.row h (by decide) ad rfl;have h1:=row_one (by decide) hn hR sj;have HC:=Zb hc;have HR:=Zb hR;clear hc hR;go_enter Lp.func106,xd;go_wp2_with (at_builtin;refine Yj _ rfl _ _ 22 rfl w.heap.size 3 i0 (J I 0) 1 8 hu (DC hi) Fo DX EI rfl (by decide) _ 0 [] rfl (YK w #[] 0 (Zj _) (Zn _) rfl) ad l.length c news rfl hn (fun j u hj=>ca (HC.out j u hj) _) h1 (by unfold maxLen;omega) (by omega) (by simp) ?_;intro v' w1 Bq AJ FI);have hB:Bl w w1:=Ba (bA (Zg _ _)) AJ (fun k hk=>by cases hk;exact Zj _) (by simp);have WX:Sl (Cf w.heap.size w1) Ri 1 w1 v' l:=PL (by decide) (by rw[zK,zZ]at Bq;exact Bq) (fun i x hx=>HR.out i x hx);clear Bq AJ FI;go_ret;exact⟨_,rfl,hB,WX⟩
def aqa {l:List (Int×Int)}(h:Sl S Rp 2 w v l)(hlen:l.length<=1000):Calls Lp 166 #[v] w (h_ Rp 2 w l):=by
 obtain⟨a,c,rfl,l1,m1⟩:=h.val;obtain⟨i0,hi,Fo,DX,EI⟩:=zq ia;have hu:=CG Tryz.underlying23;have q22:∀(w:Zc) (a:Option Addr) (n c n' c':Nat),(binOp .eql 23 (U a n c) (U none n' c')).run Lp w=.ok (.bool a.isNone) w:=fun w a n c n' c'=>ZaT w _ _ a n c n' c' hu;cases a with
 |none=>
  have hl:l=[]:=by
   cases l with
   |nil=>rfl
   |cons x r=>
    obtain⟨a',c',h1,_,_,h4⟩:=h;cases h1;obtain⟨b,o,cs,e,_⟩:=h4 0 x rfl;cases e
  subst hl;go_enter Lp.func166,aiY;go_wp2;go_ret;exact⟨_,rfl,Zg _ _,none,0,rfl,Zj _,Zn _,fun i x hx=>by cases hx⟩
 |some ad=>
  obtain⟨news,hn,hR,hc⟩:=Sl.row h (by decide) ad rfl;have h1:=row_one (by decide) hn hR dj;have HC:=Zb hc;have HR:=Zb hR;clear hc hR;go_enter Lp.func166,aiY;go_wp2_with (at_builtin;refine Yj _ rfl _ _ 23 rfl w.heap.size 80 i0 (.agg #[J I 0,J I 0]) 2 16 hu (DC hi) Fo DX EI rfl (by decide) _ 0 [] rfl (YK w #[] 0 (Zj _) (Zn _) rfl) ad l.length c news rfl hn (fun j u hj=>ca (HC.out j u hj) _) h1 (by unfold maxLen;omega) (by omega) (by simp) ?_;intro v' w1 Bq AJ FI);have hB:Bl w w1:=Ba (bA (Zg _ _)) AJ (fun k hk=>by cases hk;exact Zj _) (by simp);have WX:Sl (Cf w.heap.size w1) Rp 2 w1 v' l:=PL (by decide) (by rw[zK,zZ]at Bq;exact Bq) (fun i x hx=>HR.out i x hx);clear Bq AJ FI;go_ret;exact⟨_,rfl,hB,WX⟩
def aqb {l:List (Int×Int)}(h:Sl S Rp 2 w v l)(hlen:l.length<=1000):Calls Lp 168 #[v] w (h_ Rp 2 w l):=by
 obtain⟨a,c,rfl,l1,m1⟩:=h.val;obtain⟨i0,hi,Fo,DX,EI⟩:=zq XK;have hu:=CG ZcC;have q22:∀(w:Zc) (a:Option Addr) (n c n' c':Nat),(binOp .eql 60 (U a n c) (U none n' c')).run Lp w=.ok (.bool a.isNone) w:=fun w a n c n' c'=>ZaT w _ _ a n c n' c' hu;cases a with
 |none=>
  have hl:l=[]:=by
   cases l with
   |nil=>rfl
   |cons x r=>
    obtain⟨a',c',h1,_,_,h4⟩:=h;cases h1;obtain⟨b,o,cs,e,_⟩:=h4 0 x rfl;cases e
  subst hl;go_enter Lp.func168,aiZ;go_wp2;go_ret;exact⟨_,rfl,Zg _ _,none,0,rfl,Zj _,Zn _,fun i x hx=>by cases hx⟩
 |some ad=>
  obtain⟨news,hn,hR,hc⟩:=Sl.row h (by decide) ad rfl;have h1:=row_one (by decide) hn hR dj;have HC:=Zb hc;have HR:=Zb hR;clear hc hR;go_enter Lp.func168,aiZ;go_wp2_with (at_builtin;refine Yj _ rfl _ _ 60 rfl w.heap.size 64 i0 (.agg #[J I 0,J I 0]) 2 16 hu (DC hi) Fo DX EI rfl (by decide) _ 0 [] rfl (YK w #[] 0 (Zj _) (Zn _) rfl) ad l.length c news rfl hn (fun j u hj=>ca (HC.out j u hj) _) h1 (by unfold maxLen;omega) (by omega) (by simp) ?_;intro v' w1 Bq AJ FI);have hB:Bl w w1:=Ba (bA (Zg _ _)) AJ (fun k hk=>by cases hk;exact Zj _) (by simp);have WX:Sl (Cf w.heap.size w1) Rp 2 w1 v' l:=PL (by decide) (by rw[zK,zZ]at Bq;exact Bq) (fun i x hx=>HR.out i x hx);clear Bq AJ FI;go_ret;exact⟨_,rfl,hB,WX⟩
def nF (S:Nat->Prop)(w:Zc)(l:List Aq)(en:Ending)(w':Zc):Prop:=∃v' news,en=.returned v'/\Bl w w'/\w'.ownsRow w.heap.size 62 5 v' l.length news/\∀(i:Nat) (x:Aq),l[i]?=some x->Rs S w ((news.drop (i*5)).take 5) x
def ajf {l:List Aq}(h:Sl S (Rs S) 5 w v l)(hlen:l.length<=1000)(E7:0<l.length):Calls Lp 167 #[v] w (nF S w l):=by
 obtain⟨a,c,rfl,l1,m1⟩:=h.val;obtain⟨i0,hi,Fo,DX,EI⟩:=zq ib;have hu:=CG Tryz.underlying24;have q22:∀(w:Zc) (a:Option Addr) (n c n' c':Nat),(binOp .eql 24 (U a n c) (U none n' c')).run Lp w=.ok (.bool a.isNone) w:=fun w a n c n' c'=>ZaT w _ _ a n c n' c' hu;obtain⟨ad,rfl⟩:∃ad,a=some ad:=by
  obtain⟨a',c',h1,_,_,h4⟩:=h;cases h1;obtain⟨b,o,cs,e,_⟩:=h4 0 _ (ZE E7);exact⟨_,e⟩
 obtain⟨news,hn,hR,hc⟩:=Sl.row h (by decide) ad rfl;have h1:=row_one (by decide) hn hR aje;have HC:=Zb hc;have HR:=Zb hR;clear hc hR;go_enter Lp.func167,apQ;go_wp2_with (at_builtin;refine Yj _ rfl _ _ 24 rfl w.heap.size 62 i0 (.agg #[J I 0,J I 0,U none 0 0,U none 0 0,J I 0]) 5 72 hu (DC hi) Fo DX EI rfl (by decide) _ 0 [] rfl (YK w #[] 0 (Zj _) (Zn _) rfl) ad l.length c news rfl hn (fun j u hj=>ca (HC.out j u hj) _) h1 (by unfold maxLen;omega) (by omega) (by simp) ?_;intro v' w1 Bq AJ FI);have hB:Bl w w1:=Ba (bA (Zg _ _)) AJ (fun k hk=>by cases hk;exact Zj _) (by simp);rw[zK,zZ]at Bq;have hO:=Zb Bq;clear Bq AJ FI;go_ret;exact⟨_,news,rfl,hB,hO.out,fun i x hx=>HR.out i x hx⟩
def Oz (c:A4)(i:Int):Bool:=decide ((Ah c.Aa i.toNat).left<1)
def J_ (c:A4)(t:Nat):Option Int:=(Av t).find? (Oz c)
def ajg (t:Nat):Option Int->Ze
 |some i=>.tuple #[J .u8 0,.iface 121 (.agg #[J I i])]
 |none=>.tuple #[J .u8 t,.nilIface]
def VZ {f:Int->Bool}(h:k<l.length):(l.drop k).find? f=if f (nth l k)=true then some (nth l k) else(l.drop (k+1)).find? f:=by
 obtain⟨hk,e⟩:=Zl.1 (A_ h);rw[Zu hk,e,Zdh];cases f (nth l k)<;>simp
def IG (h:k<l.length):nth l k∈l:=Z8 (A_ h)
def c90 (h:RC S w v1 v2 v3 v4 v5 c)(hl:SI S w v6 l)(hn:l.length<=c.now.length)(hn3:c.now.length<=3)(ha:∀i,i<3->ab i<8)(hx:∀x,x∈Av (Cb ab c.now l)->0<=x/\x<c.Aa.length)(hS:∀b,S b->b<w.heap.size):
  Calls Lp 90 #[.agg #[v1,v2,v3,v4,v5,J .u8 (ab 0),J .u8 (ab 1),J .u8 (ab 2)],v6] w fun e w'=>e=.returned (ajg (Cb ab c.now l) (J_ c (Cb ab c.now l)))/\Bl w w':=by
 obtain⟨a1,c1,rfl,l1,m1⟩:=h.base.val;obtain⟨a2,c2,rfl,l2,m2⟩:=h.Af.val;obtain⟨a3,c3,rfl,l3,m3⟩:=h.hooks.val;obtain⟨a4,c4,rfl,l4,m4⟩:=h.Aa.val;obtain⟨a5,c5,rfl,l5,m5⟩:=h.now.val;obtain⟨a6,c6,rfl,l6,m6⟩:=hl.val;have Gx:=CI;have Bb:Bl w (w.alloc (.cells #[U a1 c.base.length c1,U a2 c.Af.length c2,U a3 c.hooks.length c3,U a4 c.Aa.length c4,U a5 c.now.length c5,J .u8 (ab 0),J .u8 (ab 1),J .u8 (ab 2)] 112)):=(Zg _ _).alloc (Zj _) _;have eL:=Mc (now:=c.now) (l:=l) ha (by omega);have aqd:=Zb (fun W hB=>aq6 (w:=W) (h.later hB) (hl.later hB) hn hn3 ha (AE hS hB));obtain⟨t,ht⟩:∃t,t=Cb ab c.now l:=⟨_,rfl⟩;rw[<-ht]at hx eL⊢;have HT:=Zb ht;clear ht;have HE:=Zb (show J_ c t=((Av t).drop 0).find? (Oz c) from rfl);have hle:(Av t).length<=3:=JG t 3;go_enter Lp.func90,n90;go_wp2_with (first|(go_at_call 139;refine(aqd.out _ Bb).mono ?_;rintro e w1 ⟨rfl,AW⟩;rw[<-HT.out])|(go_at_call 120;refine(xm eL).mono ?_;rintro e w2 ⟨v,rfl,Bg,hv,hvn⟩;have CU:=AW.trans (Bg.mono AW.size);obtain⟨ND,Kx⟩:=DV CU;clear hvn;obtain⟨a7,c7,rfl,l7,m7⟩:=hv.val));have BS:=Bb.trans (CU.mono Bb.size);have hc4:w2.cell? ⟨w.heap.size,3,none⟩=some (U a4 c.Aa.length c4):=by rw[ND _ _ (by simp)];exact cn _ _ _ rfl
 clear ND Kx;go_loopg [15] (Av t).length (fun g i wr=>∃k:Nat,k<=(Av t).length/\g=(Av t).length - k/\i=.int I k/\((Av t).drop k).find? (Oz c)=J_ c t/\wr=w2)
 case atStart=>exact⟨0,Zn _,rfl,rfl,rfl,rfl⟩
 case round=>
  obtain⟨k,hk,rfl,rfl,Cn,rfl⟩:=hrel;have hf:=Zb Cn;clear Cn;by_cases AA:k<(Av t).length
  .obtain⟨b,o,rfl,hb,hc⟩:=hv.at_ AA
   have hd:=Zb (VZ (f:=Oz c) AA);obtain⟨Ll,O5⟩:=hx _ (IG AA);obtain⟨x,fT⟩:∃x:Nat,nth (Av t) k=x:=⟨(nth (Av t) k).toNat,by omega⟩;rw[fT]at hc hd O5 Ll;clear fT;have ic:x<c.Aa.length:=by omega
   obtain⟨b',o',s2,s3,rfl,GZ,_,_,_,_,pv,_,_⟩:=h.Aa.at_ (i:=x) ic;rw[<-BS.cell (p:=⟨b',o'+x*5+4,none⟩) (hS b' GZ)]at pv;go_wp2
   .have q:(Ah c.Aa x).left<1:=by assumption
    have e1:J_ c t=some (x:Int):=by rw[<-hf.out,hd.out,if_pos (by simpa[Oz]using q)]
    go_ret2;exact⟨by rw[e1];rfl,BS⟩
   .have q:1<=(Ah c.Aa x).left:=by assumption
    go_roundg ((Av t).length - (k+1))
    case rel=>exact⟨k+1,by omega,rfl,by go_num,by rw[<-hf.out,hd.out,if_neg (by simp[Oz];omega)],rfl⟩
    case measure=>omega
  .have e1:J_ c t=none:=by rw[<-hf.out,Zz.2 (by omega)];rfl
   have E1:=Zb e1;clear hf e1;go_wp2;go_ret2;exact⟨by rw[E1.out];rfl,BS⟩
structure Cp where
 obs:Array Obj
 dr:Nat
instance:Nonempty Cp:=⟨⟨#[],0⟩⟩
def calm (w:Zc)(p:Cp):Zc:= {w with heap:=w.heap++p.obs,drawn:=p.dr}
def AO (h:Bl w W):∃p,W=calm w p:=by
 refine⟨⟨W.heap.extract w.heap.size W.heap.size,W.drawn⟩,?_⟩;obtain⟨h1,h2,h3,h4,h5⟩:=h;cases W with
 |mk heap tape drawn os output=>
  simp only at h1 h2 h3 h4 h5;subst h1 h2 h3;have:heap=w.heap++heap.extract w.heap.size heap.size:=by
   apply Zec;intro i;by_cases hi:i<w.heap.size
   .rw[zv hi,h5 i hi]
   .rw[Zaq (by omega),Zd3]
    split
    .rw[show w.heap.size+(i - w.heap.size)=i by omega]
    .rw[YX (by omega)]
  unfold calm;simp only;rw[<-this]
def BA (w:Zc)(p:Cp):Bl w (calm w p):=
 ⟨rfl,rfl,rfl,by simp[calm],fun k hk=>by simp[calm,zv hk]⟩
def Al (p:Cp){a:Addr}(h:w.cell? a=some v):(calm w p).cell? a=some v:=
 ((BA w p).cell (Zy w _ h)).trans h
variable {P:Zp}
variable {a:Act}
def AH {id:Nat}{Q:Exit->Act->Zc->Prop}{l:List Oper}(hm:P.follows .mixedOrders=true)(hB:Region.lexB .any l.toArray=true)
 (h:wpQuiet P l.toArray (fun w'=>∃p,w'=calm w p) (fun a'=>∀w',(∃p,w'=calm w p)->Q .normal a' w') l a):(Yb id l.toArray true).wp P Q a w:=
 wp_region_quiet (C:=fun w'=>∃p,w'=calm w p) hm hB ⟨⟨#[],w.drawn+1⟩,by simp[calm]⟩ (by simpa using h)
variable {f:ZaV}
def Bc {p:Cp}(h:Calls P f args (calm w p) fun e w'=>e=.returned v/\YS (calm w p).heap.size (calm w p) w'):
  Calls P f args (calm w p) fun e aB=>e=.returned v/\∃q,aB=calm w q:=
 h.mono fun _ _ ⟨he,hb⟩=>⟨he,AO ((BA w p).trans (hb.mono (BA w p).size))⟩
structure FW (w:Zc)(n1:Nat)(xs:Array Ze)(m:Nat->Int)(wr:Zc):Prop where
 below:Bl w wr
 box:wr.heap[w.heap.size]?=some (.cells xs 112 (0,0))
 row:wr.heap[n1]?=some (.cells (U4 m) 150 (0,0))
def FW.later {wr:Zc}{n1:Nat}(h:FW w n1 xs m wr)(hB:Bl wr W):FW w n1 xs m W:=
 ⟨h.below.trans (hB.mono h.below.size),(hB.block _ (Za.1 h.box).1).trans h.box,(hB.block _ (Za.1 h.row).1).trans h.row⟩
def Ky (hook m b:Int)(p:Int×Int):Bool:=(decide (0<hook)&&J4 (m - hook - b) p)||J4 (m - b) p
def V9 (hook m:Int)(p:Int×Int):Nat->Int->Bool
 |0,_=>true
 |n+1,b=>Ky hook m b p&&V9 hook m p n (b+1)
def PM (hook m:Int)(p r:Int×Int):Bool:=V9 hook m p (r.2+1 - r.1).toNat r.1
def V_ (c:A4)(m:Nat->Int):Nat->List (Int×Int)->Bool
 |_,[]=>true
 |i,r::s=>PM (nth c.hooks i) (m i) (BF c.Af i) r&&V_ c m (i+1) s
def D1 (c:A4)(l:List Int)(s:List (Int×Int)):Bool:=V_ c (measure c l) 0 s
def ie {s:List (Int×Int)}(h:k<s.length):V_ c m k (s.drop k)=(PM (nth c.hooks k) (m k) (BF c.Af k) (BF s k)&&V_ c m (k+1) (s.drop (k+1))):=by
 obtain⟨hk,e⟩:=Zl.1 (DH h);rw[Zu hk,e]
 rfl
def ig {m:Int}{b e:Int}(h:b<=e):V9 hook m p (e+1 - b).toNat b=(Ky hook m b p&&V9 hook m p (e+1 - (b+1)).toNat (b+1)):=by
 rw[show(e+1 - b).toNat=(e+1 - (b+1)).toNat+1 by omega]
 rfl
def nG {m:Int}{b e:Int}(h:e<b):V9 hook m p (e+1 - b).toNat b=true:=by
 rw[show(e+1 - b).toNat=0 by omega]
 rfl
def OA {n:Int}(hn: -2<=n/\n<=2):∀(l:List (Int×Int)) (m:Nat->Int) (N:Int),(∀p∈l,-4<=p.2/\p.2<=4)->(∀j,-N<=m j/\m j<=N)->∀j,-(N+8*l.length)<=Bz m n l j/\Bz m n l j<=N+8*l.length
 | [],m,N,_,h=>fun j=>by have:=h j;simpa[Bz,ET]using this
 |p::r,m,N,hp,h=>fun j=>by
  have h1:=Ia (p:=p) h (hp p (zo ..)) hn;have h2:=OA hn r (Ir m n p) (N+8) (fun q hq=>hp q (Z9 _ hq)) h1 j;have e:((p::r).length:Int)=r.length+1:=by simp
  rw[e];show -_<=Bz (Ir m n p) n r j/\Bz (Ir m n p) n r j<=_;omega
def QH:∀(l:List (Int×Aq)) (m:Nat->Int) (N:Int),(∀x∈l,(-2<=x.1/\x.1<=2)/\x.2.Ak.length<=2/\∀p∈x.2.Ak,-4<=p.2/\p.2<=4)->(∀j,-N<=m j/\m j<=N)->∀j,-(N+16*l.length)<=ET m l j/\ET m l j<=N+16*l.length
 | [],m,N,_,h=>fun j=>by have:=h j;simpa[Bz,ET]using this
 |x::r,m,N,hx,h=>fun j=>by
  obtain⟨h1,h2,h3⟩:=hx x (zo ..);have h4:=OA h1 x.2.Ak m N h3 h;have h5:∀j,-(N+16)<=Bz m x.1 x.2.Ak j/\Bz m x.1 x.2.Ak j<=N+16:=fun j=>by have:=h4 j;omega
  have h6:=QH r (Bz m x.1 x.2.Ak) (N+16) (fun q hq=>hx q (Z9 _ hq)) h5 j;have e:((x::r).length:Int)=r.length+1:=by simp
  rw[e];show -_<=ET (Bz m x.1 x.2.Ak) r j/\ET (Bz m x.1 x.2.Ak) r j<=_;omega
def sk {l:List (Int×Int)}(h:p∈l):∃k,k<l.length/\BF l k=p:=by
 obtain⟨k,hk,e⟩:=Yo h;exact⟨k,hk,by simp[BF,hk,e]⟩
def kH {p:Int}(h:p∈l):∃k,k<l.length/\nth l k=p:=by
 obtain⟨k,hk,e⟩:=Yo h;exact⟨k,hk,by simp[nth,hk,e]⟩
def dm {l:List Aq}{p:Aq}(h:p∈l):∃k,k<l.length/\Ah l k=p:=by
 obtain⟨k,hk,e⟩:=Yo h;exact⟨k,hk,by simp[Ah,hk,e]⟩
def U5 (hv:FB c)(hn:l.length<=c.Aa.length)(hb:∀i,i<l.length->-2<=nth l i/\nth l i<=2):∀j,-108<=measure c l j/\measure c l j<=108:=by
 intro j;have h1:=QH (l.zip c.Aa) (fun j=>nth c.base j) 60 (fun x hx=>by
  obtain⟨h2,h3⟩:=List.of_mem_zip (a:=x.1) (b:=x.2) hx;obtain⟨k,hk,e⟩:=kH h2;obtain⟨i,hi,e2⟩:=dm h3;refine⟨by rw[<-e];exact hb k hk,by rw[<-e2];exact(hv.Ak i hi).2,fun p hp=>?_⟩;rw[<-e2]at hp;obtain⟨q,hq,e3⟩:=sk hp;have:=hv.pull i hi q hq;rw[e3]at this;omega) (J8 hv) j
 have h2:(l.zip c.Aa).length<=3:=by
  have:=hv.few;simp only[List.length_zip];omega
 unfold measure;omega
def ajh {s:List (Int×Int)}(h:RC S w v1 v2 v3 v4 v5 c)(hv:FB c)(hl:SI S w v6 l)(hs:SP S w v7 s)(hn:l.length<=c.Aa.length)(hb:∀i,i<l.length->-2<=nth l i/\nth l i<=2)
 (hsn:s.length<=c.base.length) (kI:∀i,i<s.length->0<=(BF s i).1/\(BF s i).1<=99/\0<=(BF s i).2/\(BF s i).2<=99) (hS:∀b,S b->b<w.heap.size) (s0 s1 s2:Nat):
  Calls Lp 126 #[.agg #[v1,v2,v3,v4,v5,J .u8 s0,J .u8 s1,J .u8 s2],v6,v7] w fun e w'=>e=.returned (.bool (D1 c l s))/\Bl w w':=by
 have GN:∀j,-108<=measure c l j/\measure c l j<=108:=U5 hv hn hb;obtain⟨a1,c1,rfl,l1,m1⟩:=h.base.val;obtain⟨a2,c2,rfl,l2,m2⟩:=h.Af.val;obtain⟨a3,c3,rfl,l3,m3⟩:=h.hooks.val;obtain⟨a4,c4,rfl,l4,m4⟩:=h.Aa.val;obtain⟨a5,c5,rfl,l5,m5⟩:=h.now.val;obtain⟨a6,c6,rfl,l6,m6⟩:=hl.val;obtain⟨a7,c7,rfl,l7,m7⟩:=hs.val;have Gx:=CI;have Bb:Bl w (w.alloc (.cells #[U a1 c.base.length c1,U a2 c.Af.length c2,U a3 c.hooks.length c3,U a4 c.Aa.length c4,U a5 c.now.length c5,J .u8 s0,J .u8 s1,J .u8 s2] 112)):=(Zg _ _).alloc (Zj _) _;have nH:=Zb (fun W hB=>aj9 (w:=W) (h.later hB) hv (hl.later hB) hn hb (AE hS hB) s0 s1 s2);obtain⟨m,hm⟩:∃m,m=measure c l:=⟨_,rfl⟩;have HE:=Zb (show D1 c l s=V_ c m 0 (s.drop 0) by rw[hm];rfl);rw[<-hm]at nH GN;clear hm;have hg:=hv.EG;have HEL:=Zb hv.QG;have HHL:=Zb hv.hooks;go_enter Lp.func126,apD;go_wp2_with (go_at_call 113;refine(nH.out _ Bb).mono ?_;rintro e w1 ⟨rfl,AW⟩;obtain⟨ND,Kx⟩:=DV AW);obtain⟨W3,H3⟩:∃W3,W3=w1.alloc (.cells #[J I (m 0),J I (m 1),J I (m 2)] 150):=⟨_,rfl⟩;have hF0:FW w w1.heap.size #[U a1 c.base.length c1,U a2 c.Af.length c2,U a3 c.hooks.length c3,U a4 c.Aa.length c4,U a5 c.now.length c5,J .u8 s0,J .u8 s1,J .u8 s2] m W3:=by
  rw[H3];refine⟨bA (Bb.trans (AW.mono Bb.size)),Bo ?_ _,Bt _ _⟩;rw[AW.block _ (by simp)];exact Bt _ _
 rw[<-H3];clear H3 ND Kx nH;go_loopg [17] s.length (fun g i wr=>∃k:Nat,k<=s.length/\g=s.length - k/\i=.int I k/\V_ c m k (s.drop k)=D1 c l s/\FW w w1.heap.size #[U a1 c.base.length c1,U a2 c.Af.length c2,U a3 c.hooks.length c3,U a4 c.Aa.length c4,U a5 c.now.length c5,J .u8 s0,J .u8 s1,J .u8 s2] m wr)
 case atStart=>exact⟨0,Zn _,rfl,rfl,HE.out.symm,hF0⟩
 case round=>
  obtain⟨k,hk,rfl,rfl,Cn,hF⟩:=hrel;have hf:=Zb Cn;clear Cn;by_cases AA:k<s.length
  .have hd:=Zb (ie (c:=c) (m:=m) AA)
   have hkb:k<c.base.length:=by omega
   have aI:k<c.Af.length:=by rw[HEL.out];exact hkb
   have hkh:k<c.hooks.length:=by rw[HHL.out];exact hkb
   have Ow:k<3:=by omega
   have Rh:(k:Int)<3:=by omega
   obtain⟨b7,o7,rfl,U2,p1,p2⟩:=hs.at_ AA;rw[<-hF.below.cell (p:=⟨b7,o7+k*2,none⟩) (hS b7 U2)]at p1;rw[<-hF.below.cell (p:=⟨b7,o7+k*2+1,none⟩) (hS b7 U2)]at p2;have hE:=hv.Af k aI;have hH:=hv.hook k hkh;obtain⟨aE,QX,hr3,hr4⟩:=kI k AA;obtain⟨b2,o2,rfl,EA,d1,d2⟩:=h.Af.at_ aI;obtain⟨b3,o3,rfl,Xr,d3⟩:=h.hooks.at_ hkh;obtain⟨r,hrr⟩:∃r,r=BF s k:=⟨_,rfl⟩;obtain⟨ep,hep⟩:∃r,r=BF c.Af k:=⟨_,rfl⟩;obtain⟨hook,dp⟩:∃r,r=nth c.hooks k:=⟨_,rfl⟩;rw[<-hrr]at p1 p2 aE QX hr3 hr4 hd;rw[<-hep]at d1 d2 hE hd;rw[<-dp]at d3 hH hd;clear hrr hep dp;obtain⟨lo,hi⟩:=r;obtain⟨e1,e2⟩:=ep;dsimp only at p1 p2 aE QX hr3 hr4 d1 d2 hE;have hwl:=hF.below.size;have Wa:=hF.later ((Zg wr.heap.size wr).alloc (Zj _) (.cells #[J I lo,J I hi] 80));obtain⟨W5,JO⟩:∃W5,W5=wr.alloc (.cells #[J I lo,J I hi] 80):=⟨_,rfl⟩;have hQ0:W5.heap[wr.heap.size]?=some (.cells #[J I lo,J I hi] 80 (0,0)):=by rw[JO];exact Bt _ _
   rw[<-JO]at Wa;have e0:W5.cell? ⟨wr.heap.size,0,none⟩=some (J I lo):=ch hQ0 rfl;have HW:=Zb JO;clear JO;go_wp2;rw[<-HW.out];go_loopg [10] ((hi+1 - lo).toNat) (fun g i wx=>∃x:Int,0<=x/\x<=100/\g=(hi+1 - x).toNat/\i=.int I x/\V9 hook (m k) (e1,e2) (hi+1 - x).toNat x=PM hook (m k) (e1,e2) (lo,hi)/\FW w w1.heap.size #[U a1 c.base.length c1,U (some ⟨b2,o2,none⟩) c.Af.length c2,U (some ⟨b3,o3,none⟩) c.hooks.length c3,U a4 c.Aa.length c4,U a5 c.now.length c5,J .u8 s0,J .u8 s1,J .u8 s2] m wx/\wx.heap[wr.heap.size]?=some (.cells #[J I lo,J I hi] 80 (0,0)))
   case atStart=>exact⟨lo,aE,by omega,rfl,rfl,rfl,Wa,hQ0⟩
   case round=>
    obtain⟨x,Ll,O5,rfl,rfl,eK,TQ,hQ⟩:=hrel;have eI:=Zb eK;clear eK;have q1c:=ch (i:=1) hQ (v:=.int I hi) rfl;by_cases hle:x<=hi
    .have hsu:=Zb (ig (hook:=hook) (m:=m k) (p:=(e1,e2)) hle)
     have hmk:=GN k;have z1:=fun p=>Al p (ch (i:=2) TQ.box (v:=.slice (some ⟨b3,o3,none⟩) c.hooks.length c3) rfl);have z2:=fun p=>Al p (ch (i:=1) TQ.box (v:=.slice (some ⟨b2,o2,none⟩) c.Af.length c2) rfl);have z3:=fun p=>Al p (ch (i:=k) TQ.row (GH Ow));have z4:=fun p=>Al p ((TQ.below.cell (p:=⟨b2,o2+k*2,none⟩) (hS b2 EA)).trans d1);have z5:=fun p=>Al p ((TQ.below.cell (p:=⟨b2,o2+k*2+1,none⟩) (hS b2 EA)).trans d2);have z6:=fun p=>Al p ((TQ.below.cell (p:=⟨b3,o3+k,none⟩) (hS b3 Xr)).trans d3);have iw1:IntKind.i64.wrap (m k - hook)=m k - hook:=ZcG _ (by omega);have iw2:IntKind.i64.wrap (m k - hook - x)=m k - hook - x:=ZcG _ (by omega);have iw3:IntKind.i64.wrap (m k - x)=m k - x:=ZcG _ (by omega);have Q2:=Zb (fun W=>aj0 (m k - x) e1 e2 W);have Q1:=Zb (fun W=>aj0 (m k - hook - x) e1 e2 W);cases nI:decide (0<hook) with
     |true=>
      cases XL:J4 (m k - hook - x) (e1,e2) with
      |true=>
       rw[XL]at Q1;have xn:=Zb (show Ky hook (m k) x (e1,e2)=true by rw[Ky,nI,XL];rfl);have hh:0<hook:=of_decide_eq_true nI;clear nI XL;go_wp2;refine AH (by kernel_rfl) (by kernel_rfl) ?_
       repeat (first|go_big_quiet_step ((go_at_call 161;exact Bc (Q1.out _)))|quiet_step ((go_at_call 161;exact Bc (Q1.out _))))
       refine zD ?_;rintro _ ⟨p,rfl⟩;have JF:=BA wr p;obtain⟨wy,kJ⟩:∃wy,wy=calm wr p:=⟨_,rfl⟩;rw[<-kJ]at JF⊢;clear kJ z1 z2 z3 z4 z5 z6;have Jd:=TQ.later JF;have aJ:=(JF.block _ (Za.1 hQ).1).trans hQ;have y1:=fun p=>Al p (ch (i:=1) Jd.box (v:=.slice (some ⟨b2,o2,none⟩) c.Af.length c2) rfl);have y3:=fun p=>Al p (ch (i:=k) Jd.row (GH Ow));have y4:=fun p=>Al p ((Jd.below.cell (p:=⟨b2,o2+k*2,none⟩) (hS b2 EA)).trans d1);have y5:=fun p=>Al p ((Jd.below.cell (p:=⟨b2,o2+k*2+1,none⟩) (hS b2 EA)).trans d2);go_wp2;refine AH (by kernel_rfl) (by kernel_rfl) ?_
       repeat (first|go_big_quiet_step (fail)|quiet_step (fail))
       refine zD ?_;rintro _ ⟨p2,rfl⟩;have H_:=BA wy p2;obtain⟨wz,XM⟩:∃wz,wz=calm wy p2:=⟨_,rfl⟩;rw[<-XM]at H_⊢;clear XM y1 y3 y4 y5;have U6:=Jd.later H_;have hQ5:=(H_.block _ (Za.1 aJ).1).trans aJ;go_wp2;go_roundg ((hi+1 - (x+1)).toNat)
       case rel=>exact⟨x+1,by omega,by omega,rfl,rfl,by rw[<-eI.out,hsu.out,xn.out];rfl,U6,hQ5⟩
       case measure=>omega
      |false=>
       cases Nk:J4 (m k - x) (e1,e2) with
       |true=>
        rw[XL]at Q1;rw[Nk]at Q2;have xn:=Zb (show Ky hook (m k) x (e1,e2)=true by rw[Ky,nI,XL,Nk];rfl);have hh:0<hook:=of_decide_eq_true nI;clear nI XL;clear Nk;go_wp2;refine AH (by kernel_rfl) (by kernel_rfl) ?_
        repeat (first|go_big_quiet_step ((go_at_call 161;exact Bc (Q1.out _)))|quiet_step ((go_at_call 161;exact Bc (Q1.out _))))
        refine zD ?_;rintro _ ⟨p,rfl⟩;have JF:=BA wr p;obtain⟨wy,kJ⟩:∃wy,wy=calm wr p:=⟨_,rfl⟩;rw[<-kJ]at JF⊢;clear kJ z1 z2 z3 z4 z5 z6;have Jd:=TQ.later JF;have aJ:=(JF.block _ (Za.1 hQ).1).trans hQ;have y1:=fun p=>Al p (ch (i:=1) Jd.box (v:=.slice (some ⟨b2,o2,none⟩) c.Af.length c2) rfl);have y3:=fun p=>Al p (ch (i:=k) Jd.row (GH Ow));have y4:=fun p=>Al p ((Jd.below.cell (p:=⟨b2,o2+k*2,none⟩) (hS b2 EA)).trans d1);have y5:=fun p=>Al p ((Jd.below.cell (p:=⟨b2,o2+k*2+1,none⟩) (hS b2 EA)).trans d2);go_wp2;refine AH (by kernel_rfl) (by kernel_rfl) ?_
        repeat (first|go_big_quiet_step ((go_at_call 161;exact Bc (Q2.out _)))|quiet_step ((go_at_call 161;exact Bc (Q2.out _))))
        refine zD ?_;rintro _ ⟨p2,rfl⟩;have H_:=BA wy p2;obtain⟨wz,XM⟩:∃wz,wz=calm wy p2:=⟨_,rfl⟩;rw[<-XM]at H_⊢;clear XM y1 y3 y4 y5;have U6:=Jd.later H_;have hQ5:=(H_.block _ (Za.1 aJ).1).trans aJ;go_wp2;go_roundg ((hi+1 - (x+1)).toNat)
        case rel=>exact⟨x+1,by omega,by omega,rfl,rfl,by rw[<-eI.out,hsu.out,xn.out];rfl,U6,hQ5⟩
        case measure=>omega
       |false=>
        rw[XL]at Q1;rw[Nk]at Q2;have xn:=Zb (show Ky hook (m k) x (e1,e2)=false by rw[Ky,nI,XL,Nk];rfl);have hh:0<hook:=of_decide_eq_true nI;clear nI XL;clear Nk;go_wp2;refine AH (by kernel_rfl) (by kernel_rfl) ?_
        repeat (first|go_big_quiet_step ((go_at_call 161;exact Bc (Q1.out _)))|quiet_step ((go_at_call 161;exact Bc (Q1.out _))))
        refine zD ?_;rintro _ ⟨p,rfl⟩;have JF:=BA wr p;obtain⟨wy,kJ⟩:∃wy,wy=calm wr p:=⟨_,rfl⟩;rw[<-kJ]at JF⊢;clear kJ z1 z2 z3 z4 z5 z6;have Jd:=TQ.later JF;have aJ:=(JF.block _ (Za.1 hQ).1).trans hQ;have y1:=fun p=>Al p (ch (i:=1) Jd.box (v:=.slice (some ⟨b2,o2,none⟩) c.Af.length c2) rfl);have y3:=fun p=>Al p (ch (i:=k) Jd.row (GH Ow));have y4:=fun p=>Al p ((Jd.below.cell (p:=⟨b2,o2+k*2,none⟩) (hS b2 EA)).trans d1);have y5:=fun p=>Al p ((Jd.below.cell (p:=⟨b2,o2+k*2+1,none⟩) (hS b2 EA)).trans d2);go_wp2;refine AH (by kernel_rfl) (by kernel_rfl) ?_
        repeat (first|go_big_quiet_step ((go_at_call 161;exact Bc (Q2.out _)))|quiet_step ((go_at_call 161;exact Bc (Q2.out _))))
        refine zD ?_;rintro _ ⟨p2,rfl⟩;have H_:=BA wy p2;obtain⟨wz,XM⟩:∃wz,wz=calm wy p2:=⟨_,rfl⟩;rw[<-XM]at H_⊢;clear XM y1 y3 y4 y5;have U6:=Jd.later H_;have hQ5:=(H_.block _ (Za.1 aJ).1).trans aJ;go_wp2;have e5:PM hook (m k) (e1,e2) (lo,hi)=false:=by rw[<-eI.out,hsu.out,xn.out];rfl
        have e6:D1 c l s=false:=by rw[<-hf.out,hd.out,e5];rfl
        go_ret;exact⟨by rw[e6];rfl,U6.below⟩
     |false=>
      cases Nk:J4 (m k - x) (e1,e2) with
      |true=>
       rw[Nk]at Q2;have xn:=Zb (show Ky hook (m k) x (e1,e2)=true by rw[Ky,nI,Nk];rfl);clear Nk;go_wp2;refine AH (by kernel_rfl) (by kernel_rfl) ?_
       repeat (first|go_big_quiet_step (fail)|quiet_step (fail))
       refine zD ?_;rintro _ ⟨p,rfl⟩;have JF:=BA wr p;obtain⟨wy,kJ⟩:∃wy,wy=calm wr p:=⟨_,rfl⟩;rw[<-kJ]at JF⊢;clear kJ z1 z2 z3 z4 z5 z6;have Jd:=TQ.later JF;have aJ:=(JF.block _ (Za.1 hQ).1).trans hQ;have y1:=fun p=>Al p (ch (i:=1) Jd.box (v:=.slice (some ⟨b2,o2,none⟩) c.Af.length c2) rfl);have y3:=fun p=>Al p (ch (i:=k) Jd.row (GH Ow));have y4:=fun p=>Al p ((Jd.below.cell (p:=⟨b2,o2+k*2,none⟩) (hS b2 EA)).trans d1);have y5:=fun p=>Al p ((Jd.below.cell (p:=⟨b2,o2+k*2+1,none⟩) (hS b2 EA)).trans d2);go_wp2;refine AH (by kernel_rfl) (by kernel_rfl) ?_
       repeat (first|go_big_quiet_step ((go_at_call 161;exact Bc (Q2.out _)))|quiet_step ((go_at_call 161;exact Bc (Q2.out _))))
       refine zD ?_;rintro _ ⟨p2,rfl⟩;have H_:=BA wy p2;obtain⟨wz,XM⟩:∃wz,wz=calm wy p2:=⟨_,rfl⟩;rw[<-XM]at H_⊢;clear XM y1 y3 y4 y5;have U6:=Jd.later H_;have hQ5:=(H_.block _ (Za.1 aJ).1).trans aJ;go_wp2;go_roundg ((hi+1 - (x+1)).toNat)
       case rel=>exact⟨x+1,by omega,by omega,rfl,rfl,by rw[<-eI.out,hsu.out,xn.out];rfl,U6,hQ5⟩
       case measure=>omega
      |false=>
       rw[Nk]at Q2;have xn:=Zb (show Ky hook (m k) x (e1,e2)=false by rw[Ky,nI,Nk];rfl);clear Nk;go_wp2;refine AH (by kernel_rfl) (by kernel_rfl) ?_
       repeat (first|go_big_quiet_step (fail)|quiet_step (fail))
       refine zD ?_;rintro _ ⟨p,rfl⟩;have JF:=BA wr p;obtain⟨wy,kJ⟩:∃wy,wy=calm wr p:=⟨_,rfl⟩;rw[<-kJ]at JF⊢;clear kJ z1 z2 z3 z4 z5 z6;have Jd:=TQ.later JF;have aJ:=(JF.block _ (Za.1 hQ).1).trans hQ;have y1:=fun p=>Al p (ch (i:=1) Jd.box (v:=.slice (some ⟨b2,o2,none⟩) c.Af.length c2) rfl);have y3:=fun p=>Al p (ch (i:=k) Jd.row (GH Ow));have y4:=fun p=>Al p ((Jd.below.cell (p:=⟨b2,o2+k*2,none⟩) (hS b2 EA)).trans d1);have y5:=fun p=>Al p ((Jd.below.cell (p:=⟨b2,o2+k*2+1,none⟩) (hS b2 EA)).trans d2);go_wp2;refine AH (by kernel_rfl) (by kernel_rfl) ?_
       repeat (first|go_big_quiet_step ((go_at_call 161;exact Bc (Q2.out _)))|quiet_step ((go_at_call 161;exact Bc (Q2.out _))))
       refine zD ?_;rintro _ ⟨p2,rfl⟩;have H_:=BA wy p2;obtain⟨wz,XM⟩:∃wz,wz=calm wy p2:=⟨_,rfl⟩;rw[<-XM]at H_⊢;clear XM y1 y3 y4 y5;have U6:=Jd.later H_;have hQ5:=(H_.block _ (Za.1 aJ).1).trans aJ;go_wp2;have e5:PM hook (m k) (e1,e2) (lo,hi)=false:=by rw[<-eI.out,hsu.out,xn.out];rfl
       have e6:D1 c l s=false:=by rw[<-hf.out,hd.out,e5];rfl
       go_ret;exact⟨by rw[e6];rfl,U6.below⟩
    .have e5:PM hook (m k) (e1,e2) (lo,hi)=true:=by rw[<-eI.out];exact nG (by omega)
     have E5:=Zb e5;clear e5 eI;go_wp2;go_roundg (s.length - (k+1))
     case rel=>exact⟨k+1,by omega,rfl,by go_num,by rw[<-hf.out,hd.out,E5.out];rfl,TQ⟩
     case measure=>omega
  .have e1:D1 c l s=true:=by rw[<-hf.out,Zz.2 (by omega)];rfl
   have E1:=Zb e1;clear e1 hf;go_wp2;go_ret;exact⟨by rw[E1.out];rfl,hF.below⟩
section
variable {P:Zp}{ops:Array Oper}{Q:Exit->Act->Zc->Prop}{md:YU}{S:Zc->Prop}{T:Nat->Zc->Prop}
def CH (P:Zp)(md:YU)(ops:Array Oper)(Q:Exit->Act->Zc->Prop)(T:Nat->Zc->Prop):Nat->Array Bool->Act->Zc->Prop
 |0,listed,a,w=>zw md ops listed=[]/\Q .normal a w
 |f+1,listed,a,w=>(zw md ops listed=[]->Q .normal a w)/\∀i∈zw md ops listed,wpOp P ops Q i (fun a' w'=>T i w'/\CH P md ops Q T f (listed.setIfInBounds i true) a' w') a w
def J':∀(f:Nat) (listed:Array Bool) (a:Act) (w:Zc),CH P md ops Q T f listed a w->wpAny P md ops Q f listed a w
 |0,_,_,_,h=>h
 |f+1,_,_,_,h=>⟨h.1,fun i hi=>Zch (fun a' w' x=>J' f _ a' w' x.2) (h.2 i hi)⟩
def XN (md:YU)(ops:Array Oper)(j i:Nat):Bool:=match ops[j]? with|some o=>o.after.any fun e=>Yu md e&&e.on==i|none=>false
variable {o oi:Oper}
def nJ (ho:ops[j]?=some o)(h:∀e∈o.after,Yu md e=true->e.on≠i):XN md ops j i=false:=by
 unfold XN;rw[ho];cases hb:o.after.any fun e=>Yu md e&&e.on==i with
 |false=>exact hb
 |true=>
  obtain⟨e,he,hx⟩:=Array.any_eq_true'.1 hb;simp only[ZI,beq_iff_eq]at hx;exact absurd hx.2 (h e he hx.1)
def OB (hi:ops[i]?=some oi)(hs:YM ops=true)(hQ:∀c a w,Q (.panic c) (a.put oi.dst v) w->Q (.panic c) a w)
 (hT:∀w,S w->T i w) (su:∀j,XN md ops j i=true\/∀w,T j w->S w):
  ∀(f:Nat) (listed:Array Bool) (a:Act) (w:Zc),Za9 md ops listed i=true->i∈zw md ops listed->ZbK P ops S oi v a->S w->
   CH P md ops Q T f (listed.setIfInBounds i true) (a.put oi.dst v) w->CH P md ops Q T (f+1) listed a w:=by
 have I8:=Zdx hs;have key:∀(f:Nat) (listed:Array Bool) (a:Act) (w:Zc),(∀j oj,ops[j]?=some oj->j≠i->listed.getD j true=false->(∀e∈oj.after,Yu md e=true->e.on≠i)->oi.apart ops oj=true)->
   i∈zw md ops listed->ZbK P ops S oi v a->S w->CH P md ops Q T f (listed.setIfInBounds i true) (a.put oi.dst v) w->CH P md ops Q T (f+1) listed a w:=by
  intro f
  induction f with
  |zero=>
   intro listed a w _ hr hy hS H;refine⟨fun h=>(by rw[h]at hr;cases hr),fun j hj=>?_⟩;by_cases Ku:j=i
   .subst Ku;exact hy.wpOp hi hS ⟨hT _ hS,H⟩
   .have:=ZbU hj Ku
    rw[H.1]at this;cases this
  |succ f ih=>
   intro listed a w Qi hr hy hS H;refine⟨fun h=>(by rw[h]at hr;cases hr),fun j hj=>?_⟩;by_cases Ku:j=i
   .subst Ku;exact hy.wpOp hi hS ⟨hT _ hS,H⟩
   .have h1:=H.2 j (ZbU hj Ku)
    obtain⟨sx,oj,py,Eb⟩:=ZcX.1 hj;have hun:listed.getD i false=false:=by
     have h0:=(ZcX.1 hr).1;rcases Zaw i listed.size with h'|h'
     .simp[h']at h0⊢;exact h0
     .simp[YX h']
    have xp:∀e∈oj.after,Yu md e=true->e.on≠i:=fun e he hb heq=>by
     have:=Eb e he hb;rw[heq,hun]at this;cases this
    have pz:∀w,T j w->S w:=(su j).resolve_left (by rw[nJ py xp];decide);have h2:=wpOp_putIf py (Qi j oj py Ku sx xp) (fun cs b=>I8 i oi cs b hi) (fun cs b=>I8 j oj cs b py) hQ hy h1;have ij:∀k ok,ops[k]?=some ok->k≠i->(listed.setIfInBounds j true).getD k true=false->
      (∀e∈ok.after,Yu md e=true->e.on≠i)->oi.apart ops ok=true:=fun k ok hk Rh sA K9=>by
     refine Qi k ok hk Rh ?_ K9;by_cases di:j=k
     .subst di;exact sx
     .rw[Zdc true di]at sA;exact sA
    refine Zch (fun a' w' h3=>⟨h3.2.1,ih (listed.setIfInBounds j true) a' w' ij (ZbU hr (Zbq Ku)) h3.1 (pz _ h3.2.1) ?_⟩) h2;rw[Zda _ _ Ku];exact h3.2.2
 intro f listed a w hf;exact key f listed a w (Region.free_spec hi hf)
def Ec (P:Zp)(ops:Array Oper)(Q:Exit->Act->Zc->Prop)(T:Nat->Zc->Prop):List (Bool×Nat)->Act->Zc->Prop
 | [],a,w=>Q .normal a w
 |(false,i)::r,a,w=>wpOp P ops Q i (fun a' w'=>T i w'/\Ec P ops Q T r a' w') a w
 |(true,i)::r,a,w=>∃o v,ops[i]?=some o/\ZbK P ops (fun _=>True) o v a/\Ec P ops Q T r (a.put o.dst v) w
def hvB (md:YU)(ops:Array Oper)(lates:List Nat):List (Bool×Nat)->Array Bool->Bool
 | [],listed=>(zw md ops listed).isEmpty
 |(false,i)::r,listed=>decide (zw md ops listed=[i])&&hvB md ops lates r (listed.setIfInBounds i true)
 |(true,i)::r,listed=>(zw md ops listed).contains i&&Za9 md ops listed i&&lates.contains i&&hvB md ops lates r (listed.setIfInBounds i true)
def FV (lates:List Nat)(S:Zc->Prop)(i:Nat)(w:Zc):Prop:=lates.contains i=true\/S w
def PN {lates:List Nat}(I8:YM ops=true)(hQ:∀c a d v w,Q (.panic c) (Zcp a d v) w->Q (.panic c) a w):
  ∀(hs:List (Bool×Nat)) (listed:Array Bool) (a:Act) (w:Zc),hvB md ops lates hs listed=true->Ec P ops Q (FV lates S) hs a w->CH P md ops Q (FV lates S) hs.length listed a w
 | [],_,_,_,hB,h=>⟨by simpa[hvB]using hB,h⟩
 |(false,i)::r,listed,a,w,hB,h=>by
  simp only[hvB,ZI,decide_eq_true_eq]at hB;refine⟨fun h0=>(by rw[hB.1]at h0;cases h0),fun j hj=>?_⟩;rw[hB.1]at hj;have:j=i:=by simpa using hj
  subst this;exact Zch (fun a' w' x=>⟨x.1,PN I8 hQ r _ a' w' hB.2 x.2⟩) h
 |(true,i)::r,listed,a,w,hB,h=>by
  simp only[hvB,ZI]at hB;obtain⟨o,v,ho,hy,h⟩:=h;exact OB (S:=fun _=>True) (f:=r.length) ho I8 (fun c a w x=>hQ c a o.dst v w x) (fun w _=>.inl hB.1.2) (fun j=>.inr fun _ _=>trivial) listed a w hB.1.1.2 (by simpa using hB.1.1.1) hy trivial (PN I8 hQ r _ _ w hB.2 h)
def ltB (md:YU)(ops:Array Oper)(lates:List Nat)(next:Array Bool->Bool):List Nat->Array Bool->Bool
 | [],listed=>next listed
 |i::r,listed=>(zw md ops listed).contains i&&Za9 md ops listed i&&(lates.all fun j=>XN md ops j i)&&ltB md ops lates next r (listed.setIfInBounds i true)
def Sc (o:Oper):Bool:=match o.op with| .load .. | .fieldAddr .. | .indexAddr .. | .move .. =>true|_=>false
def Nl (P:Zp)(ops:Array Oper)(S:Zc->Prop)(K:Act->Prop):List Nat->Act->Prop
 | [],a=>K a
 |i::r,a=>∃o v,ops[i]?=some o/\ZbK P ops S o v a/\Nl P ops S K r (a.put o.dst v)
def Md {lates:List Nat}{w:Zc}{next:Array Bool->Bool}{K:Act->Prop}{g:Nat}(I8:YM ops=true)(hQ:∀c a d v w,Q (.panic c) (Zcp a d v) w->Q (.panic c) a w)(hS:S w)
  (hK:∀listed a,next listed=true->K a->CH P md ops Q (FV lates S) g listed a w):
  ∀(ls:List Nat) (listed:Array Bool) (a:Act),ltB md ops lates next ls listed=true->Nl P ops S K ls a->CH P md ops Q (FV lates S) (g+ls.length) listed a w
 | [],listed,a,hB,h=>hK listed a hB h
 |i::r,listed,a,hB,h=>by
  simp only[ltB,ZI]at hB;obtain⟨o,v,ho,hy,h⟩:=h;refine OB (S:=S) (f:=g+r.length) ho I8 (fun c a w x=>hQ c a o.dst v w x) (fun w x=>.inr x) (fun j=>?_) listed a w hB.1.1.2 (by simpa using hB.1.1.1) hy hS (Md I8 hQ hS hK r _ _ hB.2 h);by_cases hj:lates.contains j=true
  .exact .inl (zt.1 hB.1.2 j (by simpa using hj))
  .exact .inr fun w x=>x.resolve_left hj
def Dm {id:Nat}{l:List Oper}(lates:List Nat)(hs:List (Bool×Nat))(ls:List Nat)(hm:P.follows .mixedOrders=true)(hQ:∀c a d v w,Q (.panic c) (Zcp a d v) w->Q (.panic c) a w)
 (hB:(YM l.toArray&&decide (hs.length+ls.length=l.toArray.size)&&ltB .any l.toArray lates (hvB .any l.toArray lates hs) ls (YD l.toArray.size false))=true) (hS:S w.drew)
 (h:Nl P l.toArray S (fun a'=>Ec P l.toArray Q (FV lates S) hs a' w.drew) ls a):(Yb id l.toArray true).wp P Q a w:=by
 simp only[ZI,decide_eq_true_eq]at hB;refine Zd4 hm (J' (T:=FV lates S) _ _ _ _ ?_);have:=Md hB.1.1 hQ hS (fun listed a h1 h2=>PN hB.1.1 hQ hs listed a w.drew h1 h2) ls _ a hB.2 h;rw[hB.1.2]at this;exact this
def dt (hl:Sc o=true){e:ZbX->Ze}{n:Next}(h:(ZbE e o).run P w=.ok n w'):∃v,n=.value v:=by
 unfold Sc at hl;unfold ZbE at h;split at hl<;>first|cases hl|skip
 all_goals
  rename_i hop;simp only[hop,zm,Sem.run_pure]at h
  first
   |(simp at h;exact⟨_,h.1.symm⟩)
   |(generalize Sem.run _ _ _=r at h;cases r<;>simp[zB]at h;exact⟨_,h.1.symm⟩)
def XO (hl:Sc o=true)(hw:Ym o (yielded ops a.tmps)=true)(h:∀w,S w->o.quietAt P a S w v):ZbK P ops S o v a:=by
 refine .inl ⟨hw,fun w hS=>?_⟩;have:=h w hS;unfold Oper.quietAt at this;generalize hr:(ZbE a.eval o).run P w=r at this⊢;cases r with
 |ok n w'=>
  obtain⟨u,rfl⟩:=dt hl hr;obtain⟨rfl,rfl⟩:=this
  rfl
 |halt x w'=>exact this.elim
def Br {K:Act->Prop}:∀(ls:List Nat) (a:Act),(ls.all fun i=>match ops[i]? with|some o=>Sc o|none=>false)=true->wpQuiet P ops S K (ls.filterMap fun i=>ops[i]?) a->Nl P ops S K ls a
 | [],a,_,h=>h
 |i::r,a,hl,h=>by
  simp only[Zba,ZI]at hl;cases ho:ops[i]? with
  |none=>rw[ho]at hl;cases hl.1
  |some o=>
   rw[ho]at hl;rw[zr,ho]at h;replace h:wpQuiet P ops S K (o::r.filterMap fun i=>ops[i]?) a:=h;unfold wpQuiet at h;split at h
   .next hw=>
    obtain⟨v,h1,h2⟩:=h;exact⟨o,v,ho,XO hl.1 hw h1,Br r _ hl.2 h2⟩
   .next hw=>exact⟨o,Zf,ho,.inr ⟨by simpa using hw,rfl⟩,Br r _ hl.2 h⟩
variable {r:List (Bool×Nat)}
def Ex (ho:ops[i]?=some o)(hg:o.guard=none)(hr:(ZbE a.eval o).run P w=.ok (.enter f args) w)
 (hc:Calls P f args w fun e w'=>∃v,e=.returned v/\T i w'/\Ec P ops Q T r (a.put o.dst v) w'):Ec P ops Q T ((false,i)::r) a w:=by
 unfold Ec wpOp;simp only[ho];rw[if_pos (by simp[Ym,hg])];refine .inl ?_;unfold ZbG;rw[hr,Zdf];refine hc.mono fun e w' ⟨v,he,h1,h2⟩=>?_;subst he;exact⟨h1,h2⟩
def OC (ho:ops[i]?=some o)(hg:o.guard=none)(hr:∀w,(ZbE a.eval o).run P w=.ok (.value v) w)
 (h:Ec P ops Q T r (a.put o.dst v) w):Ec P ops Q T ((true,i)::r) a w:=
 ⟨o,v,ho,.inl ⟨by simp[Ym,hg],fun w _=>hr w⟩,h⟩
def FC (ho:ops[i]?=some o)(hg:o.guard=none)(hr:(ZbE a.eval o).run P w=.ok (.value v) w)(hT:T i w)
 (h:Ec P ops Q T r (a.put o.dst v) w):Ec P ops Q T ((false,i)::r) a w:=by
 unfold Ec wpOp;simp only[ho];rw[if_pos (by simp[Ym,hg])];refine .inl ?_;unfold ZbG;rw[hr,Zde];exact⟨hT,h⟩
def Ly (ho:ops[i]?=some o)(hg:o.guard=none)(hr:(ZbE a.eval o).run P w=.ok .skip w')(hT:T i w')
 (h:Ec P ops Q T r (a.put o.dst Zf) w'):Ec P ops Q T ((false,i)::r) a w:=by
 unfold Ec wpOp;simp only[ho];rw[if_pos (by simp[Ym,hg])];refine .inl ?_;unfold ZbG;rw[hr,ZcR];exact⟨hT,h⟩
def Gl (ops:Array Oper):List (Bool×Nat)->List Oper
 | []=> []
 |(_,i)::r=>match ops[i]? with|some o=>o::Gl ops r|none=>Gl ops r
def Me:∀(hs:List (Bool×Nat)) (a:Act) (w:Zc),(hs.all fun x=> !x.1&&(ops[x.2]?).isSome)=true->(∀x∈hs,∀w,T x.2 w)->wpList P ops Q (Gl ops hs) a w->Ec P ops Q T hs a w
 | [],_,_,_,_,h=>h
 |(true,i)::r,a,w,hB,hT,h=>by simp at hB
 |(false,i)::r,a,w,hB,hT,h=>by
  simp only[Zba,ZI]at hB;obtain⟨o,ho⟩:=Option.isSome_iff_exists.1 hB.1.2;unfold Gl at h;rw[ho]at h;have hw:wpOp P ops Q i (wpList P ops Q (Gl ops r)) a w:=by unfold wpOp;simp only[ho];exact h
  exact Zch (fun a' w' x=>⟨hT _ (zo ..) _,Me r a' w' hB.2 (fun j hj=>hT j (Z9 _ hj)) x⟩) hw
end
structure Cq where
 obs:Array Obj
 dr:Nat
 obj:Obj
instance:Nonempty Cq:=⟨⟨#[],0,.cells #[] 0⟩⟩
def TR (w:Zc)(q:Nat)(p:Cq):Zc:= {w with heap:=(w.heap++p.obs).setIfInBounds q p.obj,drawn:=p.dr}
structure Cj (q:Nat)(w W:Zc):Prop where
 os:W.os=w.os
 tape:W.tape=w.tape
 output:W.output=w.output
 size:w.heap.size<=W.heap.size
 block:∀k,k<w.heap.size->k≠q->W.heap[k]?=w.heap[k]?
def Cj.refl (q:Nat)(w:Zc):Cj q w w:=⟨rfl,rfl,rfl,Zj _,fun _ _ _=>rfl⟩
def Cj.below {W':Zc}(h:Cj q w W)(hB:Bl W W'):Cj q w W':=
 ⟨hB.os.trans h.os,hB.tape.trans h.tape,hB.output.trans h.output,Zt h.size hB.size,fun k hk hq=>(hB.block k (Zm hk h.size)).trans (h.block k hk hq)⟩
def Cj.set (h:Cj q w W):Cj q w (W.setCell ⟨q,i,none⟩ v):=
 ⟨h.os,h.tape,h.output,by simpa using h.size,fun k hk hq=>(AY hq _).trans (h.block k hk hq)⟩
def BO (h:Cj q w W)(hq:q<w.heap.size):∃p,W=TR w q p:=by
 have hqW:q<W.heap.size:=Zm hq h.size;refine⟨⟨W.heap.extract w.heap.size W.heap.size,W.drawn,W.heap[q]⟩,?_⟩;obtain⟨h1,h2,h3,h4,h5⟩:=h;cases W with
 |mk heap tape drawn os output=>
  simp only at h1 h2 h3 h4 h5 hqW;subst h1 h2 h3;have:heap=(w.heap++heap.extract w.heap.size heap.size).setIfInBounds q heap[q]:=by
   apply Zec;intro i;by_cases hiq:q=i
   .subst hiq
    rw[Z5 (by simp;omega),ZC hqW]
   .rw[Zk hiq]
    by_cases hi:i<w.heap.size
    .rw[zv hi,h5 i hi (fun e=>hiq e.symm)]
    .rw[Zaq (by omega),Zd3]
     split
     .rw[show w.heap.size+(i - w.heap.size)=i by omega]
     .rw[YX (by omega)]
  unfold TR;simp only;rw[<-this]
def Cm (p:Cq){a:Addr}(h:w.cell? a=some v)(hq:a.block≠q):(TR w q p).cell? a=some v:=by
 have hb:=Zy w _ h;unfold zG at h⊢;have:(TR w q p).heap[a.block]?=w.heap[a.block]? :=by
  unfold TR;simp only;rw[Zk (Zbq hq),zv hb]
 rw[this];exact h
section
variable {P:Zp}{ops:Array Oper}{Q:Exit->Act->Zc->Prop}{md:YU}{S:Zc->Prop}{T:Nat->Zc->Prop}
def Hh {id:Nat}{l:List Oper}(ls:List Nat)(g:Nat)(Sd:Array Bool)(hm:P.follows .mixedOrders=true)(hQ:∀c a d v w,Q (.panic c) (Zcp a d v) w->Q (.panic c) a w)
 (hB:(YM l.toArray&&decide (g+ls.length=l.toArray.size)&&ltB .any l.toArray [] (fun L=>L==Sd) ls (YD l.toArray.size false))=true) (hS:S w.drew)
 (h:Nl P l.toArray S (fun a'=>CH P .any l.toArray Q (fun _=>S) g Sd a' w.drew) ls a):(Yb id l.toArray true).wp P Q a w:=by
 simp only[ZI,decide_eq_true_eq]at hB;have hT:(FV [] S:Nat->Zc->Prop)=fun _=>S:=by
  funext i w
  simp[FV]
 refine Zd4 hm (J' (T:=FV [] S) _ _ _ _ ?_);have:=Md (P:=P) (lates:=[]) (K:=fun a'=>CH P .any l.toArray Q (fun _=>S) g Sd a' w.drew) hB.1.1 hQ hS (fun listed a h1 h2=>by
  have e:listed=Sd:=eq_of_beq h1;rw[e,hT];exact h2) ls _ a hB.2 h
 rw[hB.1.2]at this;exact this
def Lz {K:Act->Prop}:∀(l r:List Nat) (a:Act),Nl P ops S (Nl P ops S K r) l a->Nl P ops S K (l++r) a
 | [],_,_,h=>h
 |_::l,r,_,⟨o,v,h1,h2,h3⟩=>⟨o,v,h1,h2,Lz l r _ h3⟩
variable {o oi:Oper}
def CJ {K:Act->Prop}{r:List Nat}(ho:ops[i]?=some o)(hg:o.guard=none)(hr:∀w,S w->(ZbE a.eval o).run P w=.ok (.value v) w)(h:Nl P ops S K r (a.put o.dst v)):Nl P ops S K (i::r) a:=
 ⟨o,v,ho,.inl ⟨by simp[Ym,hg],hr⟩,h⟩
def AM {f:Nat}{listed:Array Bool}(rs:List Nat)(hr:zw md ops listed=rs)(Bn:rs≠ [])(h:∀i∈rs,wpOp P ops Q i (fun a' w'=>T i w'/\CH P md ops Q T f (listed.setIfInBounds i true) a' w') a w):CH P md ops Q T (f+1) listed a w:=
 ⟨fun h0=>absurd (hr.symm.trans h0) Bn,by rw[hr];exact h⟩
variable {K:Act->Zc->Prop}
def DS (ho:ops[i]?=some o)(hg:o.guard=none)(hr:(ZbE a.eval o).run P w=.ok (.enter f args) w)
 (hc:Calls P f args w fun e w'=>(∃v,e=.returned v/\K (a.put o.dst v) w')\/∃x,e=.panicked x/\Q (.panic x) a w'):wpOp P ops Q i K a w:=by
 unfold wpOp;simp only[ho];rw[if_pos (by simp[Ym,hg])];refine .inl ?_;unfold ZbG;rw[hr,Zdf];refine hc.mono fun e w' h=>?_;rcases h with⟨v,rfl,h⟩|⟨x,rfl,h⟩
 .exact h
 .exact h
def Fe (ho:ops[i]?=some o)(hg:o.guard=none)(hr:(ZbE a.eval o).run P w=.ok (.value v) w')(h:K (a.put o.dst v) w'):wpOp P ops Q i K a w:=by
 unfold wpOp;simp only[ho];rw[if_pos (by simp[Ym,hg])];refine .inl ?_;unfold ZbG;rw[hr,Zde];exact h
def Se (ho:ops[i]?=some o)(hg:o.guard=none)(hr:(ZbE a.eval o).run P w=.ok .skip w')(h:K (a.put o.dst Zf) w'):wpOp P ops Q i K a w:=by
 unfold wpOp;simp only[ho];rw[if_pos (by simp[Ym,hg])];refine .inl ?_;unfold ZbG;rw[hr,ZcR];exact h
def BL {p:Nat->Prop}(h:p i):∀j∈ [i],p j:=fun j hj=>by
 rw[YB.1 hj];exact h
def II {p:Nat->Prop}(h:p i)(h2:p k):∀j∈ [i,k],p j:=fun j hj=>by
 rcases List.mem_cons.1 hj with rfl|hj
 .exact h
 .exact BL h2 j hj
end
section
variable {P:Zp}{ops:Array Oper}{Q:Exit->Act->Zc->Prop}{md:YU}{S:Zc->Prop}{T:Nat->Zc->Prop}
def Nm (md:YU)(ops:Array Oper):Nat->Nat->Nat->Bool
 |0,_,_=>false
 |f+1,j,i=>match ops[j]? with|some o=>o.after.any fun e=>Yu md e&&(e.on==i||Nm md ops f e.on i)|none=>false
def Dn (md:YU)(ops:Array Oper)(listed:Array Bool):Prop:=∀k ok,ops[k]?=some ok->listed.getD k false=true->∀e∈ok.after,Yu md e=true->listed.getD e.on false=true
def Wb {listed:Array Bool}(h:listed.getD i true=false):listed.getD i false=false:=by
 by_cases hi:i<listed.size
 .simp[hi]at h⊢;exact h
 .simp[YX (Zdg hi)]at h
def Dn.step {listed:Array Bool}{j:Nat}(h:Dn md ops listed)(hj:j∈zw md ops listed):Dn md ops (listed.setIfInBounds j true):=by
 intro k ok hk hl e he hb;obtain⟨_,oj,py,Eb⟩:=ZcX.1 hj;have hup:∀x,listed.getD x false=true->(listed.setIfInBounds j true).getD x false=true:=fun x hx=>by
  by_cases hjx:j=x
  .subst hjx
   by_cases hs:j<listed.size
   .simp[hs]
   .simp[YX (Zdg hs)]at hx
  .rw[Zdc false hjx];exact hx
 by_cases di:j=k
 .subst di
  rw[hk]at py;cases py;exact hup _ (Eb e he hb)
 .rw[Zdc false di]at hl
  exact hup _ (h k ok hk hl e he hb)
def Dn.closed {listed:Array Bool}(h:Dn md ops listed){i:Nat}(hi:listed.getD i true=false):∀(f j:Nat),(∀o,ops[j]?=some o->∀e∈o.after,Yu md e=true->listed.getD e.on false=true)->Nm md ops f j i=false
 |0,_,_=>rfl
 |f+1,j,hj=>by
  unfold Nm;cases ho:ops[j]? with
  |none=>rfl
  |some o=>
   simp only;cases hb:o.after.any fun e=>Yu md e&&(e.on==i||Nm md ops f e.on i) with
   |false=>rfl
   |true=>
    obtain⟨e,he,hx⟩:=Array.any_eq_true'.1 hb;simp only[ZI,Za1,beq_iff_eq]at hx;have hl:=hj o ho e he hx.1;rcases hx.2 with h2|h2
    .rw[h2,Wb hi]at hl;cases hl
    .rw[Dn.closed h hi f e.on fun o' aM=>h e.on o' aM hl]at h2
     cases h2
variable {o oi:Oper}
def MJ (hi:ops[i]?=some oi)(hs:YM ops=true)(hQ:∀c a w,Q (.panic c) (a.put oi.dst v) w->Q (.panic c) a w)
 (hT:∀w,S w->T i w) (su:∀j,Nm md ops n j i=true\/∀w,T j w->S w):
  ∀(f:Nat) (listed:Array Bool) (a:Act) (w:Zc),Dn md ops listed->Za9 md ops listed i=true->i∈zw md ops listed->ZbK P ops S oi v a->S w->
   CH P md ops Q T f (listed.setIfInBounds i true) (a.put oi.dst v) w->CH P md ops Q T (f+1) listed a w:=by
 have I8:=Zdx hs;have key:∀(f:Nat) (listed:Array Bool) (a:Act) (w:Zc),Dn md ops listed->(∀j oj,ops[j]?=some oj->j≠i->listed.getD j true=false->(∀e∈oj.after,Yu md e=true->e.on≠i)->oi.apart ops oj=true)->
   i∈zw md ops listed->ZbK P ops S oi v a->S w->CH P md ops Q T f (listed.setIfInBounds i true) (a.put oi.dst v) w->CH P md ops Q T (f+1) listed a w:=by
  intro f
  induction f with
  |zero=>
   intro listed a w _ _ hr hy hS H;refine⟨fun h=>(by rw[h]at hr;cases hr),fun j hj=>?_⟩;by_cases Ku:j=i
   .subst Ku;exact hy.wpOp hi hS ⟨hT _ hS,H⟩
   .have:=ZbU hj Ku
    rw[H.1]at this;cases this
  |succ f ih=>
   intro listed a w hD Qi hr hy hS H;refine⟨fun h=>(by rw[h]at hr;cases hr),fun j hj=>?_⟩;by_cases Ku:j=i
   .subst Ku;exact hy.wpOp hi hS ⟨hT _ hS,H⟩
   .have h1:=H.2 j (ZbU hj Ku)
    obtain⟨sx,oj,py,Eb⟩:=ZcX.1 hj;have aji:listed.getD i true=false:=(ZcX.1 hr).1;have hun:listed.getD i false=false:=Wb aji;have xp:∀e∈oj.after,Yu md e=true->e.on≠i:=fun e he hb heq=>by
     have:=Eb e he hb;rw[heq,hun]at this;cases this
    have pz:∀w,T j w->S w:=(su j).resolve_left (by
     rw[hD.closed aji n j fun o ho=>by rw[py]at ho;cases ho;exact Eb]
     decide)
    have h2:=wpOp_putIf py (Qi j oj py Ku sx xp) (fun cs b=>I8 i oi cs b hi) (fun cs b=>I8 j oj cs b py) hQ hy h1;have ij:∀k ok,ops[k]?=some ok->k≠i->(listed.setIfInBounds j true).getD k true=false->
      (∀e∈ok.after,Yu md e=true->e.on≠i)->oi.apart ops ok=true:=fun k ok hk Rh sA K9=>by
     refine Qi k ok hk Rh ?_ K9;by_cases di:j=k
     .subst di;exact sx
     .rw[Zdc true di]at sA;exact sA
    refine Zch (fun a' w' h3=>⟨h3.2.1,ih (listed.setIfInBounds j true) a' w' (hD.step hj) ij (ZbU hr (Zbq Ku)) h3.1 (pz _ h3.2.1) ?_⟩) h2;rw[Zda _ _ Ku];exact h3.2.2
 intro f listed a w hD hf;exact key f listed a w hD (Region.free_spec hi hf)
def Ka (P:Zp)(ops:Array Oper)(Q:Exit->Act->Zc->Prop)(S:Zc->Prop)(T:Nat->Zc->Prop):List (Bool×Nat)->Act->Zc->Prop
 | [],a,w=>Q .normal a w
 |(false,i)::r,a,w=>wpOp P ops Q i (fun a' w'=>T i w'/\Ka P ops Q S T r a' w') a w
 |(true,i)::r,a,w=>S w/\∃o v,ops[i]?=some o/\ZbK P ops S o v a/\Ka P ops Q S T r (a.put o.dst v) w
def sB (md:YU)(ops:Array Oper)(n:Nat)(lates:List Nat)(i:Nat):Bool:=lates.all fun j=>Nm md ops n j i
def hsB (md:YU)(ops:Array Oper)(n:Nat)(lates:List Nat):List (Bool×Nat)->Array Bool->Bool
 | [],listed=>(zw md ops listed).isEmpty
 |(false,i)::r,listed=>decide (zw md ops listed=[i])&&hsB md ops n lates r (listed.setIfInBounds i true)
 |(true,i)::r,listed=>(zw md ops listed).contains i&&Za9 md ops listed i&&sB md ops n lates i&&hsB md ops n lates r (listed.setIfInBounds i true)
def kK {lates:List Nat}(h:sB md ops n lates i=true)(j:Nat):Nm md ops n j i=true\/∀w,FV lates S j w->S w:=by
 by_cases hj:lates.contains j=true
 .exact .inl (zt.1 h j (by simpa using hj))
 .exact .inr fun w x=>x.resolve_left hj
def PO {n:Nat}{lates:List Nat}(I8:YM ops=true)(hQ:∀c a d v w,Q (.panic c) (Zcp a d v) w->Q (.panic c) a w):
  ∀(hs:List (Bool×Nat)) (listed:Array Bool) (a:Act) (w:Zc),Dn md ops listed->hsB md ops n lates hs listed=true->Ka P ops Q S (FV lates S) hs a w->CH P md ops Q (FV lates S) hs.length listed a w
 | [],_,_,_,_,hB,h=>⟨by simpa[hsB]using hB,h⟩
 |(false,i)::r,listed,a,w,hD,hB,h=>by
  simp only[hsB,ZI,decide_eq_true_eq]at hB;refine⟨fun h0=>(by rw[hB.1]at h0;cases h0),fun j hj=>?_⟩;have hj':=hj;rw[hB.1]at hj;have:j=i:=by simpa using hj
  subst this;exact Zch (fun a' w' x=>⟨x.1,PO I8 hQ r _ a' w' (hD.step hj') hB.2 x.2⟩) h
 |(true,i)::r,listed,a,w,hD,hB,h=>by
  simp only[hsB,ZI]at hB;obtain⟨hS,o,v,ho,hy,h⟩:=h;have hr:i∈zw md ops listed:=by simpa using hB.1.1.1
  exact MJ (S:=S) (n:=n) (f:=r.length) ho I8 (fun c a w x=>hQ c a o.dst v w x) (fun w x=>.inr x) (kK hB.1.2) listed a w hD hB.1.1.2 hr hy hS (PO I8 hQ r _ _ w (hD.step hr) hB.2 h)
def lsB (md:YU)(ops:Array Oper)(n:Nat)(lates:List Nat)(next:Array Bool->Bool):List Nat->Array Bool->Bool
 | [],listed=>next listed
 |i::r,listed=>(zw md ops listed).contains i&&Za9 md ops listed i&&sB md ops n lates i&&lsB md ops n lates next r (listed.setIfInBounds i true)
def Wc {n:Nat}{lates:List Nat}{w:Zc}{next:Array Bool->Bool}{K:Act->Prop}{g:Nat}(I8:YM ops=true)(hQ:∀c a d v w,Q (.panic c) (Zcp a d v) w->Q (.panic c) a w)(hS:S w)
  (hK:∀listed a,Dn md ops listed->next listed=true->K a->CH P md ops Q (FV lates S) g listed a w):
  ∀(ls:List Nat) (listed:Array Bool) (a:Act),Dn md ops listed->lsB md ops n lates next ls listed=true->Nl P ops S K ls a->CH P md ops Q (FV lates S) (g+ls.length) listed a w
 | [],listed,a,hD,hB,h=>hK listed a hD hB h
 |i::r,listed,a,hD,hB,h=>by
  simp only[lsB,ZI]at hB;obtain⟨o,v,ho,hy,h⟩:=h;have hr:i∈zw md ops listed:=by simpa using hB.1.1.1
  exact MJ (S:=S) (n:=n) (f:=g+r.length) ho I8 (fun c a w x=>hQ c a o.dst v w x) (fun w x=>.inr x) (kK hB.1.2) listed a w hD hB.1.1.2 hr hy hS (Wc I8 hQ hS hK r _ _ (hD.step hr) hB.2 h)
def OD {id:Nat}{l:List Oper}(n:Nat)(lates:List Nat)(hs:List (Bool×Nat))(ls:List Nat)(hm:P.follows .mixedOrders=true)(hQ:∀c a d v w,Q (.panic c) (Zcp a d v) w->Q (.panic c) a w)
 (hB:(YM l.toArray&&decide (hs.length+ls.length=l.toArray.size)&&lsB .any l.toArray n lates (hsB .any l.toArray n lates hs) ls (YD l.toArray.size false))=true) (hS:S w.drew)
 (h:Nl P l.toArray S (fun a'=>Ka P l.toArray Q S (FV lates S) hs a' w.drew) ls a):(Yb id l.toArray true).wp P Q a w:=by
 simp only[ZI,decide_eq_true_eq]at hB;refine Zd4 hm (J' (T:=FV lates S) _ _ _ _ ?_);have hD0:Dn .any l.toArray (YD l.toArray.size false):=fun k ok _ hl=>by
  rw[show(YD l.toArray.size false).getD k false=false by unfold Array.getD;split<;>simp]at hl;cases hl
 have:=Wc hB.1.1 hQ hS (fun listed a hD h1 h2=>PO hB.1.1 hQ hs listed a w.drew hD h1 h2) ls _ a hD0 hB.2 h;rw[hB.1.2]at this;exact this
variable {r:List (Bool×Nat)}
def TS (ho:ops[i]?=some o)(hg:o.guard=none)(h:o.wp P a w (fun a' w'=>T i w'/\Ka P ops Q S T r a' w') Q):Ka P ops Q S T ((false,i)::r) a w:=by
 unfold Ka wpOp;simp only[ho];rw[if_pos (by simp[Ym,hg])];exact .inl h
def I_ (ho:ops[i]?=some o)(hg:o.guard=none)(hr:(ZbE a.eval o).run P w=.ok (.value v) w')(hT:T i w')
 (h:Ka P ops Q S T r (a.put o.dst v) w'):Ka P ops Q S T ((false,i)::r) a w:=by
 refine TS ho hg ?_;unfold ZbG;rw[hr,Zde];exact⟨hT,h⟩
def OE (ho:ops[i]?=some o)(hg:o.guard=none)(hr:(ZbE a.eval o).run P w=.ok (.enter f args) w)
 (hc:Calls P f args w fun e w'=>∃v,e=.returned v/\T i w'/\Ka P ops Q S T r (a.put o.dst v) w'):Ka P ops Q S T ((false,i)::r) a w:=by
 refine TS ho hg ?_;unfold ZbG;rw[hr,Zdf];refine hc.mono fun e w' ⟨v,he,h1,h2⟩=>?_;subst he;exact⟨h1,h2⟩
def OG (ho:ops[i]?=some o)(hg:o.guard=none)(hr:(ZbE a.eval o).run P w=.ok .skip w')(hT:T i w')
 (h:Ka P ops Q S T r (a.put o.dst Zf) w'):Ka P ops Q S T ((false,i)::r) a w:=by
 refine TS ho hg ?_;unfold ZbG;rw[hr,ZcR];exact⟨hT,h⟩
def xq (hS:S w)(ho:ops[i]?=some o)(hg:o.guard=none)(hr:∀w,S w->(ZbE a.eval o).run P w=.ok (.value v) w)
 (h:Ka P ops Q S T r (a.put o.dst v) w):Ka P ops Q S T ((true,i)::r) a w:=
 ⟨hS,o,v,ho,.inl ⟨by simp[Ym,hg],hr⟩,h⟩
end
def XP {n:Int}(h:Fy lo hi n=0):lo<=n/\n<=hi:=by
 refine F_ ?_;cases e:AD n lo hi
 .rfl
 .rw[Fy,if_pos e]at h;cases h
def Eo {α:Type}{f:α->Int}:∀ {l:List α},Bd f l=0->∀(k:Nat) (x:α),l[k]?=some x->f x=0
 | [],_,k,x,h=>by simp at h
 |y::r,h0,k,x,h=>by
  unfold Bd at h0;split at h0
  .next hy=>
   cases k with
   |zero=>simp at h;subst h;exact hy
   |succ k=>exact Eo h0 k x (by simpa using h)
  .next hy=>exact absurd h0 hy
def XQ (h:C9 p lo hi=0):lo<=p.1/\p.1<=hi/\lo<=p.2/\p.2<=hi/\p.1<=p.2:=by
 unfold C9 at h;split at h
 .cases h
 .next h1=>
  split at h
  .cases h
  .next h2=>
   have e1:AD p.1 lo hi=false:=by
    cases e:AD p.1 lo hi
    .rfl
    .exact absurd (.inl e) h1
   have e2:AD p.2 lo hi=false:=by
    cases e:AD p.2 lo hi
    .rfl
    .exact absurd (.inr e) h1
   have:=F_ e1;have:=F_ e2;omega
def D6 (h:Cz c l=0):l.length=c.Aa.length/\∀i,i<l.length->(Ah c.Aa i).low<=nth l i/\nth l i<=(Ah c.Aa i).high:=by
 unfold Cz at h;split at h
 .cases h
 .split at h
  .cases h
  .refine⟨by omega,fun i hi=>?_⟩
   exact XP (Eo h i _ (Ox hi (by omega)))
def EU (h:B_ c=0):FB c:=by
 obtain⟨hg,h1⟩:=A7 h;obtain⟨hz,h2⟩:=A7 h1;obtain⟨hs,h3⟩:=A7 h2;obtain⟨g1,h4⟩:=A7 hg;obtain⟨g2,h5⟩:=A7 h4;split at h5
 .cases h5
 next g3=>
 obtain⟨g4,h6⟩:=A7 h5;split at h6
 .cases h6
 next g5=>
 have Nb:∀i,i<c.Aa.length->ES c i=0:=fun i hi=>by simpa using Fl hs i _ (Ct hi)
 have aaS:H9 c.Aa=true:=by
  cases e:H9 c.Aa
  .rw[e]at h3;cases h3
  .rfl
 rw[aaS,if_pos rfl]at h3;obtain⟨z1,z2⟩:=J7 g1;obtain⟨z3,z4⟩:=J7 hz;have e3:c.Af.length=c.base.length:=YW fun x=>g3 x;have e5:c.hooks.length=c.base.length:=YW fun x=>g5 x;exact {
  EG:=⟨by omega,by omega⟩
  base:=fun i hi=>XP (Eo g2 i _ (A_ hi))
  QG:=e3
  Af:=fun i hi=>by have:=XQ (Eo g4 i _ (DH hi));omega
  hooks:=e5
  hook:=fun i hi=>XP (Eo h6 i _ (A_ hi))
  few:=⟨by omega,by omega⟩
  step:=fun i hi=>by have:=XQ (A7 (Nb i hi)).1;simp only at this;omega
  Ak:=fun i hi=>by have:=J7 (A7 (A7 (Nb i hi)).2).1;omega
  pull:=fun i hi k hk=>by
   have:=Fl (A7 (A7 (A7 (Nb i hi)).2).2).1 k _ (DH hk);unfold Fj at this;split at this
   .cases this
   next p1=>
   split at this
   .cases this
   next p2=>
   have e1:AD (BF (Ah c.Aa i).Ak k).1 0 ((c.base.length:Int) - 1)=false:=by
    cases e:AD (BF (Ah c.Aa i).Ak k).1 0 ((c.base.length:Int) - 1)
    .rfl
    .exact absurd e p1
   have e2:AD (BF (Ah c.Aa i).Ak k).2 (-4) 4=false:=by
    cases e:AD (BF (Ah c.Aa i).Ak k).2 (-4) 4
    .rfl
    .exact absurd (.inr e) p2
   have:=F_ e1;have:=F_ e2;omega
  over:=TN hz hs
  left:=fun i hi=>XP (A7 (A7 (A7 (A7 (Nb i hi)).2).2).2).2
  ring:=aaS
  now:=h3}
def FB.xr (h:FB c):c.now.length=c.Aa.length:=(D6 h.now).1
def TU (hv:FB c)(h:Cz c l=0):∀i,i<l.length->-2<=nth l i/\nth l i<=2:=fun i hi=>by
 obtain⟨h1,h2⟩:=D6 h;have:=h2 i hi;have:=hv.step i (by omega);omega
def Wd {s:List (Int×Int)}(h:Ib n s=0):s.length=n/\∀i,i<s.length->0<=(BF s i).1/\(BF s i).1<=99/\0<=(BF s i).2/\(BF s i).2<=99:=by
 unfold Ib at h;split at h
 .cases h
 .split at h
  .cases h
  .refine⟨by omega,fun i hi=>?_⟩
   have:=XQ (Eo h i _ (DH hi));omega
def We (hs:s<2^n)(hi:i<n):IE s i<2^n:=
 Zbi hs (by rw[Nat.one_shiftLeft];exact Nat.pow_lt_pow_right (by decide) hi)
def sC {o:Nat}(h:∀j,ab j<2^n)(ho:o<n):∀j,Rf ab i o j<2^n:=fun j=>by
 unfold Rf;split
 .exact Zbi (h i) (We (h o) ho)
 .exact h j
def TV {i n:Nat}:∀(l:List Int) (ab:Nat->Nat),(∀j,ab j<2^n)->(∀x∈l,0<=x/\x<n)->∀j,F9 ab i l j<2^n
 | [],_,h,_=>h
 |x::r,ab,h,hx=>TV r _ (sC h (by have:=hx x (zo ..);omega)) fun y hy=>hx y (Z9 _ hy)
def TW {n:Nat}:∀(l:List Aq) (ab:Nat->Nat) (i:Nat),(∀j,ab j<2^n)->(∀s∈l,∀x∈s.over,0<=x/\x<n)->∀j,Fz ab i l j<2^n
 | [],_,_,h,_=>h
 |s::r,ab,i,h,hx=>TW r _ (i+1) (TV s.over ab h (hx s (zo ..))) fun y hy=>hx y (Z9 _ hy)
def QI {n:Nat}{l:List Aq}(hx:∀s∈l,∀x∈s.over,0<=x/\x<n):∀(k:Nat) (ab:Nat->Nat),(∀j,ab j<2^n)->∀j,DR ab l k j<2^n
 |0,_,h=>h
 |k+1,ab,h=>QI hx k _ (TW l ab 0 h hx)
def Mf {l:List Aq}(h:J5 l):∀j,Au l j<2^l.length:=
 QI (fun s hs x hx=>by
  obtain⟨i,hi,rfl⟩:=dm hs;obtain⟨k,hk,rfl⟩:=kH hx;exact h.over i hi k hk) _ _ fun _=>ZdA _
def PQ {l:List Aq}(h:J5 l):∀j,j<3->Au l j<8:=fun j _=>
 Zm (Mf h j) (show 2^l.length<=2^3 from Zbm (by decide) h.few)
def Kb {ab:Nat->Nat}{now:List Int}{n:Nat}(ha:∀i,ab i<2^n):∀(l:List Int) (k s:Nat),k+l.length<=n->s<2^n->Ga ab now k l s<2^n
 | [],_,_,_,h=>h
 |y::r,k,s,hk,h=>by
  have h1:k+(r.length+1)<=n:=hk;refine Kb ha r (k+1) _ (by omega) ?_;split
  .exact h
  .exact Zbi h (We (ha k) (by omega))
def OH (h:t<2^n):∀x,x∈Av t->0<=x/\x<n:=fun x hx=>by
 unfold Av FU at hx;obtain⟨i,hi,rfl⟩:=Zby.1 hx;have hb:=(List.mem_filter.1 hi).2;refine⟨by omega,?_⟩;have:2^i<=t:=Nat.ge_two_pow_of_testBit hb;have:i<n:=by
  refine YW fun hni=>?_;have:=Zbm (n:=2) (by decide) (Zdg hni);omega
 omega
def Kc (hv:FB c)(hl:l.length<=c.Aa.length):∀x,x∈Av (Cb (Au c.Aa) c.now l)->0<=x/\x<c.Aa.length:=
 OH (Kb (Mf hv.over) l 0 0 (by omega) (ZdA _))
def C4 (c:A4)(l:List Int):List Int:=(ZL c.base.length).map (measure c l)
def kL (w:Zc)(l:List Int)(e:Int)(en:Ending)(w':Zc):Prop:=∃v,en=.returned (.tuple #[v,J I e])/\Bl w w'/\SI (Cf w.heap.size w') w' v l
def FD (c:A4)(l:List Int):List Int:=if Ca c l=0 then C4 c l else []
def XR:SI S w (U none 0 0) []:=⟨none,0,rfl,Zj _,Zn _,fun i x hx=>by cases hx⟩
def ik (h:i<c.base.length):(C4 c l)[i]?=some (measure c l i):=by
 simp[C4,h]
def Wf {o:Obj}(h:YS (w.alloc o).heap.size (w.alloc o) w'):w.heap.size<w'.heap.size:=by
 have:=h.size;rw[ZG]at this;omega
def nK (l:List Int)(hg:1<=c.base.length/\c.base.length<=3)(W:Zc):SI (fun b=>b=W.heap.size) (W.alloc (.cells #[J I (measure c l 0),J I (measure c l 1),J I (measure c l 2)] 150)) (U (some ⟨W.heap.size,0,none⟩) c.base.length 3) (C4 c l):=by
 have hlen:(C4 c l).length=c.base.length:=by simp[C4]
 refine⟨some ⟨W.heap.size,0,none⟩,3,by rw[hlen],by omega,by decide,fun i x hx=>?_⟩;have hi:i<c.base.length:=by rw[<-hlen];exact(Zl.1 hx).1
 rw[ik hi]at hx;cases hx;refine⟨W.heap.size,0,[J I (measure c l i)],rfl,rfl,rfl,fun j u hu=>?_,rfl⟩;cases j with
 |zero=>
  cases hu;rw[show 0+i*1+0=i by omega];exact cn W (U4 (measure c l)) 150 (GH (by omega))
 |succ j=>cases hu
def c45 (h:RC S w v1 v2 v3 v4 v5 c)(hl:SI S w v6 l)(hS:∀b,S b->b<w.heap.size):
  Calls Lp 45 #[.agg #[v1,v2,v3,v4,v5],v6] w (kL w (FD c l) (Ca c l)):=by
 obtain⟨a1,c1,rfl,l1,m1⟩:=h.base.val;obtain⟨a2,c2,rfl,l2,m2⟩:=h.Af.val;obtain⟨a3,c3,rfl,l3,m3⟩:=h.hooks.val;obtain⟨a4,c4,rfl,l4,m4⟩:=h.Aa.val;obtain⟨a5,c5,rfl,l5,m5⟩:=h.now.val;obtain⟨a6,c6,rfl,l6,m6⟩:=hl.val;have Gx:=CI;have Bb:Bl w (w.alloc (.cells #[U a1 c.base.length c1,U a2 c.Af.length c2,U a3 c.hooks.length c3,U a4 c.Aa.length c4,U a5 c.now.length c5] 26)):=(Zg _ _).alloc (Zj _) _;by_cases h0:Ca c l=0
 .obtain⟨Kd,Fp⟩:=A7 h0
  have hv:=EU Kd;have HV:=Zb (show FD c l=C4 c l by rw[FD,if_pos h0]);have HA:=Zb h0;obtain⟨Tl,_⟩:=D6 Fp;have Iu:=Zb (fun W hB=>Sb (w:=W) (h.later hB) (hl.later hB) (AE hS hB) Kd);rw[Fp]at Iu;have nH:=Zb (fun W hB=>aj9 (w:=W) (h.later hB) hv (hl.later hB) (by omega) (TU hv Fp) (AE hS hB) (Au c.Aa 0) (Au c.Aa 1) (Au c.Aa 2));have hg:=hv.EG;have oV:(c.base.length:Int)<=3:=by omega
  clear h0 Kd Fp Tl;go_enter Lp.func45,n45;go_wp2_with (first|(go_at_call 112;refine(Iu.out _ Bb).mono ?_;rintro e w1 ⟨rfl,AW⟩;have Bg:=Bb.trans (AW.mono Bb.size))|(go_at_call 113;refine(nH.out _ (bA Bg)).mono ?_;rintro e w2 ⟨rfl,CU⟩;obtain⟨ND,Kx⟩:=DV CU;have hz:=Wf CU;have BS:=(bA (o:=.cells #[J I (measure c l 0),J I (measure c l 1),J I (measure c l 2)] 150) ((bA Bg).trans (CU.mono (bA Bg).size)));clear Iu nH)|(go_at_call 106;refine(nE (nK l hg _) (by simp[C4];omega)).mono ?_;rintro e w3 ⟨v,rfl,Dv,fX⟩;have Oy:=BS.trans (Dv.mono BS.size)));go_ret2;exact⟨v,by rw[HA.out];rfl,Oy,by rw[HV.out];exact fX.imp (fun b hb=>⟨Zt BS.size hb.1,hb.2⟩) fun _ _ h=>h⟩
 .have HV:=Zb (show FD c l=[] by rw[FD,if_neg h0])
  have HA:=Zb h0;have Iu:=Zb (fun W hB=>r_ (w:=W) (h.later hB) (hl.later hB) (AE hS hB));obtain⟨x,hx⟩:∃x,x=Ca c l:=⟨_,rfl⟩;have Ll:x≠0:=by rw[hx];exact h0
  have HX:=Zb hx;clear h0 hx;go_enter Lp.func45,n45;go_wp2_with (go_at_call 112;refine(Iu.out _ Bb).mono ?_;rintro e w1 ⟨q1,q2,q3,q4,q5,n1,n2,n3,n4,n5,d1,d2,d3,d4,d5,k0,k1,k2,rfl,AW,_⟩;have Bg:=Bb.trans (AW.mono Bb.size);rw[<-HX.out]);go_ret2;refine⟨U none 0 0,by rw[HX.out];rfl,?_,by rw[HV.out];exact XR⟩
  repeat (with_reducible first|exact Bg|refine bA ?_|(refine bS ?_ (by omega))|refine bD ?_|refine bN ?_)
def TX (c:A4)(l:List Int)(s:List (Int×Int)):Int:=QC (Ca c l) (Ib c.base.length s)
def QK (c:A4)(l:List Int)(s:List (Int×Int)):Bool:=if TX c l s=0 then D1 c l s else false
def c62 {s:List (Int×Int)}(h:RC S w v1 v2 v3 v4 v5 c)(hl:SI S w v6 l)(hs:SP S w v7 s)(hS:∀b,S b->b<w.heap.size):
  Calls Lp 62 #[.agg #[v1,v2,v3,v4,v5],v6,v7] w fun e w'=>e=.returned (.tuple #[.bool (QK c l s),J I (TX c l s)])/\Bl w w':=by
 obtain⟨a1,c1,rfl,l1,m1⟩:=h.base.val;obtain⟨a2,c2,rfl,l2,m2⟩:=h.Af.val;obtain⟨a3,c3,rfl,l3,m3⟩:=h.hooks.val;obtain⟨a4,c4,rfl,l4,m4⟩:=h.Aa.val;obtain⟨a5,c5,rfl,l5,m5⟩:=h.now.val;obtain⟨a6,c6,rfl,l6,m6⟩:=hl.val;have Gx:=CI;have Bb:Bl w (w.alloc (.cells #[U a1 c.base.length c1,U a2 c.Af.length c2,U a3 c.hooks.length c3,U a4 c.Aa.length c4,U a5 c.now.length c5] 26)):=(Zg _ _).alloc (Zj _) _;obtain⟨a7,c7,rfl,l7,m7⟩:=hs.val;by_cases h0:Ca c l=0
 .obtain⟨Kd,Fp⟩:=A7 h0
  have hv:=EU Kd;have HE:=Zb (show TX c l s=Ib c.base.length s by rw[TX,B0 h0]);obtain⟨Tl,_⟩:=D6 Fp;have Iu:=Zb (fun W hB=>Sb (w:=W) (h.later hB) (hl.later hB) (AE hS hB) Kd);rw[Fp]at Iu;have nL:=Zb (fun W hB=>ajc (w:=W) (h.later hB) (hs.later hB) (AE hS hB) (Au c.Aa 0) (Au c.Aa 1) (Au c.Aa 2));by_cases hx:Ib c.base.length s=0
  .obtain⟨hsn,kI⟩:=Wd hx
   rw[hx]at nL;have HV:=Zb (show QK c l s=D1 c l s by rw[QK,HE.out,if_pos hx]);have HX:=Zb hx;have aqk:=Zb (fun W hB=>ajh (w:=W) (h.later hB) hv (hl.later hB) (hs.later hB) (by omega) (TU hv Fp) (by omega) kI (AE hS hB) (Au c.Aa 0) (Au c.Aa 1) (Au c.Aa 2));clear h0 Kd Fp Tl hx hsn kI;go_enter Lp.func62,n62;go_wp2_with (first|(go_at_call 112;refine(Iu.out _ Bb).mono ?_;rintro e w1 ⟨rfl,AW⟩;have Bg:=Bb.trans (AW.mono Bb.size))|(go_at_call 101;refine(nL.out _ (bA Bg)).mono ?_;rintro e w2 ⟨rfl,CU⟩;obtain⟨ND,Kx⟩:=DV CU;have hz:=Wf CU;have BS:=(bA Bg).trans (CU.mono (bA Bg).size))|(go_at_call 126;refine(aqk.out _ BS).mono ?_;rintro e w3 ⟨rfl,Dv⟩;have Oy:=BS.trans (Dv.mono BS.size)));go_ret2;exact⟨by rw[HV.out,HE.out,HX.out];rfl,Oy⟩
  .have HV:=Zb (show QK c l s=false by rw[QK,HE.out,if_neg hx])
   obtain⟨x,fT⟩:∃x,x=Ib c.base.length s:=⟨_,rfl⟩;rw[<-fT]at nL HE hx;clear h0 Kd Fp Tl fT;go_enter Lp.func62,n62;go_wp2_with (first|(go_at_call 112;refine(Iu.out _ Bb).mono ?_;rintro e w1 ⟨rfl,AW⟩;have Bg:=Bb.trans (AW.mono Bb.size))|(go_at_call 101;refine(nL.out _ (bA Bg)).mono ?_;rintro e w2 ⟨rfl,CU⟩;obtain⟨ND,Kx⟩:=DV CU;have hz:=Wf CU;have BS:=(bA Bg).trans (CU.mono (bA Bg).size)));go_ret2;exact⟨by rw[HV.out,HE.out];rfl,BS⟩
 .have HE:=Zb (show TX c l s=Ca c l by rw[TX,Ls h0])
  have HV:=Zb (show QK c l s=false by rw[QK,HE.out,if_neg h0]);have Iu:=Zb (fun W hB=>r_ (w:=W) (h.later hB) (hl.later hB) (AE hS hB));obtain⟨x,hx⟩:∃x,x=Ca c l:=⟨_,rfl⟩;have Ll:x≠0:=by rw[hx];exact h0
  have HX:=Zb hx;clear h0 hx;go_enter Lp.func62,n62;go_wp2_with (go_at_call 112;refine(Iu.out _ Bb).mono ?_;rintro e w1 ⟨q1,q2,q3,q4,q5,n1,n2,n3,n4,n5,d1,d2,d3,d4,d5,k0,k1,k2,rfl,AW,_⟩;have Bg:=Bb.trans (AW.mono Bb.size);rw[<-HX.out]);go_ret2;refine⟨by rw[HV.out,HE.out,HX.out];rfl,?_⟩
  repeat (with_reducible first|exact Bg|refine bA ?_|(refine bS ?_ (by omega))|refine bD ?_|refine bN ?_)
def Ay (c:A4)(l:List Int):Nat:=Cb (Au c.Aa) c.now l
def Bx (c:A4)(l:List Int):Int:=QC (Ca c l) (if J_ c (Ay c l)=none then 0 else 12)
def ajj (w:Zc)(v1 v2 v3 v4 v5:Ze)(c:A4)(l:List Int)(e:Ending)(w':Zc):Prop:=
 ∃(g:Array Ze) (t:Nat),e=.returned (.tuple #[.agg g,J .u8 t,J I (Bx c l)])/\Bl w w'/\(Bx c l=0->g=Bj v1 v2 v3 v4 v5 (Au c.Aa)/\t=Ay c l)/\(Bx c l≠0->g= #[U none 0 0,U none 0 0,U none 0 0,U none 0 0,U none 0 0,J .u8 0,J .u8 0,J .u8 0]/\t=0)
def LA {fn:Func}{p u x:Tmp}(h:fn.results= #[.cell p ty,.tmp u,.tmp x])(tmps:Array Ze)(P:Zp)(w:Zc):
  (results fn tmps).run P w=((asAddr (tmps.getD p Zf)).run P w).andThen fun a w₁=>((loadVar ty a).run P w₁).andThen fun v w₂=>.ok (.tuple #[v,tmps.getD u Zf,tmps.getD x Zf]) w₂:=by
 simp only[results,h];simp[zm,zB]
def xu (h:RC S w v1 v2 v3 v4 v5 c)(hl:SI S w v6 l)(hS:∀b,S b->b<w.heap.size):
  Calls Lp 119 #[.agg #[v1,v2,v3,v4,v5],v6] w (ajj w v1 v2 v3 v4 v5 c l):=by
 obtain⟨a1,c1,rfl,l1,m1⟩:=h.base.val;obtain⟨a2,c2,rfl,l2,m2⟩:=h.Af.val;obtain⟨a3,c3,rfl,l3,m3⟩:=h.hooks.val;obtain⟨a4,c4,rfl,l4,m4⟩:=h.Aa.val;obtain⟨a5,c5,rfl,l5,m5⟩:=h.now.val;obtain⟨a6,c6,rfl,l6,m6⟩:=hl.val;have Gx:=CI;have Bb:Bl w (w.alloc (.cells #[U a1 c.base.length c1,U a2 c.Af.length c2,U a3 c.hooks.length c3,U a4 c.Aa.length c4,U a5 c.now.length c5] 26)):=(Zg _ _).alloc (Zj _) _;by_cases h0:Ca c l=0
 .obtain⟨Kd,Fp⟩:=A7 h0
  have hv:=EU Kd;have HE:=Zb (show Bx c l=if J_ c (Ay c l)=none then 0 else 12 by rw[Bx,B0 h0]);obtain⟨Tl,_⟩:=D6 Fp;have sD:=hv.xr;have hfw:=hv.few;have Iu:=Zb (fun W hB=>Sb (w:=W) (h.later hB) (hl.later hB) (AE hS hB) Kd);rw[Fp]at Iu;have Rj:=Zb (fun W hB=>c90 (w:=W) (h.later hB) (hl.later hB) (by omega) (by omega) (PQ hv.over) (Kc hv (by omega)) (AE hS hB));change Hid (∀(W:Zc) (hB:Bl w W),Calls Lp 90 _ _ fun e w'=>e=.returned (ajg (Ay c l) (J_ c (Ay c l)))/\Bl W w') at Rj;cases hx:J_ c (Ay c l) with
  |none=>
   rw[hx]at Rj;have HX:=Zb (show Bx c l=0 by rw[HE.out,if_pos hx]);obtain⟨t,ht⟩:∃t,t=Ay c l:=⟨_,rfl⟩;rw[<-ht]at Rj;change Hid (∀(W:Zc) (hB:Bl w W),Calls Lp 90 _ _ fun e w'=>e=.returned (.tuple #[J .u8 t,.nilIface])/\Bl W w') at Rj;have HT:=Zb ht;clear h0 Kd Fp Tl sD hfw hx ht;go_enter Lp.func119,adl;go_wp2_with (first|(go_at_call 112;refine(Iu.out _ (bA Bb)).mono ?_;rintro e w1 ⟨rfl,AW⟩;have Bg:=(bA Bb).trans (AW.mono (bA Bb).size);obtain⟨Fo,DX⟩:=QE AW;obtain⟨NC,eK⟩:=DV AW)|(go_at_call 90;refine(Rj.out _ (bA Bg)).mono ?_;rintro e w2 ⟨rfl,CU⟩;obtain⟨ND,Kx⟩:=DV CU;have hz:=Wf CU;have BS:=(bA Bg).trans (CU.mono (bA Bg).size)));refine ZU (v:=.tuple #[.agg #[U a1 c.base.length c1,U a2 c.Af.length c2,U a3 c.hooks.length c3,U a4 c.Aa.length c4,U a5 c.now.length c5,J .u8 (Au c.Aa 0),J .u8 (Au c.Aa 1),J .u8 (Au c.Aa 2)],J .u8 t,J I 0]) (by rw[LA rfl];go_simp) rfl ?_;refine⟨Bj (U a1 c.base.length c1) (U a2 c.Af.length c2) (U a3 c.hooks.length c3) (U a4 c.Aa.length c4) (U a5 c.now.length c5) (Au c.Aa),t,by rw[HX.out];rfl,?_,fun _=>⟨rfl,HT.out⟩,fun x=>absurd HX.out x⟩
   repeat (with_reducible first|exact BS|refine bA ?_|(refine bS ?_ (by omega))|refine bD ?_|refine bN ?_)
  |some x=>
   rw[hx]at Rj;have HX:=Zb (show Bx c l=12 by rw[HE.out,if_neg (by rw[hx];simp)]);obtain⟨t,ht⟩:∃t,t=Ay c l:=⟨_,rfl⟩;rw[<-ht]at Rj;change Hid (∀(W:Zc) (hB:Bl w W),Calls Lp 90 _ _ fun e w'=>e=.returned (.tuple #[J .u8 0,.iface 121 (.agg #[J I x])])/\Bl W w') at Rj;clear h0 Kd Fp Tl sD hfw hx ht;go_enter Lp.func119,adl;go_wp2_with (first|(go_at_call 112;refine(Iu.out _ (bA Bb)).mono ?_;rintro e w1 ⟨rfl,AW⟩;have Bg:=(bA Bb).trans (AW.mono (bA Bb).size);obtain⟨Fo,DX⟩:=QE AW;obtain⟨NC,eK⟩:=DV AW)|(go_at_call 90;refine(Rj.out _ (bA Bg)).mono ?_;rintro e w2 ⟨rfl,CU⟩;obtain⟨ND,Kx⟩:=DV CU;have hz:=Wf CU;have BS:=(bA Bg).trans (CU.mono (bA Bg).size)));refine ZU (v:=.tuple #[.agg #[U none 0 0,U none 0 0,U none 0 0,U none 0 0,U none 0 0,J .u8 0,J .u8 0,J .u8 0],J .u8 0,J I 12]) (by rw[LA rfl];go_simp) rfl ?_;refine⟨#[U none 0 0,U none 0 0,U none 0 0,U none 0 0,U none 0 0,J .u8 0,J .u8 0,J .u8 0],0,by rw[HX.out];rfl,?_,fun y=>absurd (HX.out.symm.trans y) (by decide),fun _=>⟨rfl,rfl⟩⟩
   repeat (with_reducible first|exact BS|refine bA ?_|(refine bS ?_ (by omega))|refine bD ?_|refine bN ?_)
 .have HE:=Zb (show Bx c l=Ca c l by rw[Bx,Ls h0])
  have Iu:=Zb (fun W hB=>r_ (w:=W) (h.later hB) (hl.later hB) (AE hS hB));obtain⟨x,hx⟩:∃x,x=Ca c l:=⟨_,rfl⟩;have Ll:x≠0:=by rw[hx];exact h0
  have HX:=Zb hx;clear h0 hx;go_enter Lp.func119,adl;go_wp2_with (go_at_call 112;refine(Iu.out _ (bA Bb)).mono ?_;rintro e w1 ⟨q1,q2,q3,q4,q5,n1,n2,n3,n4,n5,d1,d2,d3,d4,d5,k0,k1,k2,rfl,AW,_⟩;have Bg:=(bA Bb).trans (AW.mono (bA Bb).size);rw[<-HX.out];obtain⟨ND,Kx⟩:=DV AW;obtain⟨Fo,DX⟩:=QE AW);refine ZU (v:=.tuple #[.agg #[U none 0 0,U none 0 0,U none 0 0,U none 0 0,U none 0 0,J .u8 0,J .u8 0,J .u8 0],J .u8 0,J I x]) (by rw[LA rfl];go_simp) rfl ?_;refine⟨#[U none 0 0,U none 0 0,U none 0 0,U none 0 0,U none 0 0,J .u8 0,J .u8 0,J .u8 0],0,by rw[HE.out, <-HX.out];rfl,?_,fun y=>absurd ((HX.out.trans HE.out.symm).trans y) Ll,fun _=>⟨rfl,rfl⟩⟩
  repeat (with_reducible first|exact Bg|refine bA ?_|(refine bS ?_ (by omega))|refine bD ?_|refine bN ?_)
def LB (ab:Nat->Nat)(t d:Nat)(i:Int):Bool:= !hasB d i.toNat&&(Av t).all fun b=> !(hasB (ab b.toNat) i.toNat&& !hasB d b.toNat)
def G6 (ab:Nat->Nat)(t:Nat):Nat->List Int->Nat->Option (List Int)
 |f,o,d=>if o.length<(Av t).length then(match f with
   |0=>none
   |f+1=>match(Av t).find? (LB ab t d) with
    |none=>none
    |some i=>G6 ab t f (o++ [i]) (IE d i.toNat)) else some o
def PR (c:A4)(l:List Int):Option (List Int):=G6 (Au c.Aa) (Ay c l) 3 [] 0
def I' (c:A4)(l:List Int):List Int:=if Bx c l=0 then(PR c l).getD [] else []
def sE {f:Int->Bool}(h:k<l.length):(l.drop k).all f=(f (nth l k)&&(l.drop (k+1)).all f):=by
 obtain⟨hk,e⟩:=Zl.1 (A_ h);rw[Zu hk,e,Zba]
def nM {f:Nat}{o:List Int}(h:G6 ab t f o d=some L)(hl:o.length<(Av t).length):
  ∃f' i,f=f'+1/\(Av t).find? (LB ab t d)=some i/\G6 ab t f' (o++ [i]) (IE d i.toNat)=some L:=by
 unfold G6 at h;rw[if_pos hl]at h;cases f with
 |zero=>cases h
 |succ f=>
  simp only at h;cases e:(Av t).find? (LB ab t d) with
  |none=>rw[e]at h;cases h
  |some i=>rw[e]at h;exact⟨f,i,rfl,rfl,h⟩
def iq {f:Nat}{o:List Int}(h:G6 ab t f o d=some L)(hl:¬o.length<(Av t).length):o=L:=by
 unfold G6 at h;rw[if_neg hl]at h;cases h
 rfl
def c54 (h:RC S w v1 v2 v3 v4 v5 c)(hl:SI S w v6 l)(hS:∀b,S b->b<w.heap.size)(hgo:Bx c l=0->∃L,PR c l=some L):
  Calls Lp 54 #[.agg #[v1,v2,v3,v4,v5],v6] w (kL w (I' c l) (Bx c l)):=by
 obtain⟨a1,c1,rfl,l1,m1⟩:=h.base.val;obtain⟨a2,c2,rfl,l2,m2⟩:=h.Af.val;obtain⟨a3,c3,rfl,l3,m3⟩:=h.hooks.val;obtain⟨a4,c4,rfl,l4,m4⟩:=h.Aa.val;obtain⟨a5,c5,rfl,l5,m5⟩:=h.now.val;obtain⟨a6,c6,rfl,l6,m6⟩:=hl.val;obtain⟨i0,hi,Fo,DX,EI⟩:=zq Jx;have hu:=CG Yg;have Gx:=CI;have Bb:Bl w (w.alloc (.cells #[U a1 c.base.length c1,U a2 c.Af.length c2,U a3 c.hooks.length c3,U a4 c.Aa.length c4,U a5 c.now.length c5] 26)):=(Zg _ _).alloc (Zj _) _;have Rk:=Zb (fun W hB=>xu (w:=W) (h.later hB) (hl.later hB) (AE hS hB));by_cases h0:Bx c l=0
 .obtain⟨L,hL⟩:=hgo h0
  have HV:=Zb (show I' c l=L by rw[I',if_pos h0,hL];rfl);have HR:=Zb h0;obtain⟨xv,_⟩:=A7 h0;obtain⟨Kd,Fp⟩:=A7 xv;have hv:=EU Kd;have hn:l.length<=c.Aa.length:=by have:=(D6 Fp).1;omega
  have HS:=Zb (Kc hv hn);have ha8:=PQ hv.over;have eL:Ay c l<8:=Mc ha8 (by have:=hv.few;omega);obtain⟨t,ht⟩:∃t,t=Ay c l:=⟨_,rfl⟩;have HS2:∀x,x∈Av t->0<=x/\x<(3:Int):=OH (n:=3) (by rw[ht];exact eL);have HL:=Zb (show G6 (Au c.Aa) t 3 [] 0=some L by rw[ht];exact hL);rw[<-ht]at eL;have HT:=Zb ht;have hle:(Av t).length<=3:=JG t 3;obtain⟨ab,EC⟩:∃ab,ab=Au c.Aa:=⟨_,rfl⟩;have HAB:=Zb EC;rw[<-EC]at HL ha8;clear h0 hL xv Kd Fp ht EC hv hn hgo;go_enter Lp.func54,n54;go_wp2;go_step3;go_wp2_with (first|(go_at_call 119;refine(Rk.out _ Bb).mono ?_;rintro e w1 ⟨g,t',rfl,AW,O5,uL⟩;obtain⟨rfl,rfl⟩:=O5 HR.out;clear O5 uL;have Bg:=Bb.trans (AW.mono Bb.size);rw[HR.out, <-HT.out, <-HAB.out];simp only[Bj])|(go_at_call 120;refine(xm eL).mono ?_;rintro e w2 ⟨v,rfl,CU,hv,_⟩;have Sf:=(CU.block _ (by simp)).trans (Bt _ _);have BS:=(bA Bg).trans (CU.mono (bA Bg).size);obtain⟨a7,c7,rfl,l7,m7⟩:=hv.val));go_step3;go_wp2;have uw:=Za.1 Sf|>.1;go_loopg [9,10] 3 (fun g v x wr=>∃(f:Nat) (o:List Int) (d:Nat),G6 ab t f o d=some L/\f+o.length=3/\g=f/\x=.int .u8 d/\d<8/\wr.ownsRow w2.heap.size 3 1 v o.length (o.map (ZS I))/\Bl w2 wr)
  case atStart=>exact⟨3,[],0,HL.out,rfl,rfl,rfl,by omega,zh _ _ _ _,Zg _ _⟩
  case round=>
   obtain⟨f,o,d,Cn,hfo,rfl,rfl,hd8,A3,LC⟩:=hrel;have hf:=Zb Cn;clear Cn;obtain⟨a8,c8,hv8,l8,m8,_⟩:=J9 A3;subst hv8;by_cases AA:o.length<(Av t).length
   .obtain⟨f',x,rfl,ajl,sF⟩:=nM hf.out AA
    have B5:=Zb ajl;have Qr:=Zb sF;clear ajl sF;have kM:=(LC.block _ uw).trans Sf;have ady:=Zb (fun s i (hs:s<8) (hi:i<3) W=>adn s i hs hi W);go_wp2;go_step3;go_wp2;go_step3;go_wp2;go_loopg [9,10,35] (Av t).length (fun g v9 v10 i wx=>∃k:Nat,k<=(Av t).length/\g=(Av t).length - k/\i=.int I k/\v9=.slice a8 o.length c8/\v10=.int .u8 d/\((Av t).drop k).find? (LB ab t d)=some x/\wx=wr)
    case atStart=>exact⟨0,Zn _,rfl,rfl,rfl,rfl,B5.out,rfl⟩
    case round=>
     obtain⟨k,hk,rfl,rfl,rfl,rfl,Cn,rfl⟩:=hrel;have Kx:=Zb Cn;clear Cn;by_cases GG:k<(Av t).length
     .obtain⟨b,o1,rfl,hb,hc⟩:=hv.at_ GG
      have G0:b<w2.heap.size:=hb.2;rw[<-LC.cell (p:=⟨b,o1+k,none⟩) G0]at hc;have hfd:=Zb (VZ (f:=LB ab t d) GG);obtain⟨he0,he3⟩:=HS2 _ (IG GG);obtain⟨y,hy⟩:∃y:Nat,nth (Av t) k=y:=⟨(nth (Av t) k).toNat,by omega⟩;rw[hy]at hc hfd he0 he3;have HY:=Zb hy;clear hy;have hy3:y<3:=by omega
      have hyi:(y:Int)<3:=by omega
      by_cases hdy:hasB d y=true
      .have uv:LB ab t d (y:Int)=false:=by simp[LB,hdy]
       have HFR:=Zb uv;clear uv;go_wp2_with (go_at_call 122;refine(ady.out d y hd8 hy3 _).mono ?_;rintro e w' ⟨rfl,rfl⟩);go_roundg ((Av t).length - (k+1))
       case rel=>exact⟨k+1,by omega,rfl,by go_num,rfl,rfl,by rw[<-Kx.out,hfd.out,HFR.out];rfl,rfl⟩
       case measure=>omega
      .have aql:hasB d y=false:=by simpa using hdy
       clear hdy;go_wp2_with (go_at_call 122;refine(ady.out d y hd8 hy3 _).mono ?_;rintro e w' ⟨rfl,xw⟩;obtain rfl:=xw.symm;clear xw);go_loopg [44] (Av t).length (fun g i wx=>∃m:Nat,m<=(Av t).length/\g=(Av t).length - m/\i=.int I m/\(((Av t).drop m).all fun b=> !(hasB (ab b.toNat) (y:Int).toNat&& !hasB d b.toNat))=LB ab t d (y:Int)/\wx=wr)
       case atStart=>exact⟨0,Zn _,rfl,rfl,by simp[LB,aql],rfl⟩
       case round=>
        obtain⟨m,hm,rfl,rfl,Cn,rfl⟩:=hrel;have eI:=Zb Cn;clear Cn;by_cases gY:m<(Av t).length
        .obtain⟨b',o2,e',GZ,Pl⟩:=hv.at_ gY
         cases e';rw[<-LC.cell (p:=⟨b,o1+m,none⟩) G0]at Pl;have had:=Zb (sE (f:=fun b=> !(hasB (ab b.toNat) (y:Int).toNat&& !hasB d b.toNat)) gY);obtain⟨iu,aqm⟩:=HS2 _ (IG gY);obtain⟨z,hz⟩:∃z:Nat,nth (Av t) m=z:=⟨(nth (Av t) m).toNat,by omega⟩;rw[hz]at Pl had iu aqm;clear hz;have Sa:z<3:=by omega
         have hzi:(z:Int)<3:=by omega
         have EC:=ha8 z Sa;have gz:=ch kM (H8 Sa);go_wp2_with (go_at_call 122;refine(ady.out _ _ (by assumption) (by assumption) _).mono ?_;rintro e w' ⟨rfl,xw⟩;obtain rfl:=xw.symm;clear xw)
         .have q1:hasB (ab z) y=true:=by assumption
          have q2':(!hasB d z)=true:=by assumption
          have q2:hasB d z=false:=by simpa using q2'
          have e4:LB ab t d (y:Int)=false:=by rw[<-eI.out,had.out];simp[q1,q2]
          go_roundg ((Av t).length - (k+1))
          case rel=>exact⟨k+1,by omega,rfl,by go_num,rfl,rfl,by rw[<-Kx.out,hfd.out,e4];rfl,rfl⟩
          case measure=>omega
         .have q2':(!hasB d z)=false:=by assumption
          have q2:hasB d z=true:=by simpa using q2'
          go_roundg ((Av t).length - (m+1))
          case rel=>exact⟨m+1,by omega,rfl,by go_num,by rw[<-eI.out,had.out];simp[q2],rfl⟩
          case measure=>omega
         .have q1':¬hasB (ab z) y=true:=by assumption
          have q1:hasB (ab z) y=false:=by simpa using q1'
          go_roundg ((Av t).length - (m+1))
          case rel=>exact⟨m+1,by omega,rfl,by go_num,by rw[<-eI.out,had.out];simp[q1],rfl⟩
          case measure=>omega
        .have e2:LB ab t d (y:Int)=true:=by rw[<-eI.out,Zz.2 (by omega)];rfl
         have e3:(y:Int)=x:=by
          have:=Kx.out;rw[hfd.out,if_pos e2]at this;exact ZK this
         subst e3;clear e2;have hnx:G6 ab t f' (o++ [(y:Int)]) (IE d y)=some L:=Qr.out;have Qr:=Zb hnx;have aqo:=LC.size;clear hnx eI;have azd:o.length<=3:=by omega
         go_wp2_with (first|(go_at_call 123;refine(ado d y hd8 hy3 _).mono ?_;rintro e w' ⟨rfl,xw⟩;obtain rfl:=xw.symm;clear xw)|(at_builtin;refine Yj _ rfl _ _ 22 rfl w2.heap.size 3 i0 (J I 0) 1 8 hu (DC hi) Fo DX EI rfl (by decide) _ _ _ rfl (A3.alloc _) ⟨_,0,none⟩ 1 1 [J I y] rfl rfl (by intro j u hj;match j,hj with|0,hj=>(simp at hj;subst hj;simp[Zcz])) (by intro u hu;simp at hu;subst hu;rfl) (by unfold maxLen;omega) (by omega) (by simp;omega) ?_;intro v' w9 Bq AJ FI));have hg:(wr.alloc (.cells #[J I y] 3)).grownBy w9 (ZA a8 o.length c8).ownBlock:=AJ;have H_:Bl w2 w9:=Ba (LC.alloc aqo _) hg (fun k hk=>(A3.lt k hk).1) (by simp;omega);have CQ:w9.ownsRow w2.heap.size 3 1 v' (o++ [(y:Int)]).length ((o++ [(y:Int)]).map (ZS I)):=by simpa using Bq
         clear AJ hg FI Bq;rw[Exit.noGoto_exit];go_wp2;go_roundg f'
         case rel=>exact⟨f',o++ [(y:Int)],IE d y,Qr.out,by simp;omega,rfl,rfl,JE hd8 hy3,CQ,H_⟩
         case measure=>omega
     .exact absurd Kx.out (by rw[Zz.2 (by omega)];simp)
   .have e1:=Zb (iq hf.out AA)
    clear hf;have kM:=(LC.block _ uw).trans Sf;have hsi:=g9 A3;have Dv:=BS.trans (LC.mono BS.size);have Ek:=BS.size;go_wp2;rw[Exit.noGoto_ret];go_ret2;exact⟨U a8 o.length c8,by rw[HR.out];rfl,Dv,by rw[HV.out, <-e1.out];exact hsi.imp (fun b hb=>⟨Zt Ek hb.1,hb.2⟩) fun _ _ h=>h⟩
 .obtain⟨x,hx⟩:∃x,x=Bx c l:=⟨_,rfl⟩
  have Ll:x≠0:=by rw[hx];exact h0
  have HX:=Zb hx;have HV:=Zb (show I' c l=[] by rw[I',if_neg h0]);clear hx h0 hgo;go_enter Lp.func54,n54;go_wp2;go_step3;go_wp2_with (go_at_call 119;refine(Rk.out _ Bb).mono ?_;rintro e w1 ⟨g,t',rfl,AW,O5,uL⟩;obtain⟨rfl,rfl⟩:=uL (by rw[<-HX.out];exact Ll);clear O5 uL;have Bg:=Bb.trans (AW.mono Bb.size);rw[<-HX.out]);rw[Exit.noGoto_ret];go_ret2;refine⟨U none 0 0,by rw[HX.out];rfl,?_,by rw[HV.out];exact XR⟩
  repeat (with_reducible first|exact Bg|refine bA ?_|(refine bS ?_ (by omega))|refine bD ?_|refine bN ?_)
def NA (m q b:Nat):Prop:=m<=b/\b<q
def NB (q:Nat)(w:Zc)(b:Nat):Prop:=q<b/\b<w.heap.size
structure CW (S:Nat->Prop)(w:Zc)(m q cap:Nat)(u1 u2 u3 u5:Ze)(c:A4)(k:Nat)(cur:Array Ze)(wr:Zc):Prop where
 below:Bl w wr
 res:wr.heap[w.heap.size+1]?=some (.cells #[U none 0 0,U none 0 0,U none 0 0,U none 0 0,U none 0 0] 26 (0,0))
 box:wr.heap[w.heap.size+1+1]?=some (.cells #[u1,u2,u3,U (some ⟨q,0,none⟩) c.Aa.length cap,u5] 26 (0,0))
 base:SI (NA m q) wr u1 c.base
 Af:SP (NA m q) wr u2 c.Af
 hooks:SI (NA m q) wr u3 c.hooks
 now:SI (NA m q) wr u5 c.now
 arr:wr.heap[q]?=some (.cells cur 62 (0,0))
 at_:∀i,i<c.Aa.length->∃v2 v3,cur[i*5]?=some (J I (Ah c.Aa i).low)/\cur[i*5+1]?=some (J I (Ah c.Aa i).high)/\cur[i*5+2]?=some v2/\cur[i*5+3]?=some v3/\cur[i*5+4]?=some (J I (Ah c.Aa i).left)/\
  ((i<k/\SP (NB q wr) wr v2 (Ah c.Aa i).Ak/\SI (NB q wr) wr v3 (Ah c.Aa i).over)\/(k<=i/\SP S w v2 (Ah c.Aa i).Ak/\SI S w v3 (Ah c.Aa i).over))
def Cj.same {wr:Zc}(h:Cj q wr W)(hT:∀b,T b->b≠q):CC T wr W:=fun b hb hl=>h.block b hl (hT b hb)
def NB.mono (h:w.heap.size<=W.heap.size)(hb:NB q w b):NB q W b:=⟨hb.1,Zm hb.2 h⟩
def CW.later {wr:Zc}{m:Nat}{u3:Ze}(h:CW S w m q cap u1 u2 u3 u5 c k cur wr)(hB:Bl wr W):CW S w m q cap u1 u2 u3 u5 c k cur W:=
 {below:=h.below.trans (hB.mono h.below.size),res:=(hB.block _ (Za.1 h.res).1).trans h.res,box:=(hB.block _ (Za.1 h.box).1).trans h.box,base:=h.base.later hB,Af:=h.Af.later hB,hooks:=h.hooks.later hB,now:=h.now.later hB,arr:=(hB.block _ (Za.1 h.arr).1).trans h.arr,at_:=fun i hi=>by
   obtain⟨v2,v3,e0,e1,e2,e3,e4,hx⟩:=h.at_ i hi;refine⟨v2,v3,e0,e1,e2,e3,e4,?_⟩;rcases hx with⟨hk,x2,x3⟩|hx
   .exact .inl ⟨hk,(x2.later hB).imp (fun b hb=>hb.mono hB.size) (fun _ _ x=>x),(x3.later hB).imp (fun b hb=>hb.mono hB.size) (fun _ _ x=>x)⟩
   .exact .inr hx}
def CW.next {wr:Zc}{m:Nat}{u3 v2' v3':Ze}(h:CW S w m q cap u1 u2 u3 u5 c k cur wr)(hk:k<c.Aa.length)(hB:Cj q wr W)(hq:w.heap.size+1+1<q)
 (ha:W.heap[q]?=some (.cells ((cur.setIfInBounds (k*5+2) v2').setIfInBounds (k*5+3) v3') 62 (0,0))) (h2:SP (NB q W) W v2' (Ah c.Aa k).Ak) (h3:SI (NB q W) W v3' (Ah c.Aa k).over):
  CW S w m q cap u1 u2 u3 u5 c (k+1) ((cur.setIfInBounds (k*5+2) v2').setIfInBounds (k*5+3) v3') W:=by
 have Ek:=h.below.size;have hwq:∀b,NA m q b->b≠q:=fun b hb e=>by have:=hb.2;omega
 refine {below:=⟨hB.os.trans h.below.os,hB.tape.trans h.below.tape,hB.output.trans h.below.output,Zt h.below.size hB.size,fun b hb=>(hB.block b (by omega) (by omega)).trans (h.below.block b hb)⟩,res:=(hB.block _ (Za.1 h.res).1 (by omega)).trans h.res,box:=(hB.block _ (Za.1 h.box).1 (by omega)).trans h.box,base:=h.base.Aw (hB.same hwq),Af:=h.Af.Aw (hB.same hwq),hooks:=h.hooks.Aw (hB.same hwq),now:=h.now.Aw (hB.same hwq),arr:=ha,at_:=fun i hi=>?_};obtain⟨v2,v3,e0,e1,e2,e3,e4,hx⟩:=h.at_ i hi;have z2:=(Za.1 e2).1;have z3:=(Za.1 e3).1;by_cases xx:i=k
 .subst xx
  refine⟨v2',v3',?_,?_,?_,?_,?_,.inl ⟨by omega,h2,h3⟩⟩
  .rw[Zk (by omega),Zk (by omega)];exact e0
  .rw[Zk (by omega),Zk (by omega)];exact e1
  .rw[Zk (by omega),Z5 z2]
  .rw[Z5 (by simpa using z3)]
  .rw[Zk (by omega),Zk (by omega)];exact e4
 .refine⟨v2,v3,?_,?_,?_,?_,?_,?_⟩
  .rw[Zk (by omega),Zk (by omega)];exact e0
  .rw[Zk (by omega),Zk (by omega)];exact e1
  .rw[Zk (by omega),Zk (by omega)];exact e2
  .rw[Zk (by omega),Zk (by omega)];exact e3
  .rw[Zk (by omega),Zk (by omega)];exact e4
  .rcases hx with⟨JY,x2,x3⟩|⟨JY,hx⟩
   .have hs:CC (NB q wr) wr W:=hB.same (fun b hb e=>by have:=hb.1;omega)
    exact .inl ⟨by omega,(x2.Aw hs).imp (fun b hb=>hb.mono hB.size) (fun _ _ x=>x),(x3.Aw hs).imp (fun b hb=>hb.mono hB.size) (fun _ _ x=>x)⟩
   .exact .inr ⟨by omega,hx⟩
def RC.imp (h:RC S w v1 v2 v3 v4 v5 c)(hs:∀b,S b->T b):RC T w v1 v2 v3 v4 v5 c:=
 ⟨h.base.imp hs fun _ _ x=>x,h.Af.imp hs fun _ _ x=>x,h.hooks.imp hs fun _ _ x=>x,Sl.imp h.Aa hs fun _ _ ⟨v2,v3,e,x2,x3⟩=>⟨v2,v3,e,x2.imp hs fun _ _ x=>x,x3.imp hs fun _ _ x=>x⟩,h.now.imp hs fun _ _ x=>x⟩
def NR (q r b:Nat):Prop:=q<b/\b<r
structure CD (wr:Zc)(m q r cap:Nat)(u1 u2 u3:Ze)(c:A4)(cur:Array Ze):Prop where
 base:SI (NA m q) wr u1 c.base
 Af:SP (NA m q) wr u2 c.Af
 hooks:SI (NA m q) wr u3 c.hooks
 arr:wr.heap[q]?=some (.cells cur 62 (0,0))
 at_:∀i,i<c.Aa.length->∃v2 v3,cur[i*5]?=some (J I (Ah c.Aa i).low)/\cur[i*5+1]?=some (J I (Ah c.Aa i).high)/\cur[i*5+2]?=some v2/\cur[i*5+3]?=some v3/\cur[i*5+4]?=some (J I (Ah c.Aa i).left)/\
  SP (NR q r) wr v2 (Ah c.Aa i).Ak/\SI (NR q r) wr v3 (Ah c.Aa i).over
 sG:c.Aa.length<=cap
 sH:cap<=maxLen
 mq:m<=q
 qr:q<r
 rw_:r<=wr.heap.size
def CW.cd {wr:Zc}{m:Nat}{u3:Ze}(h:CW S w m q cap u1 u2 u3 u5 c c.Aa.length cur wr)(h1:c.Aa.length<=cap)(h2:cap<=maxLen)(sI:m<=q):CD wr m q wr.heap.size cap u1 u2 u3 c cur:=
 ⟨h.base,h.Af,h.hooks,h.arr,fun i hi=>by
  obtain⟨v2,v3,e0,e1,e2,e3,e4,hx⟩:=h.at_ i hi;exact⟨v2,v3,e0,e1,e2,e3,e4,(hx.resolve_right (fun z=>absurd z.1 (by omega))).2⟩,h1,h2,sI,(Za.1 h.arr).1,Zj _⟩
def CD.Aw {wr:Zc}{m r:Nat}{u3:Ze}(h:CD wr m q r cap u1 u2 u3 c cur)(hB:Cj b wr W)(hb:b<m\/r<=b):CD W m q r cap u1 u2 u3 c cur:=by
 have sI:=h.mq;have nN:=h.qr;have hA:CC (NA m q) wr W:=hB.same (fun x hx e=>by have:=hx.1;have:=hx.2;omega);have hN:CC (NR q r) wr W:=hB.same (fun x hx e=>by have:=hx.1;have:=hx.2;omega);refine⟨h.base.Aw hA,h.Af.Aw hA,h.hooks.Aw hA,(hB.block q (Za.1 h.arr).1 (by omega)).trans h.arr,fun i hi=>?_,h.sG,h.sH,h.mq,h.qr,Zt h.rw_ hB.size⟩;obtain⟨v2,v3,e0,e1,e2,e3,e4,x2,x3⟩:=h.at_ i hi;exact⟨v2,v3,e0,e1,e2,e3,e4,x2.Aw hN,x3.Aw hN⟩
def CD.later {wr:Zc}{m r:Nat}{u3:Ze}(h:CD wr m q r cap u1 u2 u3 c cur)(hB:Bl wr W):CD W m q r cap u1 u2 u3 c cur:=by
 refine⟨h.base.later hB,h.Af.later hB,h.hooks.later hB,(hB.block q (Za.1 h.arr).1).trans h.arr,fun i hi=>?_,h.sG,h.sH,h.mq,h.qr,Zt h.rw_ hB.size⟩;obtain⟨v2,v3,e0,e1,e2,e3,e4,x2,x3⟩:=h.at_ i hi;exact⟨v2,v3,e0,e1,e2,e3,e4,x2.later hB,x3.later hB⟩
def CD.rc {wr:Zc}{m r:Nat}{u3:Ze}(h:CD wr m q r cap u1 u2 u3 c cur)(h5:SI T wr u5 c.now)(hT:∀b,m<=b->b<r->T b):RC T wr u1 u2 u3 (U (some ⟨q,0,none⟩) c.Aa.length cap) u5 c:=by
 have sI:=h.mq;have nN:=h.qr;have hA:∀b,NA m q b->T b:=fun b hb=>hT b hb.1 (Nat.lt_trans hb.2 nN);have Ee:∀b,NR q r b->T b:=fun b hb=>hT b (Zt sI (Nat.le_of_lt hb.1)) hb.2;refine⟨h.base.imp hA fun _ _ x=>x,h.Af.imp hA fun _ _ x=>x,h.hooks.imp hA fun _ _ x=>x,⟨_,_,rfl,h.sG,h.sH,fun i x hx=>?_⟩,h5⟩;have hi:=(Zl.1 hx).1;have fT:x=Ah c.Aa i:=by have:=Ct hi;rw[hx]at this;exact ZK this
 subst fT;obtain⟨v2,v3,e0,e1,e2,e3,e4,x2,x3⟩:=h.at_ i hi;refine⟨q,0,[J I (Ah c.Aa i).low,J I (Ah c.Aa i).high,v2,v3,J I (Ah c.Aa i).left],rfl,hT q sI nN,rfl,fun j u hu=>?_,v2,v3,rfl,x2.imp Ee fun _ _ x=>x,x3.imp Ee fun _ _ x=>x⟩;rw[zK];refine ch h.arr ?_
 match j,hu with
 |0,hu=>cases hu;exact e0
 |1,hu=>cases hu;exact e1
 |2,hu=>cases hu;exact e2
 |3,hu=>cases hu;exact e3
 |4,hu=>cases hu;exact e4
def adB (w:Zc)(c:A4)(e:Ending)(w':Zc):Prop:=∃(m q r cap:Nat) (u1 u2 u3 u5:Ze) (cur:Array Ze),e=.returned (.agg #[u1,u2,u3,U (some ⟨q,0,none⟩) c.Aa.length cap,u5])/\Bl w w'/\w.heap.size<=m/\CD w' m q r cap u1 u2 u3 c cur/\SI (NA m q) w' u5 c.now
def aqp (h:RC S w v1 v2 v3 v4 v5 c)(hS:∀b,S b->b<w.heap.size)(Ni:c.base.length<=1000)(hle:c.Af.length<=1000)(hlh:c.hooks.length<=1000)(aH:c.Aa.length<=1000)(E7:0<c.Aa.length)(Tl:c.now.length<=1000)(iw:∀i,i<c.Aa.length->(Ah c.Aa i).Ak.length<=1000/\(Ah c.Aa i).over.length<=1000)(s0 s1 s2:Nat):
  Calls Lp 150 #[.agg #[v1,v2,v3,v4,v5,J .u8 s0,J .u8 s1,J .u8 s2]] w (adB w c):=by
 obtain⟨a1,c1,rfl,l1,m1⟩:=h.base.val;obtain⟨a2,c2,rfl,l2,m2⟩:=h.Af.val;obtain⟨a3,c3,rfl,l3,m3⟩:=h.hooks.val;obtain⟨a4,c4,rfl,l4,m4⟩:=h.Aa.val;obtain⟨a5,c5,rfl,l5,m5⟩:=h.now.val;have Gx:=CI;go_enter Lp.func150,apK;go_wp2;obtain⟨W3,H3⟩:∃W3,W3=(((w.alloc (.cells #[U a1 c.base.length c1,U a2 c.Af.length c2,U a3 c.hooks.length c3,U a4 c.Aa.length c4,U a5 c.now.length c5,J .u8 s0,J .u8 s1,J .u8 s2] 112)).alloc (.cells #[U none 0 0,U none 0 0,U none 0 0,U none 0 0,U none 0 0] 26)).alloc (.cells #[U a1 c.base.length c1,U a2 c.Af.length c2,U a3 c.hooks.length c3,U a4 c.Aa.length c4,U a5 c.now.length c5] 26)):=⟨_,rfl⟩;have Bg:Bl w W3:=by rw[H3];exact bA (bA (bA (Zg _ _)))
 have Ep:W3.heap[w.heap.size+1+1]?=some (.cells #[U a1 c.base.length c1,U a2 c.Af.length c2,U a3 c.hooks.length c3,U a4 c.Aa.length c4,U a5 c.now.length c5] 26 (0,0)):=by
  rw[H3];have:=Bt ((w.alloc (.cells #[U a1 c.base.length c1,U a2 c.Af.length c2,U a3 c.hooks.length c3,U a4 c.Aa.length c4,U a5 c.now.length c5,J .u8 s0,J .u8 s1,J .u8 s2] 112)).alloc (.cells #[U none 0 0,U none 0 0,U none 0 0,U none 0 0,U none 0 0] 26)) (.cells #[U a1 c.base.length c1,U a2 c.Af.length c2,U a3 c.hooks.length c3,U a4 c.Aa.length c4,U a5 c.now.length c5] 26);rwa[ZG,ZG]at this
 have O6:W3.heap[w.heap.size+1]?=some (.cells #[U none 0 0,U none 0 0,U none 0 0,U none 0 0,U none 0 0] 26 (0,0)):=by
  rw[H3];exact Bo (by have:=Bt (w.alloc (.cells #[U a1 c.base.length c1,U a2 c.Af.length c2,U a3 c.hooks.length c3,U a4 c.Aa.length c4,U a5 c.now.length c5,J .u8 s0,J .u8 s1,J .u8 s2] 112)) (.cells #[U none 0 0,U none 0 0,U none 0 0,U none 0 0,U none 0 0] 26);rwa[ZG]at this) _
 rw[<-H3];clear H3;have z0:=fun p=>Al p (ch (i:=0) Ep (v:=.slice a1 c.base.length c1) rfl);have z1:=fun p=>Al p (ch (i:=1) Ep (v:=.slice a2 c.Af.length c2) rfl);have z2:=fun p=>Al p (ch (i:=2) Ep (v:=.slice a3 c.hooks.length c3) rfl);have z4:=fun p=>Al p (ch (i:=4) Ep (v:=.slice a5 c.now.length c5) rfl);refine Dm (S:=fun W=>∃p,W=calm W3 p) [12,13,14,15,16,17,18,19] [(false,2),(true,12),(false,5),(false,8),(false,11),(false,13),(false,14),(false,15),(false,16),(false,17),(false,18),(false,19)] [0,1,3,4,6,7,9,10] (by kernel_rfl) (fun _ _ d _ _ h=>by cases d<;>exact h) (by kernel_rfl) (AO (Zg _ _).drew) ?_;refine Br _ _ (by kernel_rfl) ?_;simp only[zr,zL,Z1,ZQ,ZP]
 repeat (first|go_big_quiet_step (fail)|quiet_step (fail))
 refine zD ?_;clear z0 z1 z2 z4;change Ec _ _ _ _ _ _ _;have hD3:=Bg.drew;have pA:Bl W3 W3.drew:=(Zg _ _).drew;refine Ex (f:=106) (args:= #[U a1 c.base.length c1]) rfl rfl (by go_simp) ((nE (h.later hD3).base Ni).mono ?_);rintro e W4 ⟨u1,rfl,CU,nO⟩;have Mg:=pA.trans (CU.mono pA.size);refine⟨u1,rfl,.inr (AO Mg),?_⟩;have hD4:=Bg.trans (Mg.mono Bg.size);refine OC (v:=.pointer (some ⟨w.heap.size+1+1,0,none⟩)) rfl rfl (fun w=>by go_simp) ?_;refine Ex (f:=166) (args:= #[U a2 c.Af.length c2]) rfl rfl (by go_simp) ((aqa (h.later hD4).Af hle).mono ?_);rintro e W5 ⟨u2,rfl,BS,LD⟩;have sJ:=Mg.trans (BS.mono Mg.size);refine⟨u2,rfl,.inr (AO sJ),?_⟩;have hD5:=Bg.trans (sJ.mono Bg.size);refine Ex (f:=106) (args:= #[U a3 c.hooks.length c3]) rfl rfl (by go_simp) ((nE (h.later hD5).hooks hlh).mono ?_);rintro e W6 ⟨u3,rfl,Dv,NF⟩;have Wh:=sJ.trans (Dv.mono sJ.size);refine⟨u3,rfl,.inr (AO Wh),?_⟩;have hD6:=Bg.trans (Wh.mono Bg.size);refine Ex (f:=106) (args:= #[U a5 c.now.length c5]) rfl rfl (by go_simp) ((nE (h.later hD6).now Tl).mono ?_);rintro e W7 ⟨u5,rfl,Oy,uM⟩;have hX7:=Wh.trans (Oy.mono Wh.size);refine⟨u5,rfl,.inr (AO hX7),?_⟩;have hD7:=Bg.trans (hX7.mono Bg.size);have U7:=(hX7.block _ (Za.1 Ep).1).trans Ep;have hR7:=(hX7.block _ (Za.1 O6).1).trans O6;have aze:=Bg.size;have k5:=Dv.trans (Oy.mono Dv.size);have k4:=BS.trans (k5.mono BS.size);have nO:SI (Cf W3.drew.heap.size W4) W4 u1 c.base:=nO;have LD:SP (Cf W4.heap.size W5) W5 u2 c.Af:=LD;have NF:SI (Cf W5.heap.size W6) W6 u3 c.hooks:=NF;have uM:SI (Cf W6.heap.size W7) W7 u5 c.now:=uM;have n1:SI (Cf W3.heap.size W7) W7 u1 c.base:=(nO.later k4).imp (fun b hb=>Cf.mono (m:=W3.heap.size) k4.size pA.size hb) (fun _ _ x=>x);have n2:SP (Cf W3.heap.size W7) W7 u2 c.Af:=(LD.later k5).imp (fun b hb=>Cf.mono (m:=W3.heap.size) k5.size Mg.size hb) (fun _ _ x=>x);have n3:SI (Cf W3.heap.size W7) W7 u3 c.hooks:=(NF.later Oy).imp (fun b hb=>Cf.mono (m:=W3.heap.size) Oy.size sJ.size hb) (fun _ _ x=>x);have n5:SI (Cf W3.heap.size W7) W7 u5 c.now:=uM.imp (fun b hb=>Cf.mono (m:=W3.heap.size) (Zj _) Wh.size hb) (fun _ _ x=>x);refine Me _ _ _ (by kernel_rfl) (fun x hx w=>.inl ?_) ?_
 .revert x;decide
 simp only[Gl,Z1,ZQ,ZP];obtain⟨p1,d1,rfl,y1,x1⟩:=n1.val;obtain⟨p2,d2,rfl,y2,x2⟩:=n2.val;obtain⟨p3,d3,rfl,y3,x3⟩:=n3.val;obtain⟨p5,d5,rfl,y5,x5⟩:=n5.val;have g0:=ch (i:=0) U7 (v:=.slice a1 c.base.length c1) rfl;have g1:=ch (i:=1) U7 (v:=.slice a2 c.Af.length c2) rfl;have g2:=ch (i:=2) U7 (v:=.slice a3 c.hooks.length c3) rfl;have g3:=ch (i:=3) U7 (v:=.slice a4 c.Aa.length c4) rfl;have g4:=ch (i:=4) U7 (v:=.slice a5 c.now.length c5) rfl;have f0:=cf (i:=0) U7;have f1:=cf (i:=1) U7;have f2:=cf (i:=2) U7;have f3:=cf (i:=3) U7;have f4:=cf (i:=4) U7;clear CU BS Dv Oy Mg sJ Wh pA hD3 hD4 hD5 hD6 nO LD NF uM;have azf:=hX7.size;have hm3:w.heap.size+1+1<W3.heap.size:=(Za.1 Ep).1;go_wp2_with (fail);obtain⟨W8,hW8⟩:∃W8,W8=((((W7.setCell ⟨w.heap.size+1+1,0,none⟩ (U p1 c.base.length d1)).setCell ⟨w.heap.size+1+1,1,none⟩ (U p2 c.Af.length d2)).setCell ⟨w.heap.size+1+1,2,none⟩ (U p3 c.hooks.length d3)).setCell ⟨w.heap.size+1+1,4,none⟩ (U p5 c.now.length d5)):=⟨_,rfl⟩;rw[<-hW8];have uO:W8.heap[w.heap.size+1+1]?=some (.cells #[U p1 c.base.length d1,U p2 c.Af.length d2,U p3 c.hooks.length d3,U a4 c.Aa.length c4,U p5 c.now.length d5] 26 (0,0)):=by
  rw[hW8];exact A8 (A8 (A8 (A8 U7 _) _) _) _
 have xy:Cj (w.heap.size+1+1) W7 W8:=by rw[hW8];exact(((Cj.refl _ _).set.set).set).set
 have JF:Bl w W8:=by rw[hW8];exact bS (bS (bS (bS hD7 (by omega)) (by omega)) (by omega)) (by omega)
 have hR8:W8.heap[w.heap.size+1]?=some (.cells #[U none 0 0,U none 0 0,U none 0 0,U none 0 0,U none 0 0] 26 (0,0)):=(xy.block _ (Za.1 hR7).1 (by omega)).trans hR7;have hs8:CC (Cf W3.heap.size W7) W7 W8:=xy.same (fun b hb e=>by have:=hb.1;omega);have hz8:=xy.size;clear hW8 g0 g1 g2 g3 g4 f0 f1 f2 f3 f4;refine(ajf (h.later JF).Aa aH E7).mono ?_;rintro e W9 ⟨v4,news,rfl,H_,A3,Ol⟩;rcases A3.2 with⟨_,hz⟩|⟨q,cap,cur,rfl,XL,Nk,JH,hq4,nP,kN⟩
 .omega
 have hK9:=(H_.block _ (Za.1 uO).1).trans uO;have hR9:=(H_.block _ (Za.1 hR8).1).trans hR8;have g3:=ch (i:=3) hK9 (v:=.slice a4 c.Aa.length c4) rfl;have f3:=cf (i:=3) hK9;have hqW:=(Za.1 Nk).1;have sI:w.heap.size+1+1<q:=by omega
 have hC0:CW S w W3.heap.size q cap (U p1 c.base.length d1) (U p2 c.Af.length d2) (U p3 c.hooks.length d3) (U p5 c.now.length d5) c 0 cur (W9.setCell ⟨w.heap.size+1+1,3,none⟩ (U (some ⟨q,0,none⟩) c.Aa.length cap)):=by
  have hU9:Cj (w.heap.size+1+1) W7 (W9.setCell ⟨w.heap.size+1+1,3,none⟩ (U (some ⟨q,0,none⟩) c.Aa.length cap)):=(xy.below H_).set;have hs9:CC (Cf W3.heap.size W7) W7 (W9.setCell ⟨w.heap.size+1+1,3,none⟩ (U (some ⟨q,0,none⟩) c.Aa.length cap)):=hU9.same (fun b hb e=>by have:=hb.1;omega);have jI:CC S W8 w:=fun b hb _=>(JF.block b (hS b hb)).symm;have hNA:∀b,Cf W3.heap.size W7 b->NA W3.heap.size q b:=fun b hb=>⟨hb.1,Zm hb.2 (by omega)⟩;refine⟨bS (JF.trans (H_.mono JF.size)) (by omega),(AY (by omega) _).trans hR9,A8 hK9 _,(n1.Aw hs9).imp hNA fun _ _ x=>x,(n2.Aw hs9).imp hNA fun _ _ x=>x,(n3.Aw hs9).imp hNA fun _ _ x=>x,(n5.Aw hs9).imp hNA fun _ _ x=>x,(AY (by omega) _).trans Nk,fun i hi=>?_⟩;obtain⟨v2,v3,e,x2,x3⟩:=Ol i _ (Ct hi);have dh:∀j u,[J I (Ah c.Aa i).low,J I (Ah c.Aa i).high,v2,v3,J I (Ah c.Aa i).left][j]?=some u->cur[i*5+j]?=some u:=fun j u hu=>by
   have hj:j<5:=by have:=(Zl.1 hu).1;simpa using this
   rw[<-e,ZV hj,Yi, <-kN,ZV (by have:=kG hi hj;omega)]at hu;simpa using hu
  exact⟨v2,v3,dh 0 _ rfl,dh 1 _ rfl,dh 2 _ rfl,dh 3 _ rfl,dh 4 _ rfl,.inr ⟨Zn _,x2.Aw jI,x3.Aw jI⟩⟩
 have hz9:W8.heap.size<=W9.heap.size:=H_.size;have HM3:=Zb hm3;clear Bg Ep O6 hm3 n1 n2 n3 n5 U7 hR7 hX7 hD7 k4 k5 xy JF hR8 uO hs8 H_ A3 Ol hK9 hR9 y1 x1 y2 x2 y3 x3 y5 x5;go_wp2;go_loopg [31] c.Aa.length (fun g i wr=>∃(k:Nat) (cur:Array Ze),k<=c.Aa.length/\g=c.Aa.length - k/\i=.int I k/\CW S w W3.heap.size q cap (U p1 c.base.length d1) (U p2 c.Af.length d2) (U p3 c.hooks.length d3) (U p5 c.now.length d5) c k cur wr)
 case atStart=>exact⟨0,cur,Zn _,rfl,rfl,hC0⟩
 case round=>
  obtain⟨k,cur,hk,rfl,rfl,hC⟩:=hrel;by_cases AA:k<c.Aa.length
  .obtain⟨v2,v3,e0,e1,e2,e3,e4,hy⟩:=hC.at_ k AA
   obtain⟨_,hp,ho⟩:=hy.resolve_left (fun z=>absurd z.1 (by omega));obtain⟨MI,Nn⟩:=iw k AA;obtain⟨a6,c6,rfl,l6,m6⟩:=hp.val;obtain⟨a7,c7,rfl,l7,m7⟩:=ho.val;have r0:=ch hC.arr e0;have r1:=ch hC.arr e1;have r2:=ch hC.arr e2;have r3:=ch hC.arr e3;have r4:=ch hC.arr e4;obtain⟨sm,Nb⟩:∃sm,sm=Ah c.Aa k:=⟨_,rfl⟩;rw[<-Nb]at r0 r1 r2 r3 r4 hp ho MI Nn l6 l7;have HSM:=Zb Nb;clear Nb e0 e1 e4;obtain⟨low,high,Ak,over,left⟩:=sm;dsimp only at r0 r1 r2 r3 r4 hp ho MI Nn l6 l7;have Rh:(k:Int)<(c.Aa.length:Int):=by omega
   go_wp2;obtain⟨sK,xz⟩:∃sK,sK=wr.alloc (.cells #[J I low,J I high,U a6 Ak.length c6,U a7 over.length c7,J I left] 62):=⟨_,rfl⟩;have ajn:Bl wr sK:=by rw[xz];exact(Zg _ _).alloc (Zj _) _
   have adF:sK.heap[wr.heap.size]?=some (.cells #[J I low,J I high,U a6 Ak.length c6,U a7 over.length c7,J I left] 62 (0,0)):=by rw[xz];exact Bt _ _
   rw[<-xz];clear xz;have hC1:=hC.later ajn;have nN:q<wr.heap.size:=(Za.1 hC.arr).1;have U8:q<sK.heap.size:=(Za.1 hC1.arr).1;have hi1:(0:Int)<=(k:Int):=by omega
   have z0:=fun p=>Cm (q:=q) p (ch (i:=3) hC1.box (v:=.slice (some ⟨q,0,none⟩) c.Aa.length cap) rfl) (by simp;omega);have z1:=fun p=>Cm (q:=q) p (ch (i:=2) adF (v:=.slice a6 Ak.length c6) rfl) (by simp;omega);have z2:=fun p=>Cm (q:=q) p (ch (i:=3) adF (v:=.slice a7 over.length c7) rfl) (by simp;omega);refine Dm (S:=fun W=>∃p,W=TR sK q p) [] [(false,8),(false,11),(false,12),(false,13),(false,14),(false,15),(false,16),(false,17)] [0,1,2,3,4,5,6,7,9,10] (by kernel_rfl) (fun _ _ d _ _ h=>by cases d<;>exact h) (by kernel_rfl) (BO ((Cj.refl _ _).below (Zg _ _).drew) U8) ?_;refine Br _ _ (by kernel_rfl) ?_;simp only[zr,zL,Z1,ZQ,ZP]
   repeat (first|go_big_quiet_step (fail)|quiet_step (fail))
   refine zD ?_;clear z0 z1 z2;change Ec _ _ _ _ _ _ _;have PI:=hC1.below;have nQ:Cj q sK sK.drew:=(Cj.refl _ _).below (Zg _ _).drew;refine Ex (f:=168) (args:= #[U a6 Ak.length c6]) rfl rfl (by go_simp) ((aqb (hp.later PI.drew) MI).mono ?_);rintro e W11 ⟨x2,rfl,U9,uL⟩;have adG:=nQ.below U9;refine⟨x2,rfl,.inr (BO adG U8),?_⟩;have kO:=PI.drew.trans (U9.mono PI.drew.size);refine Ex (f:=106) (args:= #[U a7 over.length c7]) rfl rfl (by go_simp) ((nE (ho.later kO) Nn).mono ?_);rintro e XS ⟨x3,rfl,du,eJ⟩;have dv:=adG.below du;refine⟨x3,rfl,.inr (BO dv U8),?_⟩;have dy:=hC1.later (((Zg _ _).drew.trans (U9.mono (Zj _))).trans (du.mono U9.size));have azj:=(Za.1 dy.arr).1;have uL:SP (Cf sK.drew.heap.size W11) W11 x2 Ak:=uL;have eJ:SI (Cf W11.heap.size XS) XS x3 over:=eJ;obtain⟨b2,t2,rfl,y2,w2⟩:=uL.val;obtain⟨b3,t3,rfl,y3,w3⟩:=eJ.val;have f2:=cf (i:=k*5+2) dy.arr;have f3:=cf (i:=k*5+3) dy.arr;have r2':=ch dy.arr e2;have r3':=ch dy.arr e3;refine FC (v:=.pointer (some ⟨q,k*5,none⟩)) rfl rfl (by go_simp) (.inr (BO dv U8)) ?_;refine FC (v:=.pointer (some ⟨q,k*5+2,none⟩)) rfl rfl (by go_simp) (.inr (BO dv U8)) ?_;refine Ly (w':=XS.setCell ⟨q,k*5+2,none⟩ (U b2 Ak.length t2)) rfl rfl (by go_simp) (.inr (BO dv.set U8)) ?_;refine FC (v:=.pointer (some ⟨q,k*5,none⟩)) rfl rfl (by go_simp) (.inr (BO dv.set U8)) ?_;refine FC (v:=.pointer (some ⟨q,k*5+3,none⟩)) rfl rfl (by go_simp) (.inr (BO dv.set U8)) ?_;refine Ly (w':=(XS.setCell ⟨q,k*5+2,none⟩ (U b2 Ak.length t2)).setCell ⟨q,k*5+3,none⟩ (U b3 over.length t3)) rfl rfl (by go_simp) (.inr (BO dv.set.set U8)) ?_;have aqt:∀b,Cf sK.drew.heap.size XS b->NB q XS b:=fun b hb=>⟨Zm U8 hb.1,hb.2⟩;have azl:sK.heap.size<=W11.heap.size:=U9.size;have aqu:∀b,Cf W11.heap.size XS b->NB q XS b:=fun b hb=>⟨by have:=hb.1;omega,hb.2⟩;have hV:Cj q XS ((XS.setCell ⟨q,k*5+2,none⟩ (U b2 Ak.length t2)).setCell ⟨q,k*5+3,none⟩ (U b3 over.length t3)):=(Cj.refl _ _).set.set;have hsV:CC (NB q XS) XS ((XS.setCell ⟨q,k*5+2,none⟩ (U b2 Ak.length t2)).setCell ⟨q,k*5+3,none⟩ (U b3 over.length t3)):=hV.same (fun b hb e=>by have:=hb.1;omega);have i2:SP (NB q XS) XS (U b2 Ak.length t2) Ak:=(uL.later du).imp (fun b hb=>aqt b (hb.mono du.size (Zj _))) (fun _ _ x=>x);have i3:SI (NB q XS) XS (U b3 over.length t3) over:=eJ.imp aqu (fun _ _ x=>x);have j2:=Sl.imp (i2.Aw hsV) (fun b (hb:NB q XS b)=>NB.mono hV.size hb) (fun _ _ x=>x);have j3:=Sl.imp (i3.Aw hsV) (fun b (hb:NB q XS b)=>NB.mono hV.size hb) (fun _ _ x=>x);have hC3:=dy.next (v2':=.slice b2 Ak.length t2) (v3':=.slice b3 over.length t3) AA hV sI (A8 (A8 dy.arr _) _)
    (by rw[<-HSM.out];exact j2) (by rw[<-HSM.out];exact j3)
   have HC3:=Zb hC3;clear j2 j3 i2 i3 hC3 dy hC1 hC hsV hV U9 du nQ adG dv uL eJ PI kO adF ajn r0 r1 r2 r3 r4 r2' r3' f2 f3 e2 e3 hp ho;unfold Ec
   go_simp
   go_wp2;go_roundg (c.Aa.length - (k+1))
   case rel=>exact⟨k+1,_,by omega,rfl,by go_num,HC3.out⟩
   case measure=>omega
  .have aI:k=c.Aa.length:=by omega
   subst aI;have iy:=ZX (hC.cd JH hq4 (by omega)) hC.now;have EV:=hC.below;have s0:=ch (i:=0) hC.box (v:=.slice p1 c.base.length d1) rfl;have s1:=ch (i:=1) hC.box (v:=.slice p2 c.Af.length d2) rfl;have s2:=ch (i:=2) hC.box (v:=.slice p3 c.hooks.length d3) rfl;have s3:=ch (i:=3) hC.box (v:=.slice (some ⟨q,0,none⟩) c.Aa.length cap) rfl;have s4:=ch (i:=4) hC.box (v:=.slice p5 c.now.length d5) rfl;have f0:=cf (i:=0) hC.res;have f1:=cf (i:=1) hC.res;have f2:=cf (i:=2) hC.res;have f3:=cf (i:=3) hC.res;have f4:=cf (i:=4) hC.res;have r0:=ch (i:=0) hC.res (v:=.slice none 0 0) rfl;have r1:=ch (i:=1) hC.res (v:=.slice none 0 0) rfl;have r2:=ch (i:=2) hC.res (v:=.slice none 0 0) rfl;have r3:=ch (i:=3) hC.res (v:=.slice none 0 0) rfl;have r4:=ch (i:=4) hC.res (v:=.slice none 0 0) rfl;have pB:=Zb iy;clear iy hC;go_wp2;refine ZU (v:=.agg #[U p1 c.base.length d1,U p2 c.Af.length d2,U p3 c.hooks.length d3,U (some ⟨q,0,none⟩) c.Aa.length cap,U p5 c.now.length d5]) (by rw[A6 rfl];go_simp) rfl ?_;have hV:Cj (w.heap.size+1) wr (((((wr.setCell ⟨w.heap.size+1,0,none⟩ (U p1 c.base.length d1)).setCell ⟨w.heap.size+1,1,none⟩ (U p2 c.Af.length d2)).setCell ⟨w.heap.size+1,2,none⟩ (U p3 c.hooks.length d3)).setCell ⟨w.heap.size+1,3,none⟩ (U (some ⟨q,0,none⟩) c.Aa.length cap)).setCell ⟨w.heap.size+1,4,none⟩ (U p5 c.now.length d5)):=((((Cj.refl _ _).set.set).set).set).set;exact⟨W3.heap.size,q,wr.heap.size,cap,_,_,_,_,_,rfl,bS (bS (bS (bS (bS EV (by omega)) (by omega)) (by omega)) (by omega)) (by omega),by omega,pB.out.1.Aw hV (.inl (by have:=HM3.out;omega)),pB.out.2.Aw (hV.same (fun x hx e=>by have:=hx.1;have:=HM3.out;omega))⟩
def EW (s:List Aq)(i:Nat):List Aq:=s.modify i fun x=> {x with left:=x.left - 1}
def BP:List Aq->List Int->List Aq
 |s,[]=>s
 |s,i::r=>BP (EW s i.toNat) r
def Ea (c:A4)(l:List Int)(t:Nat):A4:= {c with now:=l,Aa:=BP c.Aa (Av t)}
def FE (s:List Aq)(i:Nat):(EW s i).length=s.length:=by simp[EW]
def Mh:∀(l:List Int) (s:List Aq),(BP s l).length=s.length
 | [],_=>rfl
 |_::r,s=>(Mh r _).trans (FE s _)
def Hj {s:List Aq}(hi:i<s.length)(j:Nat):Ah (EW s i) j=if j=i then {Ah s i with left:=(Ah s i).left - 1} else Ah s j:=by
 unfold Ah EW;by_cases h:j=i
 .subst h
  simp[ZR,hi]
 .simp[ZR,h,Zbq h]
def iz {s:List Aq}(h:k<l.length):BP s (l.drop k)=BP (EW s (nth l k).toNat) (l.drop (k+1)):=by
 obtain⟨hk,e⟩:=Zl.1 (A_ h);rw[Zu hk,e]
 rfl
def CD.now {wr:Zc}{m r:Nat}{u3:Ze}(h:CD wr m q r cap u1 u2 u3 c cur)(l:List Int):CD wr m q r cap u1 u2 u3 {c with now:=l} cur:=
 ⟨h.base,h.Af,h.hooks,h.arr,h.at_,h.sG,h.sH,h.mq,h.qr,h.rw_⟩
def CD.dec {wr:Zc}{m r:Nat}{u3:Ze}(h:CD wr m q r cap u1 u2 u3 c cur)(hi:i<c.Aa.length)(hB:Cj q wr W)(ha:W.heap[q]?=some (.cells (cur.setIfInBounds (i*5+4) (J I ((Ah c.Aa i).left - 1))) 62 (0,0))):
  CD W m q r cap u1 u2 u3 {c with Aa:=EW c.Aa i} (cur.setIfInBounds (i*5+4) (J I ((Ah c.Aa i).left - 1))):=by
 have sI:=h.mq;have nN:=h.qr;have hA:CC (NA m q) wr W:=hB.same (fun x hx e=>by have:=hx.1;have:=hx.2;omega);have hN:CC (NR q r) wr W:=hB.same (fun x hx e=>by have:=hx.1;have:=hx.2;omega);refine⟨h.base.Aw hA,h.Af.Aw hA,h.hooks.Aw hA,ha,fun j hj=>?_,by rw[FE];exact h.sG,h.sH,h.mq,h.qr,Zt h.rw_ hB.size⟩;rw[FE]at hj;obtain⟨v2,v3,e0,e1,e2,e3,e4,x2,x3⟩:=h.at_ j hj;have z4:=(Za.1 e4).1;simp only[Hj hi];by_cases Ku:j=i
 .subst Ku
  rw[if_pos rfl];refine⟨v2,v3,?_,?_,?_,?_,?_,x2.Aw hN,x3.Aw hN⟩
  .rw[Zk (by omega)];exact e0
  .rw[Zk (by omega)];exact e1
  .rw[Zk (by omega)];exact e2
  .rw[Zk (by omega)];exact e3
  .rw[Z5 z4]
 .rw[if_neg Ku]
  refine⟨v2,v3,?_,?_,?_,?_,?_,x2.Aw hN,x3.Aw hN⟩
  .rw[Zk (by omega)];exact e0
  .rw[Zk (by omega)];exact e1
  .rw[Zk (by omega)];exact e2
  .rw[Zk (by omega)];exact e3
  .rw[Zk (by omega)];exact e4
def IJ (w:Zc)(o1 o2:Obj):((w.alloc o1).alloc o2).heap[w.heap.size+1]?=some o2:=by
 have:=Bt (w.alloc o1) o2;rwa[ZG]at this
def iA (h:CC T w W)(hq:∀b,T b->b≠q):CC T w (W.setCell ⟨q,i,none⟩ v):=fun b hb hl=>(AY (hq b hb) _).trans (h b hb hl)
def ajq (w:Zc)(s0 s1 s2:Nat)(c:A4)(e:Ending)(w':Zc):Prop:=∃(u1 u2 u3 u4 u5:Ze),e=.returned (.agg #[u1,u2,u3,u4,u5,J .u8 s0,J .u8 s1,J .u8 s2])/\Bl w w'/\RC (Cf w.heap.size w') w' u1 u2 u3 u4 u5 c
structure WW (w:Zc)(m q r cap b7:Nat)(u1 u2 u3 u5:Ze)(g:Array Ze)(c:A4)(l:List Int)(Aa:List Aq)(cur:Array Ze)(wr:Zc):Prop where
 below:Bl w wr
 En:wr.heap[w.heap.size]?=some (.cells g 112 (0,0))
 res:wr.heap[w.heap.size+1]?=some (.cells #[U none 0 0,U none 0 0,U none 0 0,U none 0 0,U none 0 0,J .u8 0,J .u8 0,J .u8 0] 112 (0,0))
 box:wr.heap[b7]?=some (.cells #[u1,u2,u3,U (some ⟨q,0,none⟩) Aa.length cap,u5] 26 (0,0))
 cd:CD wr m q r cap u1 u2 u3 {c with Aa:=Aa} cur
 now:SI (fun b=>b7<b/\b<wr.heap.size) wr u5 l
variable {Aa:List Aq}
def WW.later {wr:Zc}{m r:Nat}{u3:Ze}(h:WW w m q r cap b7 u1 u2 u3 u5 g c l Aa cur wr)(hB:Bl wr W):WW w m q r cap b7 u1 u2 u3 u5 g c l Aa cur W:=
 ⟨h.below.trans (hB.mono h.below.size),(hB.block _ (Za.1 h.En).1).trans h.En,(hB.block _ (Za.1 h.res).1).trans h.res,(hB.block _ (Za.1 h.box).1).trans h.box,h.cd.later hB,
  Sl.imp (h.now.later hB) (fun b (hb:b7<b/\b<wr.heap.size)=>⟨hb.1,Zm hb.2 hB.size⟩) (fun _ _ x=>x)⟩
def WW.dec {wr:Zc}{m r:Nat}{u3:Ze}(h:WW w m q r cap b7 u1 u2 u3 u5 g c l Aa cur wr)(hi:i<Aa.length)(hq:w.heap.size+1<q)(hqb:q<b7):
  WW w m q r cap b7 u1 u2 u3 u5 g c l (EW Aa i) (cur.setIfInBounds (i*5+4) (J I ((Ah Aa i).left - 1))) (wr.setCell ⟨q,i*5+4,none⟩ (J I ((Ah Aa i).left - 1))):=by
 have hU:Cj q wr (wr.setCell ⟨q,i*5+4,none⟩ (J I ((Ah Aa i).left - 1))):=(Cj.refl _ _).set;refine⟨bS h.below (by omega),(AY (by omega) _).trans h.En,(AY (by omega) _).trans h.res,by rw[FE];exact(AY (by omega) _).trans h.box,h.cd.dec hi hU (A8 h.cd.arr _),?_⟩;exact Sl.imp (h.now.Aw (hU.same (fun b hb e=>by have:=hb.1;omega))) (fun b (hb:b7<b/\b<wr.heap.size)=>⟨hb.1,Zm hb.2 hU.size⟩) (fun _ _ x=>x)
def c92 (h:RC S w v1 v2 v3 v4 v5 c)(hl:SI S w v6 l)(hS:∀b,S b->b<w.heap.size)(ht:t<8)(hx:∀x,x∈Av t->0<=x/\x<c.Aa.length)
 (jy:∀i,i<c.Aa.length->-4<=(Ah c.Aa i).left/\(Ah c.Aa i).left<=4) (Ni:c.base.length<=1000) (hle:c.Af.length<=1000) (hlh:c.hooks.length<=1000) (aH:c.Aa.length<=1000) (E7:0<c.Aa.length) (Tl:c.now.length<=1000)
 (iw:∀i,i<c.Aa.length->(Ah c.Aa i).Ak.length<=1000/\(Ah c.Aa i).over.length<=1000) (Rx:l.length<=1000) (s0 s1 s2:Nat):
  Calls Lp 92 #[.agg #[v1,v2,v3,v4,v5,J .u8 s0,J .u8 s1,J .u8 s2],v6,J .u8 t] w (ajq w s0 s1 s2 (Ea c l t)):=by
 obtain⟨a1,c1,rfl,l1,m1⟩:=h.base.val;obtain⟨a2,c2,rfl,l2,m2⟩:=h.Af.val;obtain⟨a3,c3,rfl,l3,m3⟩:=h.hooks.val;obtain⟨a4,c4,rfl,l4,m4⟩:=h.Aa.val;obtain⟨a5,c5,rfl,l5,m5⟩:=h.now.val;obtain⟨a6,c6,rfl,l6,m6⟩:=hl.val;have Gx:=CI;have Bb:Bl w ((w.alloc (.cells #[U a1 c.base.length c1,U a2 c.Af.length c2,U a3 c.hooks.length c3,U a4 c.Aa.length c4,U a5 c.now.length c5,J .u8 s0,J .u8 s1,J .u8 s2] 112)).alloc (.cells #[U none 0 0,U none 0 0,U none 0 0,U none 0 0,U none 0 0,J .u8 0,J .u8 0,J .u8 0] 112)):=bA (bA (Zg _ _));have aqx:=Zb (fun W hB=>aqp (w:=W) (h.later hB) (AE hS hB) Ni hle hlh aH E7 Tl iw s0 s1 s2);have aqy:=Zb (fun W hB=>nE (w:=W) (hl.later hB) Rx);go_enter Lp.func92,n92;go_wp2_with (go_at_call 150;refine(aqx.out _ Bb).mono ?_;rintro e w1 ⟨m,q,r,cap,u1,u2,u3,u5,cur,rfl,AW,hm,hC,uM⟩;obtain⟨p1,d1,rfl,_⟩:=hC.base.val;obtain⟨p2,d2,rfl,_⟩:=hC.Af.val;obtain⟨p3,d3,rfl,_⟩:=hC.hooks.val;obtain⟨p5,d5,rfl,_⟩:=uM.val;have Bg:=Bb.trans (AW.mono Bb.size));have nR:=(AW.block w.heap.size (by simp;omega)).trans (Bo (Bt w (.cells #[U a1 c.base.length c1,U a2 c.Af.length c2,U a3 c.hooks.length c3,U a4 c.Aa.length c4,U a5 c.now.length c5,J .u8 s0,J .u8 s1,J .u8 s2] 112)) _);have hR1:=(AW.block (w.heap.size+1) (by simp)).trans (IJ w _ _);obtain⟨W2,Sg⟩:∃W2,W2=w1.alloc (.cells #[U p1 c.base.length d1,U p2 c.Af.length d2,U p3 c.hooks.length d3,U (some ⟨q,0,none⟩) c.Aa.length cap,U p5 c.now.length d5] 26):=⟨_,rfl⟩;have MK:Bl w1 W2:=by rw[Sg];exact(Zg _ _).alloc (Zj _) _
 have hN2:W2.heap[w1.heap.size]?=some (.cells #[U p1 c.base.length d1,U p2 c.Af.length d2,U p3 c.hooks.length d3,U (some ⟨q,0,none⟩) c.Aa.length cap,U p5 c.now.length d5] 26 (0,0)):=by rw[Sg];exact Bt _ _
 rw[<-Sg];clear Sg;have ajr:=Bg.trans (MK.mono Bg.size);refine(aqy.out _ ajr).mono ?_;rintro e w3 ⟨v,rfl,CU,aD⟩;have hv:SI (Cf W2.heap.size w3) w3 v l:=aD;obtain⟨p6,d6,rfl,_⟩:=hv.val;have pA:=MK.trans (CU.mono MK.size);have hbW:w1.heap.size<W2.heap.size:=(Za.1 hN2).1;have hN3:=(CU.block _ hbW).trans hN2;have n4:=ch (i:=4) hN3 (v:=.slice p5 c.now.length d5) rfl;have k4:=cf (i:=4) hN3;have nS:=hC.rw_;have nN:=hC.qr;have sI:=hC.mq;have hmw:w.heap.size+1<m:=by simp at hm;omega
 have hw1:w.heap.size<w1.heap.size:=(Za.1 nR).1;obtain⟨W4,ER⟩:∃W4,W4=w3.setCell ⟨w1.heap.size,4,none⟩ (U p6 l.length d6):=⟨_,rfl⟩;have U_:Cj w1.heap.size w3 W4:=by rw[ER];exact(Cj.refl _ _).set
 have Kz:W4.heap[w1.heap.size]?=some (.cells #[U p1 c.base.length d1,U p2 c.Af.length d2,U p3 c.hooks.length d3,U (some ⟨q,0,none⟩) c.Aa.length cap,U p6 l.length d6] 26 (0,0)):=by rw[ER];exact A8 hN3 _
 have XT:Bl w W4:=by rw[ER];exact bS (Bg.trans (pA.mono Bg.size)) (by omega)
 have hW0:WW w m q r cap w1.heap.size (U p1 c.base.length d1) (U p2 c.Af.length d2) (U p3 c.hooks.length d3) (U p6 l.length d6) #[U a1 c.base.length c1,U a2 c.Af.length c2,U a3 c.hooks.length c3,U a4 c.Aa.length c4,U a5 c.now.length c5,J .u8 s0,J .u8 s1,J .u8 s2] c l c.Aa cur W4:= {
  below:=XT
  En:=(U_.block _ (Zm hw1 pA.size) (by omega)).trans ((pA.block _ hw1).trans nR)
  res:=(U_.block _ (Zm (Za.1 hR1).1 pA.size) (by omega)).trans ((pA.block _ (Za.1 hR1).1).trans hR1)
  box:=Kz
  cd:=(hC.later pA).Aw U_ (.inr nS)
  now:=Sl.imp (hv.Aw (U_.same (fun b hb e=>by have:=hb.1;omega))) (fun b (hb:Cf W2.heap.size w3 b)=>⟨Zm hbW hb.1,Zm hb.2 U_.size⟩) (fun _ _ x=>x)}
 have HW0:=Zb hW0;have azn:(Av t).length<=3:=JG t 3;clear hW0 U_ Kz XT hC uM AW MK hN2 ajr CU hv aD pA hN3 nR hR1 Bb Bg;go_wp2_with (fail);rw[<-ER];clear ER n4 k4;refine(xm ht).mono ?_;rintro e w5 ⟨v7,rfl,BS,hv7,_⟩;obtain⟨p7,d7,rfl,l7,m7⟩:=hv7.val;have JO:WW w m q r cap w1.heap.size (U p1 c.base.length d1) (U p2 c.Af.length d2) (U p3 c.hooks.length d3) (U p6 l.length d6) #[U a1 c.base.length c1,U a2 c.Af.length c2,U a3 c.hooks.length c3,U a4 c.Aa.length c4,U a5 c.now.length c5,J .u8 s0,J .u8 s1,J .u8 s2] c l c.Aa cur w5:=HW0.out.later BS;have HX:=Zb hx;have sL:=BS.size;have hbz:w1.heap.size<W4.heap.size:=(Za.1 HW0.out.box).1;clear HW0 BS;dsimp only;go_wp2;go_loopg [18] (Av t).length (fun g i wr=>∃(k:Nat) (sm:List Aq) (cur:Array Ze),k<=(Av t).length/\g=(Av t).length - k/\i=.int I k/\sm.length=c.Aa.length/\BP sm ((Av t).drop k)=BP c.Aa (Av t)/\(∀i,i<c.Aa.length->-4 - (k:Int)<=(Ah sm i).left/\(Ah sm i).left<=4)/\Cj q w5 wr/\
  WW w m q r cap w1.heap.size (U p1 c.base.length d1) (U p2 c.Af.length d2) (U p3 c.hooks.length d3) (U p6 l.length d6) #[U a1 c.base.length c1,U a2 c.Af.length c2,U a3 c.hooks.length c3,U a4 c.Aa.length c4,U a5 c.now.length c5,J .u8 s0,J .u8 s1,J .u8 s2] c l sm cur wr)
 case atStart=>exact⟨0,c.Aa,cur,Zn _,rfl,rfl,rfl,rfl,fun i hi=>by have:=jy i hi;omega,Cj.refl _ _,JO⟩
 case round=>
  obtain⟨k,sm,cur,hk,rfl,rfl,ajs,Cn,nT,hU,hW⟩:=hrel;have hf:=Zb Cn;have O7:=Zb ajs;clear Cn ajs;by_cases AA:k<(Av t).length
  .obtain⟨b,o,rfl,hb,hc⟩:=hv7.at_ AA
   have Pl:=CC.cell (hU.same (T:=fun b=>b≠q) (fun _ h=>h)) (p:=⟨b,o+k,none⟩) (by have:=hb.1;simp;omega) hc;clear hc;obtain⟨Ll,O5⟩:=HX.out _ (IG AA);have Qo:=Zb (iz (s:=sm) AA);obtain⟨x,fT⟩:∃x:Nat,nth (Av t) k=x:=⟨(nth (Av t) k).toNat,by omega⟩;rw[fT]at Pl Ll O5 Qo;clear fT;have ic:x<c.Aa.length:=by omega
   have hxs:x<sm.length:=by rw[O7.out];exact ic
   have hxi:(x:Int)<(sm.length:Int):=by omega
   obtain⟨y2,y3,_,_,_,_,e4,_,_⟩:=hW.cd.at_ x hxs;obtain⟨eK,Kx⟩:=nT x ic;have HLF:=Zb nT;have HD:=Zb (hW.dec hxs (by omega) (by omega));have HU:=Zb (hU.set (i:=x*5+4) (v:=.int I ((Ah sm x).left - 1)));have r4:=ch hW.cd.arr e4;have f4:=cf (i:=x*5+4) hW.cd.arr;have b3:=ch (i:=3) hW.box (v:=.slice (some ⟨q,0,none⟩) sm.length cap) rfl;clear hW hU nT e4;obtain⟨lf,nT⟩:∃lf,lf=(Ah sm x).left:=⟨_,rfl⟩;dsimp only at r4;rw[<-nT]at r4 eK Kx HD HU;have HLE:=Zb nT;clear nT;go_wp2;go_roundg ((Av t).length - (k+1))
   case rel=>exact⟨k+1,EW sm x,_,by omega,rfl,by go_num,by rw[FE];exact O7.out,by rw[<-hf.out,Qo.out];rfl,fun i hi=>by
    have:=HLF.out i hi;rw[Hj hxs];split
    .have:=HLF.out x ic
     show -4 - ((k+1:Nat):Int)<=(Ah sm x).left - 1/\(Ah sm x).left - 1<=4;omega
    .omega,HU.out,HD.out⟩
   case measure=>omega
  .have hks:sm=BP c.Aa (Av t):=by rw[<-hf.out,Zz.2 (by omega)];rfl
   have HK:=Zb hks;clear hks hf;have e1:w.heap.size+1<w1.heap.size:=by omega
   have pB:=Zb ((hW.cd.now l).rc (T:=fun b=>w.heap.size+1<b/\b<wr.heap.size) (u5:=.slice p6 l.length d6) (h5:=Sl.imp hW.now (fun b (hb:w1.heap.size<b/\b<wr.heap.size)=>⟨Nat.lt_trans e1 hb.1,hb.2⟩) (fun _ _ x=>x)) (fun b h1 h2=>⟨Zm hmw h1,Zm h2 hW.cd.rw_⟩));have HW:=Zb hW.below;have t0:=ch (i:=0) hW.box (v:=.slice p1 c.base.length d1) rfl;have t1:=ch (i:=1) hW.box (v:=.slice p2 c.Af.length d2) rfl;have t2:=ch (i:=2) hW.box (v:=.slice p3 c.hooks.length d3) rfl;have t3:=ch (i:=3) hW.box (v:=.slice (some ⟨q,0,none⟩) sm.length cap) rfl;have t4:=ch (i:=4) hW.box (v:=.slice p6 l.length d6) rfl;have g0:=ch (i:=0) hW.En (v:=.slice a1 c.base.length c1) rfl;have g1:=ch (i:=1) hW.En (v:=.slice a2 c.Af.length c2) rfl;have g2:=ch (i:=2) hW.En (v:=.slice a3 c.hooks.length c3) rfl;have g3:=ch (i:=3) hW.En (v:=.slice a4 c.Aa.length c4) rfl;have g4:=ch (i:=4) hW.En (v:=.slice a5 c.now.length c5) rfl;have g5:=ch (i:=5) hW.En (v:=.int .u8 s0) rfl;have g6:=ch (i:=6) hW.En (v:=.int .u8 s1) rfl;have g7:=ch (i:=7) hW.En (v:=.int .u8 s2) rfl;have h0:=cf (i:=0) hW.En;have h1:=cf (i:=1) hW.En;have h2:=cf (i:=2) hW.En;have h3:=cf (i:=3) hW.En;have h4:=cf (i:=4) hW.En;have f0:=cf (i:=0) hW.res;have f1:=cf (i:=1) hW.res;have f2:=cf (i:=2) hW.res;have f3:=cf (i:=3) hW.res;have f4:=cf (i:=4) hW.res;have f5:=cf (i:=5) hW.res;have f6:=cf (i:=6) hW.res;have f7:=cf (i:=7) hW.res;have r0:=ch (i:=0) hW.res (v:=.slice none 0 0) rfl;have r1:=ch (i:=1) hW.res (v:=.slice none 0 0) rfl;have r2:=ch (i:=2) hW.res (v:=.slice none 0 0) rfl;have r3:=ch (i:=3) hW.res (v:=.slice none 0 0) rfl;have r4:=ch (i:=4) hW.res (v:=.slice none 0 0) rfl;have r5:=ch (i:=5) hW.res (v:=.int .u8 0) rfl;have r6:=ch (i:=6) hW.res (v:=.int .u8 0) rfl;have r7:=ch (i:=7) hW.res (v:=.int .u8 0) rfl;clear hW hU nT;go_wp2;refine ZU (v:=.agg #[U p1 c.base.length d1,U p2 c.Af.length d2,U p3 c.hooks.length d3,U (some ⟨q,0,none⟩) sm.length cap,U p6 l.length d6,J .u8 s0,J .u8 s1,J .u8 s2]) (by rw[A6 rfl];go_simp) rfl ?_;have hwc:Ea c l t= { {c with Aa:=sm} with now:=l}:=by rw[HK.out];rfl
   refine⟨_,_,_,_,_,rfl,?_,?_⟩
   .have EV:=HW.out
    repeat (with_reducible first|exact EV|(refine bS ?_ (by omega)))
   .rw[hwc]
    refine(pB.out.Aw ?_).imp (fun b hb=>⟨by have:=hb.1;omega,?_⟩)
    .repeat (with_reducible first|exact CC.refl _ _|(refine iA ?_ (fun b hb e=>by have:=hb.1;omega)))
    .simpa using hb.2
def Iv (w:Zc):Prop:=w.cell? ⟨0,0,none⟩=some (.iface 220 (.agg #[.pointer (some ⟨1,117,none⟩)]))
def Iv.pos (h:Iv w):0<w.heap.size:=Zy w _ h
def Iv.later (h:Iv w)(hB:Bl w W):Iv W:=(hB.cell (p:=⟨0,0,none⟩) h.pos).trans h
def Two (w:Zc)(v:Ze)(e:Ending)(w':Zc):Prop:=Bl w w'/\(e=.returned v\/∃x,e=.panicked x/\PX x w')
def aqB {m:Int}(ht:w.heap[t]?=some (.cells #[J I m] 121 (0,0)))(hG:Iv w):Calls Lp 91 #[.nilIface,.iface 123 (.pointer (some ⟨t,0,none⟩))] w (Two w (.bool false)):=by
 cases h1:(((zS 1 0 3).cut (w.tape w.drawn (.appendCap 1 0 3)):Int)==1) with
 |true=>exact(Py _ _ _ h1).mono fun e w' ⟨he,hB⟩=>⟨hB,.inr ⟨_,he,.inr ⟨_,_,_,_,rfl,.inl rfl,t,m,rfl,(Za.1 ht).1,(hB.block _ (Za.1 ht).1).trans ht,hG.pos,hG.later hB⟩⟩⟩
 |false=>exact(j7 _ _ h1).mono fun e w' ⟨he,hB⟩=>⟨hB,.inl he⟩
def As (w:Zc)(t:Nat)(n:Int)(e:Ending)(w':Zc):Prop:=(e=.returned (.bool true)/\YS w.heap.size (w.setCell ⟨t,0,none⟩ (J I n)) w')\/(Bl w w'/\∃x,e=.panicked x/\PX x w')
def aqC {m n:Int}(ht:w.heap[t]?=some (.cells #[J I m] 121 (0,0)))(hG:Iv w):Calls Lp 91 #[.iface 121 (.agg #[J I n]),.iface 123 (.pointer (some ⟨t,0,none⟩))] w (As w t n):=by
 cases h1:(((zS 1 0 3).cut (w.tape w.drawn (.appendCap 1 0 3)):Int)==1) with
 |true=>exact(Py _ _ _ h1).mono fun e w' ⟨he,hB⟩=>.inr ⟨hB,_,he,.inr ⟨_,_,_,_,rfl,.inr ⟨n,rfl⟩,t,m,rfl,(Za.1 ht).1,(hB.block _ (Za.1 ht).1).trans ht,hG.pos,hG.later hB⟩⟩
 |false=>exact(j8 n m t w h1 ht).mono fun e w' ⟨he,hB⟩=>.inl ⟨he,hB⟩
def Rl (S:Nat->Prop)(w:Zc)(cs:List Ze)(x:List Int):Prop:=∃u,cs=[u]/\SI S w u x
abbrev SL (S:Nat->Prop):=Sl S (Rl S) 1
def SL.Aw {l:List (List Int)}(h:SL S w v l)(hw:CC S w w'):SL S w' v l:=Sl.Aw h hw fun _ _ ⟨u,e,hu⟩=>⟨u,e,hu.Aw hw⟩
def SL.later {l:List (List Int)}(h:SL S w v l)(hB:Bl w W):SL S W v l:=h.Aw (CC.DY hB)
def Cu (l:List (List Int))(i:Nat):List Int:=l.getD i []
def C2 {l:List (List Int)}(h:i<l.length):l[i]?=some (Cu l i):=by simp[Cu,h]
def SL.at_ {a:Option Addr}{c:Nat}{l:List (List Int)}(h:SL S w (U a l.length c) l)(hi:i<l.length):∃b o u,a=some ⟨b,o,none⟩/\S b/\w.cell? ⟨b,o+i,none⟩=some u/\SI S w u (Cu l i):=by
 obtain⟨a',c',h1,_,_,h4⟩:=h;cases h1;obtain⟨b,o,cs,g1,g2,g3,g4,u,rfl,hu⟩:=h4 i _ (C2 hi);exact⟨b,o,u,g1,g2,by simpa using g4 0 _ rfl,hu⟩
def Np (ab:Nat->Nat):A4->Nat->List (List Int)->Int×Int
 |_,_,[]=>(-1,-1)
 |c,k,l::r=>match J_ c (Cb ab c.now l) with
  |some x=>(k,x)
  |none=>Np ab (Ea c l (Cb ab c.now l)) (k+1) r
def Gb (c:A4)(ls:List (List Int)):Int:=QC (B_ c) (if 5<ls.length then 6 else Bd (Cz c) ls)
def EH (c:A4)(ls:List (List Int)):Int×Int:=if Gb c ls=0 then Np (Au c.Aa) c 0 ls else(0,0)
variable {ls:List (List Int)}
def dz (h:k<ls.length):Np ab c k (ls.drop k)=(match J_ c (Cb ab c.now (Cu ls k)) with
  |some x=>((k:Int),x)
  |none=>Np ab (Ea c (Cu ls k) (Cb ab c.now (Cu ls k))) (k+1) (ls.drop (k+1))):=by
 obtain⟨hk,e⟩:=Zl.1 (C2 h);rw[Zu hk,e]
 rfl
def IK (t:Nat):(Av t).Nodup:=by
 unfold Av FU;unfold List.Nodup;rw[List.pairwise_map];exact(List.Pairwise.filter _ (List.nodup_range (n:=3))).imp (fun h e=>h (by omega))
def IL:∀(l:List Int) (s:List Aq) (j:Nat),(∀x∈l,0<=x/\x<s.length)->(j:Int)∉l->Ah (BP s l) j=Ah s j
 | [],_,_,_,_=>rfl
 |i::r,s,j,hx,hj=>by
  obtain⟨h0,h1⟩:=hx i (zo ..);have hi:i.toNat<s.length:=by omega
  show Ah (BP (EW s i.toNat) r) j=_;rw[IL r _ j (fun x hm=>by rw[FE];exact hx x (Z9 _ hm)) (fun hm=>hj (Z9 _ hm)),Hj hi,if_neg];intro e;exact hj (by rw[e,show((i.toNat:Nat):Int)=i by omega];exact zo ..)
def Ke:∀(l:List Int) (s:List Aq) (j:Nat),l.Nodup->(∀x∈l,0<=x/\x<s.length)->(Ah (BP s l) j).left=(Ah s j).left\/(Ah (BP s l) j).left=(Ah s j).left - 1
 | [],_,_,_,_=>.inl rfl
 |i::r,s,j,hn,hx=>by
  obtain⟨h0,h1⟩:=hx i (zo ..);have hi:i.toNat<s.length:=by omega
  have hr:∀x∈r,0<=x/\x<(EW s i.toNat).length:=fun x hm=>by rw[FE];exact hx x (Z9 _ hm)
  show(Ah (BP (EW s i.toNat) r) j).left=_\/(Ah (BP (EW s i.toNat) r) j).left=_;by_cases hj:j=i.toNat
  .rw[IL r _ j hr (fun hm=>(List.nodup_cons.1 hn).1 (by rw[hj,show((i.toNat:Nat):Int)=i by omega]at hm;exact hm)),Hj hi,if_pos hj,hj]
   exact .inr rfl
  .have:=Ke r _ j (List.nodup_cons.1 hn).2 hr
   rw[Hj hi,if_neg hj]at this;exact this
def Nq:∀(l:List Int) (s:List Aq) (j:Nat),(∀x∈l,0<=x/\x<s.length)->(Ah (BP s l) j).Ak=(Ah s j).Ak/\(Ah (BP s l) j).over=(Ah s j).over/\(Ah (BP s l) j).low=(Ah s j).low/\(Ah (BP s l) j).high=(Ah s j).high
 | [],_,_,_=>⟨rfl,rfl,rfl,rfl⟩
 |i::r,s,j,hx=>by
  obtain⟨h0,h1⟩:=hx i (zo ..);have hi:i.toNat<s.length:=by omega
  have:=Nq r (EW s i.toNat) j (fun x hm=>by rw[FE];exact hx x (Z9 _ hm));rw[Hj hi]at this;change(Ah (BP (EW s i.toNat) r) j).Ak=_/\(Ah (BP (EW s i.toNat) r) j).over=_/\(Ah (BP (EW s i.toNat) r) j).low=_/\(Ah (BP (EW s i.toNat) r) j).high=_;split at this
  .next e=>rw[e]at this⊢;exact this
  .exact this
def aqD (w:Zc)(a b e:Int):Ending->Zc->Prop:=Two w (.tuple #[J I a,J I b,J I e])
def Er {fn:Func}{p q r:Tmp}(h:fn.results= #[.tmp p,.tmp q,.tmp r])(tmps:Array Ze)(P:Zp)(w:Zc):(results fn tmps).run P w=.ok (.tuple #[tmps.getD p Zf,tmps.getD q Zf,tmps.getD r Zf]) w:=by
 simp[results,h]
structure DOK (c d:A4)(k:Nat):Prop where
 base:d.base=c.base
 Af:d.Af=c.Af
 hooks:d.hooks=c.hooks
 len:d.Aa.length=c.Aa.length
 now:d.now.length=c.Aa.length
 left:∀i,i<c.Aa.length->-(k:Int)<=(Ah d.Aa i).left/\(Ah d.Aa i).left<=4
 rest:∀i,i<c.Aa.length->(Ah d.Aa i).Ak.length<=1000/\(Ah d.Aa i).over.length<=1000
def DOK.adI {d:A4}(h:DOK c d k)(hl:l.length=c.Aa.length)(hx:∀x,x∈Av t->0<=x/\x<d.Aa.length):DOK c (Ea d l t) (k+1):=by
 refine⟨h.base,h.Af,h.hooks,(Mh _ _).trans h.len,hl,fun i hi=>?_,fun i hi=>?_⟩
 .have:=h.left i hi
  show -((k+1:Nat):Int)<=(Ah (BP d.Aa (Av t)) i).left/\(Ah (BP d.Aa (Av t)) i).left<=4;rcases Ke (Av t) d.Aa i (IK t) hx with e|e<;>rw[e]<;>omega
 .have:=h.rest i hi
  obtain⟨e1,e2,_⟩:=Nq (Av t) d.Aa i hx;show(Ah (BP d.Aa (Av t)) i).Ak.length<=1000/\(Ah (BP d.Aa (Av t)) i).over.length<=1000;rw[e1,e2];exact this
def c34 (h:RC S w v1 v2 v3 v4 v5 c)(hl:SL S w v6 ls)(hS:∀b,S b->b<w.heap.size)(hG:Iv w)(UE:∀i,i<c.Aa.length->(Ah c.Aa i).over.length<=1000):
  Calls Lp 34 #[.agg #[v1,v2,v3,v4,v5],v6] w (aqD w (EH c ls).1 (EH c ls).2 (Gb c ls)):=by
 obtain⟨a1,c1,rfl,l1,m1⟩:=h.base.val;obtain⟨a2,c2,rfl,l2,m2⟩:=h.Af.val;obtain⟨a3,c3,rfl,l3,m3⟩:=h.hooks.val;obtain⟨a4,c4,rfl,l4,m4⟩:=h.Aa.val;obtain⟨a5,c5,rfl,l5,m5⟩:=h.now.val;obtain⟨a6,c6,rfl,l6,m6⟩:=hl.val;have Gx:=CI;have Bb:Bl w (w.alloc (.cells #[U a1 c.base.length c1,U a2 c.Af.length c2,U a3 c.hooks.length c3,U a4 c.Aa.length c4,U a5 c.now.length c5] 26)):=(Zg _ _).alloc (Zj _) _;by_cases Kd:B_ c=0
 .have uJ:=Zb (fun W hB=>rZ (w:=W) (h.later hB) (AE hS hB) Kd)
  have H89:=Zb (fun W hB v l (hv:SI S w v l)=>c89 (w:=W) (h.later hB) (hv.later hB) (AE hS hB));have HE:=Zb (show Gb c ls=if 5<ls.length then 6 else Bd (Cz c) ls by rw[Gb,B0 Kd]);by_cases hm:5<ls.length
  .have HX:=Zb (show Gb c ls=6 by rw[HE.out,if_pos hm])
   have HV:=Zb (show EH c ls=(0,0) by rw[EH,HX.out];rfl);have hmi:(5:Int)<(ls.length:Int):=by omega
   clear Kd;go_enter Lp.func34,n34;go_wp2_with (go_at_call 88;refine(uJ.out _ Bb).mono ?_;rintro e w1 ⟨rfl,AW⟩;have Bg:=Bb.trans (AW.mono Bb.size));refine ZU (Er rfl _ _ _) rfl ?_;refine⟨?_,.inl (by rw[HV.out,HX.out];rfl)⟩
   repeat (with_reducible first|exact Bg|refine bA ?_|(refine bS ?_ (by omega))|refine bD ?_|refine bN ?_)
  .have HX:=Zb (show Gb c ls=Bd (Cz c) ls by rw[HE.out,if_neg hm])
   have hm5:ls.length<=5:=by omega
   have HB0:=Zb Kd;have hv:=EU Kd;clear Kd hm;go_enter Lp.func34,n34;go_wp2_with (go_at_call 88;refine(uJ.out _ Bb).mono ?_;rintro e w1 ⟨rfl,AW⟩;have Bg:=Bb.trans (AW.mono Bb.size));obtain⟨W2,Sg⟩:∃W2,W2=w1.alloc (.cells (Bj (U a1 c.base.length c1) (U a2 c.Af.length c2) (U a3 c.hooks.length c3) (U a4 c.Aa.length c4) (U a5 c.now.length c5) (Au c.Aa)) 112):=⟨_,rfl⟩;have MK:Bl w1 W2:=by rw[Sg];exact(Zg _ _).alloc (Zj _) _
   have U3:W2.heap[w1.heap.size]?=some (.cells (Bj (U a1 c.base.length c1) (U a2 c.Af.length c2) (U a3 c.hooks.length c3) (U a4 c.Aa.length c4) (U a5 c.now.length c5) (Au c.Aa)) 112 (0,0)):=by rw[Sg];exact Bt _ _
   have pj:=(AW.block w.heap.size (by simp)).trans (Bt w _);have hK2:=(MK.block _ (Za.1 pj).1).trans pj;have CU:=Bg.trans (MK.mono Bg.size);change Code.wp _ _ _ _ (w1.alloc (.cells (Bj (U a1 c.base.length c1) (U a2 c.Af.length c2) (U a3 c.hooks.length c3) (U a4 c.Aa.length c4) (U a5 c.now.length c5) (Au c.Aa)) 112));rw[<-Sg];clear Sg MK pj AW uJ;go_loopg [30] ls.length (fun g i wr=>∃k:Nat,k<=ls.length/\g=ls.length - k/\i=.int I k/\Bd (Cz c) (ls.drop k)=Bd (Cz c) ls/\Bl W2 wr)
   case atStart=>exact⟨0,Zn _,rfl,rfl,rfl,Zg _ _⟩
   case round=>
    obtain⟨k,hk,rfl,rfl,Cn,LC⟩:=hrel;have hf:=Zb Cn;clear Cn;have BS:=CU.trans (LC.mono CU.size);have hKr:=(LC.block _ (Za.1 hK2).1).trans hK2;by_cases AA:k<ls.length
    .obtain⟨b,o,u,rfl,hb,hc,hu⟩:=hl.at_ AA
     rw[<-BS.cell (p:=⟨b,o+k,none⟩) (hS b hb)]at hc;obtain⟨a7,c7,rfl,l7,m7⟩:=hu.val;have hfd:=Zb (Fi (f:=Cz c) (C2 AA));have k0:=ch (i:=0) hKr (v:=.slice a1 c.base.length c1) rfl;have k1:=ch (i:=1) hKr (v:=.slice a2 c.Af.length c2) rfl;have k2:=ch (i:=2) hKr (v:=.slice a3 c.hooks.length c3) rfl;have k3:=ch (i:=3) hKr (v:=.slice a4 c.Aa.length c4) rfl;have k4:=ch (i:=4) hKr (v:=.slice a5 c.now.length c5) rfl;go_wp2_with (go_at_call 89;refine(H89.out _ BS _ _ hu).mono ?_;rintro e w3 ⟨rfl,Dv⟩;have Oy:=LC.trans (Dv.mono LC.size))
     .have q:(Cz c (Cu ls k) !=0)=true:=by assumption
      have e1:Bd (Cz c) ls=Cz c (Cu ls k):=by rw[<-hf.out,hfd.out,if_neg (GF q)]
      refine ZU (Er rfl _ _ _) rfl ?_;have e2:Gb c ls=Cz c (Cu ls k):=by rw[HX.out,e1]
      have e3:EH c ls=(0,0):=by rw[EH,e2,if_neg (GF q)]
      exact⟨CU.trans (Oy.mono CU.size),.inl (by rw[e3,e2];rfl)⟩
     .have q:(Cz c (Cu ls k) !=0)=false:=by assumption
      go_roundg (ls.length - (k+1))
      case rel=>exact⟨k+1,by omega,rfl,by go_num,by rw[<-hf.out,hfd.out,if_pos (FT q)],Oy⟩
      case measure=>omega
    .have e0:Bd (Cz c) ls=0:=by rw[<-hf.out];exact F8 (by omega)
     have HX0:=Zb (show Gb c ls=0 by rw[HX.out,e0]);have HV:=Zb (show EH c ls=Np (Au c.Aa) c 0 ls by rw[EH,if_pos HX0.out]);have HSE:=Zb (fun i (hi:i<ls.length)=>Eo e0 i _ (C2 hi));obtain⟨ab,EC⟩:∃ab,ab=Au c.Aa:=⟨_,rfl⟩;have ha8:=PQ hv.over;have haL:=Mf hv.over;have kP:=(LC.block _ (Za.1 U3).1).trans U3;rw[<-EC]at HV ha8 haL kP;have HAB:=Zb EC;have I9:=hv.few;have aaX:=hv.xr;have hg3:=hv.EG;have hD0:DOK c c 0:=⟨rfl,rfl,rfl,rfl,aaX,fun i hi=>by have:=hv.left i hi;omega,fun i hi=>⟨by have:=hv.Ak i hi;omega,UE i hi⟩⟩;have mZ:∀b,S b->b<wr.heap.size/\b≠w1.heap.size:=fun b hb=>⟨Zm (hS b hb) BS.size,by have:=hS b hb;have:=Bg.size;omega⟩;have aqG:=h.later BS;have HEQ:=Zb hv.QG;have HHQ:=Zb hv.hooks;clear hf e0 EC hKr CU hK2 U3 LC Bb aaX;go_wp2;go_loopg [43] ls.length (fun g i wx=>∃(k:Nat) (d:A4) (T:Nat->Prop) (q1 q2 q3 q4 q5:Option Addr) (d1 d2 d3 d4 d5:Nat),k<=ls.length/\g=ls.length - k/\i=.int I k/\Np ab d k (ls.drop k)=Np ab c 0 ls/\DOK c d k/\Bl w wx/\
      wx.heap[w1.heap.size]?=some (.cells #[U q1 d.base.length d1,U q2 d.Af.length d2,U q3 d.hooks.length d3,U q4 d.Aa.length d4,U q5 d.now.length d5,J .u8 (ab 0),J .u8 (ab 1),J .u8 (ab 2)] 112 (0,0))/\RC T wx (U q1 d.base.length d1) (U q2 d.Af.length d2) (U q3 d.hooks.length d3) (U q4 d.Aa.length d4) (U q5 d.now.length d5) d/\(∀b,T b->b<wx.heap.size/\b≠w1.heap.size))
     case atStart=>exact⟨0,c,S,_,_,_,_,_,_,_,_,_,_,Zn _,rfl,rfl,rfl,hD0,BS,kP,aqG,mZ⟩
     case round=>
      obtain⟨k,d,T,q1,q2,q3,q4,q5,d1,d2,d3,d4,d5,hk,rfl,rfl,Cn,hD,QF,TY,hR,hT⟩:=hrel;have hf:=Zb Cn;clear Cn;by_cases GG:k<ls.length
      .obtain⟨b,o,u,rfl,hb,hc,hu⟩:=hl.at_ GG
       rw[<-QF.cell (p:=⟨b,o+k,none⟩) (hS b hb)]at hc;obtain⟨a7,c7,rfl,l7,m7⟩:=hu.val;have Fp:=HSE.out k GG;obtain⟨hlen,_⟩:=D6 Fp;have hdn:=hD.now;have hds:=hD.len;obtain⟨lk,hlk⟩:∃lk,lk=Cu ls k:=⟨_,rfl⟩;have hld:=Zb (dz (ab:=ab) (c:=d) GG);rw[<-hlk]at hc hu l7 hlen hld;clear hlk Fp;obtain⟨t,ht⟩:∃t,t=Cb ab d.now lk:=⟨_,rfl⟩;have O2:t<2^c.Aa.length:=by rw[ht];exact Kb haL lk 0 0 (by omega) (ZdA _)
       have eL:t<8:=Zm O2 (show 2^c.Aa.length<=2^3 from Zbm (by decide) I9.2);have TZ:∀x,x∈Av t->0<=x/\x<d.Aa.length:=by rw[hds];exact OH O2
       have hTS:∀W,Bl wr W->∀b,(T b\/S b)->b<W.heap.size:=fun W EV b hb=>by
        rcases hb with hb|hb
        .have:=(hT b hb).1;have:=EV.size;omega
        .have:=hS b hb;have:=QF.size;have:=EV.size;omega
       have hRT:∀W,Bl wr W->RC (fun b=>T b\/S b) W (U q1 d.base.length d1) (U q2 d.Af.length d2) (U q3 d.hooks.length d3) (U q4 d.Aa.length d4) (U q5 d.now.length d5) d:=fun W EV=>(hR.later EV).imp (fun b hb=>.inl hb);have huT:∀W,Bl wr W->SI (fun b=>T b\/S b) W (U a7 lk.length c7) lk:=fun W EV=>Sl.imp ((hu.later QF).later EV) (fun b hb=>.inr hb) (fun _ _ x=>x);have Rj:=Zb (fun W (EV:Bl wr W)=>c90 (w:=W) (l:=lk) (ab:=ab) (hRT W EV) (huT W EV) (by omega) (by omega) ha8 (by rw[<-ht];exact TZ) (hTS W EV));have sM:=Zb (fun W (EV:Bl wr W) (h1:k<=4)=>c92 (w:=W) (l:=lk) (t:=t) (hRT W EV) (huT W EV) (hTS W EV) eL TZ (fun i hi=>by have:=hD.left i (by omega);omega) (by rw[hD.base];omega) (by rw[hD.Af,HEQ.out];omega) (by rw[hD.hooks,HHQ.out];omega) (by omega) (by omega) (by omega) (fun i hi=>hD.rest i (by omega)) (by omega) (ab 0) (ab 1) (ab 2));rw[<-ht]at Rj hld;have HT:=Zb ht;have HDw:=Zb (hD.adI (t:=t) (l:=lk) (by omega) TZ);have k0:=ch (i:=0) TY (v:=.slice q1 d.base.length d1) rfl;have k1:=ch (i:=1) TY (v:=.slice q2 d.Af.length d2) rfl;have k2:=ch (i:=2) TY (v:=.slice q3 d.hooks.length d3) rfl;have k3:=ch (i:=3) TY (v:=.slice q4 d.Aa.length d4) rfl;have k4:=ch (i:=4) TY (v:=.slice q5 d.now.length d5) rfl;have k5:=ch (i:=5) TY (v:=.int .u8 (ab 0)) rfl;have k6:=ch (i:=6) TY (v:=.int .u8 (ab 1)) rfl;have k7:=ch (i:=7) TY (v:=.int .u8 (ab 2)) rfl;have hwl:=QF.size;have Qu:=(Za.1 TY).1;have hGg:∀W,Bl wr W->Iv W:=fun W EV=>hG.later (QF.trans (EV.mono QF.size));have HGg:=Zb hGg;have HGx:=Zb TY;have HR:=Zb hR;have HTT:=Zb hT;clear ht hTS hRT huT hD hGg TY hR hT TZ O2 hb hu hlen hdn hds;cases mA:J_ d t with
       |some x=>
        rw[mA]at Rj hld;change Hid (∀W (EV:Bl wr W),Calls Lp 90 _ _ fun e w'=>e=.returned (.tuple #[J .u8 0,.iface 121 (.agg #[J I x])])/\Bl W w') at Rj;have HLD:=Zb (show EH c ls=((k:Int),x) by rw[HV.out, <-hf.out,hld.out]);clear mA hf hld;go_wp2_with (go_at_call 90;refine(Rj.out _ (Zg _ _)).mono ?_;rintro e w3 ⟨rfl,iB⟩);obtain⟨W4,ER⟩:∃W4,W4=w3.alloc (.cells #[J I 0] 121):=⟨_,rfl⟩;have Mg:Bl wr W4:=by rw[ER];exact bA iB
        have hN4:W4.heap[w3.heap.size]?=some (.cells #[J I 0] 121 (0,0)):=by rw[ER];exact Bt _ _
        rw[<-ER];clear ER;have Sa:=iB.size;have CU:=QF.trans (Mg.mono QF.size);have ht4:=(Za.1 hN4).1;refine(aqC hN4 (HGg.out _ Mg)).mono ?_;rintro e w6 (⟨rfl,Dv⟩|⟨Dv,x',rfl,PG⟩)
        .have hS4:Bl w (W4.setCell ⟨w3.heap.size,0,none⟩ (J I x)):=bS CU (by omega)
         have Oy:Bl w w6:=hS4.trans (Dv.mono CU.size);have hcx:=(Dv.cell (p:=⟨w3.heap.size,0,none⟩) ht4).trans (ch (A8 hN4 (J I x)) (i:=0) rfl);clear Dv hS4 hN4 Mg iB CU;dsimp only;go_wp2;go_quiet (fail);go_wp2;refine ZU (Er rfl _ _ _) rfl ?_;exact⟨zl Oy _,.inl (by rw[HLD.out,HX0.out];rfl)⟩
        .exact⟨rfl,CU.trans (Dv.mono CU.size),.inr ⟨_,rfl,PG⟩⟩
       |none=>
        rw[mA]at Rj hld;change Hid (∀W (EV:Bl wr W),Calls Lp 90 _ _ fun e w'=>e=.returned (.tuple #[J .u8 t,.nilIface])/\Bl W w') at Rj;clear mA;go_wp2_with (go_at_call 90;refine(Rj.out _ (Zg _ _)).mono ?_;rintro e w3 ⟨rfl,iB⟩);obtain⟨W4,ER⟩:∃W4,W4=w3.alloc (.cells #[J I 0] 121):=⟨_,rfl⟩;have Mg:Bl wr W4:=by rw[ER];exact bA iB
        have hN4:W4.heap[w3.heap.size]?=some (.cells #[J I 0] 121 (0,0)):=by rw[ER];exact Bt _ _
        rw[<-ER];clear ER;have Sa:=iB.size;have CU:=QF.trans (Mg.mono QF.size);have ht4:=(Za.1 hN4).1;refine(aqB hN4 (HGg.out _ Mg)).mono ?_;rintro e w6 ⟨Dv,rfl|⟨x',rfl,PG⟩⟩
        .have Wh:=Mg.trans (Dv.mono Mg.size)
         have hk4:k<=4:=by omega
         have h92:=sM.out _ Wh hk4;clear Dv hN4 Mg iB CU;have sM:=Zb h92;clear h92;obtain⟨hc6,hf6⟩:=DV Wh;dsimp only;go_wp2_with (go_at_call 92;refine sM.out.mono ?_;rintro e w7 ⟨u1,u2,u3,u4,u5,rfl,Oy,hRn⟩;obtain⟨p1,t1,rfl,_⟩:=hRn.base.val;obtain⟨p2,t2,rfl,_⟩:=hRn.Af.val;obtain⟨p3,t3,rfl,_⟩:=hRn.hooks.val;obtain⟨p4,t4,rfl,_⟩:=hRn.Aa.val;obtain⟨p5,t5,rfl,_⟩:=hRn.now.val;have LH:=(Oy.block _ (Zm Qu Wh.size)).trans ((Wh.block _ Qu).trans HGx.out);have x0:=ch (i:=0) LH (v:=.slice q1 d.base.length d1) rfl;have y0:=cf (i:=0) LH;have x1:=ch (i:=1) LH (v:=.slice q2 d.Af.length d2) rfl;have y1:=cf (i:=1) LH;have x2:=ch (i:=2) LH (v:=.slice q3 d.hooks.length d3) rfl;have y2:=cf (i:=2) LH;have x3:=ch (i:=3) LH (v:=.slice q4 d.Aa.length d4) rfl;have y3:=cf (i:=3) LH;have x4:=ch (i:=4) LH (v:=.slice q5 d.now.length d5) rfl;have y4:=cf (i:=4) LH;have x5:=ch (i:=5) LH (v:=.int .u8 (ab 0)) rfl;have y5:=cf (i:=5) LH;have x6:=ch (i:=6) LH (v:=.int .u8 (ab 1)) rfl;have y6:=cf (i:=6) LH;have x7:=ch (i:=7) LH (v:=.int .u8 (ab 2)) rfl;have y7:=cf (i:=7) LH;clear hc6 hf6);have JF:Bl w w7:=(QF.trans (Wh.mono QF.size)).trans (Oy.mono (QF.trans (Wh.mono QF.size)).size);go_roundg (ls.length - (k+1))
         case rel=>
          refine⟨k+1,Ea d lk t,Cf w6.heap.size w7,p1,p2,p3,p4,p5,t1,t2,t3,t4,t5,by omega,rfl,by go_num,by rw[<-hf.out,hld.out],HDw.out,?_,?_,?_,?_⟩
          .have hwb:w.heap.size<=w1.heap.size:=Bg.size
           repeat (with_reducible first|exact JF|(refine bS ?_ (by omega)))
          .exact A8 (A8 (A8 (A8 (A8 (A8 (A8 (A8 LH _) _) _) _) _) _) _) _
          .have Bn:∀b,Cf w6.heap.size w7 b->b≠w1.heap.size:=fun b hb e=>by have:=hb.1;have:=Wh.size;omega
           refine hRn.Aw ?_
           repeat (with_reducible first|exact CC.refl _ _|refine iA ?_ Bn)
          .intro b hb
           have:=Wh.size;refine⟨by simpa using hb.2,?_⟩;have:=hb.1;omega
         case measure=>omega
        .exact⟨rfl,CU.trans (Dv.mono CU.size),.inr ⟨_,rfl,PG⟩⟩
      .have e9:EH c ls=(-1,-1):=by rw[HV.out, <-hf.out,Zz.2 (by omega)];rfl
       have E9:=Zb e9;clear e9 hf hD hR hT TY;go_wp2;refine ZU (Er rfl _ _ _) rfl ?_;exact⟨QF,.inl (by rw[E9.out,HX0.out];rfl)⟩
 .have HE:=Zb (show Gb c ls=B_ c by rw[Gb,Ls Kd])
  have HV:=Zb (show EH c ls=(0,0) by rw[EH,HE.out,if_neg Kd]);have uJ:=Zb (fun W hB=>c88 (w:=W) (h.later hB) (AE hS hB));obtain⟨x,hx⟩:∃x,x=B_ c:=⟨_,rfl⟩;have Ll:x≠0:=by rw[hx];exact Kd
  have HX:=Zb hx;clear hx Kd;go_enter Lp.func34,n34;go_wp2_with (go_at_call 88;refine(uJ.out _ Bb).mono ?_;rintro e w1 ⟨q1,q2,q3,q4,q5,n1,n2,n3,n4,n5,d1,d2,d3,d4,d5,k0,k1,k2,rfl,AW,_⟩;have Bg:=Bb.trans (AW.mono Bb.size);rw[<-HX.out]);refine ZU (Er rfl _ _ _) rfl ?_;refine⟨?_,.inl (by rw[HV.out,HE.out, <-HX.out];rfl)⟩
  repeat (with_reducible first|exact Bg|refine bA ?_|(refine bS ?_ (by omega))|refine bD ?_|refine bN ?_)
def dA (S:Nat->Prop)(w w':Zc):Prop:=∀p v,S p.block->w.cell? p=some v->w'.cell? p=some v
variable {α:Type}
def Sl.Ic {R R':Zc->List Ze->α->Prop}{l:List α}(h:Sl S R k w v l)(hw:dA S w w')(hR:∀cs x,R w cs x->R' w' cs x):Sl S R' k w' v l:=by
 obtain⟨a,c,h1,h2,h3,h4⟩:=h;refine⟨a,c,h1,h2,h3,fun i x hx=>?_⟩;obtain⟨b,o,cs,g1,g2,g3,g4,g5⟩:=h4 i x hx;exact⟨b,o,cs,g1,g2,g3,fun j u hu=>hw ⟨b,o+i*k+j,none⟩ u g2 (g4 j u hu),hR _ _ g5⟩
def SI.Ic (h:SI S w v l)(hw:dA S w w'):SI S w' v l:=Sl.Ic h hw fun _ _ h=>h
def SP.Ic {l:List (Int×Int)}(h:SP S w v l)(hw:dA S w w'):SP S w' v l:=Sl.Ic h hw fun _ _ h=>h
def RC.Ic (h:RC S w v1 v2 v3 v4 v5 c)(hw:dA S w w'):RC S w' v1 v2 v3 v4 v5 c:=
 ⟨h.base.Ic hw,h.Af.Ic hw,h.hooks.Ic hw,Sl.Ic h.Aa hw fun _ _ ⟨v2,v3,e,x2,x3⟩=>⟨v2,v3,e,x2.Ic hw,x3.Ic hw⟩,h.now.Ic hw⟩
def Sl.live {R R':Zc->List Ze->α->Prop}{l:List α}(h:Sl S R k w v l)(hk:0<k)(hR:∀cs x,R w cs x->R' w cs x):Sl (fun b=>S b/\b<w.heap.size) R' k w v l:=by
 obtain⟨a,c,h1,h2,h3,h4⟩:=h;refine⟨a,c,h1,h2,h3,fun i x hx=>?_⟩;obtain⟨b,o,cs,g1,g2,g3,g4,g5⟩:=h4 i x hx;exact⟨b,o,cs,g1,⟨g2,Zy w _ (g4 0 _ (ZE (by omega)))⟩,g3,g4,hR _ _ g5⟩
def RC.live (h:RC S w v1 v2 v3 v4 v5 c):RC (fun b=>S b/\b<w.heap.size) w v1 v2 v3 v4 v5 c:=
 ⟨Sl.live h.base (by decide) fun _ _ x=>x,Sl.live h.Af (by decide) fun _ _ x=>x,Sl.live h.hooks (by decide) fun _ _ x=>x,Sl.live h.Aa (by decide) fun _ _ ⟨v2,v3,e,x2,x3⟩=>⟨v2,v3,e,Sl.live x2 (by decide) fun _ _ x=>x,Sl.live x3 (by decide) fun _ _ x=>x⟩,Sl.live h.now (by decide) fun _ _ x=>x⟩
def iC (ls:List (List Int)):ls=(Zcv 0 ls.length).map (Cu ls):=by
 apply zM;intro i;by_cases hi:i<ls.length
 .rw[C2 hi,zU,List.getElem?_range' hi]
  simp
 .rw[ZJ (by omega),ZJ (by simp;omega)]
def XU (ls:List (List Int))(p:List Int->Bool):ls.filter p=((Zcv 0 ls.length).filter fun i=>p (Cu ls i)).map (Cu ls):=by
 conv=>lhs;rw[iC ls]
 rw[List.filter_map]
 rfl
end Go.Proofs.Fit
