/- SeamFewests: for every costume, every singer and every list of numbers, on every schedule and without a data race, the law returns true, and the arguments read afterwards as they read before. Conditions: those of the given row alone (the variable errors.errorType starts as the program's text lays it; the card ties that to the text). -/
import Derived.Test.YtjmckoeogkjfbaaGreatDoorQ08
import Derived.Test.YtjmckoeogkjfbaaGreatDoorQ11
import Derived.Lib.MinMax
set_option maxRecDepth 100000
set_option maxHeartbeats 6400000
noncomputable section
set_option linter.all false
open And renaming intro->ZY
open Array renaming getElem?_eq_some_iff->Za,replicate_succ->ZaN,replicate_zero->ZaM,toList_setIfInBounds->ZcM,replicate->Yu,getElem?_eq_getElem->Zx,mem_of_getElem?->zY
open Bool renaming and_eq_true->ZF,eq_iff_iff->ZcG,or_eq_true->ZaK
open Function renaming comp_def->ZdQ
open Go renaming Value->Zf,World->Zb,callFunc->Zz,TypeId->Zs,Program->Zo,FuncId->ZaQ,Operand->Zbv,below_drewN->Y5,wpQuiet_nil->Z4,callsIn_wide->Zcx,info_parts->zp,undef->Ze,ownsRow_succ->Zay,wpList_append_own->Yc,bodyPost_ret->ZN,YieldsIf->ZbF,wpOp_mono->Zcc,wp_region_any->Zd5,execOp->Zby,storeCells->ZbX,run_underlying->Y9,resolve->Zbh,wp_append_own->Zak
open Go.Act renaming put->Zck
open Go.Addr renaming add->Zcu
open Go.Builtin renaming append_->Zao,firstCells->Zu,lenOf->ZcX
open Go.Calls renaming quiet_of_same->Zb5
open Go.Code renaming region->zU
open Go.DataW renaming TrodAll->Za9
open Go.Ending renaming returned->Zbx
open Go.Fence renaming wide->ZbC
open Go.Instr renaming makeSlice->Zdp
open Go.IntKind renaming wrap_i64->zE
open Go.IntWalk renaming i64_in->ZcD
open Go.Lib renaming hid->Zd
open Go.Obj renaming cells->Zbi
open Go.OpenSpec renaming ofChange->ZbV
open Go.Oper renaming semAt_some->Zdk,wp->ZbA,upon_value->Zdi,upon_enter->Zdj,upon_skip->ZcQ
open Go.Proofs.Tryz renaming prog->Zc,underlying22->YE,underlying23->Zdg,underlying35->zW
open Go.Region renaming Mode->YO,ready->zs,free->Za3,noSelect->YF,wanted->Yf
open Go.Result renaming andThen_ok->Zaw
open Go.RowKit renaming Below->YH
open Go.RowKit.Below renaming refl->Zh
open Go.Sem renaming run_bind->zg
open Go.Value renaming okWide->Zbk,oneCell'->YT,int->ZL,slice->Zy,pointer->ZbT
open Go.World renaming size_alloc->ZB,ownsRow_nil->zq,block_lt_of_cell?->ZH,ownsRow_made->YC
open Go.World.ownsRow renaming alloc->Ya,lt->Zcm
open List renaming getElem?_eq_getElem->zf,mem_of_getElem?->Z3,mem_singleton->Yh,ext_getElem?->YA,getElem?_eq_none->ZP,range->Yr,getD_eq_getElem?_getD->Y6,pairwise_iff_getElem->ZdK,getElem_of_mem->Zas,all_eq_true->Zdm,getElem?_set_self->Ys,getElem?_set_ne->ZS,drop_eq_nil_iff->Z7,length_append->ZA,getElem?_append_left->zl,getElem?_eq_some_iff->Zm,length_cons->zb,length_nil->zR,getElem?_concat_length->Y1,size_toArray->Zbm,push_toArray->Zbn,append_toArray->Za4,nil_append->zP,cons_append->Za1,filter_cons->ZbB,length_filter_le->Zac,drop_eq_getElem_cons->ZO,filterMap_cons->Z6,filterMap_nil->zd,getElem?_toArray->ZG,getElem?_cons_succ->ZD,getElem?_cons_zero->ZC,flatMap_append->Zbe,mem_append->Zab,length_set->ZcC,length_take->ZcV,take_add_one->ZbH,take_of_length_le->Zb3,mem_cons_of_mem->zm,mem_cons_self->zC,take_length->ZcU,getElem?_map->YL,getElem?_append_right->Zbr,map_toArray->Zcr,append_nil->ZaA,map_append->Zai,getElem?_take_of_lt->Z2,take_zero->ZdB,length_take_le->ZbW,filter_append->ZcW,eq_nil_of_length_eq_zero->YM
open Nat renaming zero_le->Zp,not_lt_zero->ZbY,zero_add->zN,reduceAdd->ZaF,reduceSub->Zcw,pow_le_pow_right->YX,le_trans->Zr,le_refl->Zj,le_of_succ_le->Zbb,lt_of_lt_of_le->Zl,two_pow_pos->Zdz,le_of_eq->ZcS
open Option renaming bind_eq_some_iff->ZX
open Option.some renaming inj->ZW
open True renaming intro->Yz
namespace Go.Proofs.Fit
open Go
@[simp] def Lp.func18:=l! Tryz.func4
@[simp] def Lp.func25:=l! Tryz.func5
@[simp] def Lp.call25:=c! Lp.func25
@[simp] def Lp.call27:=c! Lp.func27
@[simp] def Lp.func28:=l! Tryz.func8
@[simp] def Lp.call28:=c! Lp.func28
@[simp] def Lp.func36:=l! Tryz.func19
@[simp] def Lp.call36:=c! Lp.func36
@[simp] def Lp.func38:=l! Tryz.func10
@[simp] def Lp.call38:=c! Lp.func38
@[simp] def Lp.func43:=l! Tryz.func21
@[simp] def Lp.call43:=c! Lp.func43
@[simp] def Lp.func47:=l! Tryz.func35
@[simp] def Lp.call47:=c! Lp.func47
@[simp] def Lp.func50:=l! Tryz.func47
@[simp] def Lp.call50:=c! Lp.func50
@[simp] def Lp.func65:=l! Tryz.func17
@[simp] def Lp.call65:=c! Lp.func65
@[simp] def Lp.func77:=l! Tryz.func22
@[simp] def Lp.call77:=c! Lp.func77
@[simp] def Lp.func78:=l! Tryz.func23
@[simp] def Lp.call78:=c! Lp.func78
@[simp] def Lp.func93:=l! Tryz.func75
@[simp] def Lp.call93:=c! Lp.func93
@[simp] def Lp.func94:=l! Tryz.func122
@[simp] def Lp.call94:=c! Lp.func94
@[simp] def Lp.func95:=l! Tryz.func54
@[simp] def Lp.call95:=c! Lp.func95
@[simp] def Lp.func97:=l! Tryz.func49
@[simp] def Lp.call97:=c! Lp.func97
@[simp] def Lp.func107:=l! Tryz.func87
@[simp] def Lp.call107:=c! Lp.func107
@[simp] def Lp.func108:=l! Tryz.func42
@[simp] def Lp.call108:=c! Lp.func108
@[simp] def Lp.func115:=l! Tryz.func77
@[simp] def Lp.call115:=c! Lp.func115
@[simp] def Lp.func116:=l! Tryz.func86
@[simp] def Lp.call116:=c! Lp.func116
@[simp] def Lp.func117:=l! Tryz.func88
@[simp] def Lp.call117:=c! Lp.func117
@[simp] def Lp.func118:=l! Tryz.func89
@[simp] def Lp.call118:=c! Lp.func118
@[simp] def Lp.func127:=l! Tryz.func43
@[simp] def Lp.call127:=c! Lp.func127
@[simp] def Lp.func128:=l! Tryz.func46
@[simp] def Lp.call128:=c! Lp.func128
@[simp] def Lp.func129:=l! Tryz.func48
@[simp] def Lp.call129:=c! Lp.func129
@[simp] def Lp.func131:=l! Tryz.func121
@[simp] def Lp.call131:=c! Lp.func131
@[simp] def Lp.func133:=l! Tryz.func90
@[simp] def Lp.call133:=c! Lp.func133
@[simp] def Lp.func135:=l! Tryz.func76
@[simp] def Lp.call135:=c! Lp.func135
@[simp] def Lp.func137:=l! Tryz.func51
@[simp] def Lp.call137:=c! Lp.func137
@[simp] def Lp.func138:=l! Tryz.func52
@[simp] def Lp.call138:=c! Lp.func138
@[simp] def Lp.func140:=l! Tryz.func55
@[simp] def Lp.call140:=c! Lp.func140
@[simp] def Lp.func160:=l! Tryz.func120
@[simp] def Lp.call160:=c! Lp.func160
end Go.Proofs.Fit
namespace Go.Proofs.Fit
open Go Go.Conc Go.FA Go.RowKit
variable {W w A B w1 w':Zb}
variable {n k d b i g cap cc j n1 n2 k1 k2 q rb c2 adl M:Nat}
variable {v v1 v2 v3 v4 v5 v' v6 u2 u1 u4 u5 lv u v7:Zf}
def afv {a:Addr}{c:Nat}(h:W.cell? (a.add k)=some v):VR (Qk W) (.slice (some a) n c) (.slice (some a) n c):=by
 obtain⟨_,_,_,b⟩:=Sp h;rw[CF]at b;exact .slice n c ⟨pA b,rfl,rfl⟩
end Go.Proofs.Fit
namespace Go.Proofs.Fit
open Go
def n18:Tryz.f4.ntmps=112:=rfl
def n25:Tryz.f5.ntmps=57:=rfl
def n28:Tryz.f8.ntmps=63:=rfl
def n36:Tryz.f19.ntmps=64:=rfl
def n38:Tryz.f10.ntmps=70:=rfl
def n43:Tryz.f21.ntmps=26:=rfl
def n47:Tryz.f35.ntmps=56:=rfl
def n50:Tryz.f47.ntmps=50:=rfl
def n65:Tryz.f17.ntmps=22:=rfl
def n77:Tryz.f22.ntmps=88:=rfl
def n78:Tryz.f23.ntmps=80:=rfl
def n93:Tryz.f75.ntmps=42:=rfl
def n94:Tryz.f122.ntmps=26:=rfl
def n95:Tryz.f54.ntmps=72:=rfl
def n97:Tryz.f49.ntmps=60:=rfl
def ao5:Tryz.f87.ntmps=10:=rfl
def ajT:Tryz.f42.ntmps=51:=rfl
def ao8:Tryz.f77.ntmps=58:=rfl
def ao9:Tryz.f86.ntmps=94:=rfl
def aoa:Tryz.f88.ntmps=84:=rfl
def aod:Tryz.f89.ntmps=60:=rfl
def aog:Tryz.f43.ntmps=93:=rfl
def aq4:Tryz.f46.ntmps=23:=rfl
def aoh:Tryz.f48.ntmps=31:=rfl
def akM:Tryz.f121.ntmps=44:=rfl
def aol:Tryz.f90.ntmps=31:=rfl
def aom:Tryz.f76.ntmps=15:=rfl
def ajn:Tryz.f51.ntmps=24:=rfl
def aon:Tryz.f52.ntmps=28:=rfl
def aop:Tryz.f55.ntmps=37:=rfl
def aoq:Tryz.f120.ntmps=57:=rfl
end Go.Proofs.Fit
namespace Go.Proofs.Fit
open Go Go.RowKit
variable {H α:Type}
variable {W w A B w1 w':Zb}
variable {t e:Zs}
def adL {enc:Zs×Zf->H}{P:Zo}{base:Nat}{c:Nat->Bool}{d:Bool}{f0 e:Field}(ht:P.underlying t=some (.struct #[f0,e]))(s:P.cellsOf t=2)(z:P.underlying f0.type=some (.int .i64))(x:P.underlying e.type=some (.int .i64))(C:P.cellsOf f0.type=1)(B:P.cellsOf e.type=1)(p:f0.offset=0)(o:e.offset=1):
  Reads enc P w base c d t Rp:=by
 intro n A y q;obtain⟨l,m,_,_,j,r,k⟩:=DataW.trod_struct ht q;have g:=k 0 f0 rfl;have f:=k 1 e rfl;rw[C,p]at g;rw[B,o]at f;have D:l.length=2:=r;rw[zf o!]at g f;obtain⟨a,i⟩:=kJ z _ _ _ g;obtain⟨b,h⟩:=kJ x _ _ _ f;rw[s]at j
 match A,j with
 | [u,v],_=>
  unfold Ri at i h;simp at i h;exact⟨(a,b),by unfold Rp;rw[i,h]⟩
end Go.Proofs.Fit
namespace Go.Proofs.Fit
open Go Go.Conc Go.FA Go.ChangeShapes Go.WideShapes Go.RowKit
set_option maxRecDepth 100000
def Nr (w:Zb)(v:Zf):Prop:=(∃n c,v=.slice none n c)\/(∃a,v=.slice (some a) 0 0)\/∃a n c k u,v=.slice (some a) n c/\w.cell? (a.add k)=some u
variable {W w A B w1 w':Zb}
variable {v v1 v2 v3 v4 v5 v' v6 u2 u1 u4 u5 lv u v7:Zf}
def Nr.aa0 (h:Nr W v):VR (Qk W) v v:=by
 rcases h with⟨n,c,rfl⟩|⟨a,rfl⟩|⟨a,n,c,k,u,rfl,h⟩
 .exact .slice (a:=none) n c trivial
 .exact .void _ _
 exact afv h
section
variable {H:Type}{enc:Zs×Zf->H}{P:Zo}{w:Zb}{base:Nat}{held:Bool}{α:Type}
variable {t e:Zs}
variable {n k d b i g cap cc j n1 n2 k1 k2 q rb c2 adl M:Nat}
def reads_held {R:Zb->List Zf->α->Prop}(ht:P.underlying t=some (.slice e))(r:P.cellsOf e=k)(hp:0<k)(h:Reads enc P w base (λ_=>true) held e R):
  Reads enc P w base (λ_=>true) held t (λw cs (l:List α)=>∃v,cs=[v]/\Sl (Lv w) R k w v l/\Nr w v):=by
 intro n cs y j;obtain⟨l,v,rfl,q⟩:=bW ht r hp h n cs y j;refine⟨l,v,rfl,q,?_⟩;rcases DataW.trod_slice ht j with⟨e,_⟩|⟨a,b,cap,f,g,o,_,e,_,_,p,_,m,c,x,_⟩
 .cases e;exact .inl ⟨_,_,rfl⟩
 cases e;by_cases u:cap=0
 .obtain rfl:b=0:=by omega
  subst u;exact .inr (.inl ⟨_,rfl⟩)
 have go:∀i:Nat,(∃y,(w.cells? base (a.add (i*P.cellsOf e)) (P.cellsOf e)).bind (DataW.trod enc P w base (λ_=>true) held o e)=some y)->Nr w (.slice (some a) b cap):=λi ⟨y,h⟩=>by
  obtain⟨C,d,_⟩:=ZX.1 h;obtain⟨A,s⟩:=bR d;have:=s 0 _ (zf o!);rw[Addr.add_zero']at this;exact .inr (.inr ⟨a,b,cap,_,_,rfl,this⟩)
 by_cases z:b=0
 .obtain⟨B,d⟩:=x rfl
  exact go (b+0) ⟨_,(d 0 o!).trans (zf o!)⟩
 exact go 0 ⟨_,(c 0 o!).trans (zf o!)⟩
end
def RsH (w:Zb)(cs:List Zf)(s:Ay):Prop:=∃v2 v3,cs=[.int .i64 s.low,.int .i64 s.high,v2,v3,.int .i64 s.left]/\SP (Lv w) w v2 s.Ap/\SI (Lv w) w v3 s.over/\Nr w v2/\Nr w v3
section
variable {H:Type}{enc:Zs×Zf->H}{w:Zb}{base:Nat}{held:Bool}
def ajo:Tryz.prog.cellsOf 3=1:=k!
def agj:Tryz.prog.cellsOf 22=1:=k!
def akN:Tryz.prog.cellsOf 23=1:=k!
def akS:Tryz.prog.cellsOf 24=1:=k!
def akT:Tryz.prog.cellsOf 53=1:=k!
def ajG:Tryz.prog.cellsOf 55=5:=k!
def akU:Tryz.prog.cellsOf 26=5:=k!
def adH:Reads enc Zc w base (λ_=>true) held 3 Ri:=kJ k!
def ad0:Reads enc Zc w base (λ_=>true) held 22 (λw cs (l:List Int)=>∃v,cs=[v]/\SI (Lv w) w v l/\Nr w v):=
 reads_held (t:=22) (e:=3) k! ajo d! adH
def af5:Reads enc Zc w base (λ_=>true) held 53 (λw cs (l:List (Int×Int))=>∃v,cs=[v]/\SP (Lv w) w v l/\Nr w v):=
 reads_held (t:=53) (e:=106) k! k! d! (adL Tryz.underlying106 k! k! k! k! k! rfl rfl)
def adz:Reads enc Zc w base (λ_=>true) held 23 (λw cs (l:List (Int×Int))=>∃v,cs=[v]/\SP (Lv w) w v l/\Nr w v):=
 reads_held (t:=23) (e:=73) k! k! d! (adL Tryz.underlying73 k! k! k! k! k! rfl rfl)
def afw:Reads enc Zc w base (λ_=>true) held 55 RsH:=by
 intro n b y s;obtain⟨a,m,_,_,l,t,c⟩:=DataW.trod_struct Tryz.underlying55 s;have D:a.length=5:=t;have k:DataW.trod enc Zc w base (λ_=>true) held m 3 ((b.drop 0).take (Tryz.prog.cellsOf 3))=a[0]? :=c 0 _ rfl;have j:DataW.trod enc Zc w base (λ_=>true) held m 3 ((b.drop 1).take (Tryz.prog.cellsOf 3))=a[1]? :=c 1 _ rfl;have i:DataW.trod enc Zc w base (λ_=>true) held m 53 ((b.drop 2).take (Tryz.prog.cellsOf 53))=a[2]? :=c 2 _ rfl;have h:DataW.trod enc Zc w base (λ_=>true) held m 22 ((b.drop 3).take (Tryz.prog.cellsOf 22))=a[3]? :=c 3 _ rfl;have g:DataW.trod enc Zc w base (λ_=>true) held m 3 ((b.drop 4).take (Tryz.prog.cellsOf 3))=a[4]? :=c 4 _ rfl;rw[ajo,zf o!]at k;rw[ajo,zf o!]at j;rw[akT,zf o!]at i;rw[agj,zf o!]at h;rw[ajo,zf o!]at g;rw[ajG]at l;obtain⟨C,f⟩:=adH _ _ _ k;obtain⟨B,e⟩:=adH _ _ _ j;obtain⟨A,v⟩:=af5 _ _ _ i;obtain⟨z,u⟩:=ad0 _ _ _ h;obtain⟨x,d⟩:=adH _ _ _ g
 match b,l with
 | [u0,u1,u2,u3,u4],_=>
  unfold Ri at f e d;obtain⟨v2,p,r,d2⟩:=v;obtain⟨v3,o,q,d3⟩:=u;simp at f e p o d;exact⟨⟨C,B,A,z,x⟩,v2,v3,by rw[f,e,d,p,o],r,q,d2,d3⟩
def af6:Reads enc Zc w base (λ_=>true) held 24 (λw cs (l:List Ay)=>∃v,cs=[v]/\Sl (Lv w) RsH 5 w v l/\Nr w v):=
 reads_held (t:=24) (e:=55) k! ajG d! afw
structure InC (w:Zb)(v1 v2 v3 v4 v5:Zf)(c:A_):Prop where
 base:SI (Lv w) w v1 c.base/\Nr w v1
 Af:SP (Lv w) w v2 c.Af/\Nr w v2
 hooks:SI (Lv w) w v3 c.hooks/\Nr w v3
 Aa:Sl (Lv w) RsH 5 w v4 c.Aa/\Nr w v4
 now:SI (Lv w) w v5 c.now/\Nr w v5
def adZ:Reads enc Zc w base (λ_=>true) held 26 (λw cs (c:A_)=>∃v1 v2 v3 v4 v5,cs=[v1,v2,v3,v4,v5]/\InC w v1 v2 v3 v4 v5 c):=by
 intro n cs y r;obtain⟨a,m,_,_,i,s,b⟩:=DataW.trod_struct Tryz.underlying26 r;have F:a.length=5:=s;have h:DataW.trod enc Zc w base (λ_=>true) held m 22 ((cs.drop 0).take (Tryz.prog.cellsOf 22))=a[0]? :=b 0 _ rfl;have g:DataW.trod enc Zc w base (λ_=>true) held m 23 ((cs.drop 1).take (Tryz.prog.cellsOf 23))=a[1]? :=b 1 _ rfl;have f:DataW.trod enc Zc w base (λ_=>true) held m 22 ((cs.drop 2).take (Tryz.prog.cellsOf 22))=a[2]? :=b 2 _ rfl;have e:DataW.trod enc Zc w base (λ_=>true) held m 24 ((cs.drop 3).take (Tryz.prog.cellsOf 24))=a[3]? :=b 3 _ rfl;have d:DataW.trod enc Zc w base (λ_=>true) held m 22 ((cs.drop 4).take (Tryz.prog.cellsOf 22))=a[4]? :=b 4 _ rfl;rw[agj,zf o!]at h;rw[akN,zf o!]at g;rw[agj,zf o!]at f;rw[akS,zf o!]at e;rw[agj,zf o!]at d;rw[akU]at i;obtain⟨E,q,p,z⟩:=ad0 _ _ _ h;obtain⟨D,v1,o,x⟩:=adz _ _ _ g;obtain⟨C,v2,l,v⟩:=ad0 _ _ _ f;obtain⟨B,v3,k,u⟩:=af6 _ _ _ e;obtain⟨A,v4,j,t⟩:=ad0 _ _ _ d
 match cs,i with
 | [u0,u1,u2,u3,u4],_=>
  simp at p o l k j;exact⟨⟨E,D,C,B,A⟩,q,v1,v2,v3,v4,by rw[p,o,l,k,j],z,x,v,u,t⟩
end
variable {H α:Type}
variable {n k d b i g cap cc j n1 n2 k1 k2 q rb c2 adl M:Nat}
def Sl.left {t:Tape}{R R':Zb->List Zf->α->Prop}{l:List α}(h:Sl (Lv W) R k W v l)(m:∀cs x,R W cs x->(∀u∈cs,VR (Qk W) u u)/\R' (tp (BD W) t) cs x):Sl (Lv (tp (BD W) t)) R' k (tp (BD W) t) v l:=by
 obtain⟨a,c,r,q,p,n⟩:=h;refine⟨a,c,r,q,p,λi x g=>?_⟩;obtain⟨b,o,cs,A,z,y,w,s⟩:=n i x g;obtain⟨f,e⟩:=m _ _ s;refine⟨b,o,cs,A,?_,y,λj u d=>?_,e⟩
 .show b<(BD W).heap.size
  rw[ej];exact z
 exact SJ (w j u d) (f u (Z3 d))
variable {l nums L:List Int}
def adM {t:Tape}(h:SI (Lv W) W v l):SI (Lv (tp (BD W) t)) (tp (BD W) t) v l:=Sl.left h λc x a=>by
 unfold Ri at a;subst a;exact⟨λu b=>by obtain rfl:=Yh.1 b;exact .int _ _,rfl⟩
def afx {t:Tape}{l:List (Int×Int)}(h:SP (Lv W) W v l):SP (Lv (tp (BD W) t)) (tp (BD W) t) v l:=Sl.left h λc x a=>by
 unfold Rp at a;subst a;exact⟨λu b=>by simp at b;rcases b with rfl|rfl<;>exact .int _ _,rfl⟩
def ajU {t:Tape}{l:List Ay}(h:Sl (Lv W) RsH 5 W v l):SS (Lv (tp (BD W) t)) (tp (BD W) t) v l:=Sl.left h λe x d=>by
 obtain⟨v2,v3,rfl,c,b,d2,d3⟩:=d;refine⟨λu a=>?_,v2,v3,rfl,afx c,adM b⟩;simp at a;rcases a with rfl|rfl|rfl|rfl|rfl
 .exact .int _ _
 .exact .int _ _
 .exact d2.aa0
 .exact d3.aa0
 exact .int _ _
variable {c:A_}
def InC.left (t:Tape)(h:InC W v1 v2 v3 v4 v5 c):RC (Lv (tp (BD W) t)) (tp (BD W) t) v1 v2 v3 v4 v5 c:=
 ⟨adM h.base.1,afx h.Af.1,adM h.hooks.1,ajU h.Aa.1,adM h.now.1⟩
def InC.aa0 {W:Zb}{v1 v2 v3 v4 v5:Zf}{c:A_}(h:InC W v1 v2 v3 v4 v5 c):VR (Qk W) (.agg #[v1,v2,v3,v4,v5]) (.agg #[v1,v2,v3,v4,v5]):=by
 refine .P6 ⟨rfl,λi x y b a=>?_⟩
 match i,b,a with
 |0,b,a=>cases b;cases a;exact h.base.2.aa0
 |1,b,a=>cases b;cases a;exact h.Af.2.aa0
 |2,b,a=>cases b;cases a;exact h.hooks.2.aa0
 |3,b,a=>cases b;cases a;exact h.Aa.2.aa0
 |4,b,a=>cases b;cases a;exact h.now.2.aa0
section
variable {H:Type}{enc:Zs×Zf->H}{W:Zb}
variable {ps:List MemPlace}
def afz {base:Nat}{d:DataW H}(ok:Zbk Zc W .any base 26 v)(h:DataW.Trod enc Zc W 0 (λ_=>true) true 26 v d ps):∃v1 v2 v3 v4 v5 c,v=.agg #[v1,v2,v3,v4,v5]/\InC W v1 v2 v3 v4 v5 c:=by
 obtain⟨a,rfl,_⟩:=okWide_struct Tryz.underlying26 ok;obtain⟨n,b⟩:=h;obtain⟨c,v1,v2,v3,v4,v5,e,f⟩:=adZ n _ _ b;refine⟨v1,v2,v3,v4,v5,c,?_,f⟩;have:a.toList=[v1,v2,v3,v4,v5]:=e;rw[<-Array.toList_inj.1 (show a.toList= #[v1,v2,v3,v4,v5].toList from this)]
def ahM {base:Nat}{d:DataW H}(ok:Zbk Zc W .any base 22 v)(h:DataW.Trod enc Zc W 0 (λ_=>true) true 22 v d ps):∃l,SI (Lv W) W v l/\Nr W v:=by
 obtain⟨a,n,c,rfl⟩:=okWide_slice (t:=22) YE ok;obtain⟨n,f⟩:=h;obtain⟨l,u,e,b⟩:=ad0 n _ _ f;cases e;exact⟨l,b⟩
end
set_option maxRecDepth 100000
variable {args cs:Array Zf}
variable {ps:List MemPlace}
def trodAll_three {enc:Zs×Zf->H}{g f e:Zs}{A:List (DataW H)}(h:Za9 enc Zc W 0 (λ_=>true) true [g,f,e] args.toList A ps):
  ∃x y z d1 d2 d3 p1 p2 c,args= #[x,y,z]/\DataW.Trod enc Zc W 0 (λ_=>true) true g x d1 p1/\DataW.Trod enc Zc W 0 (λ_=>true) true f y d2 p2/\DataW.Trod enc Zc W 0 (λ_=>true) true e z d3 c:=by
 obtain⟨x,j,d1,w,p1,D,u,_,_,q,p⟩:=trodAll_cons h;obtain⟨y,i,d2,v,p2,C,t,_,_,o,n⟩:=trodAll_cons p;obtain⟨z,b,d3,d,c,B,s,_,_,m,k⟩:=trodAll_cons n;have r:b=[]:=by
  cases b with
  |nil=>rfl
  |cons a l=>cases d<;>exact(show False from k).elim
 subst r s t;exact⟨x,y,z,d1,d2,d3,p1,p2,c,by rw[<-Array.toList_inj.1 (show args.toList= #[x,y,z].toList from u)],q,o,m⟩
def ah1 {ρ:Ren}{x y z:Zf}(e:VR ρ x x)(d:VR ρ y y)(c:VR ρ z z):BS ρ #[x,y,z] #[x,y,z]:=⟨rfl,λi u v b a=>by
 match i,b,a with
 |0,b,a=>cases b;cases a;exact e
 |1,b,a=>cases b;cases a;exact d
 |2,b,a=>cases b;cases a;exact c⟩
set_option maxRecDepth 100000
section
variable {H:Type}{enc:Zs×Zf->H}{W:Zb}
def ah2 {base:Nat}{d:DataW H}(ok:Zbk Zc W .any base 23 v)(h:DataW.Trod enc Zc W 0 (λ_=>true) true 23 v d ps):∃l,SP (Lv W) W v l/\Nr W v:=by
 obtain⟨a,n,c,rfl⟩:=okWide_slice (t:=23) Zdg ok;obtain⟨n,f⟩:=h;obtain⟨l,u,e,b⟩:=adz n _ _ f;cases e;exact⟨l,b⟩
end
set_option maxRecDepth 100000
variable {f:ZaQ}
def ahO {fn:Func}{base:Nat}{enc:Zs×Zf->H}{s:List (DataW H)}(hp:fn.params= #[26,23,22])
 (a:∀(j:Nat) t v,fn.params[j]?=some t->args[j]?=some v->Zbk Zc W .any base t v) (l:Za9 enc Zc W 0 (λ_=>true) true fn.params.toList args.toList s ps) (o:Jr (BD W))
 (d:∀(w:Zb) (v1 v2 v3 v4 v5 v6 v7:Zf) (c:A_) (nums:List Int) (b:List (Int×Int)),RC (λx=>x<w.heap.size) w v1 v2 v3 v4 v5 c->SP (λx=>x<w.heap.size) w v6 b->SI (λx=>x<w.heap.size) w v7 nums->Jr w->Calls Lp f #[.agg #[v1,v2,v3,v4,v5],v6,v7] w (Two w (.bool true))):
  BS (Qk W) args args/\∀t,Calls Lp f args (tp (BD W) t) (Wr (tp (BD W) t)):=by
 rw[hp]at a l;obtain⟨x,y,z,d1,d2,d3,B,A,u,rfl,r,q,p⟩:=trodAll_three l;obtain⟨v1,v2,v3,v4,v5,c,rfl,k⟩:=afz (a 0 26 x rfl rfl) r;obtain⟨b,n,i⟩:=ah2 (a 1 23 y rfl rfl) q;obtain⟨nums,m,g⟩:=ahM (a 2 22 z rfl rfl) p;exact⟨ah1 k.aa0 i.aa0 g.aa0,λt=>(d _ _ _ _ _ _ _ _ _ _ _ (k.left t) (afx n) (adM m) o).mono λe w' h=>h⟩
end Go.Proofs.Fit
namespace Go.Proofs.Fit
open Go Go.RowKit
def g80 (w:Zb)(x y:Zbv)(xs a:Array Zf):(eqGuard .neq 73 x y (.agg xs) (.agg a)).run Lp w=.ok () w:=run_eqGuard_agg w _ _ _ _ _ _ k!
def q80 (w:Zb)(a b c d:Int):(binOp .neq 73 (.agg #[.int .i64 a,.int .i64 b]) (.agg #[.int .i64 c,.int .i64 d])).run Lp w=.ok (.bool ((a,b) !=(c,d))) w:=by
 rw[run_neq_struct,run_equalIn_agg (ht:=k!) (hp:=k!)];simp[go_sem];by_cases f:a=c<;>by_cases e:b=d<;>simp[f,e]
def adN (a b:List (Int×Int)):Bool:=decide (a=b)
def ah5 {a b:List (Int×Int)}(hl:a.length=b.length)(h:∀j,j<a.length->BV a j=BV b j):a=b:=by
 apply YA;intro i;by_cases c:i<a.length
 .rw[EE c,EE o!,h i c]
 rw[ZP o!,ZP o!]
variable {S T Sn:Nat->Prop}
variable {W w A B w1 w':Zb}
variable {v v1 v2 v3 v4 v5 v' v6 u2 u1 u4 u5 lv u v7:Zf}
def c43 {a b:List (Int×Int)}(z:SP S w v a)(y:SP T w v' b)(B:Ql6 S w)(A:∀b,T b->b<w.heap.size):
  Calls Lp 21 #[v,v'] w λe w'=>e=.returned (.bool (adN a b))/\Qb6 w w':=by
 obtain⟨Z,X,rfl,Q,O⟩:=z.val;obtain⟨Y,W,rfl,P,N⟩:=y.val;have IX:=DJ;by_cases d:a.length=b.length
 .have s:=Zd d
  clear d;have l:((a.length:Int) !=b.length)=false:=by simp[s.out]
  go_enter Lp.func43,n43;go_wp2;go_loopg [5] a.length (λg i wr=>∃k:Nat,k<=a.length/\g=a.length - k/\i=.int .i64 k/\(∀j,j<k->BV a j=BV b j)/\Qb6 w wr)
  case atStart=>exact⟨0,Zp _,rfl,rfl,λj m=>absurd m (ZbY _),Zh _ _⟩
  obtain⟨k,V,rfl,rfl,F,c⟩:=hrel;have n:=Zd F;clear F;by_cases M:k<a.length
  .have r:k<b.length:=by have:=s.out;omega
   obtain⟨h,x,rfl,D,J,G⟩:=z.at_ M;obtain⟨f,u,rfl,E,I,o⟩:=y.at_ r;rw[<-c.cell (p:=⟨h,x+k*2,none⟩) (B h D)]at J;rw[<-c.cell (p:=⟨h,x+k*2+1,none⟩) (B h D)]at G;rw[<-c.cell (p:=⟨f,u+k*2,none⟩) (A f E)]at I;rw[<-c.cell (p:=⟨f,u+k*2+1,none⟩) (A f E)]at o;have U:(k:Int)<(a.length:Int):=o!
   have R:(k:Int)<(b.length:Int):=o!
   have L:=q80;have K:=g80;go_wp2;go_quiet (fail);go_wp2
   .have q:(((BV a k).fst,(BV a k).snd) !=((BV b k).fst,(BV b k).snd))=true:=by assumption
    go_ret;refine⟨?_,Y5 c _⟩;have:adN a b=false:=by
     unfold adN;refine decide_eq_false λe=>?_;rw[e]at q;simp at q
    rw[this];rfl
   have q:(((BV a k).fst,(BV a k).snd) !=((BV b k).fst,(BV b k).snd))=false:=a!
   have H:BV a k=BV b k:=by simp at q;exact Prod.ext q.1 q.2
   go_roundg (a.length - (k+1))
   case rel=>exact⟨k+1,o!,rfl,v!,λj m=>by
    by_cases e:j=k
    .rw[e];exact H
    exact n.out j o!,Y5 c _⟩
   omega
  have C:adN a b=true:=decide_eq_true (ah5 s.out λj m=>n.out j o!);have t:=Zd C;clear C n;go_wp2;go_ret;exact⟨by rw[t.out];rfl,c⟩
 have l:((a.length:Int) !=b.length)=true:=j!
 have t:=Zd (show adN a b=false from decide_eq_false λe=>d (by rw[e]));clear d;go_enter Lp.func43,n43;go_wp2;go_ret;exact⟨by rw[t.out];rfl,Zh _ _⟩
def aiJ (l:List Int)(a:List Bool):List Bool:=l.foldl (λo x=>o.set x.toNat true) a
def yn (n:Nat):Nat->List (List Int)->List Bool->List Bool
 |_,[],a=>a
 |i,s::r,a=>yn n (i+1) r (if i=n\/a.getD i false=true then aiJ s a else a)
def iV (n:Nat)(l:List (List Int)):Nat->List Bool->List Bool
 |0,a=>a
 |k+1,a=>iV n l k (yn n 0 l a)
def acf (l:List Ay):List (List Int):=l.map (·.over)
def aiK (o:List (List Int))(n:Nat):List Bool:=iV n o o.length (List.replicate o.length false)
def ad6 (l:List Ay)(n:Nat):List Bool:=aiK (acf l) n
def rh (ab:Nat->Nat)(i:Nat):List (List Int)->Nat->Nat
 | []=>ab
 |s::r=>rh (HJ ab i s) (i+1) r
def iW (ab:Nat->Nat)(l:List (List Int)):Nat->Nat->Nat
 |0=>ab
 |n+1=>iW (rh ab 0 l) l n
def ri (l:List (List Int)):Nat->Nat:=iW (λ_=>0) l l.length
def af7:∀(l:List Ay) (ab:Nat->Nat) (i:Nat),K6 ab i l=rh ab i (acf l)
 | [],_,_=>rfl
 |s::r,ab,i=>af7 r (HJ ab i s.over) (i+1)
def aek (l:List Ay):∀(n:Nat) (ab:Nat->Nat),G5 ab l n=iW ab (acf l) n
 |0,_=>rfl
 |n+1,ab=>by
  show G5 (K6 ab 0 l) l n=iW (rh ab 0 (acf l)) (acf l) n;rw[aek l n,af7]
def ahP (l:List Ay):Ax l=ri (acf l):=by
 unfold Ax ri;rw[aek,show(acf l).length=l.length by simp[acf]]
def WU (o:List (List Int)):Bool:=(Yr o.length).all λn=>(Yr o.length).all λk=>(aiK o n).getD k false==hasB (ri o n) k
def Lj:List (List Int):=[[],[0],[1],[2],[0,1],[0,2],[1,2],[0,1,2]]
def acD:∀a∈Lj,WU [a.filter (· <1)]=true:=by decide+kernel
def acE:∀a∈Lj,∀b∈Lj,WU [a.filter (· <2),b.filter (· <2)]=true:=by decide+kernel
def acF:∀a∈Lj,∀b∈Lj,∀c∈Lj,WU [a,b,c]=true:=by decide+kernel
variable {l nums L:List Int}
def EM (f:l.Pairwise (· < ·))(e:∀x∈l,0<=x/\x<3):l∈Lj:=by
 have g:∀x:Int,0<=x/\x<3->x=0\/x=1\/x=2:=λx h=>o!
 match l,f,e with
 | [],_,_=>simp[Lj]
 | [a],_,e=>
  rcases g a (e a i!) with rfl|rfl|rfl<;>simp[Lj]
 | [a,b],f,e=>
  have i:a<b:=by simpa using f
  rcases g a (e a i!) with rfl|rfl|rfl<;>rcases g b (e b i!) with rfl|rfl|rfl<;>first|(exfalso;omega)|simp[Lj]
 | [a,b,c],f,e=>
  have i:a<b/\b<c:=by
   simp at f;exact⟨f.1.1,f.2⟩
  have j:=e a i!;have m:=e c i!;obtain rfl:a=0:=o!
  obtain rfl:c=2:=o!
  obtain rfl:b=1:=o!
  simp[Lj]
 |a::b::c::d::r,f,e=>
  exfalso;simp only[List.pairwise_cons]at f;have i:=f.1 b i!;have o:=f.2.1 c i!;have n:=f.2.2.1 d i!;have j:=e a i!;have k:=e d i!;omega
def filter_lt {n:Int}(a:∀x∈l,0<=x/\x<n):l.filter (· <n)=l:=List.filter_eq_self.2 λx h=>by simpa using(a x h).2
def vU {o:List (List Int)}(g:o.length<=3)(e:∀l∈o,l.Pairwise (· < ·))(d:∀l∈o,∀x∈l,0<=x/\x<o.length):WU o=true:=by
 match o,g,e,d with
 | [],_,_,_=>rfl
 | [a],_,e,d=>
  have f:=d a i!;have:=acD a (EM (e a i!) λx h=>by have:=f x h;simp at this;omega);rwa[filter_lt (λx h=>by have:=f x h;simpa using this)]at this
 | [a,b],_,e,d=>
  have f:=d a i!;have i:=d b i!;have:=acE a (EM (e a i!) λx h=>by have:=f x h;simp at this;omega) b (EM (e b i!) λx h=>by have:=i x h;simp at this;omega);rwa[filter_lt (λx h=>by have:=f x h;simpa using this),filter_lt (λx h=>by have:=i x h;simpa using this)]at this
 | [a,b,c],_,e,d=>
  exact acF a (EM (e a i!) λx h=>by have:=d a i! x h;simpa using this) b (EM (e b i!) λx h=>by have:=d b i! x h;simpa using this)
   c (EM (e c i!) λx h=>by have:=d c i! x h;simpa using this)
 |_::_::_::_::_,g,_,_=>simp at g
variable {n k d b i g cap cc j n1 n2 k1 k2 q rb c2 adl M:Nat}
def ahR {number:Nat}(h:CY (Ed n number l) 0 l=0):l.Pairwise (· < ·)/\∀x∈l,0<=x/\x<n:=by
 have a:∀k (a:k<l.length),(0<=l[k]/\l[k]<n)/\(0<k->nth l (k - 1)<l[k]):=λk a=>by
  have:=Gs h k l[k] (zf a);unfold Ed at this;split at this
  .cases this
  next g=>
  split at this
  .cases this
  next f=>
  refine⟨?_,λs=>?_⟩
  .have:=G' (n:=l[k]) (lo:=0) (hi:=(n:Int) - 1) (by cases e:AD l[k] 0 ((n:Int) - 1);rfl;exact absurd (.inl e) g)
   omega
  exact Int.lt_of_not_ge λb=>f ⟨o!,by rw[zN];exact b⟩
 refine⟨?_,λx o=>?_⟩
 .have step:∀i (hi:i+1<l.length),l[i]<l[i+1]:=λi hi=>by
   have:=(a (i+1) hi).2 (Nat.succ_pos _);simpa[nth,Y6,show i<l.length by omega]using this
  have c:∀d i (hi:i+d+1<l.length),l[i]<l[i+d+1]:=by
   intro d
   induction d with
   |zero=>intro i hi;exact step i hi
   |succ d m=>
    intro i hi;have g:=m i o!;have f:=step (i+d+1) o!;have e:l[i+(d+1)+1]=l[i+d+1+1]:=rfl;rw[e];omega
  rw[ZdK];intro i j hi r p;have:=c (j - i - 1) i o!;have e:l[i+(j - i - 1)+1]' o!=l[j]:=by congr 1;omega
  rwa[e]at this
 obtain⟨k,q,rfl⟩:=Zas o;exact(a k q).1
def ah6 {l:List Ay}(d:l.length<=3)(h:∀s∈l,s.over.Pairwise (· < ·)/\∀x∈s.over,0<=x/\x<l.length)(f:n<l.length)(e:k<l.length):(ad6 l n).getD k false=hasB (Ax l n) k:=by
 have c:(acf l).length=l.length:=by simp[acf]
 have:=vU (o:=acf l) o! (λo b=>by obtain⟨s,a,rfl⟩:=List.mem_map.1 b;exact(h s a).1)
  (λo b=>by obtain⟨s,a,rfl⟩:=List.mem_map.1 b;rw[c];exact(h s a).2)
 unfold WU at this;rw[Zdm]at this;have:=this n (by rw[List.mem_range];omega);rw[Zdm]at this;have:=this k (by rw[List.mem_range];omega);rw[ahP];exact eq_of_beq this
def Qr (n:Nat)(m:Nat->Int):List Int:=(Yr n).map m
def EI (n:Nat)(m:Nat->Int):(Qr n m).length=n:=by simp[Qr]
variable {m:Nat->Int}
def rj (h:i<n):nth (Qr n m) i=m i:=by simp[Qr,nth,h]
def lC (l:List Int):l=Qr l.length (λj=>nth l j):=by
 apply YA;intro i;by_cases h:i<l.length
 .rw[Bn h];simp[Qr,h]
 rw[ZP o!,ZP (by rw[EI];omega)]
def rm (h:i<n)(k b:Int):(Qr n m).set i (m i+b*k)=Qr n (K7 m k ((i:Int),b)):=by
 apply YA;intro j;by_cases c:j<n
 .by_cases a:i=j
  .subst a
   rw[Ys (by rw[EI];exact h)];simp[Qr,c,K7]
  rw[ZS a];simp[Qr,c,K7];omega
 rw[ZP (by simp[EI];omega),ZP (by rw[EI];omega)]
structure MG (w:Zb)(xs:Array Zf)(v:Zf)(n:Nat)(m:Nat->Int)(wr:Zb):Prop where
 below:Qb6 w wr
 box:wr.heap[w.heap.size]?=some (.cells xs 26 (0,0))
 own:Own wr (w+1) v (Qr n m)
def MG.later {wr:Zb}{xs:Array Zf}(h:MG w xs v n m wr)(a:Qb6 wr W):MG w xs v n m W:=
 ⟨h.below.trans (a.mono h.below.size),(a.block _ (Za.1 h.box).1).trans h.box,h.own.later a⟩
def MG.row {wr:Zb}{xs:Array Zf}(h:MG w xs (.slice g n cap) n m wr)(hi:i<n):w+1<=g/\∃a,wr.heap[g]?=some (.cells a 3 (0,0))/\a[i]?=some (.int .i64 (m i)):=by
 obtain⟨l,o,a,e,d,c,k,j,b,f⟩:=h.own.val (by rw[EI];omega);rw[EI]at e;cases e;refine⟨d,a,c,?_⟩;rw[b i (by rw[EI];exact hi),rj hi]
def MG.set {wr:Zb}{xs:Array Zf}(h:MG w xs (.slice g n cap) n m wr)(hi:i<n)(k b:Int):MG w xs (.slice g n cap) n (K7 m k ((i:Int),b)) (wr.setCell ⟨g,i,none⟩ (.int .i64 (m i+b*k))):=by
 obtain⟨p,q,c,e,o,l,j,f,d,a⟩:=h.own.val (by rw[EI];omega);rw[EI]at e;cases e;refine⟨bS h.below o!,(AZ o! _).trans h.box,?_⟩;rw[<-rm hi];exact a i _ (by rw[EI];exact hi)
variable {c:A_}
def c47 (h:RC S w v1 v2 v3 v4 v5 c)(s:Fq c)(hl:SI S w v6 l)(hn:l.length<=c.Aa.length)(hb:∀i,i<l.length->-2<=nth l i/\nth l i<=2)(I:Ql6 S w):
  Calls Lp 35 #[.agg #[v1,v2,v3,v4,v5],v6] w λe w'=>∃u,e=.returned u/\Qb6 w w'/\SI (Cb w w') w' u (Cc c l):=by
 obtain⟨T,M,R,c2,Q,L,a4,A,P,K,rfl,rfl,rfl,rfl,rfl,l1,m1,l2,m2,l3,m3,l4,m4,l5,m5⟩:=h.vs;obtain⟨a6,c6,rfl,l6,m6⟩:=hl.val;have IX:=DJ;obtain⟨tN,lZ⟩:=s.Fp;have HM:=Zd (show measure c l=Iw (λj=>nth c.base j) (l.zip c.Aa) from rfl);have Bg:YH w w (w.alloc (.cells (Qe6 c T M R c2 Q L a4 A P K) 26)):=bA (Zh _ _);have b8:=Zd (λW (hB:Qb6 w W)=>WO (h.later hB).base o!);have ai:=MP s;have bi:=Zd (lC c.base);go_enter Lp.func47,n47;go_wp2_with (go_at_call 12;refine(b8.out _ Bg).mono ?_;rintro e w1 ⟨u,rfl,Bb,J⟩;obtain⟨g,cap,ap,rfl,z,_⟩:=J.val o!);have an:MG w #[.slice T c.base.length M,.slice R c.Af.length c2,.slice Q c.hooks.length L,.slice a4 c.Aa.length A,.slice P c.now.length K] (.slice g c.base.length cap) c.base.length (λj=>nth c.base j) w1:=by
  refine⟨Bg.trans (Bb.mono Bg.size),(Bb.block _ i!).trans (Bp _ _),?_⟩;rw[<-bi.out];rw[ZB]at J;exact J
 clear Bb J z;go_loopg [6] l.length (λgg i wr=>∃(k:Nat) (m:Nat->Int),k<=l.length/\gg=l.length - k/\i=.int .i64 k/\Iw m ((l.zip c.Aa).drop k)=measure c l/\(∀j,-(60+16*k)<=m j/\m j<=60+16*k)/\MG w #[.slice T c.base.length M,.slice R c.Af.length c2,.slice Q c.hooks.length L,.slice a4 c.Aa.length A,.slice P c.now.length K] (.slice g c.base.length cap) c.base.length m wr)
 case atStart=>exact⟨0,_,Zp _,rfl,rfl,rfl,λj=>by have:=ai j;omega,an⟩
 obtain⟨k,m,hk,rfl,rfl,D,ac,hM⟩:=hrel;have hf:=Zd D;clear D;by_cases Az:k<l.length
 .have U:k<c.Aa.length:=by omega
  have V:=hb k Az;have Z:=Zd (SR (m:=m) Az U);obtain⟨b6,o6,rfl,Xj,xu⟩:=hl.at_ Az;obtain⟨b,o,s2,s3,rfl,UQ,ER,MM,LO,et,mi,Y,ho⟩:=h.Aa.at_ (i:=k) U;obtain⟨a7,c7,rfl,l7,m7⟩:=Y.val;clear ER MM et mi;have Xa:=s.pull k U;have X:=s.Ap k U;have Jm:=s.few;obtain⟨n,Gc⟩:=Qnm (nth l k);rw[<-Gc]at xu V Z;clear Gc;obtain⟨a,lP⟩:=Qnm ((Aj c.Aa k).Ap);rw[<-lP]at LO Y l7 Xa X Z;clear lP;have TB:(k:Int)<(l.length:Int):=o!
  have du:(k:Int)<(c.Aa.length:Int):=o!
  go_wp2;go_loopg [7] a.length (λgg i wx=>∃(j:Nat) (d:Nat->Int),j<=a.length/\gg=a.length - j/\i=.int .i64 j/\CZ d n (a.drop j)=CZ m n a/\(∀i,-(60+16*(k:Int)+8*j)<=d i/\d i<=60+16*(k:Int)+8*j)/\MG w #[.slice T c.base.length M,.slice R c.Af.length c2,.slice Q c.hooks.length L,.slice (some ⟨b,o,none⟩) c.Aa.length A,.slice P c.now.length K] (.slice g c.base.length cap) c.base.length d wx)
  case atStart=>exact⟨0,m,Zp _,rfl,rfl,rfl,λi=>by have:=ac i;omega,hM⟩
  obtain⟨j,d,hj,rfl,rfl,D,eA,f⟩:=hrel;have MK:=Zd D;clear D;have be:=(f.below.cell (p:=⟨b,o+k*5+2,none⟩) (I b UQ)).trans LO;have g3:=ch (i:=3) f.box (v:=.slice (some ⟨b,o,none⟩) c.Aa.length A) rfl;by_cases G4:j<a.length
  .obtain⟨O,o7,rfl,U3,F,E⟩:=Y.at_ G4
   rw[<-f.below.cell (p:=⟨O,o7+j*2,none⟩) (I O U3)]at F;rw[<-f.below.cell (p:=⟨O,o7+j*2+1,none⟩) (I O U3)]at E;have B:=(f.below.cell (p:=⟨b6,o6+k,none⟩) (I b6 Xj)).trans xu;have t:=Zd (PO (m:=d) (n:=n) G4);obtain⟨Oo,MF,H,G⟩:=Xa j G4;obtain⟨q,hq⟩:=Qnm (BV a j);rw[<-hq]at F E t Oo MF H G;clear hq;obtain⟨x',y⟩:=q;obtain⟨x,rfl⟩:∃x:Nat,x'=x:=⟨x'.toNat,by simp only at Oo;omega⟩;dsimp only at F E Oo MF H G;have xy:x<c.base.length:=o!
   have b9:(x:Int)<(c.base.length:Int):=o!
   have dl:(0:Int)<=(x:Int):=o!
   have fd:(0:Int)<=(k:Int):=o!
   have LZ:(j:Int)<(a.length:Int):=o!
   have ct:(0:Int)<=(j:Int):=o!
   have ci:=prod_bound ⟨H,G⟩ V;have ck:=eA x;have eB:=f.later (bA (o:=.cells #[.int .i64 x,.int .i64 y] 106) (Zh _ _));go_wp2;obtain⟨C,r⟩:=Qnm (wr.alloc (.cells #[.int .i64 x,.int .i64 y] 106));have e0:C.cell? wr=some (.int .i64 x):=by rw[r];exact cn _ _ _ rfl
   have e1:C.cell? ⟨wr,1,none⟩=some (.int .i64 y):=by rw[r];exact cn _ _ _ rfl
   have e6:C.cell? ⟨b6,o6+k,none⟩=some (.int .i64 n):=by rw[r];exact ca B _
   rw[<-r]at eB;obtain⟨z,ap,Xg,Ox⟩:=eB.row xy;have r0:C.cell? ⟨g,x,none⟩=some (.int .i64 (d x)):=ch Xg Ox;have rf:=cf (i:=x) Xg;rw[<-r];clear r B F E g3 be;go_still_tail 17,k!;change wpList _ _ _ _ _ C.drew;have am:=(eB.later (Zh _ _).drew).set xy n y;go_wp2;go_roundg (a.length - (j+1))
   case rel=>exact⟨j+1,K7 d n ((x:Int),y),o!,rfl,v!,by rw[<-MK.out,t.out],λi=>by have:=MO (N:=60+16*(k:Int)+8*j) (p:=((x:Int),y)) eA ⟨H,G⟩ V i;omega,am⟩
   omega
  have e2:d=CZ m n a:=by rw[<-MK.out,Z7.2 o!];rfl
  subst e2;go_wp2;go_roundg (l.length - (k+1))
  case rel=>exact⟨k+1,_,o!,rfl,v!,by rw[<-hf.out,Z.out],λi=>by have:=eA i;have:(j:Int)<=2:=o!;omega,f⟩
  omega
 have e1:m=measure c l:=by rw[<-hf.out,Z7.2 j!];rfl
 subst e1;have hs:=hM.own.si;rw[show Qr c.base.length (measure c l)=Cc c l from rfl]at hs;have Lc:=hM.below;go_wp2;go_ret;exact⟨_,rfl,Lc,Sl.imp hs (λx (hx:Cb (w+1) wr x)=>⟨by have:=hx.1;omega,hx.2⟩) (λ_ _ x=>x)⟩
def bU (h:Qb6 w A)(k:Qb6 A B):Qb6 w B:=h.trans (k.mono h.size)
def fH:Nat->Nat->List (List Int)
 |0,_=> [[]]
 |m+1,n=>((Yr n).drop m).flatMap λlast=>(fH m last).map (· ++ [(last:Int)])
def g64 (w:Zb)(x y:Zbv)(xs a:Array Zf):(eqGuard .neq 106 x y (.agg xs) (.agg a)).run Lp w=.ok () w:=run_eqGuard_agg w _ _ _ _ _ _ k!
def q64 (w:Zb)(a b:Int):(binOp .neq 106 (.agg #[.int .i64 a,.int .i64 b]) (.agg #[.int .i64 a,.int .i64 b])).run Lp w=.ok (.bool false) w:=by
 rw[run_neq_struct,run_equalIn_agg (ht:=k!) (hp:=k!)];simp[go_sem]
def aev:Ke l l=true:=decide_eq_true rfl
def afJ {l:List (Int×Int)}:adN l l=true:=decide_eq_true rfl
def c97 {u3:Zf}{s:Ay}(hp:SP S w v2 s.Ap)(u:SI S w v3 s.over)(t:SP T w u2 s.Ap)(o:SI T w u3 s.over)(l:Ql6 S w)(j:∀b,T b->b<w.heap.size):
  Calls Lp 49 #[.agg #[.int .i64 s.low,.int .i64 s.high,v2,v3,.int .i64 s.left],.agg #[.int .i64 s.low,.int .i64 s.high,u2,u3,.int .i64 s.left]] w λe w'=>e=.returned (.bool true)/\Qb6 w w':=by
 obtain⟨z,x,rfl,l1,m1⟩:=hp.val;obtain⟨y,c2,rfl,l2,m2⟩:=u.val;obtain⟨R,N,rfl,l3,Z⟩:=t.val;obtain⟨Q,M,rfl,l4,Y⟩:=o.val;have IX:=DJ;have n:YH w w ((w.alloc (.cells #[.int .i64 s.low,.int .i64 s.high,.slice z s.Ap.length x,.slice y s.over.length c2,.int .i64 s.left] 55)).alloc (.cells #[.int .i64 s.low,.int .i64 s.high,.slice R s.Ap.length N,.slice Q s.over.length M,.int .i64 s.left] 55)):=bA (bA (Zh _ _));have v:=Zd (λW (a:Qb6 w W)=>c46 (w:=W) (u.later a) (o.later a) (A3 l a) (A3 j a));rw[aev]at v;go_enter Lp.func97,n97;go_wp2_with (go_at_call 20;refine(v.out _ n).mono ?_;rintro e w1 ⟨rfl,c⟩;have C:=n.trans (c.mono n.size);obtain⟨V,X⟩:=bw c;obtain⟨U,E⟩:=E7 c);have n1:=(c.block w j!).trans (Bf (Bp w (.cells #[.int .i64 s.low,.int .i64 s.high,.slice z s.Ap.length x,.slice y s.over.length c2,.int .i64 s.left] 55)) _);have n2:=(c.block (w+1) i!).trans (Jq w _ _);have J:=ch (i:=2) n1 rfl;have H:=ch (i:=2) n2 rfl;clear n1 n2 c U E;go_loopg [5] s.Ap.length (λg i wr=>∃k:Nat,k<=s.Ap.length/\g=s.Ap.length - k/\i=.int .i64 k/\Qb6 w1 wr)
 case atStart=>exact⟨0,Zp _,rfl,rfl,Zh _ _⟩
 obtain⟨k,hk,rfl,rfl,a⟩:=hrel;have d:=C.trans (a.mono C.size);have I:=(a.cell (p:=⟨w,2,none⟩) V).trans J;have G:=(a.cell (p:=⟨w+1,2,none⟩) X).trans H;by_cases D:k<s.Ap.length
 .obtain⟨h,r,rfl,A,L,F⟩:=hp.at_ D
  obtain⟨f,q,rfl,B,K,m⟩:=t.at_ D;rw[<-d.cell (p:=⟨h,r+k*2,none⟩) (l h A)]at L;rw[<-d.cell (p:=⟨h,r+k*2+1,none⟩) (l h A)]at F;rw[<-d.cell (p:=⟨f,q+k*2,none⟩) (j f B)]at K;rw[<-d.cell (p:=⟨f,q+k*2+1,none⟩) (j f B)]at m;have i1:(k:Int)<(s.Ap.length:Int):=o!
  have P:=q64;have O:=g64;go_wp2;go_quiet (fail);go_wp2;go_roundg (s.Ap.length - (k+1))
  case rel=>exact⟨k+1,o!,rfl,v!,Y5 a _⟩
  omega
 go_wp2;go_ret;exact⟨rfl,d⟩
def aor {u3:Zf}{s:Ay}(hp:SP S w v2 s.Ap)(f:SI S w v3 s.over)(d:SP T w u2 s.Ap)(c:SI T w u3 s.over)(h:Ql6 S w)(g:∀b,T b->b<w.heap.size):
  ∀W,Qb6 w W->Calls Lp 49 #[.agg #[.int .i64 s.low,.int .i64 s.high,v2,v3,.int .i64 s.left],.agg #[.int .i64 s.low,.int .i64 s.high,u2,u3,.int .i64 s.left]] W λe w'=>e=.returned (.bool true)/\Qb6 W w':=
 λ_ a=>c97 (hp.later a) (f.later a) (d.later a) (c.later a) (A3 h a) (A3 g a)
def c36 {u3:Zf}(h:RC S w v1 v2 v3 v4 v5 c)(g:RC T w u1 u2 u3 u4 u5 c)(l:Ql6 S w)(j:∀b,T b->b<w.heap.size):
  Calls Lp 19 #[.agg #[v1,v2,v3,v4,v5],.agg #[u1,u2,u3,u4,u5]] w λe w'=>e=.returned (.bool true)/\Qb6 w w':=by
 obtain⟨a1,c1,R,c2,Q,J,P,I,O,H,rfl,rfl,rfl,rfl,rfl,l1,m1,l2,m2,l3,m3,l4,m4,l5,m5⟩:=h.vs;obtain⟨b1,d1,N,d2,M,d3,L,d4,K,G,rfl,rfl,rfl,rfl,rfl,k1,n1,k2,n2,k3,n3,k4,n4,k5,n5⟩:=g.vs;have IX:=DJ;have Bg:YH w w ((w.alloc (.cells (Qe6 c a1 c1 R c2 Q J P I O H) 26)).alloc (.cells (Qe6 c b1 d1 N d2 M d3 L d4 K G) 26)):=bA (bA (Zh _ _));have r0:=λ{i:Nat} {v:Zf}=>ch (i:=i) (v:=v) (Bf (Bp w (.cells (Qe6 c a1 c1 R c2 Q J P I O H) 26)) (.cells (Qe6 c b1 d1 N d2 M d3 L d4 K G) 26));have U:=λ{i:Nat} {v:Zf}=>ch (i:=i) (v:=v) (Jq w (.cells (Qe6 c a1 c1 R c2 Q J P I O H) 26) (.cells (Qe6 c b1 d1 N d2 M d3 L d4 K G) 26));have HR:Hid (∀(W:Zb),YH ((w.alloc (.cells (Qe6 c a1 c1 R c2 Q J P I O H) 26)).alloc (.cells (Qe6 c b1 d1 N d2 M d3 L d4 K G) 26)).heap.size ((w.alloc (.cells (Qe6 c a1 c1 R c2 Q J P I O H) 26)).alloc (.cells (Qe6 c b1 d1 N d2 M d3 L d4 K G) 26)) W->
   W.cell? ⟨w,1,none⟩=some (.slice R c.Af.length c2)/\W.cell? ⟨w,2,none⟩=some (.slice Q c.hooks.length J)/\W.cell? ⟨w,3,none⟩=some (.slice P c.Aa.length I)/\W.cell? ⟨w,4,none⟩=some (.slice O c.now.length H)/\
   W.cell? ⟨w+1,1,none⟩=some (.slice N c.Af.length d2)/\W.cell? ⟨w+1,2,none⟩=some (.slice M c.hooks.length d3)/\W.cell? ⟨w+1,3,none⟩=some (.slice L c.Aa.length d4)/\W.cell? ⟨w+1,4,none⟩=some (.slice K c.now.length G)):=Zd λW a=>by
  obtain⟨u,_⟩:=E7 a;exact⟨(u _ _ j!).trans (r0 rfl),(u _ _ j!).trans (r0 rfl),(u _ _ j!).trans (r0 rfl),(u _ _ j!).trans (r0 rfl),(u _ _ i!).trans (U rfl),(u _ _ i!).trans (U rfl),(u _ _ i!).trans (U rfl),(u _ _ i!).trans (U rfl)⟩
 clear r0 U;have HA:=Zd (λW (a:Qb6 w W)=>c46 (w:=W) (h.base.later a) (g.base.later a) (A3 l a) (A3 j a));have HE:=Zd (λW (a:Qb6 w W)=>c43 (w:=W) (h.Af.later a) (g.Af.later a) (A3 l a) (A3 j a));have HH:=Zd (λW (a:Qb6 w W)=>c46 (w:=W) (h.hooks.later a) (g.hooks.later a) (A3 l a) (A3 j a));have am:=Zd (λW (a:Qb6 w W)=>c46 (w:=W) (h.now.later a) (g.now.later a) (A3 l a) (A3 j a));rw[aev]at HA HH am;rw[afJ]at HE;go_enter Lp.func36,n36;go_wp2_with (go_at_call 20;refine(HA.out _ Bg).mono ?_;rintro e w1 ⟨rfl,Bb⟩;have oT:=Bg.trans (Bb.mono Bg.size);obtain⟨C,B,q,A,z,y,o,x⟩:=HR.out _ Bb);have ac:=Bb;clear Bb;refine(HE.out _ oT).mono ?_;rintro e w2 ⟨rfl,f⟩;have E:=ac.trans (f.mono ac.size);have aT:=oT.trans (f.mono oT.size);clear f C B q A z y o x;obtain⟨C,B,q,A,z,y,o,x⟩:=HR.out _ E;dsimp only;go_wp2_with (fail);refine(HH.out _ aT).mono ?_;rintro e w3 ⟨rfl,f⟩;have D:=E.trans (f.mono E.size);have xa:=aT.trans (f.mono aT.size);clear f C B q A z y o x;obtain⟨C,B,q,A,z,y,o,x⟩:=HR.out _ D;dsimp only;go_wp2_with (fail);refine(am.out _ xa).mono ?_;rintro e w4 ⟨rfl,f⟩;have iu:=D.trans (f.mono D.size);have ai:=xa.trans (f.mono xa.size);clear f C B q A z y o x;obtain⟨C,B,q,A,z,y,o,x⟩:=HR.out _ iu;dsimp only;go_wp2_with (fail);clear C B A z y x;go_loopg [5] c.Aa.length (λg i wr=>∃k:Nat,k<=c.Aa.length/\g=c.Aa.length - k/\i=.int .i64 k/\Qb6 w4 wr)
 case atStart=>exact⟨0,Zp _,rfl,rfl,Zh _ _⟩
 obtain⟨k,hk,rfl,rfl,a⟩:=hrel;have d:=ai.trans (a.mono ai.size);have an:=iu.trans (a.mono iu.size);clear q o;obtain⟨_,_,q,_,_,_,o,_⟩:=HR.out _ an;by_cases Az:k<c.Aa.length
 .obtain⟨n,o1,s2,s3,rfl,Z,h0,h1,h2,h3,h4,hp,ho⟩:=h.Aa.at_ Az
  obtain⟨m,o2,t2,t3,rfl,V,t,s,j2,j3,r,lR,rH⟩:=g.Aa.at_ Az;have F:=Zd (aor hp ho lR rH l j);obtain⟨sm,Qh⟩:=Qnm (Aj c.Aa k);rw[<-Qh]at h0 h1 h4 t s r F;clear Qh;have i1:(k:Int)<(c.Aa.length:Int):=o!
  have X:=λp=>Al p q;have Y:=λp=>Al p o;have h0:=λp=>Al p ((d.cell (p:=⟨n,o1+k*5,none⟩) (l n Z)).trans h0);have h1:=λp=>Al p ((d.cell (p:=⟨n,o1+k*5+1,none⟩) (l n Z)).trans h1);have h2:=λp=>Al p ((d.cell (p:=⟨n,o1+k*5+2,none⟩) (l n Z)).trans h2);have h3:=λp=>Al p ((d.cell (p:=⟨n,o1+k*5+3,none⟩) (l n Z)).trans h3);have h4:=λp=>Al p ((d.cell (p:=⟨n,o1+k*5+4,none⟩) (l n Z)).trans h4);have t:=λp=>Al p ((d.cell (p:=⟨m,o2+k*5,none⟩) (j m V)).trans t);have s:=λp=>Al p ((d.cell (p:=⟨m,o2+k*5+1,none⟩) (j m V)).trans s);have j2:=λp=>Al p ((d.cell (p:=⟨m,o2+k*5+2,none⟩) (j m V)).trans j2);have j3:=λp=>Al p ((d.cell (p:=⟨m,o2+k*5+3,none⟩) (j m V)).trans j3);have r:=λp=>Al p ((d.cell (p:=⟨m,o2+k*5+4,none⟩) (j m V)).trans r);have HB:=Zd (λp=>d.trans ((AE wr p).mono d.size));have HQ:=Zd (λp=>a.trans ((AE wr p).mono a.size));go_wp2;refine Av k! k! ?_
  repeat (first|go_big_quiet_step ((go_at_call 49;exact AV (F.out _ (HB.out _))))|quiet_step ((go_at_call 49;exact AV (F.out _ (HB.out _)))))
  refine Z4 ?_;rintro _ ⟨p,rfl⟩;clear X Y h0 h1 h2 h3 h4 t s j2 j3 r;have yw:=HQ.out p;go_wp2;go_roundg (c.Aa.length - (k+1))
  case rel=>exact⟨k+1,o!,rfl,v!,yw⟩
  omega
 go_wp2;go_ret;exact⟨rfl,d⟩
attribute [local go_sem] Zdk
def Ev (c:A_)(l:List Int):Bool:=(JU c (DS c l)).isNone
def LU (c:A_):List (List Int):=(EH c).filter (Ev c)
def WV (h:l∈EH c):Tc c l:=Lf _ _ h
variable {t e:Zs}
variable {xs vals news:List Zf}
def Tn {base:Nat}(a:Qb6 A B)(h:A.ownsRow base e k v n xs):B.ownsRow base e k v n xs:=CO (T:=λ_=>False) (Ak.later a) (λ_ _ x=>x) h
def AQ.snoc {base m g' f ln:Nat}{o:Option Addr}{a:List (List Int)}{x:List Int}(r:AQ w base a A)(N:w<base)(J:A.heap[w.heap.size]?=some (.cells #[v] 35 (0,0)))(B:A.ownsRow base 22 1 v a.length vals)
 (K:∀(i:Nat) (x:List Int),a[i]?=some x->∃u,vals[i]?=some u/\SI (J1 3 base A) A u x) (q:SI (J1 3 m A) A (.slice o ln cc) x) (O:base<=m) (s:(A.alloc (.cells #[.slice o ln cc] 22)).grownBy w1 v.ownBlock)
 (M:w1.ownsRow base 22 1 (.slice g' (a.length+1) f) (a.length+1) (vals++ [.slice o ln cc])):
  AQ w base (a++ [x]) (w1.setCell w (.slice g' (a.length+1) f))/\Ak (λk=>k=w.heap.size\/base<=k) A (w1.setCell w (.slice g' (a.length+1) f)):=by
 have z:∀k,v.ownBlock=some k->base<=k:=λk c=>(B.lt k c).1;have D:=r.size;have I:w1.heap[w.heap.size]?=some (.cells #[v] 35 (0,0)):=(s.block _ j! (λe=>by have:=z _ e.symm;omega)).trans (Bf J _);have S:A<w1.heap.size:=by have:=s.size;simp at this;omega
 have t:Ak (λk=>v.ownBlock=some k) A w1:=(Ak.later (bA (Zh _ _))).trans (Ak.grown s λk c=>c);have p:∀(T:Nat->Prop),T w.heap.size->Ak T w1 (w1.setCell w (.slice g' (a.length+1) f)):=λT h=>(Ak.refl _ _).set h;refine⟨⟨?_,?_,_,vals++ [.slice o ln cc],Ba I _,?_,λi y l=>?_⟩,(t.mono λk c=>.inr (z k c)).trans (p _ (.inl rfl))⟩
 .exact(r.below.trans (t.below (λk c=>by have:=z k c;omega) r.below.size)).trans ((p (λk=>k=w.heap.size) rfl).below (λk c=>o!) o!)
 .have:=(p (λk=>k=w.heap.size) rfl).size
  omega
 .rw[ZA]
  exact CO (p (λk=>k=w.heap.size) rfl) (λb Q P=>o!) M
 have j:∀u,SI (J1 3 base A) A u y->SI (J1 3 base (w1.setCell w (.slice g' (a.length+1) f))) (w1.setCell w (.slice g' (a.length+1) f)) u y:=λu h=>by
  refine Dx (T:=λk=>v.ownBlock=some k\/k=w) ((t.mono λk c=>.inl c).trans (p _ (.inr rfl))) (λb d h=>?_) h;rcases h with h|h
  .obtain⟨R,n⟩:=d.2
   rcases B.2 with⟨e,_⟩|⟨g,cap,G,e,_,F,_⟩
   .rw[e]at h;cases h
   rw[e]at h;cases h;rw[F]at n;cases n
  have:=d.1.1;omega
 by_cases L:i<a.length
 .rw[zl L]at l
  obtain⟨u,q,E⟩:=K i y l;exact⟨u,by rw[zl (Zm.1 q).1];exact q,j u E⟩
 have H:=(Zm.1 l).1;rw[ZA,zb,zR]at H;obtain rfl:i=a.length:=o!
 rw[Y1]at l;cases l;have C:vals.length=a.length:=by have:=B.1;omega
 refine⟨.slice o ln cc,by rw[<-C,Y1],j _ (Sl.imp q (λb d=>⟨⟨?_,d.1.2⟩,d.2⟩) (λ_ _ x=>x))⟩;have:=d.1.1;omega
def aiM (h:RC S w v1 v2 v3 v4 v5 c)(hS:Ql6 S w)(R:Fq c):
  CallsIn ZbC 0 Lp 46 #[.agg (AW v1 v2 v3 v4 v5 (Ax c.Aa))] w λe w'=>∃v,e=.returned v/\Qb6 w w'/\SL (Cb w w') w' v (LU c):=by
 obtain⟨D,q,C,c2,z,p,s,m,r,j,rfl,rfl,rfl,rfl,rfl,_⟩:=h.vs;have ci:=R.few;have ai:=Zd R.uy;have pT:=S3 R.over;obtain⟨ab,DU⟩:=Qnm (Ax c.Aa);have mG:=Zd DU;rw[<-DU]at pT⊢;clear DU;have b9:(AW (.slice D c.base.length q) (.slice C c.Af.length c2) (.slice z c.hooks.length p) (.slice s c.Aa.length m) (.slice r c.now.length j) ab).size=8:=rfl;obtain⟨W1,NL⟩:=Qnm (w.alloc (.cells (AW (.slice D c.base.length q) (.slice C c.Af.length c2) (.slice z c.hooks.length p) (.slice s c.Aa.length m) (.slice r c.now.length j) ab) 81));refine callsIn_of_wp_marks Lp.func128 rfl trivial ?_ rfl;show Code.wpIn _ _ _ _ _ {tmps:= #[.agg (AW (.slice D c.base.length q) (.slice C c.Af.length c2) (.slice z c.hooks.length p) (.slice s c.Aa.length m) (.slice r c.now.length j) ab)]++_,defers:=[]} _;unfold AW;simp only[aq4,Zbm,zb,zR,ZaF,Zcw,ZaN,ZaM,Zbn,Za4,zP,Za1]
 gi_wp2
 refine⟨trivial,rfl,(Zcx (n:=0).2 (ahC (AW (.slice D c.base.length q) (.slice C c.Af.length c2) (.slice z c.hooks.length p) (.slice s c.Aa.length m) (.slice r c.now.length j) ab) rfl (by simp[AW,YT]) _)).mono ?_⟩;rintro e V ⟨rfl,N⟩;change V=((w.alloc (.cells (AW (.slice D c.base.length q) (.slice C c.Af.length c2) (.slice z c.hooks.length p) (.slice s c.Aa.length m) (.slice r c.now.length j) ab) 81)).alloc (.cells #[()] 35)).alloc (.cells (AW (.slice D c.base.length q) (.slice C c.Af.length c2) (.slice z c.hooks.length p) (.slice s c.Aa.length m) (.slice r c.now.length j) ab) 81) at N;rw[<-NL]at N;have DR:W1=w.heap.size+1:=by rw[NL];simp
 have an:V=w.heap.size+3:=by rw[N];simp;omega
 have X:Qb6 w W1:=by rw[NL];exact bA (Zh _ _)
 have P:Qb6 W1 V:=by rw[N];exact bA (bA (Zh _ _))
 have lD:W1.heap[w.heap.size]?=some (.cells (AW (.slice D c.base.length q) (.slice C c.Af.length c2) (.slice z c.hooks.length p) (.slice s c.Aa.length m) (.slice r c.now.length j) ab) 81 (0,0)):=by rw[NL];exact Bp _ _
 have Ia:V.heap[W1.heap.size]?=some (.cells #[()] 35 (0,0)):=by rw[N];exact Bf (Bp _ _) _
 have iz:V.heap[w.heap.size+1+1]?=some (.cells (AW (.slice D c.base.length q) (.slice C c.Af.length c2) (.slice z c.hooks.length p) (.slice s c.Aa.length m) (.slice r c.now.length j) ab) 81 (0,0)):=by rw[N, <-DR,show W1.heap.size+1=(W1.alloc (.cells #[()] 35)).heap.size by simp];exact Bp _ _
 have Ui:Qb6 w V:=X.trans (P.mono X.size);have HS:=Zd (show∀W,Qb6 w W->RC S W (.slice D c.base.length q) (.slice C c.Af.length c2) (.slice z c.hooks.length p) (.slice s c.Aa.length m) (.slice r c.now.length j) c from λW hB=>h.later hB);have eZ:=qv iz (HS.out V Ui) (λb g=>by have:=hS b g;omega) o! (λi hi=>by have:=R.step i hi;omega);clear N;simp only[ZB];obtain⟨K,hK⟩:∃K:Nat->Prop,K=λk=>S k\/k=w+1+1:=⟨_,rfl⟩;have ju:∀k,K k->k<w.heap.size\/k=w+1+1:=λk h=>by
  rw[hK]at h;rcases h with h|rfl
  .exact .inl (hS k h)
  exact .inr rfl
 rw[<-hK]at eZ;clear hK;have hN:(EH c).length<=125:=by
  have:=H7 c.Aa (λi hi=>by have:=R.step i hi;omega);have J:5^c.Aa.length<=5^3:=YX d! o!;exact Zr this J
 obtain⟨i0,hi,Fl,k9,EB⟩:=zp Hw;have hu:=Cz zW;have HZ:=Zd (show w+1<=W1.heap.size/\W1<=w.heap.size+1/\w+3<=V.heap.size/\V<=w.heap.size+3 by omega);have F:=Zd DR;clear NL DR an
 gi_wp2
 have kL:=HZ.out;refine Vm (gf:=93) (lb:= #[.pointer (w+1+1:Nat)]) rfl (Go.Proofs.enters_of Lp.func153 k! rfl) eZ (Zj _) (λk Z=>⟨by have:=ju k Z;omega,rfl⟩) (λa A=>AQ W1 (V+6) (a.filter (Ev c)) A) (λA hA hs=>?_) (λa A B h O=>h.CN (n:=V) o! rfl O)
  (λu=> {tmps:= #[.agg #[.slice D c.base.length q,.slice C c.Af.length c2,.slice z c.hooks.length p,.slice s c.Aa.length m,.slice r c.now.length j,.int .u8 (ab 0),.int .u8 (ab 1),.int .u8 (ab 2)],.pointer w,(),.pointer (w+1:Nat),u,Ze,Ze,.agg #[.slice D c.base.length q,.slice C c.Af.length c2,.slice z c.hooks.length p,.slice s c.Aa.length m,.slice r c.now.length j,.int .u8 (ab 0),.int .u8 (ab 1),.int .u8 (ab 2)],.func (.func 93) #[] #[.pointer (w+1+1:Nat)],u,Ze,Ze,Ze,Ze,Ze,Ze,Ze,Ze,Ze,Ze,Ze,Ze,Ze],defers:=[]}) ?assign ?body ?done
 .exact⟨P.trans (hA.mono P.size),o!,_,[],(hA.block _ o!).trans Ia,zq _ _ _ _,λi x hx=>by cases hx⟩
 case assign=>
  rintro l u W' K ⟨ad,n,cc,rfl⟩ hK
  gi_wp2
  exact hK
 case body=>
  intro l a x u A0 A be O hz E iA;have f:=be.CN (n:=V) o! rfl O;obtain⟨v,vals,L,Q,DF⟩:=f.box;obtain⟨ad,cc,rfl,lu,mu⟩:=iA.val;have ap:V+6<=A.heap.size:=f.size;have Y:x∈EH c:=E.subset i!;have b8:=E.length_le;rw[ZA,zb,zR]at b8;obtain⟨MF,_⟩:=WV Y;have G:Qb6 w A:=X.trans (f.below.mono X.size);have I:A.heap[w.heap.size]?=some (.cells #[.slice D c.base.length q,.slice C c.Af.length c2,.slice z c.hooks.length p,.slice s c.Aa.length m,.slice r c.now.length j,.int .u8 (ab 0),.int .u8 (ab 1),.int .u8 (ab 2)] 81 (0,0)):=(f.below.block w o!).trans lD;have kL:=HZ.out;have HI:=Zd f;have M:x.length<=c.now.length:=by have:=ai.out;omega
  have M_:=c90 ((HS.out A G).imp (T:=λb=>b<A.heap.size) λb g=>by have:=hS b g;have:=G.size;show b<_;omega) (Sl.imp iA (T:=λb=>b<A.heap.size) (λb g=>g.1.2) λ_ _ x=>x) M (by have:=ai.out;omega) (ab:=ab) pT (by rw[mG.out];exact MT R o!) λb g=>g;have H:=Zd (show Ev c x=(JU c (Cx ab c.now x)).isNone by rw[mG.out];rfl);obtain⟨t,ht⟩:=Qnm (Cx ab c.now x);rw[<-ht]at M_ H;clear ht;obtain⟨o,ho⟩:=Qnm (JU c t);rw[<-ho]at M_ H;clear ho;have vw:=Zd ((Zcx (n:=0)).2 M_);have ck:=Zd (ZY MF M);clear M_ E Y MF M;have g0:=ch (i:=0) I rfl;have g1:=ch (i:=1) I rfl;have g2:=ch (i:=2) I rfl;have g3:=ch (i:=3) I rfl;have g4:=ch (i:=4) I rfl;have g5:=ch (i:=5) I rfl;have g6:=ch (i:=6) I rfl;have g7:=ch (i:=7) I rfl;cases o with
  |some i=>
   dsimp only[uv]at vw
   gi_wp2
   refine⟨trivial,rfl,vw.out.mono ?_⟩;rintro e w2 ⟨rfl,d⟩
   gi_wp2
   have Tq:a.filter (Ev c)++ [x].filter (Ev c)=a.filter (Ev c):=by rw[ZbB,H.out];simp
   rw[Tq];refine⟨?_,Ak.later d⟩;obtain⟨v,vals,b1,b2,b3⟩:=f.box;exact⟨f.below.trans (d.mono f.below.size),by have:=d.size;omega,v,vals,(d.block _ (Za.1 b1).1).trans b1,Tn d b2,λi y hy=>by
    obtain⟨u,U,J⟩:=b3 i y hy;exact⟨u,U,Dx (T:=λ_=>False) (Ak.later d) (λ_ _ h=>h) J⟩⟩
  |none=>
   dsimp only[uv]at vw
   gi_wp2
   refine⟨trivial,rfl,vw.out.mono ?_⟩;rintro e w2 ⟨rfl,d⟩;have mJ:AQ W1 (V+6) (a.filter (Ev c)) w2:=by
    obtain⟨v,vals,b1,b2,b3⟩:=f.box;exact⟨f.below.trans (d.mono f.below.size),by have:=d.size;omega,v,vals,(d.block _ (Za.1 b1).1).trans b1,Tn d b2,λi y hy=>by
     obtain⟨u,U,J⟩:=b3 i y hy;exact⟨u,U,Dx (T:=λ_=>False) (Ak.later d) (λ_ _ h=>h) J⟩⟩
   have Hb:SI (J1 3 A0 w2) w2 (.slice ad x.length cc) x:=Dx (T:=λ_=>False) (Ak.later d) (λ_ _ h=>h) iA;clear L Q DF;obtain⟨v,vals,L,Q,DF⟩:=mJ.box;have kb:=ch (i:=0) L (v:=v) rfl;have fb:=cf (i:=0) L;rw[F.out]at kb fb;have G9:=Zac (Ev c) a;have Tq:a.filter (Ev c)++ [x].filter (Ev c)=a.filter (Ev c)++ [x]:=by rw[ZbB,H.out];simp
   gi_wp2_with (gi_at_builtin;refine wpListIn_append_own _ rfl _ _ 35 rfl (V+6) 22 i0 () 1 24 hu (Dz hi) Fl k9 EB rfl d! _ _ _ rfl (Q.alloc _) w2 1 1 [.slice ad x.length cc] rfl rfl (cell_one_new _ _ _) (by simp[YT]) u! o! (by have:=d.size;simp;omega) ?_;intro v' w3 Bi AG Gc;obtain⟨g',Ey,rfl⟩:=Zay Bi;have S4:(w2.alloc (.cells #[.slice ad x.length cc] 22)).grownBy w3 v.ownBlock:=AG;have Em:∀k,v.ownBlock=some k->V.heap.size+6<=k:=λk Z=>(Q.lt k Z).1;have PZ:w3.heap[W1.heap.size]?=some (.cells #[v] 35 (0,0)):=(S4.block _ (by have:=d.size;simp;omega) (λe=>by have:=Em _ e.symm;omega)).trans (Bf L _);have am:=ch (i:=0) PZ (v:=v) rfl;have bi:=cf (i:=0) PZ;rw[F.out]at am bi)
   obtain⟨q1,q2⟩:=AQ.snoc mJ o! L Q DF Hb (by have:=ap;omega) S4 Bi;rw[F.out]at q1 q2;exact⟨q1,(Ak.later d).trans (q2.mono λk Z=>⟨by unfold Kp;omega,λh=>by have:=ju k h;omega⟩)⟩
 intro A f hD;obtain⟨v,vals,L,Q,DF⟩:=f.box;have kb:=ch (i:=0) L (v:=v) rfl;rw[F.out]at kb
 gi_wp2
 have O:Ak (λk=>k=V.heap.size) A (A.putObj V (.deferred none)):=(Ak.refl _ _).put rfl;have ac:=X.trans (f.below.mono X.size);have G:YH w w (A.putObj V (.deferred none)):=ac.trans (O.below (λk Z=>o!) ac.size);have Ox:=CO O (λb U J=>o!) Q;have gI:∀(i:Nat) (x:List Int),(LU c)[i]?=some x->∃u,vals[i]?=some u/\SI (Cb w (A.putObj V (.deferred none))) (A.putObj V (.deferred none)) u x:=λi x hx=>by
  obtain⟨u,U,J⟩:=DF i x hx;exact⟨u,U,Sl.imp (Dx O (λb g h=>by have:=g.1.1;omega) J) (λb g=>⟨by have:=g.1.1;omega,g.1.2⟩) (λ_ _ x=>x)⟩
 refine⟨i!,.inl ⟨_,_,rfl,run_takeDeferred hD,?_⟩⟩;exact⟨_,results_tmp rfl _ _ _,_,rfl,G,WM (ls:=LU c) Ox o! gI⟩
def bV {C:Zb}(h:Qb6 A B)(k:Qb6 B C):Qb6 A C:=h.trans (k.mono h.size)
def SL.imp {l:List (List Int)}(h:SL S w v l)(a:∀b,S b->T b):SL T w v l:=Sl.imp h a λ_ _ ⟨u,e,c⟩=>⟨u,e,Sl.imp c a λ_ _ x=>x⟩
def lF (c:A_)(s:List (Int×Int)):List (List Int):=(LU c).filter λl=>BZ c l s
def LR (base:Nat)(w:Zb)(v:Zf)(P:List (List Int)):Prop:=∃vals,w.ownsRow base 22 1 v P.length vals/\∀(i:Nat) (x:List Int),P[i]?=some x->∃u,vals[i]?=some u/\SI (J1 3 base w) w u x
variable {P F:List (List Int)}
def LR.sl {base:Nat}(h:LR base w v P):SL (Cb base w) w v P:=by
 obtain⟨vals,g,f⟩:=h;refine WM g (Zj _) λi x a=>?_;obtain⟨u,e,d⟩:=f i x a;exact⟨u,e,Sl.imp d (λb c=>c.1) λ_ _ x=>x⟩
def Own.typ {base:Nat}(h:Own w base v l):SI (J1 3 base w) w v l:=
 Lg (R:=Ri) d! h λi x a=>by
  rw[Nat.mul_one];obtain⟨b,e⟩:=Zm.1 a;rw[ZO (by simpa using b)];simp[Ri,e]
def Ol (a:H6 c)(hl:Tc c l)(hi:i<c.base.length): -108<=nth (Cc c l) i/\nth (Cc c l) i<=108:=by
 have e:nth (Cc c l) i=measure c l i:=by
  have:=MU (l:=l) hi;rw[Bn (by simp[Cc];exact hi)]at this;exact ZW this
 rw[e];exact Md a.valid (by have:=hl.1;omega) (λk b=>by have:=hl.2 k b;have:=(a.seam k (by have:=hl.1;omega)).step;omega) i
variable {s:List (Int×Int)}
def vA (b:s.length=n)(h:∀p∈s,0<=p.1/\p.1<=p.2/\p.2<=99):Fs n s=0:=by
 unfold Fs;rw[if_neg o!,if_neg o!];exact F5 λp a=>Tb (h p a)
def ajH (w:Zb)(b:Nat)(lv:Zf)(d n:Nat)(e:Ending)(w':Zb):Prop:=∃(a:Option Addr) (cc:Nat) (s:List (Int×Int)) (c:Nat),e=.returned (.slice a s.length cc)/\LW b lv w c w'/\c<=d+100/\SP (TT w w') w' (.slice a s.length cc) s/\Fs n s=0
def yr (w:Zb)(b:Nat)(lv:Zf)(d n:Nat)(e:Ending)(w':Zb):Prop:=∃(a:Option Addr) (cc:Nat) (s:List (Int×Int)) (c:Nat),e=.returned (.slice a s.length cc)/\LW b lv w c w'/\c<=d+100/\SP (Cb w w') w' (.slice a s.length cc) s/\Fs n s=0
def aoC (h:RC S w v1 v2 v3 v4 v5 c)(P:∀x,S x->x<w.heap.size/\x≠b)(hn:SI Sn w lv nums)(E:∀x,Sn x->x<w.heap.size/\x≠b)(F:BK w b lv d)(O:d+1000<4611686018427387904)(L:H6 c):
  Calls Lp 10 #[.pointer b,.agg #[v1,v2,v3,v4,v5]] w (ajH w b lv d c.base.length):=by
 obtain⟨a1,c1,a2,c2,a3,c3,a4,c4,a5,c5,rfl,rfl,rfl,rfl,rfl,_⟩:=h.vs;have IX:=DJ;have lm:=L.few;have n8:=L.Fp;obtain⟨W1,NL⟩:=Qnm (w.alloc (.cells (Qe6 c a1 c1 a2 c2 a3 c3 a4 c4 a5 c5) 26));have lD:W1.heap[w.heap.size]?=some (.cells (Qe6 c a1 c1 a2 c2 a3 c3 a4 c4 a5 c5) 26 (0,0)):=by rw[NL];exact Bp _ _
 have Bg:Qb6 w W1:=by rw[NL];exact bA (Zh _ _)
 have GK:=F.lt;have DR:=Bg.size;obtain⟨q,hq⟩:=Qnm w.heap.size;have M9:q<=w.heap.size/\w<=q:=o!
 rw[<-hq]at lD;have T6:=(Za.1 lD).1;obtain⟨K,Ig⟩:∃K:Nat->Prop,K=λx=>x=b:=⟨_,rfl⟩;have fh:K b:=by rw[Ig]
 have Q:¬K q:=by rw[Ig];intro x;omega
 have LP:∀x,x≠b->¬K x:=λx a=>by rw[Ig];exact a
 clear Ig;obtain⟨k0,k1,k2,k3,k4⟩:=Qc5 lD;have g0:=λp:Tw K W1=>p.cell k0 Q;have g1:=λp:Tw K W1=>p.cell k1 Q;have g2:=λp:Tw K W1=>p.cell k2 Q;have g3:=λp:Tw K W1=>p.cell k3 Q;have g4:=λp:Tw K W1=>p.cell k4 Q;clear k0 k1 k2 k3 k4;go_enter Lp.func38,n38;go_wp2;rw[<-NL, <-hq];clear NL hq;refine B0 (S:=λW=>∃p:Tw K W1,W=p.v) [] [(false,3),(false,4),(false,5)] [0,1,2] k! (λ_ _ d _ _ h=>by cases d<;>exact h) k! (A5 (Ak.later (Zh _ _).drew)) ?_;refine A4 _ _ k! ?_;simp only[Z6,zd,ZG,ZD,ZC]
 repeat (first|go_big_quiet_step (fail)|quiet_step (fail))
 refine Z4 ?_;clear g0 g1 g2 g3 g4;change Dl _ _ _ _ _ _ _;have Uh:YH W1 W1 W1.drew:=(Zh _ _).drew;have Un:=bU Bg Uh;have jt:=Uh.size;refine Dd (f:=9) rfl rfl g! ((c30 ((h.later Un)) (λx a=>⟨by have:=P x a;omega,(P x a).2⟩) (hn.later Un) (λx a=>⟨by have:=E x a;omega,(E x a).2⟩) (F.later Un) o! o! (λi hi=>by have:=(L.seam i hi).step;omega)).mono ?_);rintro e W3 ⟨v3,l,d3,rfl,H,fi,lJ,Qm,Xc,ig⟩;obtain⟨p3,t3,rfl,_⟩:=Qm.val;have Ba:Tc c l:=⟨Xc,λi hi=>⟨(ig i o!).1,(ig i o!).2 (L.seam i o!).step.2.1⟩⟩;have am:Ak K W1 W3:=(Ak.later Uh).trans (H.CN fh);refine⟨_,rfl,.inr (A5 am),?_⟩;have Rb:=H.size;have O9:=((h.later Un).Ar (H.same λx a=>(P x a).2)).imp (T:=λx=>x<W3.heap.size) λx a=>by have:=P x a;show x<_;omega
 have fJ:=Zd Ba;refine Dd (f:=35) rfl rfl g! ((c47 O9 L.valid (Sl.imp Qm (T:=λx=>x<W3.heap.size) (λx a=>a.2) λ_ _ x=>x) o! (λi hi=>by have:=fJ.out.2 i hi;have:=(L.seam i (by have:=fJ.out.1;omega)).step;omega) λx a=>a).mono ?_);rintro e g ⟨u,rfl,De,A⟩;have NN:(Cc c l).length=c.base.length:=by simp[Cc]
 have gj:=Zd (λi (hi:i<c.base.length)=>Ol L Ba hi);obtain⟨G,hG⟩:=Qnm (Cc c l);rw[<-hG]at A NN gj;clear hG;obtain⟨ga,gc,rfl,_⟩:=A.val;rw[NN]at A⊢;have fK:=Zd NN;have ka:=De.size;have fC:Ak K W1 g:=am.uJ De;refine⟨_,rfl,.inr (A5 fC),?_⟩;refine Dw (v:=.slice ga c.base.length gc) rfl rfl g! (.inr (A5 fC)) ?_;have Ks:=(fC.block q T6 Q).trans lD;have ai:B3 b w g:=((B3.refl b w).below Un).trans ((H.below De));have im:=fi.later De;have i6:=GK;have HE:=Zd (show∀W,B3 b g W->SP S W (.slice a2 c.Af.length c2) c.Af from λW z=>Sl.Ar h.Af ((ai.trans z).same λx a=>(P x a).2) λ_ _ x=>x);have i8:=Zd (show∀W,B3 b g W->SI (Cb W3 g) W (.slice ga c.base.length gc) G from λW z=>A.Ar (z.same λx a e=>by have:=a.1;omega));have tX:=hn.Ar (ai.same λx a=>(E x a).2);have rW:=Zd (λW d lo hi F O j Z=>abV (w:=g) (W:=W) (d:=d) (lo:=lo) (hi:=hi) tX (λx a=>⟨by have:=E x a;omega,(E x a).2⟩) F O j Z);have iG:=Zd (λW d n F O Z=>abW (w:=g) (W:=W) (d:=d) (n:=n) tX (λx a=>⟨by have:=E x a;omega,(E x a).2⟩) F O Z);have i9:=Zd (λW d n F O Z=>abX (w:=g) (W:=W) (d:=d) (n:=n) tX (λx a=>⟨by have:=E x a;omega,(E x a).2⟩) F O Z);have jn:=Zd (λW d s F O j Z=>abY (w:=g) (W:=W) (d:=d) (s:=s) tX (λx a=>⟨by have:=E x a;omega,(E x a).2⟩) F O j Z);unfold Dl;clear O9 am H Uh Un fi A NN ig Xc Ba Qm fC tX i6
 go_simp
 go_wp2;obtain⟨an,ap,b8,bi,be⟩:=zp Wu;go_loopg [6,7] c.base.length (λgg ov i wr=>∃(k dk:Nat) (J:Option Addr) (I:Nat) (s:List (Int×Int)),k<=c.base.length/\gg=c.base.length - k/\i=.int .i64 k/\s.length=k/\ov=.slice J k I/\dk<=d3+5*k/\B3 b g wr/\BK wr b lv dk/\Ih wr g (.slice J k I) s 73/\∀p∈s,0<=p.1/\p.1<=p.2/\p.2<=99)
 case atStart=>exact⟨0,d3,none,0,[],Zp _,rfl,rfl,rfl,rfl,Zj _,B3.refl _ _,im,zq _ _ _ _,λp hp=>by cases hp⟩
 obtain⟨k,dk,J,I,s,hk,rfl,rfl,b9,rfl,jF,z,oJ,AX,rU⟩:=hrel;have Y:=z.at_ Ks o!;have N:=Zd b9;clear b9;have jp:=z.size;by_cases Az:k<c.base.length
 .have T5:k<c.Af.length:=by have:=L.PN;omega
  have ii:k<G.length:=by have:=fK.out;omega
  obtain⟨b1,o1,ee,FD,tN⟩:=((i8.out _ z):SI _ _ _ _)|>λh=>(by rw[<-fK.out]at h;exact h.at_ ii);subst ee;obtain⟨b2,o2,ee,EC,lW,jZ⟩:=(HE.out _ z).at_ T5;subst ee;have io:=gj.out k Az;have fu:=L.Af _ (Z3 (EE T5));obtain⟨gv,ck⟩:=Qnm (nth G k);obtain⟨el,dl⟩:=Qnm ((BV c.Af k).1);obtain⟨em,ct⟩:=Qnm ((BV c.Af k).2);rw[<-ck]at tN io;rw[<-dl]at lW fu;rw[<-ct]at jZ fu;clear ck dl ct;have li:(k:Int)<(c.base.length:Int):=o!
  have kw:(k:Int)<(c.Af.length:Int):=o!
  have kq:(0:Int)<=(k:Int):=o!
  have iX:¬K b1:=LP b1 (by have:=FD.1;omega);have vB:¬K b2:=LP b2 (P b2 EC).2;have r0:=λp:Tw K wr=>p.cell (ch (i:=1) Y (v:=.slice (some ⟨b2,o2,none⟩) c.Af.length c2) rfl) Q;have r1:=λp:Tw K wr=>p.cell tN iX;have r2:=λp:Tw K wr=>p.cell lW vB;have r3:=λp:Tw K wr=>p.cell jZ vB;go_wp2;refine G7 (S:=λW=>∃p:Tw K wr,W=p.v) 18 [] [(true,10),(false,13),(false,14),(false,15),(false,16),(false,17)] [0,1,2,3,4,5,6,7,8,9,11,12] k! (λ_ _ d _ _ h=>by cases d<;>exact h) k! (A5 (Ak.later (Zh _ _).drew)) ?_;refine A4 _ _ k! ?_;simp only[Z6,zd,ZG,ZD,ZC]
  repeat (first|go_big_quiet_step (fail)|quiet_step (fail))
  refine Z4 ?_;change H2 _ _ _ _ _ _ _ _;obtain⟨V0,tY⟩:=Qnm wr.drew;have mO:Qb6 wr V0:=by rw[tY];exact(Zh _ _).drew
  rw[<-tY];clear tY;have aW:Ak K wr V0:=Ak.later mO;have fI:LW b lv g dk V0:=⟨z.below mO,oJ.later mO⟩;obtain⟨lo,mK⟩:=Qnm (gv - em);have iS: -200<=lo/\lo<=200:=o!
  have X:IntKind.i64.wrap (gv - em)=lo:=by rw[zE,mK];omega
  clear mK;refine Wz (v:=.int .i64 lo) (A5 aW) rfl rfl (λw _=>g!) ?_;clear X;refine Iy (f:=34) rfl rfl g! ((rW.out V0 dk (-3) 3 fI o! o! o!).mono ?_);rintro e V1 ⟨x1,d1,rfl,MF,Na,fq,lL⟩;have Kd:=aW.trans (Na.CN fh);refine⟨_,rfl,.inr (A5 Kd),?_⟩;have WQ:=Kd.uJ (bA (o:=.cells #[.int .i64 0,.int .i64 0,.int .i64 0,.int .i64 (-3+(x1:Int))] 3) (Zh _ _));refine EY (v:=.slice V1 4 4) (w':=V1.alloc (.cells #[.int .i64 0,.int .i64 0,.int .i64 0,.int .i64 (-3+(x1:Int))] 3)) rfl rfl g! (.inr (A5 WQ)) ?_;refine Iy (f:=36) rfl rfl g! ((jn.out V1 _ [0,0,0,-3+(x1:Int)] fq o! i! i!).mono ?_);rintro e t ⟨x2,d2,rfl,mH,Ot,M7,lK⟩;have R:=WQ.trans (Ot.CN fh);refine⟨_,rfl,.inr (A5 R),?_⟩;obtain⟨y,hy,gn⟩:∃y,y=nth [0,0,0,-3+(x1:Int)] x2/\(-3<=y/\y<=3):=⟨_,rfl,by
   have:x2=0\/x2=1\/x2=2\/x2=3:=by simp at mH;omega
   rcases this with rfl|rfl|rfl|rfl<;>simp[nth]<;>omega⟩
  rw[<-hy];clear hy;obtain⟨m,T2⟩:=Qnm (lo+y);have mw: -210<=m/\m<=210:=o!
  have lX:IntKind.i64.wrap (lo+y)=m:=by rw[zE,T2];omega
  clear T2;refine EY (v:=.int .i64 m) (w':=t) rfl rfl g! (.inr (A5 R)) ?_;refine EY (v:=.int .i64 m) (w':=t) rfl rfl g! (.inr (A5 R)) ?_;clear lX iS gn;unfold H2
  go_simp
  have Vn:YH V1 V1 (V1.alloc (.cells #[.int .i64 0,.int .i64 0,.int .i64 0,.int .i64 (-3+(x1:Int))] 3)):=bA (Zh _ _);have vC:B3 b wr t:=((((B3.refl b wr).below mO).trans Na).below Vn).trans Ot;have Cm:=D2 (Fu (D2 (Fu AX mO) Na (by omega:b<g)) Vn) Ot (by omega:b<g);have S5:=z.trans vC;have mv:=vC.size;have z0:=λp:Tw K t=>p.cell (ch (i:=1) (vC.at_ Y o!) (v:=.slice (some ⟨b2,o2,none⟩) c.Af.length c2) rfl) Q;have Ts:=vC.same (T:=λx=>x≠b) (λ_ h=>h);have z2:=λp:Tw K t=>p.cell (Ts.cell (by exact(P b2 EC).2) lW) vB;have z3:=λp:Tw K t=>p.cell (Ts.cell (by exact(P b2 EC).2) jZ) vB;clear r0 r1 r2 r3 aW Kd WQ R Na Ot fI fq AX mO Vn tN lW jZ oJ;go_wp2;refine G7 (S:=λW=>∃p:Tw K t,W=p.v) 18 [] [(true,14),(false,15),(false,16),(false,17)] [0,1,2,3,4,5,6,7,8,9,10,11,12,13] k! (λ_ _ d _ _ h=>by cases d<;>exact h) k! (A5 (Ak.later (Zh _ _).drew)) ?_;refine A4 _ _ k! ?_;simp only[Z6,zd,ZG,ZD,ZC]
  repeat (first|go_big_quiet_step (fail)|quiet_step (fail))
  refine Z4 ?_;change H2 _ _ _ _ _ _ _ _;clear z0 z2 z3;have ry:YH t t t.drew:=(Zh _ _).drew;have R:Ak K t t.drew:=Ak.later ry;have fy:=M7.below ry;obtain⟨ed,du⟩:=Qnm (em - el);have mt:0<=ed/\ed<=10:=o!
  have X:IntKind.i64.wrap (em - el)=ed:=by rw[zE,du];omega
  clear du;refine Wz (v:=.int .i64 ed) (A5 R) rfl rfl (λw _=>g!) ?_;clear X;refine Iy (f:=32) rfl rfl g! ((iG.out _ d2 ed fy o! o!).mono ?_);rintro e V3 ⟨x3,d4,rfl,U4,H,k_,lI⟩;have Ou:=R.trans (H.CN fh);refine⟨_,rfl,.inr (A5 Ou),?_⟩;obtain⟨j,ci⟩:=Qnm (m+(x3:Int));have ml:m<=j/\j<=300:=o!
  have lX:IntKind.i64.wrap (m+(x3:Int))=j:=by rw[zE,ci];omega
  clear ci;refine EY (v:=.int .i64 j) (w':=V3) rfl rfl g! (.inr (A5 Ou)) ?_;refine EY (v:=.int .i64 j) (w':=V3) rfl rfl g! (.inr (A5 Ou)) ?_;clear lX;unfold H2
  go_simp
  have fw:=((B3.refl b t).below ry).trans H;have i7:=D2 (Fu Cm ry) H (by omega:b<g);have cN:=S5.trans fw;have mj:=fw.size;clear R Ou H Cm ry fy M7;go_wp2;refine(i9.out _ d4 8 k_ o! o!).mono ?_;rintro e V4 ⟨rb,d5,rfl,Xp,ld,lG⟩;have rz:=D2 i7 Xp (by omega:b<g);have fd:=cN.trans Xp;have mh:=Xp.size;have M8:k<=3:=o!
  have rA:V4.ownsRow g 73 2 (.slice J k I) k (s.flatMap λp=> [ZL .i64 p.1,.int .i64 p.2]):=by have:=rz;unfold Ih at this;rwa[N.out]at this
  have kv:IntKind.i64.wrap (j+1)=j+1:=by rw[zE];omega
  cases rb with
  |false=>
   go_wp2_with (at_builtin;refine Yc _ rfl _ _ 23 rfl g 73 an (.agg #[.int .i64 0,.int .i64 0]) 2 16 (Cz Zdg) (Dz ap) b8 bi be rfl d! (.slice J k I) k (s.flatMap λp=> [ZL .i64 p.1,.int .i64 p.2]) rfl (Ya rA _) V4 1 1 [.int .i64 (max 0 (min m 99)),.int .i64 (max 0 (min j 99))] rfl rfl (Hc _ _ _) (by intro u A;simp at A;rcases A with rfl|rfl<;>rfl) u! o! j! ?_;intro v9 U r V ac);have Em:=J3 rz;have pY:B3 b g U:=(fd.below (bA (Zh _ _))).grown V λx a=>(Em x a).1;have D:BK U b lv d5:=(ld.alloc _).E4.of (V.block b (ld.alloc _).E4.lt (λe=>by have:=(Em b e.symm).1;omega));have C:Ih U g v9 (s++ [(max 0 (min m 99),max 0 (min j 99))]) 73:=by unfold Ih;rw[ZA,N.out,Zbe];exact r
   have B:0<=max 0 (min m 99)/\max 0 (min m 99)<=max 0 (min j 99)/\max 0 (min j 99)<=99:=o!
   obtain⟨g9,ip,rfl⟩:=Zay r;have M:=Zd (ZY pY (ZY D (ZY C B)));clear pY D C B r V ac Em;go_roundg (c.base.length - (k+1))
   case rel=>exact⟨k+1,d5,_,_,s++ [(max 0 (min m 99),max 0 (min j 99))],Az,rfl,v!,by rw[ZA,N.out];rfl,rfl,o!,M.out.1,M.out.2.1,M.out.2.2.1,λp hp=>by rcases Zab.1 hp with h|h;exact rU p h;rw[Yh.1 h];exact M.out.2.2.2⟩
   case measure=>omega
  |true=>
   go_wp2_with (at_builtin;refine Yc _ rfl _ _ 23 rfl g 73 an (.agg #[.int .i64 0,.int .i64 0]) 2 16 (Cz Zdg) (Dz ap) b8 bi be rfl d! (.slice J k I) k (s.flatMap λp=> [ZL .i64 p.1,.int .i64 p.2]) rfl (Ya rA _) V4 1 1 [.int .i64 (max 0 (min m 99)),.int .i64 (max 0 (min (j+1) 99))] rfl rfl (Hc _ _ _) (by intro u A;simp at A;rcases A with rfl|rfl<;>rfl) u! o! j! ?_;intro v9 U r V ac);have Em:=J3 rz;have pY:B3 b g U:=(fd.below (bA (Zh _ _))).grown V λx a=>(Em x a).1;have D:BK U b lv d5:=(ld.alloc _).E4.of (V.block b (ld.alloc _).E4.lt (λe=>by have:=(Em b e.symm).1;omega));have C:Ih U g v9 (s++ [(max 0 (min m 99),max 0 (min (j+1) 99))]) 73:=by unfold Ih;rw[ZA,N.out,Zbe];exact r
   have B:0<=max 0 (min m 99)/\max 0 (min m 99)<=max 0 (min (j+1) 99)/\max 0 (min (j+1) 99)<=99:=o!
   obtain⟨g9,ip,rfl⟩:=Zay r;have M:=Zd (ZY pY (ZY D (ZY C B)));clear pY D C B r V ac Em;go_roundg (c.base.length - (k+1))
   case rel=>exact⟨k+1,d5,_,_,s++ [(max 0 (min m 99),max 0 (min (j+1) 99))],Az,rfl,v!,by rw[ZA,N.out];rfl,rfl,o!,M.out.1,M.out.2.1,M.out.2.2.1,λp hp=>by rcases Zab.1 hp with h|h;exact rU p h;rw[Yh.1 h];exact M.out.2.2.2⟩
   omega
 have gt:k=c.base.length:=o!
 subst gt;have Jv:SP (TT w wr) wr (.slice J c.base.length I) s:=Sl.imp (AX.tt (.inr (.inr rfl))) (λx a=>a.mono o!) λ_ _ x=>x;have HF:=Zd (show ajH w b lv d c.base.length (.returned (.slice J c.base.length I)) wr from⟨J,I,s,dk,by rw[N.out],⟨ai.trans z,oJ⟩,o!,by rw[N.out];exact Jv,vA N.out rU⟩);clear Jv AX rU z oJ Y;go_wp2;go_ret;exact HF.out
def c38 (h:RC S w v1 v2 v3 v4 v5 c)(j:∀x,S x->x<w.heap.size/\x≠b)(g:SI Sn w lv nums)(t:∀x,Sn x->x<w.heap.size/\x≠b)(l:BK w b lv d)(i:d+1000<4611686018427387904)(k:H6 c):
  Calls Lp 10 #[.pointer b,.agg #[v1,v2,v3,v4,v5]] w (yr w b lv d c.base.length):=(aoC h j g t l i k).mono λe w' ⟨a,cc,s,r,q,p,o,n,m⟩=>⟨a,cc,s,r,q,p,o,Sl.imp n (λx f=>f.new) λ_ _ x=>x,m⟩
def adO:∀(l:List (Int×Int)) (i:Nat) (p:Int×Int),i<l.length->((l.flatMap λp=> [ZL .i64 p.1,.int .i64 p.2]).set (i*2) (.int .i64 p.1)).set (i*2+1) (.int .i64 p.2)=(l.set i p).flatMap λp=> [ZL .i64 p.1,.int .i64 p.2]
 | [],_,_,h=>h!
 |q::r,0,p,_=>rfl
 |q::r,i+1,p,h=>by
  have:=adO r i p (by simpa using h);rw[List.set_cons_succ,List.flatMap_cons,List.flatMap_cons, <-this,show(i+1)*2=i*2+1+1 by omega]
  rfl
def Ih.set {base:Nat}{l:List (Int×Int)}(h:Ih w base (.slice g n cap) l e)(hi:i<l.length)(p:Int×Int):
  Ih ((w.setCell ⟨g,i*2,none⟩ (.int .i64 p.1)).setCell ⟨g,i*2+1,none⟩ (.int .i64 p.2)) base (.slice g n cap) (l.set i p) e:=by
 obtain⟨o,m⟩:=h;rcases m with⟨a,_⟩|⟨r,s,q,a,k,j,f,d,c,b⟩
 .cases a
 cases a;refine⟨?_,.inr ⟨g,cap,_,by rw[ZcC],k,Ba (Ba j _) _,by simpa using f,d,by simpa using c,?_⟩⟩
 .rw[<-adO l i p hi]
  simpa using o
 rw[<-adO l i p hi];simp only[ZcM,ZcC,List.take_set];rw[b]
def adP {ab:Nat->Nat}{l:List Int}:∀(n k s:Nat),l.length - k=n->JR ab l k (l.drop k) s=s
 |0,k,s,h=>eD o!
 |n+1,k,s,h=>by
  rw[bz o!,if_pos rfl];exact adP n (k+1) s o!
def af8 (c:A_):DS c c.now=0:=adP _ 0 0 rfl
variable {x y lo hi:Int}
def afN {n:Int}(h:lo<=n/\n<=hi):n∈IU lo hi:=by
 unfold IU;rw[List.mem_map];exact⟨(n - lo).toNat,by rw[List.mem_range];omega,o!⟩
def af9:∀(s:List Ay) (l:List Int),l.length=s.length->(∀i,i<l.length->(Aj s i).low<=nth l i/\nth l i<=(Aj s i).high)->l∈EZ s
 | [],l,h,_=>by
  obtain rfl:l=[]:=List.length_eq_zero_iff.1 h;simp[EZ]
 |s::r,[],h,_=>h!
 |s::r,x::t,h,a=>by
  unfold EZ;rw[List.mem_flatMap];exact⟨x,afN (a 0 (Nat.succ_pos _)),List.mem_map.2 ⟨t,af9 r t (by simpa using h) λi hi=>a (i+1) (Nat.succ_lt_succ hi),rfl⟩⟩
def ajp (a:Fq c):c.now∈LU c:=by
 refine List.mem_filter.2 ⟨af9 _ _ a.uy (Fb a.now).2,?_⟩;unfold Ev;rw[af8]
 rfl
def afa (b:Fq c):LU c≠ []:=λh=>by
 have a:=ajp b;rw[h]at a;cases a
variable {H α:Type}
def take_set {N O:List α}{x:α}(c:j<N.length)(b:j<O.length)(h:N[j]?=some x):(N.take j++O.drop j).set j x=N.take (j+1)++O.drop (j+1):=by
 have a:(N.take j).length=j:=by rw[ZcV];omega
 rw[List.set_append_right _ _ o!,a,Nat.sub_self,ZO b,List.set_cons_zero,ZbH,h];simp
def acK (a b:List Int)(r:Int)(i:Nat):Int:=r+max (nth a i - nth b i) (nth b i - nth a i)
def acL (a b:List Int):Int:=(Yr a.length).foldl (acK a b) 0
def adA {f:α->Nat->α}{r:α}(h:k<n):((Yr n).drop k).foldl f r=((Yr n).drop (k+1)).foldl f (f r k):=by
 rw[ZO (by simpa using h)];simp
def aeC {f:α->Nat->α}{r:α}(h:n<=k):((Yr n).drop k).foldl f r=r:=by
 rw[Z7.2 (by simpa using h)]
 rfl
def adB {a b:List Int}(d:∀i,i<a.length->-2<=nth a i/\nth a i<=2)(c:∀i,i<a.length->-2<=nth b i/\nth b i<=2):∀(k:Nat),k<=a.length->0<=((Yr a.length).take k).foldl (acK a b) 0/\((Yr a.length).take k).foldl (acK a b) 0<=4*k
 |0,_=>⟨Int.le_refl _,Int.le_refl _⟩
 |k+1,h=>by
  obtain⟨g,f⟩:=adB d c k (Zbb h);have e:((Yr a.length).take (k+1)).foldl (acK a b) 0=acK a b (((Yr a.length).take k).foldl (acK a b) 0) k:=by
   rw[ZbH,List.foldl_append,List.getElem?_range o!]
   rfl
  rw[e];have l:=d k o!;have j:=c k o!;generalize ((Yr a.length).take k).foldl (acK a b) 0=x at g f⊢;change 0<=x+max (nth a k - nth b k) (nth b k - nth a k)/\x+max (nth a k - nth b k) (nth b k - nth a k)<=4*((k+1:Nat):Int);constructor<;>omega
def ahS {a b:List Int}(d:∀i,i<a.length->-2<=nth a i/\nth a i<=2)(c:∀i,i<a.length->-2<=nth b i/\nth b i<=2):0<=acL a b/\acL a b<=4*a.length:=by
 have:=adB d c a.length (Zj _);rw[Zb3 i!]at this;exact this
def ade (c:A_)(l:List Int):Nat×Int:=((AB (DS c l)).length,acL l c.now)
def acZ (x y:Nat×Int):Bool:=decide (x.1<y.1)||(decide (x.1=y.1)&&decide (x.2<y.2))
def aeG (c:A_)(o:Option (List Int))(l:List Int):Option (List Int):=
 match o with
 |none=>some l
 |some b=>if acZ (ade c l) (ade c b)=true then some l else some b
def acX (c:A_)(F:List (List Int)):Option (List Int):=F.foldl (aeG c) none
def ahT (c:A_)(F:List (List Int))(l:List Int):acX c (F++ [l])=aeG c (acX c F) l:=by
 unfold acX;rw[List.foldl_append]
 rfl
def afb (c:A_)(h:k<F.length):acX c (F.take (k+1))=aeG c (acX c (F.take k)) (BM F k):=by
 rw[ZbH,BJ h];exact ahT c _ _
def agk (c:A_):∀(F:List (List Int)) (o:Option (List Int)) (b:List Int),F.foldl (aeG c) o=some b->b∈F\/o=some b
 | [],o,b,h=>.inr h
 |l::r,o,b,h=>by
  rcases agk c r _ b h with a|a
  .exact .inl (zm _ a)
  unfold aeG at a;split at a
  .injection a with a
   exact .inl (a▸zC ..)
  split at a
  .injection a with a
   exact .inl (a▸zC ..)
  exact .inr a
def adQ (c:A_):∀(r:List (List Int)) (x:List Int),∃b,r.foldl (aeG c) (some x)=some b
 | [],x=>⟨x,rfl⟩
 |l::r,x=>by
  rw[List.foldl_cons];unfold aeG;dsimp only;split
  .exact adQ c r l
  exact adQ c r x
def ahU (c:A_)(h:F≠ []):∃b,acX c F=some b/\b∈F:=by
 cases F with
 |nil=>exact absurd rfl h
 |cons x r=>
  obtain⟨b,d⟩:=adQ c r x;refine⟨b,d,?_⟩;rcases agk c r (some x) b d with a|a
  .exact zm _ a
  injection a with a
  rw[a];exact zC ..
variable {p1 p2:Option Addr}
def aoF (a b:Nat)(x y:Int)(w:Zb):Calls Lp 51 #[.agg #[.slice p1 n1 k1,.int .i64 a,.int .i64 x],.agg #[.slice p2 n2 k2,.int .i64 b,.int .i64 y]] w λe w'=>e=.returned (.bool (acZ (a,x) (b,y)))/\Qb6 w w':=by
 have f:=Zd (show YH w w ((w.alloc (.cells #[.slice p1 n1 k1,.int .i64 a,.int .i64 x] 98)).alloc (.cells #[.slice p2 n2 k2,.int .i64 b,.int .i64 y] 98)) from bA (bA (Zh _ _)));have g:b<0+b+1:=o!
 by_cases d:a<b
 .have i:(a:Int)<(b:Int):=by omega
  have c:=Zd (show acZ (a,x) (b,y)=true by simp[acZ,d]);clear d g;go_enter Lp.func137,ajn;go_wp2;go_ret;exact⟨by rw[c.out];rfl,f.out⟩
 have i:¬(a:Int)<(b:Int):=o!
 by_cases h:a=b
 .subst h
  by_cases j:x<y
  .have c:=Zd (show acZ (a,x) (a,y)=true by simp[acZ,j])
   clear d g;go_enter Lp.func137,ajn;go_wp2;go_ret;exact⟨by rw[c.out];rfl,f.out⟩
  have c:=Zd (show acZ (a,x) (a,y)=false by simp[acZ,j]);clear d g;go_enter Lp.func137,ajn;go_wp2;go_ret;exact⟨by rw[c.out];rfl,f.out⟩
 have k:((a:Int)==(b:Int))=false:=j!
 have c:=Zd (show acZ (a,x) (b,y)=false by simp[acZ,d,h]);clear d h g;go_enter Lp.func137,ajn;go_wp2;go_ret;exact⟨by rw[c.out];rfl,f.out⟩
abbrev afc (lv:Zf)(m:Nat)(t:Int)(a:Bool):Array Zf:= #[.func (.func 51) #[] #[],lv,.int .i64 m,.int .i64 t,.bool a]
def aoG {a:Nat}{o:Bool}(G:w.heap[q]?=some (.cells (afc (.slice p2 n2 k2) b y o) 101 (0,0))):
  Calls Lp 52 #[.pointer q,.agg #[.slice p1 n1 k1,.int .i64 a,.int .i64 x]] w λe w'=>e=.returned (.tuple #[])/\Ak (λx=>x=q) w w'/\
   w'.heap[q]?=some (.cells (if(!o||acZ (a,x) (b,y))=true then afc (.slice p1 n1 k1) a x true else afc (.slice p2 n2 k2) b y o) 101 (0,0)):=by
 have R:=DJ;obtain⟨V,r⟩:=Qnm (w.alloc (.cells #[.slice p1 n1 k1,.int .i64 a,.int .i64 x] 98));have s:Qb6 w V:=by rw[r];exact bA (Zh _ _)
 have u:=(Za.1 G).1;have g:=(s.block _ u).trans G;have d:V.heap[w.heap.size]?=some (.cells #[.slice p1 n1 k1,.int .i64 a,.int .i64 x] 98 (0,0)):=by rw[r];exact Bp _ _
 have j:=Zd (λW=>aoF (p1:=p1) (p2:=p2) (n1:=n1) (n2:=n2) (k1:=k1) (k2:=k2) a b x y W);obtain⟨L,H⟩:=Qnm (acZ (a,x) (b,y));rw[<-H]at j⊢;clear H;go_enter Lp.func138,aon;go_wp2;rw[<-r];clear r;obtain⟨z,t⟩:=Qnm w.heap.size;rw[<-t]at d⊢;have S:=Zd t;clear t;obtain⟨F,E,D,C,B⟩:=Qz5 g;have n:=λp=>Al p (ch (i:=0) d (v:=.slice p1 n1 k1) rfl);have m:=λp=>Al p (ch (i:=1) d (v:=.int .i64 a) rfl);have l:=λp=>Al p (ch (i:=2) d (v:=.int .i64 x) rfl);cases o with
 |false=>
  go_wp2;refine Av k! k! ?_
  repeat (first|go_big_quiet_step (fail)|quiet_step (fail))
  refine Z4 ?_;rintro _ ⟨p,rfl⟩;have hB:=AE V p;obtain⟨Y,k⟩:=Qnm (calm V p);rw[<-k]at hB⊢;clear k F E D C B n m l;have c:=(hB.block _ (Za.1 g).1).trans g;have f:=(hB.block _ (Za.1 d).1).trans d;have n:=ch (i:=0) f (v:=.slice p1 n1 k1) rfl;have m:=ch (i:=1) f (v:=.int .i64 a) rfl;have l:=ch (i:=2) f (v:=.int .i64 x) rfl;have M:=ch (i:=1) c (v:=.slice p2 n2 k2) rfl;have K:=ch (i:=2) c (v:=.int .i64 b) rfl;have J:=ch (i:=3) c (v:=.int .i64 y) rfl;have I:=ch (i:=4) c (v:=.bool false) rfl;have Q:=cf (i:=1) c;have P:=cf (i:=2) c;have O:=cf (i:=3) c;have N:=cf (i:=4) c;go_wp2;refine bodyPost_end (results_none rfl _ _ _) rfl ?_;have A:Ak (λx=>x=q) w Y:=(Ak.later s).uJ hB;exact⟨rfl,(((A.set rfl).set rfl).set rfl).set rfl,Ba (i:=4) (Ba (i:=3) (Ba (i:=2) (Ba (i:=1) c (.slice p1 n1 k1)) (.int .i64 a)) (.int .i64 x)) (.bool true)⟩
 |true=>
  go_wp2;refine Av k! k! ?_
  repeat (first|go_big_quiet_step ((go_at_call 51;exact AV (j.out _)))|quiet_step ((go_at_call 51;exact AV (j.out _))))
  refine Z4 ?_;rintro _ ⟨p,rfl⟩;have hB:=AE V p;obtain⟨Y,k⟩:=Qnm (calm V p);rw[<-k]at hB⊢;clear k F E D C B n m l;have c:=(hB.block _ (Za.1 g).1).trans g;have f:=(hB.block _ (Za.1 d).1).trans d;have n:=ch (i:=0) f (v:=.slice p1 n1 k1) rfl;have m:=ch (i:=1) f (v:=.int .i64 a) rfl;have l:=ch (i:=2) f (v:=.int .i64 x) rfl;have M:=ch (i:=1) c (v:=.slice p2 n2 k2) rfl;have K:=ch (i:=2) c (v:=.int .i64 b) rfl;have J:=ch (i:=3) c (v:=.int .i64 y) rfl;have I:=ch (i:=4) c (v:=.bool true) rfl;have Q:=cf (i:=1) c;have P:=cf (i:=2) c;have O:=cf (i:=3) c;have N:=cf (i:=4) c;cases L with
  |true=>
   go_wp2;refine bodyPost_end (results_none rfl _ _ _) rfl ?_;have A:Ak (λx=>x=q) w Y:=(Ak.later s).uJ hB;exact⟨rfl,(((A.set rfl).set rfl).set rfl).set rfl,Ba (i:=4) (Ba (i:=3) (Ba (i:=2) (Ba (i:=1) c (.slice p1 n1 k1)) (.int .i64 a)) (.int .i64 x)) (.bool true)⟩
  |false=>
   go_wp2;refine bodyPost_end (results_none rfl _ _ _) rfl ?_;exact⟨rfl,(Ak.later s).uJ hB,c⟩
def aoK (c:A_)(v:Zf):Option (List Int)->Zf
 |none=>.tuple #[(),.int .i64 0,.int .i64 11]
 |some l=>.tuple #[v,.int .i64 (AB (DS c l)).length,.int .i64 0]
def ahV (S:Nat->Prop)(W:Zb)(q:Nat)(c:A_)(o:Option (List Int)):Prop:=
 ∃(p:Option Addr) (n k m:Nat) (t:Int),W.heap[q]?=some (.cells (afc (.slice p n k) m t o.isSome) 101 (0,0))/\∀l,o=some l->n=l.length/\SI S W (.slice p n k) l/\(m,t)=ade c l
def c77 (h:RC S w v1 v2 v3 v4 v5 c)(hs:SP S w v6 s)(hS:Ql6 S w)(Jz:BN c=0)(ER:Fs c.base.length s=0):
  Calls Lp 22 #[.agg #[v1,v2,v3,v4,v5],v6] w λe w'=>Qb6 w w'/\((∃v,e=.returned (aoK c v (acX c (lF c s)))/\∀l,acX c (lF c s)=some l->∃a k,v=.slice a l.length k/\SI (λx=>S x\/Cb w w' x) w' v l)\/∃x,e=.panicked x/\PX x w'):=by
 obtain⟨a1,c1,a2,c2,a3,c3,a4,c4,a5,c5,rfl,rfl,rfl,rfl,rfl,_⟩:=h.vs;obtain⟨a6,c6,rfl,_⟩:=hs.val;have IX:=DJ;have B:=EG Jz;have fi:=Zd (Ha ER);have Bg:YH w w (w.alloc (.cells (Qe6 c a1 c1 a2 c2 a3 c3 a4 c4 a5 c5) 26)):=bA (Zh _ _);have ez:=Zd (λW I=>Wt (w:=W) (h.later I) (A3 hS I) Jz);have lE:=Zd (λW (I:Qb6 w W)=>(Zcx (n:=0)).1 (aiM (w:=W) (h.later I) (A3 hS I) B));unfold AW at lE;have T8:=Zd (λW (I:Qb6 w W)=>abe (w:=W) (h.later I) (hs.later I) (A3 hS I) (Ax c.Aa 0) (Ax c.Aa 1) (Ax c.Aa 2));rw[ER]at T8;clear ER;go_enter Lp.func77,n77;go_wp2_with (first|(go_at_call 44;refine(ez.out _ Bg).mono ?_;rintro e w1 ⟨rfl,Bb⟩;have Bv:=Bg.trans (Bb.mono Bg.size))|(go_at_call 39;refine(T8.out _ (bA Bv)).mono ?_;rintro e w2 ⟨rfl,De⟩));obtain⟨ab,DU⟩:=Qnm (Ax c.Aa);have mG:=Zd DU;rw[<-DU]at lE⊢;rw[<-DU]at De;clear DU ez T8;obtain⟨V,hV⟩:=Qnm (w1.alloc (.cells #[.slice a1 c.base.length c1,.slice a2 c.Af.length c2,.slice a3 c.hooks.length c3,.slice a4 c.Aa.length c4,.slice a5 c.now.length c5,.int .u8 (ab 0),.int .u8 (ab 1),.int .u8 (ab 2)] 81));rw[<-hV]at De;have an:V.heap[w1.heap.size]?=some (.cells #[.slice a1 c.base.length c1,.slice a2 c.Af.length c2,.slice a3 c.hooks.length c3,.slice a4 c.Aa.length c4,.slice a5 c.now.length c5,.int .u8 (ab 0),.int .u8 (ab 1),.int .u8 (ab 2)] 81 (0,0)):=by rw[hV];exact Bp _ _
 have Ui:Qb6 w V:=by rw[hV];exact bA Bv
 have Ia:=(De.block _ (Za.1 an).1).trans an;have ck:=bV Ui De;clear hV;obtain⟨X,hX⟩:=Qnm (w2.alloc (.cells #[.func (.func 51) #[] #[],(),.int .i64 0,.int .i64 0,.bool false] 101));have Ov:Qb6 w2 X:=by rw[hX];exact bA (Zh _ _)
 have U:X.heap[w2.heap.size]?=some (.cells (afc () 0 0 false) 101 (0,0)):=by rw[hX];exact Bp _ _
 obtain⟨q,hq⟩:=Qnm w2.heap.size;obtain⟨g,hg⟩:=Qnm w1.heap.size;have Rk:g<w2:=by rw[hg];exact(Za.1 Ia).1
 have Dk:w<=g:=by rw[hg];exact Bv.size
 rw[<-hg]at Ia;rw[<-hq]at U Rk;have xS:q<X:=(Za.1 U).1;have t:X.heap[g]?=some (.cells #[.slice a1 c.base.length c1,.slice a2 c.Af.length c2,.slice a3 c.hooks.length c3,.slice a4 c.Aa.length c4,.slice a5 c.now.length c5,.int .u8 (ab 0),.int .u8 (ab 1),.int .u8 (ab 2)] 81 (0,0)):=(Ov.block _ o!).trans Ia;have dl:=bV ck Ov;rw[<-hX, <-hq, <-hg];clear hX hq hg;have jn:w2<=X.heap.size:=Ov.size;obtain⟨K,Ig⟩:∃K:Nat->Prop,K=λ_=>False:=⟨_,rfl⟩;have LP:∀x,¬K x:=by rw[Ig];exact λ_ x=>x
 clear Ig;have g0:=λp:Tw K X=>p.cell (ch (i:=0) t rfl) (LP _);have g1:=λp:Tw K X=>p.cell (ch (i:=1) t rfl) (LP _);have g2:=λp:Tw K X=>p.cell (ch (i:=2) t rfl) (LP _);have g3:=λp:Tw K X=>p.cell (ch (i:=3) t rfl) (LP _);have g4:=λp:Tw K X=>p.cell (ch (i:=4) t rfl) (LP _);have g5:=λp:Tw K X=>p.cell (ch (i:=5) t rfl) (LP _);have g6:=λp:Tw K X=>p.cell (ch (i:=6) t rfl) (LP _);have g7:=λp:Tw K X=>p.cell (ch (i:=7) t rfl) (LP _);go_wp2;refine B0 (S:=λW=>∃p:Tw K X,W=p.v) [] [(false,2),(false,4),(false,5)] [0,1,3,6] k! (λ_ _ d _ _ h=>by cases d<;>exact h) k! (A5 (Ak.later (Zh _ _).drew)) ?_;refine A4 _ _ k! ?_;simp only[Z6,zd,ZG,ZD,ZC]
 repeat (first|go_big_quiet_step (fail)|quiet_step (fail))
 refine Z4 ?_;clear g0 g1 g2 g3 g4 g5 g6 g7;change Dl _ _ _ _ _ _ _;have Uh:YH X X X.drew:=(Zh _ _).drew;have Un:=bV dl Uh;refine Dd (f:=46) rfl rfl g! ((lE.out _ Un).mono ?_);rintro e W3 ⟨v3,rfl,Cj,Vr⟩;obtain⟨x3,y3,rfl,_⟩:=Vr.val;have rp:=bV Un Cj;refine⟨_,rfl,.inr (A5 (Ak.later (bV Uh Cj))),?_⟩;have jt:=Uh.size;have Rb:=Cj.size;have i9:=ck.size;have hN:(LU c).length<=125:=by
  have h1:=Zac (Ev c) (EH c);have h0:=H7 c.Aa (λi hi=>by have:=B.step i hi;omega);have h2:5^c.Aa.length<=5^3:=YX d! B.few.2;exact Zr h1 (Zr h0 h2)
 have oh:∀i,i<(LU c).length->(BM (LU c) i).length=c.Aa.length/\∀j,j<(BM (LU c) i).length->-2<=nth (BM (LU c) i) j/\nth (BM (LU c) i) j<=2:=λi hi=>by
  have hm:BM (LU c) i∈EH c:=(List.mem_filter.1 (Z3 (BJ hi))).1;obtain⟨m1,m2⟩:=WV hm;refine⟨o!,λj hj=>?_⟩;have h1:=m2 j hj;have h2:=B.step j o!;omega
 have ci:=Zd (xO (S:=λb=>S b\/Cb X.drew W3 b) ((h.later rp).imp λb J=>.inl J) B (Vr.imp λb J=>.inr J) (Sl.imp (hs.later rp) (λb J=>.inl J) λ_ _ x=>x) oh (by have:=fi.out.1;omega) fi.out.2 o! (λb J=>by rcases J with J|J;have:=hS b J;omega;exact J.2) (ab 0) (ab 1) (ab 2));refine cE (f:=45) rfl rfl g! (ci.out.mono ?_);rintro e O ⟨DM,⟨v4,rfl,NK⟩|⟨x,rfl,Ss⟩⟩
 rotate_left
 .exact .inr ⟨x,rfl,rfl,bV rp DM,.inr ⟨_,rfl,Ss⟩⟩
 change SL _ _ _ (lF c s) at NK;obtain⟨fa,fc,rfl,_⟩:=Sl.val NK;have ct:=bV Cj DM;have M:=bV Uh ct;have fC:∃p:Tw K X,O=p.v:=A5 (Ak.later M);refine .inl ⟨_,rfl,.inr fC,?_⟩;refine Dw (v:=.int .i64 (lF c s).length) rfl rfl g! (.inr fC) ?_;unfold Dl
 go_simp
 have iS:=bV dl M;have iu:=(M.block _ xS).trans U;have Ks:=(M.block _ o!).trans t;have ka:=M.size;have HF:=Zd (show∀W,Ak (λx=>x=q) O W->SL (λx=>(S x\/Cb w O x)/\x<O.heap.size/\x≠q) W (.slice fa (lF c s).length fc) (lF c s) from λW hT=>SL.imp (SL.Ar NK (hT.same λx o e=>by
  rcases o with(o|o)|o
  .have:=hS x o;omega
  .have:=o.1;omega
  .have:=o.1.1;omega)) λx o=>by
  have h6:=DM.size;rcases o with(o|o)|o
  .have:=hS x o;exact⟨.inl o,o!,o!⟩
  .exact⟨.inr ⟨by have:=o.1;omega,by have:=o.2;omega⟩,by have:=o.2;omega,by have:=o.1;omega⟩
  exact⟨.inr ⟨by have:=o.1.1;omega,o.1.2⟩,o.1.2,by have:=o.1.1;omega⟩)
 have fw:=Zd (λl (H:l∈lF c s)=>show Tc c l from WV (List.mem_filter.1 (List.mem_filter.1 H).1).1);have gn:(lF c s).length<=125:=Zr (Zac _ _) hN;obtain⟨F,hF⟩:=Qnm (lF c s);rw[<-hF]at HF fw gn⊢;have fy:=Zd hF;clear hF NK oh hN Vr ci lE Uh Un Cj DM ct U t Ia an;have ii:=Zd (ZY B.uy (S0 B B.now));have io:=Zd (λW (I:Qb6 w W) (l:List Int) (u:Zf) (hu:SI (λx=>x<W.heap.size) W u l) (H:l.length<=c.now.length)=>anP (w:=W) (v6:=u) (l:=l) (ab:=ab) (S:=λx=>x<W.heap.size) ((h.later I).imp λx o=>Zl (hS x o) I.size) hu H (by have:=B.uy;have:=B.few.2;omega) (by rw[mG.out];exact S3 B.over) λx o=>o);have i6:=Zd (λl=>show Cx ab c.now l=DS c l by rw[mG.out];rfl);have i7:=Zd (λl (H:Tc c l)=>show DS c l<8 from U8 (S3 B.over) l 0 0 (by have:=H.1;have:=B.few.2;omega) d!);go_wp2;go_loopg [38] F.length (λgg i wx=>∃k:Nat,k<=F.length/\gg=F.length - k/\i=.int .i64 k/\ahV (λx=>(S x\/Cb w O x)/\x<O.heap.size/\x≠q) wx q c (acX c (F.take k))/\Ak (λx=>x=q) O wx)
 case atStart=>exact⟨0,Zp _,rfl,rfl,⟨none,0,0,0,0,iu,λl H=>by cases H⟩,Ak.refl _ _⟩
 obtain⟨k,hk,rfl,rfl,⟨E,iX,D,be,lm,C,du⟩,L⟩:=hrel;have ap:=Zd du;clear du;have ac:=iS.trans (L.below (λx o=>by subst o;omega) o!);have am:=(L.block _ o! o!).trans Ks;have jp:=L.size;by_cases Az:k<F.length
 .have HL:=Zd (fw.out _ (Z3 (BJ Az)))
  have fu:=Zd (afb c Az);obtain⟨b6,o6,u,ee,Xj,lH,hu⟩:=(HF.out _ L).at_ Az;subst ee;obtain⟨l,H⟩:=Qnm (BM F k);rw[<-H]at hu HL fu;clear H;obtain⟨ua,uc,rfl,_⟩:=hu.val;have TB:(k:Int)<(F.length:Int):=o!
  have Qm:l.length<=3:=by have:=HL.out.1;have:=B.few.2;omega
  have UO:l.length<=c.now.length:=by have:=HL.out.1;have:=B.uy;omega
  have HA:=Zd (λi (hi:i<l.length)=>show -2<=nth l i/\nth l i<=2 by have:=HL.out.2 i hi;have:=B.step i (by have:=HL.out.1;omega);omega);have HB:=Zd (λi (hi:i<l.length)=>ii.out.2 i o!);have N:=Zd (show ade c l=((AB (DS c l)).length,acL l c.now) from rfl);have hE:=Zd (show acL l c.now=((Yr l.length).drop 0).foldl (acK l c.now) 0 from rfl);have fK:=ahS HA.out HB.out;obtain⟨R,hR⟩:=Qnm (acL l c.now);rw[<-hR]at hE N fK;clear hR;have ip:=(h.later ac).now;have n4:=ch (i:=4) am (v:=.slice a5 c.now.length c5) rfl;obtain⟨Z,hZ⟩:=Qnm wr;subst hZ;go_wp2;go_loopg [14,44] l.length (λgg sv i wy=>∃(j m:Nat) (G:Int),j<=l.length/\gg=l.length - j/\i=.int .i64 j/\sv=.int .i64 G/\0<=G/\G<=4*j/\((Yr l.length).drop j).foldl (acK l c.now) G=R/\wy=Z.drewN m)
  case atStart=>exact⟨0,0,0,Zp _,rfl,rfl,rfl,Int.le_refl _,Int.le_refl _,hE.out.symm,rfl⟩
  obtain⟨j,m,G,hj,rfl,rfl,rfl,MM,LO,CP,rfl⟩:=hrel;have hf:=Zd CP;clear CP;by_cases Q:j<l.length
  .obtain⟨b1,o1,ee,FD,x1⟩:=hu.at_ Q
   subst ee;obtain⟨b2,o2,ee,EC,x2⟩:=ip.at_ (show j<c.now.length by omega);subst ee;have mH:=HA.out j Q;have fI:=HB.out j Q;have hd:=Zd (adA (f:=acK l c.now) (r:=G) Q);have ai:=Zd (show acK l c.now G j=G+max (nth l j - nth c.now j) (nth c.now j - nth l j) from rfl);obtain⟨x,o⟩:=Qnm (nth l j);obtain⟨y,hy⟩:=Qnm (nth c.now j);rw[<-o]at x1 mH ai;rw[<-hy]at x2 fI ai;clear o hy;have TB:(j:Int)<(l.length:Int):=o!
   have kw:(j:Int)<(c.now.length:Int):=o!
   have lX:IntKind.i64.wrap (x - y)=x - y:=by rw[zE];omega
   have nj:IntKind.i64.wrap (y - x)=y - x:=by rw[zE];omega
   have kv:IntKind.i64.wrap (G+max (x - y) (y - x))=G+max (x - y) (y - x):=by rw[zE];omega
   go_wp2;go_quiet (fail);go_wp2;go_roundg (l.length - (j+1))
   case rel=>exact⟨j+1,m+nq,G+max (x - y) (y - x),o!,rfl,v!,rfl,o!,o!,by rw[<-hf.out,hd.out,ai.out],i!⟩
   omega
  have HR:=Zd (show G=R by rw[<-hf.out,aeC o!]);obtain rfl:=HR.out;have D5:YH Z Z (Z.drewN m):=Y5 (Zh _ _) m;obtain⟨Y,hY⟩:=Qnm (Z.drewN m);rw[<-hY]at D5⊢;clear hY;have im:=bV ac D5;have z:=(D5.block _ (Za.1 am).1).trans am;have b9:=(D5.block _ (Za.1 C).1).trans C;have fD:=(Za.1 b9).1;have fd:=i6.out l;have HT:=i7.out l HL.out;have y0:=ch (i:=0) z rfl;have y1:=ch (i:=1) z rfl;have y2:=ch (i:=2) z rfl;have y3:=ch (i:=3) z rfl;have y4:=ch (i:=4) z rfl;have y5:=ch (i:=5) z rfl;have y6:=ch (i:=6) z rfl;have y7:=ch (i:=7) z rfl;have HC:=Zd (io.out Y im l (.slice ua l.length uc) (Sl.imp (hu.later D5) (λx o=>by have:=o.2.1;have:=D5.size;show x<Y;omega) λ_ _ x=>x) UO);rw[fd]at HC;obtain⟨li,bi⟩:=Qnm (DS c l);rw[<-bi]at HC HT N;clear bi fd;have i8:=Zd HT;go_wp2_with (first|(go_at_call 53;refine HC.out.mono ?_;rintro e W7 ⟨rfl,NU⟩;have gj:=(NU.block _ fD).trans b9)|(go_at_call 50;refine(anS _ i8.out _).mono ?_;rintro e W8 ⟨rfl,rfl⟩)|(go_at_call 52;refine(aoG gj).mono ?_;rintro e W9 ⟨rfl,b8,A⟩));have fC:Ak (λx=>x=q) O W9:=((L.uJ D5).uJ NU).trans b8;have mN:Ak (λx=>x=q) Z W9:=(Ak.later (bV D5 NU)).trans b8;have gt:ahV (λx=>(S x\/Cb w O x)/\x<O.heap.size/\x≠q) W9 q c (acX c (F.take (k+1))):=by
   rw[fu.out];cases P:acX c (F.take k) with
   |none=>
    rw[P]at A;exact⟨ua,l.length,uc,_,_,A,λl' Ka=>by cases Ka;exact⟨rfl,Sl.Ar hu (mN.same λx o e=>o.2.2 e) λ_ _ x=>x,N.out.symm⟩⟩
   |some b=>
    rw[P]at A;obtain⟨e1,e2,e3⟩:=ap.out b P;unfold aeG;dsimp only;rw[e3, <-N.out]at A;by_cases h:acZ (ade c l) (ade c b)=true
    .rw[if_pos h]
     rw[h]at A;exact⟨ua,l.length,uc,_,_,A,λl' Ka=>by cases Ka;exact⟨rfl,Sl.Ar hu (mN.same λx o e=>o.2.2 e) λ_ _ x=>x,N.out.symm⟩⟩
    rw[if_neg h];rw[Bool.eq_false_iff.2 h]at A;exact⟨E,iX,D,_,_,A,λl' Ka=>by cases Ka;exact⟨e1,Sl.Ar e2 (mN.same λx o e=>o.2.2 e) λ_ _ x=>x,e3⟩⟩
  go_roundg (F.length - (k+1))
  case rel=>exact⟨k+1,Az,rfl,v!,gt,fC⟩
  omega
 have fJ:k=F.length:=o!
 subst fJ;rw[ZcU]at C ap;have x4:=ch (i:=4) C (v:=.bool (acX c F).isSome) rfl;cases P:acX c F with
 |none=>
  rw[P]at x4;dsimp only[Option.isSome]at x4;go_wp2;refine ZN (results_tmp3 rfl _ _ _) rfl ?_;rw[<-fy.out,P];exact⟨ac,.inl ⟨.slice none 0 0,rfl,λl H=>by cases H⟩⟩
 |some l=>
  rw[P]at x4 C;dsimp only[Option.isSome]at x4;obtain⟨rfl,e2,e3⟩:=ap.out l P;have x1:=ch (i:=1) C (v:=.slice E l.length D) rfl;have x2:=ch (i:=2) C (v:=.int .i64 be) rfl;go_wp2;go_quiet (fail);go_wp2;refine ZN (results_tmp3 rfl _ _ _) rfl ?_;rw[<-fy.out,P];refine⟨Y5 ac _,.inl ⟨.slice E l.length D,?_,λl' Ka=>?_⟩⟩
  .show Zbx (.tuple #[.slice E l.length D,.int .i64 be,.int .i64 0])=.returned (.tuple #[.slice E l.length D,.int .i64 (AB (DS c l)).length,.int .i64 0])
   rw[show be=(AB (DS c l)).length from congrArg Prod.fst e3]
  cases Ka;refine⟨E,D,rfl,Sl.imp (Sl.Ar e2 ((Ak.later (T:=λx=>x=q) (Y5 (Zh _ _) _)).same λx o e=>o.2.2 e) λ_ _ x=>x) (λx o=>?_) λ_ _ x=>x⟩;rcases o.1 with o|o
  .exact .inl o
  exact .inr ⟨o.1,Zl o.2 (by have:=(Y5 (Zh wr wr) nq).size;omega)⟩
inductive HT
 |leaf
 |one (i:Nat) (r:HT)
 |free (i:Nat) (r:HT)
 |fork (i:Nat) (x:HT) (j:Nat) (y:HT)
def HT.len:HT->Nat
 | .leaf=>0
 | .one _ r=>r.len+1
 | .free _ r=>r.len+1
 | .fork _ x _ _=>x.len+1
section
variable {P:Zo}{ops:Array Oper}{Q:Exit->Act->Zb->Prop}{md:YO}{S:Zb->Prop}{T:Nat->Zb->Prop}
def acs (P:Zo)(b:Array Oper)(Q:Exit->Act->Zb->Prop)(S:Zb->Prop)(T:Nat->Zb->Prop):HT->Act->Zb->Prop
 | .leaf,a,w=>Q .normal a w
 | .one i r,a,w=>wpOp P b Q i (λa' w'=>T i w'/\acs P b Q S T r a' w') a w
 | .free i r,a,w=>S w/\∃o v,b[i]?=some o/\ZbF P b S o v a/\acs P b Q S T r (a.put o.dst v) w
 | .fork i x j y,a,w=>wpOp P b Q i (λa' w'=>T i w'/\acs P b Q S T x a' w') a w/\wpOp P b Q j (λa' w'=>T j w'/\acs P b Q S T y a' w') a w
def htB (b:YO)(a:Array Oper)(n:Nat)(lates:List Nat):HT->Array Bool->Bool
 | .leaf,listed=>(zs b a listed).isEmpty
 | .one i r,listed=>decide (zs b a listed=[i])&&htB b a n lates r (listed.setIfInBounds i true)
 | .free i r,listed=>(zs b a listed).contains i&&Za3 b a listed i&&pQ b a n lates i&&htB b a n lates r (listed.setIfInBounds i true)
 | .fork i x j y,listed=>decide (zs b a listed=[i,j])&&decide (x.len=y.len)&&htB b a n lates x (listed.setIfInBounds i true)&&htB b a n lates y (listed.setIfInBounds j true)
def ad5 {n:Nat}{lates:List Nat}(q:YF ops=true)(l:∀c a d v w,Q (.panic c) (Zck a d v) w->Q (.panic c) a w):
  ∀(t:HT) (listed:Array Bool) (a:Act) (w:Zb),Dn md ops listed->htB md ops n lates t listed=true->acs P ops Q S (FG lates S) t a w->Cy P md ops Q (FG lates S) t.len listed a w
 | .leaf,_,_,_,_,b,h=>⟨by simpa[htB]using b,h⟩
 | .one i r,listed,a,w,e,b,h=>by
  simp only[htB,ZF,decide_eq_true_eq]at b;refine⟨λm=>(by rw[b.1]at m;cases m),λj u=>?_⟩;have s:=u;rw[b.1]at u;have:j=i:=by simpa using u
  subst this;exact Zcc (λp w' x=>⟨x.1,ad5 q l r _ p w' (e.step s) b.2 x.2⟩) h
 | .free i r,listed,a,w,e,b,h=>by
  simp only[htB,ZF]at b;obtain⟨F,o,v,E,D,h⟩:=h;have A:i∈zs md ops listed:=by simpa using b.1.1.1
  exact Me (S:=S) (n:=n) (f:=r.len) E q (λc a w x=>l c a o.dst v w x) (λw x=>.inr x) (iw b.1.2) listed a w e b.1.1.2 A D F (ad5 q l r _ _ w (e.step A) b.2 h)
 | .fork i x j y,listed,a,w,e,b,h=>by
  simp only[htB,ZF,decide_eq_true_eq]at b;obtain⟨⟨⟨B,I⟩,H⟩,G⟩:=b;refine⟨λm=>(by rw[B]at m;cases m),λk g=>?_⟩;have C:=g;rw[B]at g;rcases List.mem_cons.1 g with rfl|g
  .exact Zcc (λp w' z=>⟨z.1,ad5 q l x _ p w' (e.step C) H z.2⟩) h.1
  have:k=j:=by simpa using g
  subst this;exact Zcc (λp w' z=>⟨z.1,by have:=ad5 q l y _ p w' (e.step C) G z.2;rwa[<-I]at this⟩) h.2
variable {a:Act}
def aci {id:Nat}{l:List Oper}(n:Nat)(lates:List Nat)(t:HT)(ls:List Nat)(i:P.follows .mixedOrders=true)(g:∀c a d v w,Q (.panic c) (Zck a d v) w->Q (.panic c) a w)
 (b:(YF l.toArray&&decide (t.len+ls.length=l.toArray.size)&&lsB .any l.toArray n lates (htB .any l.toArray n lates t) ls (Yu l.toArray.size false))=true) (j:S w.drew)
 (h:MQ P l.toArray S (λa'=>acs P l.toArray Q S (FG lates S) t a' w.drew) ls a):(zU id l.toArray true).wp P Q a w:=by
 simp only[ZF,decide_eq_true_eq]at b;refine Zd5 i (JV (T:=FG lates S) _ _ _ _ ?_);have e:Dn .any l.toArray (Yu l.toArray.size false):=λk ok _ f=>by
  rw[show(Yu l.toArray.size false).getD k false=false by unfold Array.getD;split<;>simp]at f;cases f
 have:=Vd b.1.1 g j (λlisted a m p o=>ad5 b.1.1 g t listed a w.drew m p o) ls _ a e b.2 h;rw[b.1.2]at this;exact this
variable {r:HT}
variable {o:Oper}
def adC (b:ops[i]?=some o)(c:o.guard=none)(h:o.wp P a w (λa' w'=>T i w'/\acs P ops Q S T r a' w') Q):acs P ops Q S T (.one i r) a w:=by
 unfold acs wpOp;simp only[b];rw[if_pos (by simp[Yf,c])];exact .inl h
def acj (c:ops[i]?=some o)(d:o.guard=none)(b:(Zby a.eval o).run P w=.ok (.value v) w')(e:T i w')
 (h:acs P ops Q S T r (a.put o.dst v) w'):acs P ops Q S T (.one i r) a w:=by
 refine adC c d ?_;unfold ZbA;rw[b,Zdi];exact⟨e,h⟩
variable {f:ZaQ}
variable {args cs:Array Zf}
def acv (c:ops[i]?=some o)(d:o.guard=none)(b:(Zby a.eval o).run P w=.ok (.enter f args) w)
 (g:Calls P f args w λe w'=>(∃v,e=.returned v/\T i w'/\acs P ops Q S T r (a.put o.dst v) w')\/∃x,e=.panicked x/\Q (.panic x) a w'):acs P ops Q S T (.one i r) a w:=by
 refine adC c d ?_;unfold ZbA;rw[b,Zdj];refine g.mono λe w' h=>?_;rcases h with⟨v,rfl,h⟩|⟨x,rfl,h⟩
 .exact h
 exact h
def ai3 (c:ops[i]?=some o)(d:o.guard=none)(b:(Zby a.eval o).run P w=.ok .skip w')(e:T i w')
 (h:acs P ops Q S T r (a.put o.dst Ze) w'):acs P ops Q S T (.one i r) a w:=by
 refine adC c d ?_;unfold ZbA;rw[b,ZcQ];exact⟨e,h⟩
def ad7 (e:S w)(c:ops[i]?=some o)(d:o.guard=none)(b:∀w,S w->(Zby a.eval o).run P w=.ok (.value v) w)
 (h:acs P ops Q S T r (a.put o.dst v) w):acs P ops Q S T (.free i r) a w:=
 ⟨e,o,v,c,.inl ⟨by simp[Yf,d],b⟩,h⟩
def adI {x y:HT}(c:acs P ops Q S T (.one i x) a w)(b:acs P ops Q S T (.one j y) a w):acs P ops Q S T (.fork i x j y) a w:=⟨c,b⟩
end
def al6 (h:RC S w v1 v2 v3 v4 v5 c)(hl:SI T w v6 l)(hS:Ql6 S w)(hT:∀b,T b->b<w.heap.size)(hn:l.length<=3)(UO:l.length<=c.now.length)
 (d:∀i,i<l.length->-2<=nth l i/\nth l i<=2) (A:∀i,i<l.length->-2<=nth c.now i/\nth c.now i<=2):Calls Lp 55 #[.agg #[v1,v2,v3,v4,v5],v6] w λe w'=>e=.returned (.int .i64 (acL l c.now))/\Qb6 w w':=by
 obtain⟨L,H,K,c2,J,G,I,F,u,t,rfl,rfl,rfl,rfl,rfl,l1,m1,l2,m2,l3,m3,l4,m4,l5,m5⟩:=h.vs;obtain⟨a6,c6,rfl,l6,m6⟩:=hl.val;have IX:maxLen=9223372036854775807:=rfl;obtain⟨X,j⟩:=Qnm (w.alloc (.cells (Qe6 c L H K c2 J G I F u t) 26));have z:Qb6 w X:=by rw[j];exact bA (Zh _ _)
 have g:X.heap[w.heap.size]?=some (.cells (Qe6 c L H K c2 J G I F u t) 26 (0,0)):=by rw[j];exact Bp _ _
 have M:=Zd (show acL l c.now=((Yr l.length).drop 0).foldl (acK l c.now) 0 from rfl);obtain⟨R,E⟩:=Qnm (acL l c.now);rw[<-E]at M⊢;clear E;have HA:=Zd d;have HB:=Zd A;have q:=hl.later z;have p:=(h.later z).now;have x4:=ch (i:=4) g (v:=.slice u c.now.length t) rfl;clear d A g;go_enter Lp.func140,aop;go_wp2;rw[<-j];clear j;go_loopg [5,6] l.length (λZ Q i wr=>∃(k n:Nat) (s:Int),k<=l.length/\Z=l.length - k/\i=.int .i64 k/\Q=.int .i64 s/\0<=s/\s<=4*k/\((Yr l.length).drop k).foldl (acK l c.now) s=R/\wr=X.drewN n)
 case atStart=>exact⟨0,0,0,Zp _,rfl,rfl,rfl,Int.le_refl _,Int.le_refl _,M.out.symm,rfl⟩
 obtain⟨k,n,s,hk,rfl,rfl,rfl,MM,LO,N,rfl⟩:=hrel;have D:=Zd N;clear N;by_cases m:k<l.length
 .obtain⟨b1,o1,rfl,FD,P⟩:=q.at_ m
  obtain⟨b2,o2,rfl,A,O⟩:=p.at_ (show k<c.now.length by omega);have U:=HA.out k m;have o:=HB.out k m;have Y:=Zd (adA (f:=acK l c.now) (r:=s) m);have a:=Zd (show acK l c.now s k=s+max (nth l k - nth c.now k) (nth c.now k - nth l k) from rfl);obtain⟨x,C⟩:=Qnm (nth l k);obtain⟨y,B⟩:=Qnm (nth c.now k);rw[<-C]at P U a;rw[<-B]at O o a;clear C B;have TB:(k:Int)<(l.length:Int):=o!
  have W:(k:Int)<(c.now.length:Int):=o!
  have lX:IntKind.i64.wrap (x - y)=x - y:=by rw[zE];omega
  have nj:IntKind.i64.wrap (y - x)=y - x:=by rw[zE];omega
  have V:IntKind.i64.wrap (s+max (x - y) (y - x))=s+max (x - y) (y - x):=by rw[zE];omega
  go_wp2;go_quiet (fail);go_wp2;go_roundg (l.length - (k+1))
  case rel=>exact⟨k+1,n+nq,s+max (x - y) (y - x),o!,rfl,v!,rfl,o!,o!,by rw[<-D.out,Y.out,a.out],i!⟩
  omega
 have HR:=Zd (show s=R by rw[<-D.out,aeC o!]);go_wp2;go_ret;exact⟨by rw[HR.out];rfl,Y5 z n⟩
def rB (ab:Nat->Nat):Nat->List Bool->Nat->Nat
 |_,[],s=>s
 |i,b::r,s=>rB ab (i+1) r (if b=true then s|||Iv (ab i) i else s)
def vD (o:List (List Int))(D:List Bool)(l:List Int):Bool:=((Yr o.length).all λi=> !(D.getD i false)||l.contains (i:Int))&&l.all λx=>(o.getD x.toNat []).all λy=>l.contains y
def aj3 (n m i:Nat):List (List Int):=(fH m n).drop i++((Yr (n+1)).drop (m+1)).flatMap λk=>fH k n
def WX (o:List (List Int))(D:List Bool):Bool:=(aj3 o.length 0 0).find? (vD o D)==some (AB (rB (ri o) 0 D 0))
def P3:List Bool:=[true,false]
def Hd (b:Bool):b∈P3:=by cases b<;>simp[P3]
def acN:∀a∈Lj,∀d∈P3,WX [a.filter (· <1)] [d]=true:=by decide+kernel
def acO:∀a∈Lj,∀b∈Lj,∀d∈P3,∀e∈P3,WX [a.filter (· <2),b.filter (· <2)] [d,e]=true:=by decide+kernel
def acP:∀a∈Lj,∀b∈Lj,∀c∈Lj,∀d∈P3,∀e∈P3,∀f∈P3,WX [a,b,c] [d,e,f]=true:=by decide+kernel
def least {o:List (List Int)}{D:List Bool}(j:1<=o.length)(k:o.length<=3)(n:D.length=o.length)(i:∀l∈o,l.Pairwise (· < ·))(g:∀l∈o,∀x∈l,0<=x/\x<o.length):WX o D=true:=by
 match o,D,j,k,n,i,g with
 | [a],[d],_,_,_,i,g=>
  have j:=g a i!;have:=acN a (EM (i a i!) λx h=>by have:=j x h;simp at this;omega) d (Hd d);rwa[filter_lt (λx h=>by have:=j x h;simpa using this)]at this
 | [a,b],[d,e],_,_,_,i,g=>
  have j:=g a i!;have m:=g b i!;have:=acO a (EM (i a i!) λx h=>by have:=j x h;simp at this;omega) b (EM (i b i!) λx h=>by have:=m x h;simp at this;omega) d (Hd d) e (Hd e);rwa[filter_lt (λx h=>by have:=j x h;simpa using this),filter_lt (λx h=>by have:=m x h;simpa using this)]at this
 | [a,b,c],[d,e,f],_,_,_,i,g=>
  exact acP a (EM (i a i!) λx h=>by have:=g a i! x h;simpa using this) b (EM (i b i!) λx h=>by have:=g b i! x h;simpa using this)
   c (EM (i c i!) λx h=>by have:=g c i! x h;simpa using this) d (Hd d) e (Hd e) f (Hd f)
 |_::_::_::_::_,_,_,k,_,_,_=>simp at k
def ad1 (c:A_)(p:List Int):List (List Int):=(EZ (c.Aa.drop p.length)).map (p++ ·)
def ado (c:A_):ad1 c []=EH c:=by simp[ad1,EH]
def ai5 {p:List Int}(h:p.length=c.Aa.length):ad1 c p=[p]:=by
 unfold ad1;rw[Z7.2 o!];simp[EZ]
def ahb {p:List Int}(h:p.length<c.Aa.length):ad1 c p=(IU (Aj c.Aa p.length).low (Aj c.Aa p.length).high).flatMap λn=>ad1 c (p++ [n]):=by
 have a:c.Aa.drop p.length=Aj c.Aa p.length::c.Aa.drop (p.length+1):=by
  rw[ZO h]
  congr 1
  have:=Db h;rw[zf h]at this;exact ZW this
 unfold ad1;rw[a];show((IU _ _).flatMap λn=>(EZ (c.Aa.drop (p.length+1))).map (n:: ·)).map (p++ ·)=_;rw[List.map_flatMap]
 congr 1
 funext n
 rw[List.map_map,ZA];simp[ZdQ]
def afT (h:q<(hi+1 - lo).toNat):(IU lo hi).take (q+1)=(IU lo hi).take q++ [lo+(q:Int)]:=by
 unfold IU;rw[ZbH,YL,List.getElem?_range h]
 rfl
def afX (h:(hi+1 - lo).toNat<=q):(IU lo hi).take q=IU lo hi:=Zb3 (by rw[eY];exact h)
def adf (a:Fq c)(p:List Int):(ad1 c p).length<=125:=by
 unfold ad1;rw[List.length_map];have d:=H7 (c.Aa.drop p.length) (λi hi=>by
  rw[List.length_drop]at hi;have:=a.step (p.length+i) o!;have e:Aj (c.Aa.drop p.length) i=Aj c.Aa (p.length+i):=by simp[Aj]
  rw[e];omega)
 have b:5^(c.Aa.drop p.length).length<=5^3:=YX d! (by rw[List.length_drop];have:=a.few;omega);exact Zr d b
def LR2 (rb base:Nat)(w:Zb)(v:Zf)(P:List (List Int)):Prop:=∃vals,w.ownsRow rb 22 1 v P.length vals/\∀(i:Nat) (x:List Int),P[i]?=some x->∃u,vals[i]?=some u/\SI (J1 3 base w) w u x
def LR2.nil (rb base:Nat)(w:Zb):LR2 rb base w () []:=⟨[],zq _ _ _ _,λi x h=>h!⟩
def LR2.later {base:Nat}(h:LR2 rb base A v P)(a:Qb6 A B):LR2 rb base B v P:=by
 obtain⟨vals,e,d⟩:=h;refine⟨vals,Tn a e,λi x hi=>?_⟩;obtain⟨u,c,b⟩:=d i x hi;exact⟨u,c,Dx (T:=λ_=>False) (Ak.later a) (λ_ _ x=>x) b⟩
def LR2.aaA {base:Nat}(h:LR2 rb base w v P)(c:base<=rb):LR base w v P:=by
 obtain⟨vals,b,i⟩:=h;exact⟨vals,⟨b.1,b.2.imp id λ⟨g,cap,a,e,f,d⟩=>⟨g,cap,a,e,Zr c f,d⟩⟩,i⟩
def LR2.mono {a base:Nat}(h:LR2 rb base w v P)(d:a<=rb):LR2 a base w v P:=by
 obtain⟨vals,c,j⟩:=h;exact⟨vals,⟨c.1,c.2.imp id λ⟨g,cap,b,e,i,f⟩=>⟨g,cap,b,e,Zr d i,f⟩⟩,j⟩
def LR2.val {base:Nat}(h:LR2 rb base w v P):∃a c,v=.slice a P.length c/\P.length<=c/\c<=maxLen:=by
 obtain⟨vals,i,k⟩:=h;rcases i.2 with⟨e,b⟩|⟨g,cap,j,e,_,_,f,d,_⟩
 .exact⟨none,0,by rw[e,b],o!,Zp _⟩
 exact⟨_,cap,e,f,d⟩
def LR2.lt {rb base:Nat}{w:Zb}{v:Zf}{P:List (List Int)}(h:LR2 rb base w v P):∀k,v.ownBlock=some k->rb<=k:=by
 obtain⟨vals,b,_⟩:=h;exact λk a=>(b.lt k a).1
def LR2.app {base:Nat}{Q:List (List Int)}(l:A.ownsRow rb 22 1 v P.length vals)(w:∀(i:Nat) (x:List Int),P[i]?=some x->∃u,vals[i]?=some u/\SI (J1 3 base A) A u x)
 (s:∀(i:Nat) (x:List Int),Q[i]?=some x->∃u,news[i]?=some u/\SI (J1 3 base A) A u x) (r:A.grownBy w1 v.ownBlock) (B:w1.ownsRow rb 22 1 v' (P.length+Q.length) (vals++news)):LR2 rb base w1 v' (P++Q):=by
 have t:Ak (λk=>v.ownBlock=some k) A w1:=Ak.grown r λk n=>n;have a:∀u y,SI (J1 3 base A) A u y->SI (J1 3 base w1) w1 u y:=λu y h=>by
  refine Dx t (λb p h=>?_) h;obtain⟨C,c⟩:=p.2;rcases l.2 with⟨e,_⟩|⟨g,cap,q,e,_,o,_⟩
  .rw[e]at h;cases h
  rw[e]at h;cases h;rw[o]at c;cases c
 have m:vals.length=P.length:=by have:=l.1;omega
 refine⟨vals++news,by rw[ZA];exact B,λi y d=>?_⟩;by_cases z:i<P.length
 .rw[zl z]at d
  obtain⟨u,f,j⟩:=w i y d;exact⟨u,by rw[zl o!];exact f,a _ _ j⟩
 rw[Zbr o!]at d;obtain⟨u,f,j⟩:=s _ y d;exact⟨u,by rw[Zbr o!,m];exact f,a _ _ j⟩
def Vu (l:List Int):Ke l l=true:=by simp[Ke]
def B3.aj4 (h:Qb6 w A)(c:B3 b A B)(d:w<=b):Qb6 w B:=h.trans ((c.CN (K:=λx=>x=b) rfl).below (λx a=>by have:x=b:=a;omega) h.size)
def adF (n lo hi:Int)(w:Zb):Calls Lp 76 #[.int .i64 n,.int .i64 lo,.int .i64 hi] w λe w'=>e=.returned (.bool (!AD n lo hi))/\w'=w:=by
 go_enter Lp.func135,aom;go_wp2
 all_goals go_ret
 all_goals refine⟨?_,rfl⟩
 all_goals simp_all[AD]
 have c:¬n<lo:=o!
 by_cases b:n<=hi
 .have a:¬hi<n:=by omega
  simp[b,c,a]
 have a:hi<n:=o!
 simp[b,a]
def ajY (n a:Int)(w:Zb):Calls Lp 87 #[.int .i64 n,.int .i64 a] w λe w'=>e=.returned (.int .i64 (Di n a))/\w'=w:=by
 go_enter Lp.func107,ao5;go_wp2
 all_goals go_ret
 all_goals simp_all[Di]
 all_goals omega
variable {p:Int×Int}
def aeH (h:AD p.1 lo hi=true):CV p lo hi=1:=if_pos (.inl h)
def aeI (h:AD p.2 lo hi=true):CV p lo hi=1:=if_pos (.inr h)
def aeJ (b:AD p.1 lo hi=false)(a:AD p.2 lo hi=false)(h:p.2<p.1):CV p lo hi=5:=by
 unfold CV;rw[if_neg (by rw[b,a];simp),if_pos h]
def adJ (b:AD p.1 lo hi=false)(a:AD p.2 lo hi=false)(h:¬p.2<p.1):CV p lo hi=0:=by
 unfold CV;rw[if_neg (by rw[b,a];simp),if_neg h]
def aoN (h:RC S w v1 v2 v3 v4 v5 c)(E:Ql6 S w):Calls Lp 86 #[.agg #[v1,v2,v3,v4,v5]] w λe w'=>e=.returned (.int .i64 (Dq c))/\Qb6 w w':=by
 obtain⟨N,I,M,c2,L,H,K,G,J,F,rfl,rfl,rfl,rfl,rfl,l1,m1,l2,m2,l3,m3,l4,m4,l5,m5⟩:=h.vs;have IX:=DJ;go_enter Lp.func116,ao9;have z:YH w w (w.alloc (.cells (Qe6 c N I M c2 L H K G J F) 26)):=(Zh _ _).alloc (Zj _) _;have X:=Bp w (.cells (Qe6 c N I M c2 L H K G J F) 26);go_wp2_with (go_at_call 87;refine(ajY _ _ _).mono ?_;rintro e w' ⟨rfl,rfl⟩)
 .have D:(Di c.base.length 3 !=0)=true:=by assumption
  go_ret;exact⟨Bw (by rw[Dq,K4 (Gr D)]),z⟩
 rename (Di _ _ !=0)=false=>D
 have l:=Zd D;clear D;go_loopg [4] c.base.length (λg i wr=>∃k:Nat,k<=c.base.length/\g=c.base.length - k/\i=.int .i64 k/\Bc (Fo 1 60) (c.base.drop k)=Bc (Fo 1 60) c.base/\wr=(w.alloc (.cells (Qe6 c N I M c2 L H K G J F) 26)))
 case atStart=>exact⟨0,Zp _,rfl,rfl,rfl,rfl⟩
 obtain⟨k,U,rfl,rfl,m,rfl⟩:=hrel;have a:=Zd m;clear m;by_cases n:k<c.base.length
 .obtain⟨b,o,rfl,u,R⟩:=h.base.at_ n
  have Z:=z.cell (p:=⟨b,o+k,none⟩) (E b u);rw[R]at Z;have d:=Zd (E_ (f:=Fo 1 60) (Bn n));go_wp2_with (go_at_call 76;refine(adF _ _ _ _).mono ?_;rintro e w' ⟨rfl,rfl⟩)
  .have r:AD (nth c.base k) 1 60=true:=by assumption
   go_ret;have T:Bc (Fo 1 60) c.base=1:=by rw[<-a.out,d.out,Ws r];rfl
   exact⟨Bw (by rw[Dq,BR (FE l.out),T];rfl),z⟩
  have r:AD (nth c.base k) 1 60=false:=a!
  go_roundg (c.base.length - (k+1))
  case rel=>exact⟨k+1,o!,rfl,v!,by rw[<-a.out,d.out,SK r];rfl,rfl⟩
  omega
 have s:=Zd (show Bc (Fo 1 60) c.base=0 by rw[<-a.out];exact FZ o!);clear a;go_wp2
 .have C:((c.Af.length:Int) !=c.base.length)=true:=by assumption
  go_ret;exact⟨Bw (by rw[Dq,BR (FE l.out),BR s.out,if_pos (xp C)]),z⟩
 rename (_ !=_)=false=>C
 have y:=Zd C;clear C;go_loopg [5] c.Af.length (λg i wr=>∃k:Nat,k<=c.Af.length/\g=c.Af.length - k/\i=.int .i64 k/\Bc (λp=>CV p (-9) 9) (c.Af.drop k)=Bc (λp=>CV p (-9) 9) c.Af/\Qb6 w wr/\wr.heap[w.heap.size]?=some (.cells (Qe6 c N I M c2 L H K G J F) 26 (0,0)))
 case atStart=>exact⟨0,Zp _,rfl,rfl,rfl,z,X⟩
 obtain⟨k,U,rfl,rfl,m,j,O⟩:=hrel;have a:=Zd m;clear m;have k0:=ch (i:=0) O rfl;have k1:=ch (i:=1) O rfl;have k2:=ch (i:=2) O rfl;by_cases n:k<c.Af.length
 .obtain⟨b,o,rfl,u,Q,W⟩:=h.Af.at_ n
  rw[<-j.cell (p:=⟨b,o+k*2,none⟩) (E b u)]at Q;rw[<-j.cell (p:=⟨b,o+k*2+1,none⟩) (E b u)]at W;have d:=Zd (E_ (f:=λp=>CV p (-9) 9) (EE n));go_wp2_with (go_at_call 76;refine(adF _ _ _ _).mono ?_;rintro e w' ⟨rfl,rfl⟩)
  .have t:AD (BV c.Af k).1 (-9) 9=true:=by assumption
   go_ret;have A:Bc (λp=>CV p (-9) 9) c.Af=1:=by rw[<-a.out,d.out,aeH t];rfl
   exact⟨Bw (by rw[Dq,BR (FE l.out),BR s.out,if_neg (λx=>x (U2 y.out)),A];rfl),j⟩
  .have t:AD (BV c.Af k).2 (-9) 9=true:=by assumption
   go_ret;have A:Bc (λp=>CV p (-9) 9) c.Af=1:=by rw[<-a.out,d.out,aeI t];rfl
   exact⟨Bw (by rw[Dq,BR (FE l.out),BR s.out,if_neg (λx=>x (U2 y.out)),A];rfl),j⟩
  rename AD (BV c.Af k).2 _ _=false=>q
  rename¬AD (BV c.Af k).1 _ _=true=>t
  have v:=Zd (Bool.eq_false_iff.2 t);have B:=Zd q;clear t q;go_quiet (fail)
  all_goals go_wp2
  .have P:(BV c.Af k).2<(BV c.Af k).1:=by assumption
   go_ret;have A:Bc (λp=>CV p (-9) 9) c.Af=5:=by rw[<-a.out,d.out,aeJ v.out B.out P];rfl
   exact⟨Bw (by rw[Dq,BR (FE l.out),BR s.out,if_neg (λx=>x (U2 y.out)),A];rfl),Y5 j _⟩
  have P:¬(BV c.Af k).2<(BV c.Af k).1:=o!
  go_roundg (c.Af.length - (k+1))
  case rel=>exact⟨k+1,o!,rfl,v!,by rw[<-a.out,d.out,adJ v.out B.out P];rfl,Y5 j _,by simpa using O⟩
  omega
 have v:=Zd (show Bc (λp=>CV p (-9) 9) c.Af=0 by rw[<-a.out];exact FZ o!);clear a;go_wp2
 .have q:((c.hooks.length:Int) !=c.base.length)=true:=by assumption
  go_ret;exact⟨Bw (by rw[Dq,BR (FE l.out),BR s.out,if_neg (λx=>x (U2 y.out)),BR v.out,if_pos (xp q)]),j⟩
 rename (_ !=_)=false=>q
 have B:=Zd q;clear q;go_loopg [6] c.hooks.length (λg i V=>∃k:Nat,k<=c.hooks.length/\g=c.hooks.length - k/\i=.int .i64 k/\Bc (Fo 0 5) (c.hooks.drop k)=Bc (Fo 0 5) c.hooks/\V=wr)
 case atStart=>exact⟨0,Zp _,rfl,rfl,rfl,rfl⟩
 obtain⟨k,U,rfl,rfl,m,rfl⟩:=hrel;have a:=Zd m;clear m;by_cases n:k<c.hooks.length
 .obtain⟨b,o,rfl,u,R⟩:=h.hooks.at_ n
  rw[<-j.cell (p:=⟨b,o+k,none⟩) (E b u)]at R;have d:=Zd (E_ (f:=Fo 0 5) (Bn n));go_wp2_with (go_at_call 76;refine(adF _ _ _ _).mono ?_;rintro e w' ⟨rfl,rfl⟩)
  .have r:AD (nth c.hooks k) 0 5=true:=by assumption
   go_ret;have T:Bc (Fo 0 5) c.hooks=1:=by rw[<-a.out,d.out,Ws r];rfl
   exact⟨Bw (by rw[Dq,BR (FE l.out),BR s.out,if_neg (λx=>x (U2 y.out)),BR v.out,if_neg (λx=>x (U2 B.out)),T]),j⟩
  have r:AD (nth c.hooks k) 0 5=false:=a!
  go_roundg (c.hooks.length - (k+1))
  case rel=>exact⟨k+1,o!,rfl,v!,by rw[<-a.out,d.out,SK r];rfl,rfl⟩
  omega
 have Y:=Zd (show Bc (Fo 0 5) c.hooks=0 by rw[<-a.out];exact FZ o!);clear a;go_wp2;go_ret;exact⟨Bw (by rw[Dq,BR (FE l.out),BR s.out,if_neg (λx=>x (U2 y.out)),BR v.out,if_neg (λx=>x (U2 B.out)),Y.out]),j⟩
def adn (g:Nat)(l:List (Int×Int)):Int:=PM (Di l.length 2) (CY (Fa g l) 0 l)
def aoU {a:List (Int×Int)}(hp:SP S w v a)(R:g<=maxLen)(A:Ql6 S w):Calls Lp 120 #[.int .i64 g,v] w λe w'=>e=.returned (.int .i64 (adn g a))/\Qb6 w w':=by
 obtain⟨U,T,rfl,P,O⟩:=hp.val;have W:=DJ;have E:=Zd (show adn g a=PM (Di a.length 2) (CY (Fa g a) 0 a) from rfl);go_enter Lp.func160,aoq;go_wp2_with (go_at_call 87;refine(ajY _ _ _).mono ?_;rintro e w' ⟨rfl,u⟩;have u:=u.symm;subst u)
 .have s:(Di a.length 2 !=0)=true:=by assumption
  go_ret;exact⟨Bw (by rw[E.out,K4 (Gr s)]),Zh _ _⟩
 rename (Di _ _ !=0)=false=>s
 have q:=Zd (show adn g a=CY (Fa g a) 0 a by rw[E.out,BR (FE s)]);have V:=Zd s;clear s E;go_loopg [6] a.length (λM i wr=>∃k:Nat,k<=a.length/\M=a.length - k/\i=.int .i64 k/\CY (Fa g a) k (a.drop k)=CY (Fa g a) 0 a/\Qb6 w wr)
 case atStart=>exact⟨0,Zp _,rfl,rfl,rfl,Zh _ _⟩
 obtain⟨k,Q,rfl,rfl,J,d⟩:=hrel;have l:=Zd J;clear J;by_cases K:k<a.length
 .obtain⟨o,y,rfl,B,D,C⟩:=hp.at_ K
  obtain⟨N,L,e,_,I,_⟩:=hp.at_ (i:=0) o!;cases e;rw[<-d.cell (p:=⟨o,y+k*2,none⟩) (A o B)]at D;rw[<-d.cell (p:=⟨o,y+k*2+1,none⟩) (A o B)]at C;rw[<-d.cell (p:=⟨o,y+0*2,none⟩) (A o B)]at I;have m:=Zd (K5 (f:=Fa g a) (EE K));obtain⟨x,z⟩:=Qnm (BV a k);rw[<-z]at D C m;have X:=Zd z;clear z;obtain⟨b,c⟩:=x;dsimp only at D C;rw[Nat.zero_mul,Nat.add_zero]at I;go_wp2_with (go_at_call 76;refine(adF _ _ _ _).mono ?_;rintro e w' ⟨rfl,rfl⟩)
  .have h:AD b 0 ((g:Int) - 1)=true:=by assumption
   have j:Fa g a k (b,c)=3:=by unfold Fa;rw[if_pos h]
   go_ret;exact⟨Bw (by rw[q.out, <-l.out,m.out,j];rfl),d⟩
  .have h:AD b 0 ((g:Int) - 1)=false:=by assumption
   have n:AD c (-4) 4=true:=a!
   have j:Fa g a k (b,c)=1:=by unfold Fa;rw[if_neg (by rw[h];decide),if_pos (.inr n)]
   go_ret;exact⟨Bw (by rw[q.out, <-l.out,m.out,j];rfl),d⟩
  .have h:AD b 0 ((g:Int) - 1)=false:=by assumption
   have n:(c==0)=true:=a!
   have j:Fa g a k (b,c)=1:=by unfold Fa;rw[if_neg (by rw[h];decide),if_pos (.inl (by simpa using n))]
   go_ret;exact⟨Bw (by rw[q.out, <-l.out,m.out,j];rfl),d⟩
  rename AD b 0 _=false=>h
  rename¬AD c _ _=true=>n
  rename (c==0)=false=>G
  have j:Fa g a k (b,c)=if 0<k/\b=(BV a 0).1 then 4 else 0:=by unfold Fa;rw[if_neg (by rw[h];decide),if_neg (λx=>x.elim (by simpa using G) n)]
  have F:=Zd j;clear j h n G;by_cases H:0<k
  .go_quiet (fail)
   go_wp2
   .have r:((BV a 0).1==b)=true:=by assumption
    go_ret;have t:Fa g a k (b,c)=4:=by rw[F.out,if_pos ⟨H,by simp at r;exact r.symm⟩]
    exact⟨Bw (by rw[q.out, <-l.out,m.out,t];rfl),Y5 d _⟩
   have r:((BV a 0).1==b)=false:=a!
   have t:Fa g a k (b,c)=0:=by rw[F.out,if_neg (λx=>by simp at r;exact r x.2.symm)]
   go_roundg (a.length - (k+1))
   case rel=>exact⟨k+1,o!,rfl,v!,by rw[<-l.out,m.out,t];rfl,Y5 d _⟩
   omega
  go_quiet (fail);go_wp2;have t:Fa g a k (b,c)=0:=by rw[F.out,if_neg (λx=>H x.1)]
  go_roundg (a.length - (k+1))
  case rel=>exact⟨k+1,o!,rfl,v!,by rw[<-l.out,m.out,t];rfl,Y5 d _⟩
  omega
 go_wp2;go_ret;exact⟨Bw (by rw[q.out, <-l.out];exact(MN o!).symm),d⟩
def ahf (a b c:Int):PM (PM a b) c=PM a (PM b c):=by
 unfold PM;by_cases h:a=0
 .rw[if_pos h,if_pos h]
 rw[if_neg h,if_neg h,if_neg h]
def aoV (h:RC S w v1 v2 v3 v4 v5 c)(hn:n<c.Aa.length)(K:Ql6 S w):Calls Lp 88 #[.agg #[v1,v2,v3,v4,v5],.int .i64 n] w λe w'=>e=.returned (.int .i64 (EF c n))/\Qb6 w w':=by
 obtain⟨a1,c1,a2,c2,a3,c3,a4,c4,a5,c5,rfl,rfl,rfl,rfl,rfl,l1,m1,l2,m2,l3,m3,l4,m4,l5,m5⟩:=h.vs;have IX:=DJ;obtain⟨b,o,s2,s3,rfl,hb,ER,MM,LO,Z,V,P,J⟩:=h.Aa.at_ hn;obtain⟨a6,c6,rfl,l6,m6⟩:=P.val;obtain⟨a7,c7,rfl,l7,m7⟩:=J.val;have ig:=K b hb;obtain⟨s,O⟩:=Qnm (Aj c.Aa n);have D:EF c n=PM (CV (s.low,s.high) (-2) 2) (PM (adn c.base.length s.Ap) (PM (CY (Ed c.Aa.length n s.over) 0 s.over) (Fo 0 4 s.left))):=by rw[EF,O,adn,ahf]
 have C:=Zd D;rw[<-O]at ER MM LO Z V P J l6 l7;clear O D;obtain⟨a,j,BW,d,G⟩:=s;dsimp only at*;have Bg:YH w w (w.alloc (.cells (Qe6 c a1 c1 a2 c2 a3 c3 (some ⟨b,o,none⟩) c4 a5 c5) 26)):=bA (Zh _ _);have F:=Zd (λW (t:Qb6 w W)=>aoU (w:=W) (g:=c.base.length) (P.later t) o! (A3 K t));go_enter Lp.func117,aoa;go_wp2_with (first|(go_at_call 76;refine(adF _ _ _ _).mono ?_;rintro e w' ⟨rfl,rfl⟩)|(go_at_call 120;refine(F.out _ (bA (bA (Zh _ _)))).mono ?_;rintro e w' ⟨rfl,Bv⟩;obtain⟨De,m,Q⟩:=kp Bv;have f0:=m 0 (.slice a1 c.base.length c1) rfl;have f3:=m 3 (.slice (some ⟨b,o,none⟩) c.Aa.length c4) rfl;have g3:=Q 3 (.slice a7 d.length c7) rfl;have Y:=Q 4 (.int .i64 G) rfl;clear m Q))
 .have r:AD a (-2) 2=true:=by assumption
  go_ret;exact⟨Bw (by rw[C.out,aeH (p:=(a,j)) r];rfl),bA (bA (Zh _ _))⟩
 .have r:AD j (-2) 2=true:=by assumption
  go_ret;exact⟨Bw (by rw[C.out,aeI (p:=(a,j)) r];rfl),bA (bA (Zh _ _))⟩
 .have r:¬AD a (-2) 2=true:=by assumption
  have A:AD j (-2) 2=false:=a!
  have l:j<a:=a!
  go_ret;exact⟨Bw (by rw[C.out,aeJ (p:=(a,j)) (Bool.eq_false_iff.2 r) A l];rfl),bA (bA (Zh _ _))⟩
 .have r:¬AD a (-2) 2=true:=by assumption
  have A:AD j (-2) 2=false:=a!
  have l:a<=j:=a!
  have q:(adn c.base.length BW !=0)=true:=a!
  go_ret;exact⟨Bw (by rw[C.out,adJ (p:=(a,j)) (Bool.eq_false_iff.2 r) A (by show¬j<a;omega),BR rfl,K4 (Gr q)]),De⟩
 rename¬AD a (-2) 2=true=>r
 rename AD j (-2) 2=false=>A
 rename a<=j=>l
 rename (adn _ _ !=0)=false=>q
 have I:=Zd (show EF c n=PM (CY (Ed c.Aa.length n d) 0 d) (Fo 0 4 G) by rw[C.out,adJ (p:=(a,j)) (Bool.eq_false_iff.2 r) A (by show¬j<a;omega),BR rfl,BR (FE q)]);clear r A l C ER MM LO Z V F;have Q4:=Zd q;clear q;have D':=ZH w' _ Y;have Sb:w+1<w'.heap.size:=D';clear D';go_loopg [7] d.length (λg i wr=>∃k:Nat,k<=d.length/\g=d.length - k/\i=.int .i64 k/\CY (Ed c.Aa.length n d) k (d.drop k)=CY (Ed c.Aa.length n d) 0 d/\Qb6 w wr/\Qb6 w' wr)
 case atStart=>exact⟨0,Zp _,rfl,rfl,rfl,De,Zh _ _⟩
 obtain⟨k,hk,rfl,rfl,CP,u,t⟩:=hrel;have m:=Zd CP;clear CP;rw[<-t.cell (p:=w) j!]at f0;rw[<-t.cell (p:=⟨w,3,none⟩) j!]at f3;rw[<-t.cell (p:=⟨w+1,3,none⟩) j!]at g3;rw[<-t.cell (p:=⟨w+1,4,none⟩) j!]at Y;by_cases Az:k<d.length
 .obtain⟨E,L,rfl,U3,L6⟩:=J.at_ Az
  rw[<-u.cell (p:=⟨E,L+k,none⟩) (K E U3)]at L6;have R:0<k->wr.cell? ⟨E,L+(k - 1),none⟩=some (.int .i64 (nth d (k - 1))):=λh0=>by
   obtain⟨ai,ac,e,_,X⟩:=J.at_ (i:=k - 1) o!;cases e;rw[<-u.cell (p:=⟨E,L+(k - 1),none⟩) (K E U3)]at X;exact X
  have B:=Zd (K5 (f:=Ed c.Aa.length n d) (Bn Az));obtain⟨x,N⟩:=Qnm (nth d k);rw[<-N]at L6 B;have HX:=Zd N;have T:=Zd R;clear N R;cases l:AD x 0 ((c.Aa.length:Int) - 1) with
  |true=>
   go_wp2;go_quiet (first|(go_at_call 76;refine Zb5 (adF _ _ _ _)));go_wp2;go_ret;have v:Ed c.Aa.length n d k x=3:=by unfold Ed;rw[if_pos (.inl l)]
   exact⟨Bw (by rw[I.out, <-m.out,B.out,v];rfl),Y5 u _⟩
  |false=>
   go_wp2;go_quiet (first|(go_at_call 76;refine Zb5 (adF _ _ _ _)));go_wp2
   .have q:(x==(n:Int))=true:=by assumption
    go_ret;have v:Ed c.Aa.length n d k x=3:=by unfold Ed;rw[if_pos (.inr (by simpa using q))]
    exact⟨Bw (by rw[I.out, <-m.out,B.out,v];rfl),Y5 u _⟩
   rename (x==(n:Int))=false=>q
   have z:=Zd (show¬(AD x 0 ((c.Aa.length:Int) - 1)=true\/x=n) from λy=>y.elim (by rw[l];decide) (by simpa using q));clear l q;by_cases M:0<k
   .have R:=T.out M
    go_quiet (fail);go_wp2
    .have U:x<=nth d (k - 1):=by assumption
     have v:Ed c.Aa.length n d k x=5:=by unfold Ed;rw[if_neg z.out,if_pos ⟨M,U⟩]
     go_ret;exact⟨Bw (by rw[I.out, <-m.out,B.out,v];rfl),Y5 (Y5 u _) _⟩
    have U:nth d (k - 1)<x:=a!
    have v:Ed c.Aa.length n d k x=0:=by unfold Ed;rw[if_neg z.out,if_neg (λy=>by have:=y.2;omega)]
    go_roundg (d.length - (k+1))
    case rel=>exact⟨k+1,o!,rfl,v!,by rw[<-m.out,B.out,v];rfl,Y5 u _,Y5 t _⟩
    omega
   go_quiet (fail);go_wp2;have v:Ed c.Aa.length n d k x=0:=by unfold Ed;rw[if_neg z.out,if_neg (λy=>M y.1)]
   go_roundg (d.length - (k+1))
   case rel=>exact⟨k+1,o!,rfl,v!,by rw[<-m.out,B.out,v];rfl,Y5 u _,Y5 t _⟩
   omega
 have H:=Zd (show EF c n=Fo 0 4 G by rw[I.out,BR (by rw[<-m.out];exact MN o!)]);clear m;go_wp2_with (go_at_call 76;refine(adF _ _ _ _).mono ?_;rintro e w' ⟨rfl,rfl⟩)
 .have l:AD G 0 4=true:=by assumption
  go_ret;exact⟨Bw (by rw[H.out,Ws l]),u⟩
 have l:AD G 0 4=false:=a!
 go_ret;exact⟨Bw (by rw[H.out,SK l]),u⟩
def c93 (h:RC S w v1 v2 v3 v4 v5 c)(hl:SI S w v6 l)(r:Ql6 S w):Calls Lp 75 #[.agg #[v1,v2,v3,v4,v5],v6] w λe w'=>e=.returned (.int .i64 (Ct c l))/\Qb6 w w':=by
 obtain⟨P,L,O,c2,N,K,z,y,M,J,rfl,rfl,rfl,rfl,rfl,l1,m1,l2,m2,l3,m3,l4,m4,l5,Z⟩:=h.vs;obtain⟨a6,c6,rfl,l6,Y⟩:=hl.val;have IX:=DJ;have s:YH w w (w.alloc (.cells (Qe6 c P L O c2 N K z y M J) 26)):=(Zh _ _).alloc (Zj _) _;by_cases t:l.length<c.Aa.length
 .go_enter Lp.func93,n93
  go_wp2;go_ret;exact⟨Bw (by rw[Ct,if_pos t]),s⟩
 by_cases A:c.Aa.length<l.length
 .go_enter Lp.func93,n93
  go_wp2;go_ret;exact⟨Bw (by rw[Ct,if_neg t,if_pos A]),s⟩
 have a:l.length=c.Aa.length:=o!
 have x:Ct c l=Bc (λp:Int×Ay=>Fo p.2.low p.2.high p.1) (l.zip c.Aa):=by rw[Ct,if_neg t,if_neg A]
 have j:(l.zip c.Aa).length=l.length:=by simp[a]
 have B:=Zd x;have U:=Zd j;have V:=Zd a;clear x j a;go_enter Lp.func93,n93;go_wp2;go_loopg [5] l.length (λg i wr=>∃k:Nat,k<=l.length/\g=l.length - k/\i=.int .i64 k/\Bc (λp:Int×Ay=>Fo p.2.low p.2.high p.1) ((l.zip c.Aa).drop k)=Bc (λp:Int×Ay=>Fo p.2.low p.2.high p.1) (l.zip c.Aa)/\Qb6 w wr/\wr.cell? ⟨w,3,none⟩=some (.slice z c.Aa.length y))
 case atStart=>exact⟨0,Zp _,rfl,rfl,rfl,s,i!⟩
 obtain⟨k,hk,rfl,rfl,E,d,G⟩:=hrel;have m:=Zd E;clear E;by_cases F:k<l.length
 .have C:k<c.Aa.length:=by have:=V.out;omega
  obtain⟨b,o,rfl,I,H⟩:=hl.at_ F;obtain⟨n,u,X,W,rfl,D,R,T,_⟩:=h.Aa.at_ C;rw[<-d.cell (p:=⟨b,o+k,none⟩) (r b I)]at H;rw[<-d.cell (p:=⟨n,u+k*5,none⟩) (r n D)]at R;rw[<-d.cell (p:=⟨n,u+k*5+1,none⟩) (r n D)]at T;have v:=Zd (E_ (f:=λp:Int×Ay=>Fo p.2.low p.2.high p.1) (Ra F C));go_wp2;go_quiet (first|(go_at_call 76;refine Zb5 (adF _ _ _ _)))
  all_goals go_wp2
  .have q:AD (nth l k) (Aj c.Aa k).low (Aj c.Aa k).high=true:=by assumption
   go_ret;exact⟨Bw (by rw[B.out, <-m.out,v.out,Ws q];rfl),Y5 d _⟩
  have q:AD (nth l k) (Aj c.Aa k).low (Aj c.Aa k).high=false:=a!
  go_roundg (l.length - (k+1))
  case rel=>exact⟨k+1,o!,rfl,v!,by rw[<-m.out,v.out,SK q];rfl,Y5 d _,by simpa using G⟩
  omega
 have Q:=Zd (show Ct c l=0 by rw[B.out, <-m.out];exact FZ (by have:=U.out;omega));clear m;go_wp2;go_ret;exact⟨Bw Q.out.symm,d⟩
def al8:(Tryz.prog.info? 4).map (λi=>(i.zero,i.size,i.bytes))=some (some (.bool false),1,1):=k!
def adg (st:List Bool):Array Zf:=(st.map Value.bool).toArray
def afe (n:Nat)(e:n<=1000)(w:Zb):(Zdp 159 (.int .i64 n) (.int .i64 n)).run Lp w=.ok (.slice w n n) (w.alloc (.cells (adg (List.replicate n false)) 4)):=by
 obtain⟨a,hi,b,d,c⟩:=zp al8;have h:=run_make (P:=Lp) w 159 4 a (.bool false) (Cz Tryz.underlying159) (Dz hi) b .i64 .i64 n n o! (Int.le_refl _) (by rw[c];omega) o!;rw[h,d];simp only[Int.toNat_natCast]
 congr 3
 unfold adg;apply Array.ext
 .simp[madeCells]
 intro i g f;simp[madeCells,Value.cells,Nat.mod_one]
def ai7 (st:List Bool)(k:Nat):(adg st).setIfInBounds k (.bool true)=adg (st.set k true):=by
 unfold adg;simp
variable {st:List Bool}
def ad2 (h:k<st.length):(adg st)[k]?=some (.bool (st.getD k false)):=by
 unfold adg;simp[Y6,h]
def ag8 (h:k<l.length):aiJ (l.drop k) st=aiJ (l.drop (k+1)) (st.set (nth l k).toNat true):=by
 unfold aiJ;rw[ZO h,List.foldl_cons]
 congr 2
 simp[nth,h]
def ag9 {o:List (List Int)}(h:i<o.length):yn n i (o.drop i) st=yn n (i+1) (o.drop (i+1)) (if i=n\/st.getD i false=true then aiJ (o.getD i []) st else st):=by
 rw[ZO h];show yn n (i+1) (o.drop (i+1)) (if i=n\/st.getD i false=true then aiJ o[i] st else st)=_;rw[show o.getD i []=o[i] by simp[Y6,h]]
structure AbW (w:Zb)(x:Array Zf)(n:Nat)(st:List Bool)(wr:Zb):Prop where
 below:Qb6 w wr
 box:wr.heap[w.heap.size]?=some (.cells x 26 (0,0))
 row:wr.heap[w.heap.size+1]?=some (.cells (adg st) 4 (0,0))
 len:st.length=n
def AbW.set {wr:Zb}{x:Array Zf}(h:AbW w x n st wr)(k:Nat):AbW w x n (st.set k true) (wr.setCell ⟨w+1,k,none⟩ (.bool true)):=
 ⟨bS h.below o!,(AZ o! _).trans h.box,by rw[Ba h.row _,ai7],by rw[ZcC];exact h.len⟩
def ala (h:RC S w v1 v2 v3 v4 v5 c)(Jw:JO c.Aa)(Q:Ql6 S w):
  Calls Lp 89 #[.agg #[v1,v2,v3,v4,v5],.int .i64 n] w λe w'=>e=.returned (.slice (w+1:Nat) c.Aa.length c.Aa.length)/\Qb6 w w'/\w'.heap[w.heap.size+1]?=some (.cells (adg (ad6 c.Aa n)) 4 (0,0))/\(ad6 c.Aa n).length=c.Aa.length:=by
 obtain⟨L,H,K,c2,J,G,R,F,I,E,rfl,rfl,rfl,rfl,rfl,l1,m1,l2,m2,l3,m3,l4,m4,l5,m5⟩:=h.vs;have IX:=DJ;have Jm:=Jw.few;have ai:=λW=>afe c.Aa.length o! W;have m:(acf c.Aa).length=c.Aa.length:=by simp[acf]
 have A:iV n (acf c.Aa) c.Aa.length (List.replicate c.Aa.length false)=ad6 c.Aa n:=by unfold ad6 aiK;rw[m]
 have HF:=Zd A;have HO:=Zd m;clear A m;go_enter Lp.func118,aod;go_wp2;go_loopg [6] c.Aa.length (λg i wr=>∃(r:Nat) (st:List Bool),r<=c.Aa.length/\g=c.Aa.length - r/\i=.int .i64 r/\iV n (acf c.Aa) (c.Aa.length - r) st=ad6 c.Aa n/\AbW w #[.slice L c.base.length H,.slice K c.Af.length c2,.slice J c.hooks.length G,.slice R c.Aa.length F,.slice I c.now.length E] c.Aa.length st wr)
 case atStart=>exact⟨0,_,Zp _,rfl,rfl,HF.out,⟨bA (bA (Zh _ _)),Bf (Bp _ _) _,by have:=Bp (w.alloc (.cells (Qe6 c L H K c2 J G R F I E) 26)) (.cells (adg (List.replicate c.Aa.length false)) 4);rwa[ZB]at this,i!⟩⟩
 obtain⟨r,st,hr,rfl,rfl,z,v⟩:=hrel;have B_:=Zd z;clear z;have X:=ch (i:=3) v.box rfl;by_cases Az:r<c.Aa.length
 .go_wp2
  go_loopg [7] c.Aa.length (λg i wx=>∃(j:Nat) (a:List Bool),j<=c.Aa.length/\g=c.Aa.length - j/\i=.int .i64 j/\yn n j ((acf c.Aa).drop j) a=yn n 0 (acf c.Aa) st/\AbW w #[.slice L c.base.length H,.slice K c.Af.length c2,.slice J c.hooks.length G,.slice R c.Aa.length F,.slice I c.now.length E] c.Aa.length a wx)
  case atStart=>exact⟨0,st,Zp _,rfl,rfl,rfl,v⟩
  obtain⟨j,a,hj,rfl,rfl,B,s⟩:=hrel;have U:=Zd B;clear B;have X:=ch (i:=3) s.box rfl;by_cases N:j<c.Aa.length
  .have t:=ch s.row (ad2 (k:=j) (by have:=s.len;omega))
   have lY:(acf c.Aa).getD j []=(Aj c.Aa j).over:=by simp[acf,Aj,Y6,N]
   have Y:=Zd (ag9 (n:=n) (i:=j) (o:=acf c.Aa) (st:=a) (by have:=HO.out;omega));rcases(show j=n\/(¬j=n/\a.getD j false=true)\/¬j=n/\a.getD j false=false by
    by_cases e:j=n
    .exact .inl e
    cases e2:a.getD j false
    .exact .inr (.inr ⟨e,rfl⟩)
    exact .inr (.inl ⟨e,rfl⟩)) with hj1|⟨hj1,xK⟩|⟨hj1,xK⟩
   rotate_left 2
   .have BL:¬(j:Int)=n:=by omega
    rw[xK]at t;go_wp2;go_roundg (c.Aa.length - (j+1))
    case rel=>exact⟨j+1,a,o!,rfl,v!,by rw[<-U.out,Y.out,if_neg (λx=>x.elim hj1 (by rw[xK];decide))],s⟩
    omega
   case' inl=>
    subst hj1;go_wp2;have HC:=Zd (show j=j\/a.getD j false=true from .inl rfl)
   case' inr.inl=>
    have BL:¬(j:Int)=n:=o!
    have HC:=Zd (show j=n\/a.getD j false=true from .inr xK);rw[xK]at t;clear hj1 xK;go_wp2;clear BL
   all_goals
    obtain⟨b,o,v2,v3,ea,Z,_,_,_,T,_,_,P⟩:=h.Aa.at_ N;subst ea;obtain⟨a7,c7,rfl,l7,m7⟩:=P.val;obtain⟨d,C⟩:=Qnm ((Aj c.Aa j).over);have rU:∀k,k<d.length->0<=nth d k/\nth d k<c.Aa.length:=by rw[C];exact Jw.over j N
    have HV:=Zd C;rw[<-C]at T P l7;clear C;rw[<-s.below.cell (p:=⟨b,o+j*5+3,none⟩) (Q b Z)]at T;go_loopg [8] d.length (λg i V=>∃(k:Nat) (l:List Bool),k<=d.length/\g=d.length - k/\i=.int .i64 k/\aiJ (d.drop k) l=aiJ d a/\YH w wr V/\AbW w #[.slice L c.base.length H,.slice K c.Af.length c2,.slice J c.hooks.length G,.slice (some ⟨b,o,none⟩) c.Aa.length F,.slice I c.now.length E] c.Aa.length l V)
    case atStart=>exact⟨0,a,Zp _,rfl,rfl,rfl,Zh _ _,s⟩
    obtain⟨k,l,hk,rfl,rfl,B,U5,f⟩:=hrel;have et:=Zd B;clear B;have X:=ch (i:=3) f.box rfl;rw[<-U5.cell (p:=⟨b,o+j*5+3,none⟩) (Q b Z)]at T;by_cases q:k<d.length
    .obtain⟨b7,o7,rfl,U3,u⟩:=P.at_ q
     have y:=rU k q;obtain⟨x,O⟩:∃x:Nat,nth d k=x:=⟨_,(Int.toNat_of_nonneg y.1).symm⟩;have D:=ag8 (st:=l) q;rw[O]at u y D;rw[Int.toNat_natCast]at D;have HD:=Zd D;have HX:=Zd O;clear D O;have ac:x<c.Aa.length:=o!
     rw[<-f.below.cell (p:=⟨b7,o7+k,none⟩) (Q b7 U3)]at u;have kx:=ch f.row (ad2 (k:=x) (by have:=f.len;omega));have fx:=cf (i:=x) f.row;go_wp2;go_roundg (d.length - (k+1))
     case rel=>exact⟨k+1,l.set x true,o!,rfl,v!,by rw[<-et.out,HD.out],U5.setCell (p:=⟨w+1,x,none⟩) (Nat.le_succ _) _,f.set x⟩
     omega
    go_wp2;have M:=et.out;rw[Z7.2 (show d.length<=k by omega)]at M;have M:l=aiJ d a:=M;go_roundg (c.Aa.length - (j+1))
    case rel=>exact⟨j+1,l,o!,rfl,v!,by rw[<-U.out,Y.out,if_pos HC.out,lY, <-HV.out,M],f⟩
    omega
  go_wp2;go_roundg (c.Aa.length - (r+1))
  case rel=>exact⟨r+1,a,o!,rfl,v!,by rw[<-B_.out,show c.Aa.length - r=(c.Aa.length - (r+1))+1 by omega];show _=iV n _ _ (yn n 0 _ st);rw[<-U.out,Z7.2 (by have:=HO.out;omega)];rfl,s⟩
  omega
 go_wp2;go_ret;have hz:c.Aa.length - r=0:=o!
 have e:=B_.out;rw[hz]at e;have e':st=ad6 c.Aa n:=e;exact⟨rfl,v.below,by rw[<-e'];exact v.row,by rw[<-e'];exact v.len⟩
def aff (f:JP c=0):∀s∈c.Aa,s.over.Pairwise (· < ·)/\∀x∈s.over,0<=x/\x<c.Aa.length:=λs d=>by
 obtain⟨k,a,e⟩:=Zas d;have h:=Gs f k s (by rw[zf a,e]);rw[zN]at h;unfold EF at h;have b:=(Bj (Bj (Bj (Bj h).2).2).2).1;have g:Aj c.Aa k=s:=by
  have:=Db a;rw[zf a,e]at this;exact(ZW this).symm
 rw[g]at b;exact ahR b
def afg (d:Di c.Aa.length 3=0)(b:JP c=0)(hi:i<c.Aa.length)(a:k<c.Aa.length):(ad6 c.Aa i).getD k false=hasB (Ax c.Aa i) k:=
 ah6 (by have:=(JQ d).2;omega) (aff b) hi a
def ajs {l:List Ay}(a:k<l.length)(h:hasB (Ax l k) k=true):H0 l=false:=ks a (by rw[h];rfl)
def ajt {l:List Ay}(h:∀k,k<l.length->hasB (Ax l k) k=false):H0 l=true:=by
 unfold H0;rw[Zdm];intro k a;rw[h k (List.mem_range.1 a)]
 rfl
def c50 (h:RC S w v1 v2 v3 v4 v5 c)(z:Ql6 S w):Calls Lp 47 #[.agg #[v1,v2,v3,v4,v5]] w λe w'=>e=.returned (.int .i64 (BN c))/\Qb6 w w':=by
 obtain⟨I,D,H,c2,G,C,F,B,E,A,rfl,rfl,rfl,rfl,rfl,l1,m1,l2,m2,l3,m3,l4,m4,l5,m5⟩:=h.vs;have IX:=DJ;obtain⟨xs,ai⟩:∃xs:Array Zf,xs= #[.slice I c.base.length D,.slice H c.Af.length c2,.slice G c.hooks.length C,.slice F c.Aa.length B,.slice E c.now.length A]:=⟨_,rfl⟩;have K:=Zd (show BN c=PM (Dq c) (PM (Di c.Aa.length 3) (PM (JP c) (if H0 c.Aa=true then Ct c c.now else 9))) from rfl);have R:=Zd (λW (b:Qb6 w W)=>aoN (h.later b) (A3 z b));have Q:=Zd (λW (b:Qb6 w W) n (hn:n<c.Aa.length)=>aoV (h.later b) hn (A3 z b));have T:=Zd (λW (b:Qb6 w W) n (J:JO c.Aa)=>ala (n:=n) (h.later b) J (A3 z b));have Z:=Zd (λW (b:Qb6 w W)=>c93 (h.later b) (h.later b).now (A3 z b));go_enter Lp.func50,n50;go_wp2_with (first|(go_at_call 86;refine(R.out _ (bA (Zh _ _))).mono ?_;rintro e W1 ⟨rfl,Bg⟩;(have M:=(Bg.block _ (by rw[ZB];exact Nat.lt_succ_self _)).trans (Bp w (.cells (Qe6 c I D H c2 G C F B E A) 26)));(have U:Qb6 w W1:=(bA (Zh _ _)).trans (Bg.mono (by rw[ZB];omega)));(have x:=ch (i:=3) M rfl);(have v:=ch (i:=4) M rfl))|(go_at_call 87;refine(ajY _ _ _).mono ?_;rintro e w' ⟨rfl,L⟩;have L:=L.symm;subst L))
 .have p:(Dq c !=0)=true:=by assumption
  go_ret;exact⟨Bw (by rw[K.out,K4 (Gr p)]),U⟩
 .have p:(Dq c !=0)=false:=by assumption
  have o:(Di c.Aa.length 3 !=0)=true:=a!
  go_ret;exact⟨Bw (by rw[K.out,BR (FE p),K4 (Gr o)]),U⟩
 rename (Dq c !=0)=false=>p
 rename (Di _ _ !=0)=false=>o
 have V:=Zd (SQ (FE o));have mG:=Zd (fun(h2:JP c=0) i k=>afg (c:=c) (i:=i) (k:=k) (FE o) h2);have um:=Zd (show BN c=PM (JP c) (if H0 c.Aa=true then Ct c c.now else 9) by rw[K.out,BR (FE p),BR (FE o)]);have Q1:=Zd p;have Q2:=Zd o;clear p o Bg x v K;go_loopg [5] c.Aa.length (λg i wr=>∃k:Nat,k<=c.Aa.length/\g=c.Aa.length - k/\i=.int .i64 k/\CY (λi _=>EF c i) k (c.Aa.drop k)=JP c/\Qb6 w wr/\wr.heap[w.heap.size]?=some (.cells (Qe6 c I D H c2 G C F B E A) 26 (0,0)))
 case atStart=>exact⟨0,Zp _,rfl,rfl,rfl,U,M⟩
 obtain⟨k,hk,rfl,rfl,CP,a,m⟩:=hrel;have y:=Zd CP;clear CP;obtain⟨k0,k1,k2,x,v⟩:=Qc5 m;have N:=(Za.1 m).1;by_cases t:k<c.Aa.length
 .have hd:=Zd (K5 (f:=λi _=>EF c i) (Db t))
  go_wp2_with (go_at_call 88;refine(Q.out _ a _ t).mono ?_;rintro e w2 ⟨rfl,d⟩)
  .have l:(EF c k !=0)=true:=by assumption
   have s:JP c=EF c k:=by rw[<-y.out,hd.out,if_neg (Gr l)]
   go_ret;exact⟨Bw (by rw[um.out,s,K4 (Gr l)]),a.trans (d.mono a.size)⟩
  have l:(EF c k !=0)=false:=a!
  go_roundg (c.Aa.length - (k+1))
  case rel=>exact⟨k+1,o!,rfl,v!,by rw[<-y.out,hd.out,if_pos (FE l)],a.trans (d.mono a.size),(d.block _ N).trans m⟩
  omega
 have s:JP c=0:=by rw[<-y.out];exact MN o!
 have J:=V.out s;have HA:=Zd (mG.out s);have xq:=Zd (show BN c=(if H0 c.Aa=true then Ct c c.now else 9) by rw[um.out,BR s]);have HK:=Zd J;clear y s J;go_wp2;go_loopg [7] c.Aa.length (λg i wx=>∃k:Nat,k<=c.Aa.length/\g=c.Aa.length - k/\i=.int .i64 k/\(∀j,j<k->hasB (Ax c.Aa j) j=false)/\Qb6 w wx/\wx.heap[w.heap.size]?=some (.cells (Qe6 c I D H c2 G C F B E A) 26 (0,0)))
 case atStart=>exact⟨0,Zp _,rfl,rfl,λj P=>absurd P (ZbY _),a,m⟩
 obtain⟨k,hk,rfl,rfl,tE,a,m⟩:=hrel;have O:=Zd tE;clear tE k0 k1 k2 x v;obtain⟨k0,k1,k2,x,v⟩:=Qc5 m;have N:=(Za.1 m).1;by_cases t:k<c.Aa.length
 .have q:=HA.out k k t t
  obtain⟨bb,r⟩:=Qnm (hasB (Ax c.Aa k) k);rw[<-r]at q;have u:=Zd r;have X:=Zd q;clear r q;go_wp2_with (go_at_call 89;refine(T.out _ a k HK.out).mono ?_;rintro e w2 ⟨rfl,d,Ci,ac⟩;have kx:=ch Ci (ad2 (k:=k) o!);rw[X.out]at kx)
  .have l:bb=true:=by assumption
   go_ret;exact⟨Bw (by rw[xq.out,if_neg (by rw[ajs t (u.out.symm.trans l)];decide)]),a.trans (d.mono a.size)⟩
  have l:bb=false:=a!
  go_roundg (c.Aa.length - (k+1))
  case rel=>exact⟨k+1,o!,rfl,v!,λj P=>by
   by_cases e:j=k
   .rw[e];exact u.out.symm.trans l
   exact O.out j o!,a.trans (d.mono a.size),(d.block _ N).trans m⟩
  omega
 have Y:=Zd (show BN c=Ct c c.now by rw[xq.out,if_pos (ajt λj P=>O.out j o!)]);clear O;go_wp2_with (go_at_call 75;refine(Z.out _ a).mono ?_;rintro e w2 ⟨rfl,d⟩);go_ret;exact⟨Bw Y.out.symm,a.trans (d.mono a.size)⟩
def ap8 (h:RC S w v1 v2 v3 v4 v5 c)(F:Fq c)(hl:SI S w v6 l)(hn:l.length<=c.Aa.length)(hb:∀i,i<l.length->-2<=nth l i/\nth l i<=2)(I:Ql6 S w):
  Calls Lp 77 #[.agg #[v1,v2,v3,v4,v5],v6] w λe w'=>∃u,e=.returned u/\Qb6 w w'/\SI (Cb w w') w' u (Cc c l):=by
 obtain⟨a1,s,C,c2,B,z,E,f,A,t,rfl,rfl,rfl,rfl,rfl,l1,m1,l2,m2,l3,m3,l4,m4,l5,m5⟩:=h.vs;obtain⟨a6,c6,rfl,l6,m6⟩:=hl.val;have IX:=DJ;obtain⟨tN,lZ⟩:=F.Fp;have HM:=Zd (show measure c l=Iw (λj=>nth c.base j) (l.zip c.Aa) from rfl);have Bg:YH w w (w.alloc (.cells (Qe6 c a1 s C c2 B z E f A t) 26)):=bA (Zh _ _);have Z:=MP F;have be:=Zd (lC c.base);obtain⟨i0,hi,Fl,DR,EB⟩:=zp KY;have hu:=Cz YE;obtain⟨a,rfl⟩:∃a,a1=some a:=by
  obtain⟨b,o,e,_⟩:=h.base.at_ (i:=0) o!;exact⟨_,e⟩
 obtain⟨news,Qa,hR,hc⟩:=Sl.row h.base d! a rfl;have h1:=row_one d! Qa hR pJ;have HC:=Zd hc;have uz:=kY (R:=Ri) Qa hR;clear hc hR;have yd:(((w.alloc (.cells #[.slice (some a) c.base.length s,.slice C c.Af.length c2,.slice B c.hooks.length z,.slice E c.Aa.length f,.slice A c.now.length t] 26)).alloc (.cells #[] 3)).ownsRow (w+1) 3 1 (.slice (w+1:Nat) 0 0) 0 []):=by
  have:=YC (base:=w+1) (e:=3) (size:=1) (w.alloc (.cells #[.slice (some a) c.base.length s,.slice C c.Af.length c2,.slice B c.hooks.length z,.slice E c.Aa.length f,.slice A c.now.length t] 26)) #[] 0 (by rw[ZB];exact Zj _) (Zp _) rfl;rwa[ZB]at this
 have HX:=Zd (show((w.alloc (.cells #[.slice (some a) c.base.length s,.slice C c.Af.length c2,.slice B c.hooks.length z,.slice E c.Aa.length f,.slice A c.now.length t] 26)).alloc (.cells #[] 3)).heap[w.heap.size]?=some (.cells #[.slice (some a) c.base.length s,.slice C c.Af.length c2,.slice B c.hooks.length z,.slice E c.Aa.length f,.slice A c.now.length t] 26 (0,0)) from Bf (Bp _ _) _);go_enter Lp.func115,ao8;go_wp2_with (at_builtin;refine Yc _ rfl _ _ 22 rfl (w+1) 3 i0 (.int .i64 0) 1 8 hu (Dz hi) Fl DR EB rfl d! _ 0 [] rfl yd a c.base.length s news rfl Qa (λj u hj=>ca (ca (HC.out j u hj) _) _) h1 u! o! i! ?_;intro v' w1 T AG Q);have De:Qb6 w w1:=Bm (bA (bA (Zh _ _))) AG (λk hk=>by cases hk;exact Nat.le_succ _) j!;rw[zN,zP,uz]at T;obtain⟨g,cap,an,rfl,H,_⟩:=Own.val (l:=c.base) T o!;have ai:MG w #[.slice (some a) c.base.length s,.slice C c.Af.length c2,.slice B c.hooks.length z,.slice E c.Aa.length f,.slice A c.now.length t] (.slice g c.base.length cap) c.base.length (λj=>nth c.base j) w1:=by
  refine⟨De,?_,?_⟩
  .exact(AG.block w j! (λe=>by have:=ZW (show some w.heap.size=some (w.heap.size+1) from e);omega)).trans HX.out
  rw[<-be.out];exact T
 clear T AG Q H;go_loopg [6] l.length (λgg i wr=>∃(k:Nat) (m:Nat->Int),k<=l.length/\gg=l.length - k/\i=.int .i64 k/\Iw m ((l.zip c.Aa).drop k)=measure c l/\(∀j,-(60+16*k)<=m j/\m j<=60+16*k)/\MG w #[.slice (some a) c.base.length s,.slice C c.Af.length c2,.slice B c.hooks.length z,.slice E c.Aa.length f,.slice A c.now.length t] (.slice g c.base.length cap) c.base.length m wr)
 case atStart=>exact⟨0,_,Zp _,rfl,rfl,rfl,λj=>by have:=Z j;omega,ai⟩
 obtain⟨k,m,hk,rfl,rfl,K,Y,J⟩:=hrel;have hf:=Zd K;clear K;by_cases Az:k<l.length
 .have P:k<c.Aa.length:=by omega
  have U:=hb k Az;have X:=Zd (SR (m:=m) Az P);obtain⟨b6,o6,rfl,Xj,xu⟩:=hl.at_ Az;obtain⟨b,o,s2,s3,rfl,UQ,ER,MM,LO,et,mi,W,ho⟩:=h.Aa.at_ (i:=k) P;obtain⟨a7,c7,rfl,l7,m7⟩:=W.val;clear ER MM et mi;have Xa:=F.pull k P;have V:=F.Ap k P;have Jm:=F.few;obtain⟨n,Q⟩:=Qnm (nth l k);rw[<-Q]at xu U X;clear Q;obtain⟨d,lP⟩:=Qnm ((Aj c.Aa k).Ap);rw[<-lP]at LO W l7 Xa V X;clear lP;have TB:(k:Int)<(l.length:Int):=o!
  have ct:(k:Int)<(c.Aa.length:Int):=o!
  have ap:=(J.below.cell (p:=⟨b,o+k*5+2,none⟩) (I b UQ)).trans LO;have am:=ch (i:=3) J.box (v:=.slice (some ⟨b,o,none⟩) c.Aa.length f) rfl;go_wp2;clear ap am;go_loopg [8] d.length (λgg i wx=>∃(j:Nat) (r:Nat->Int),j<=d.length/\gg=d.length - j/\i=.int .i64 j/\CZ r n (d.drop j)=CZ m n d/\(∀i,-(60+16*(k:Int)+8*j)<=r i/\r i<=60+16*(k:Int)+8*j)/\MG w #[.slice (some a) c.base.length s,.slice C c.Af.length c2,.slice B c.hooks.length z,.slice (some ⟨b,o,none⟩) c.Aa.length f,.slice A c.now.length t] (.slice g c.base.length cap) c.base.length r wx)
  case atStart=>exact⟨0,m,Zp _,rfl,rfl,rfl,λi=>by have:=Y i;omega,J⟩
  obtain⟨j,r,hj,rfl,rfl,K,eA,D⟩:=hrel;have MK:=Zd K;clear K;have dl:=(D.below.cell (p:=⟨b,o+k*5+2,none⟩) (I b UQ)).trans LO;have g3:=ch (i:=3) D.box (v:=.slice (some ⟨b,o,none⟩) c.Aa.length f) rfl;by_cases G4:j<d.length
  .obtain⟨O,o7,rfl,U3,p1,p2⟩:=W.at_ G4
   rw[<-D.below.cell (p:=⟨O,o7+j*2,none⟩) (I O U3)]at p1;rw[<-D.below.cell (p:=⟨O,o7+j*2+1,none⟩) (I O U3)]at p2;have du:=(D.below.cell (p:=⟨b6,o6+k,none⟩) (I b6 Xj)).trans xu;have G:=Zd (PO (m:=r) (n:=n) G4);obtain⟨Oo,MF,M,L⟩:=Xa j G4;obtain⟨q,hq⟩:=Qnm (BV d j);rw[<-hq]at p1 p2 G Oo MF M L;clear hq;obtain⟨x',y⟩:=q;obtain⟨x,rfl⟩:∃x:Nat,x'=x:=⟨x'.toNat,by simp only at Oo;omega⟩;dsimp only at p1 p2 Oo MF M L;have xy:x<c.base.length:=o!
   have bi:(x:Int)<(c.base.length:Int):=o!
   have ck:(0:Int)<=(x:Int):=o!
   have fd:(0:Int)<=(k:Int):=o!
   have LZ:(j:Int)<(d.length:Int):=o!
   have ci:(0:Int)<=(j:Int):=o!
   have b8:=prod_bound ⟨M,L⟩ U;have b9:=eA x;obtain⟨H,an,Xg,Ox⟩:=D.row xy;have r0:wr.cell? ⟨g,x,none⟩=some (.int .i64 (r x)):=ch Xg Ox;have rf:=cf (i:=x) Xg;go_wp2;go_still_tail 26,k!;change wpList _ _ _ _ _ wr.drew;have ac:=(D.later (Zh _ _).drew).set xy n y;go_wp2;go_roundg (d.length - (j+1))
   case rel=>exact⟨j+1,K7 r n ((x:Int),y),o!,rfl,v!,by rw[<-MK.out,G.out],λi=>by have:=MO (N:=60+16*(k:Int)+8*j) (p:=((x:Int),y)) eA ⟨M,L⟩ U i;omega,ac⟩
   omega
  have e2:r=CZ m n d:=by rw[<-MK.out,Z7.2 o!];rfl
  subst e2;go_wp2;go_roundg (l.length - (k+1))
  case rel=>exact⟨k+1,_,o!,rfl,v!,by rw[<-hf.out,X.out],λi=>by have:=eA i;have:(j:Int)<=2:=o!;omega,D⟩
  omega
 have e1:m=measure c l:=by rw[<-hf.out,Z7.2 j!];rfl
 subst e1;have hs:=J.own.si;rw[show Qr c.base.length (measure c l)=Cc c l from rfl]at hs;have Lc:=J.below;go_wp2;go_ret;exact⟨_,rfl,Lc,Sl.imp hs (λx (hx:Cb (w+1) wr x)=>⟨by have:=hx.1;omega,hx.2⟩) (λ_ _ x=>x)⟩
structure ad8 (c:A_):Prop where
 base:c.base.length<=20
 Af:c.Af.length<=20
 hooks:c.hooks.length<=20
 Aa:c.Aa.length<=20
 now:c.now.length<=20
 part:∀i,i<c.Aa.length->(Aj c.Aa i).Ap.length<=20/\(Aj c.Aa i).over.length<=20
def afh (w:Zb)(c:A_)(e:Ending)(w':Zb):Prop:=∃b,e=.returned (.bool b)/\(b=false->ad8 c)/\Qb6 w w'
def afh.yes (h:Qb6 w w'):afh w c (.returned (.bool true)) w':=⟨true,rfl,(λx=>x!),h⟩
def c25 (h:RC S w v1 v2 v3 v4 v5 c)(n:Ql6 S w):
  Calls Lp 5 #[.agg #[v1,v2,v3,v4,v5]] w (afh w c):=by
 obtain⟨A,u,z,c2,y,t,x,s,v,r,rfl,rfl,rfl,rfl,rfl,l1,U,l2,T,Z,R,Y,Q,X,P⟩:=h.vs;have IX:=DJ;obtain⟨W1,a⟩:=Qnm (w.alloc (.cells (Qe6 c A u z c2 y t x s v r) 26));have f:Qb6 w W1:=by rw[a];exact bA (Zh _ _)
 have C:W1.heap[w.heap.size]?=some (.cells (Qe6 c A u z c2 y t x s v r) 26 (0,0)):=by rw[a];exact Bp _ _
 obtain⟨F,k1,k2,E,D⟩:=Qc5 C;by_cases q:20<c.base.length\/20<c.Af.length\/20<c.hooks.length\/20<c.Aa.length\/20<c.now.length
 .go_enter Lp.func25,n25
  clear F k1 k2 E D;go_wp2
  all_goals first
   |(exfalso;omega)
   |skip
  all_goals
   go_ret;exact afh.yes (bA (Zh _ _))
 have g1:¬20<(c.base.length:Int):=o!
 have g2:¬20<(c.Af.length:Int):=o!
 have g3:¬20<(c.hooks.length:Int):=o!
 have g4:¬20<(c.Aa.length:Int):=o!
 have g5:¬20<(c.now.length:Int):=o!
 have L:=Zd q;clear q;go_enter Lp.func25,n25;have J:=f;rw[a]at J;go_wp2;go_loopg [3] c.Aa.length (λg i wr=>∃k:Nat,k<=c.Aa.length/\g=c.Aa.length - k/\i=.int .i64 k/\(∀j,j<k->(Aj c.Aa j).Ap.length<=20/\(Aj c.Aa j).over.length<=20)/\wr=W1)
 case atStart=>exact⟨0,Zp _,rfl,rfl,λj l=>absurd l (ZbY _),a.symm⟩
 obtain⟨k,hk,rfl,rfl,d,rfl⟩:=hrel;have B:=Zd d;clear d;by_cases M:k<c.Aa.length
 .obtain⟨b,o,v2,v3,rfl,m,_,_,I,K,_,G,H⟩:=h.Aa.at_ M
  obtain⟨a6,c6,rfl,W,O⟩:=G.val;obtain⟨a7,c7,rfl,V,N⟩:=H.val;rw[<-f.cell (p:=⟨b,o+k*5+2,none⟩) (n b m)]at I;rw[<-f.cell (p:=⟨b,o+k*5+3,none⟩) (n b m)]at K;clear a;by_cases h6:20<(Aj c.Aa k).Ap.length\/20<(Aj c.Aa k).over.length
  .go_wp2
   all_goals first
    |(exfalso;omega)
    |skip
   all_goals
    go_ret;exact afh.yes f
  have g6:¬20<((Aj c.Aa k).Ap.length:Int):=o!
  have g7:¬20<((Aj c.Aa k).over.length:Int):=o!
  go_wp2;go_roundg (c.Aa.length - (k+1))
  case rel=>exact⟨k+1,o!,rfl,v!,λj l=>by
   by_cases e:j=k
   .rw[e];omega
   exact B.out j o!,rfl⟩
  omega
 clear a;go_wp2;go_ret;have:=L.out;exact⟨false,rfl,λ_=>⟨o!,o!,o!,o!,o!,λi hi=>B.out i o!⟩,f⟩
def aeM {P:Zo}{ty:Zs}{i:TypeInfo}(ht:P.underlying t=some (.slice e))(hi:P.info? e=some i){q:Option Addr}{c:Nat}(a:n<=c):(Zao #[t,t] ty #[.slice q n c,.slice none 0 c2]).run P w=.ok (.slice q n c) w:=by
 have b:(Zu i.size 0 (.slice none 0 c2)).run P w=.ok #[] w:=by simp[run_firstCells_none]
 cases q<;>simp[Zao,ZbX,Y9 ht,sizeOf,typeInfo,hi,ZcX,a,b]
variable {o:Oper}
variable {a:Act}
variable {K:Act->Zb->Prop}
variable {Q:Exit->Act->Zb->Prop}
def adD {P:Zo}{i:TypeInfo}(ht:P.underlying t=some (.slice e))(hi:P.info? e=some i)(s x:Zbv)(f:o.op=.call {callee:=.builtin .append,args:= #[s,x],argTypes:= #[t,t]}){q:Option Addr}{c:Nat}(d:a.eval s=.slice q n c)(b:a.eval x=.slice none 0 c2)(g:n<=c)(h:K (a.put o.dst (.slice q n c)) w):o.wp P a w K Q:=by
 unfold ZbA Zby;simp only[f,Zbh,invoke,builtin,zg,Sem.run_pure,Zaw,Zcr,List.map_cons,List.map_nil,d,b,aeM ht hi g];exact h
def ad4 {base:Nat}{r:List Int}(s x:Zbv)(t:o.op=.call {callee:=.builtin .append,args:= #[s,x],argTypes:= #[22,22]})(p:a.eval s=v)(k:Own w base v l)(m:a.eval x=u)(f:SI S w u r)(y:l.length+r.length<=1000)(J:base<=w.heap.size)
 (h:∀v' w',Own w' base v' (l++r)->w.grownBy w' v.ownBlock->K (a.put o.dst v') w'):o.wp Lp a w K Q:=by
 obtain⟨B,hi,M,O,N⟩:=zp KY;obtain⟨d,c,rfl,T,P⟩:=f.val;cases d with
 |none=>
  have D:r=[]:=by
   cases r with
   |nil=>rfl
   |cons x r=>
    obtain⟨W,V,i,_,_,G⟩:=f;cases i;obtain⟨b,o,U,e,_⟩:=G 0 x rfl;cases e
  subst D;obtain⟨q,n,c2,rfl,C⟩:∃q n c2,v=.slice q n c2/\n<=c2:=by
   rcases k.2 with⟨e,_⟩|⟨g,cap,L,e,_,_,F,_⟩
   .exact⟨_,_,_,e,Zp _⟩
   exact⟨_,_,_,e,F⟩
  exact adD (Cz YE) (Dz hi) s x t p m C (h _ w (by rw[ZaA];exact k) ⟨rfl,rfl,rfl,Zj _,λ_ _ _=>rfl⟩)
 |some d=>
  obtain⟨news,j,z,E⟩:=Sl.row f d! d rfl;have i:=row_one d! j z pJ;have A:=kY (R:=Ri) j z;refine Zak _ s x 22 t base 3 B (.int .i64 0) 1 8 (Cz YE) (Dz hi) M O N rfl d! v l.length (l.map (ZL .i64)) p k d r.length c news m j E i u! o! J ?_;intro v' w' I H _;refine h v' w' ?_ H;unfold Own;rw[ZA,Zai, <-A];exact I
def aga {base:Nat}(h:w.ownsRow base e 1 (.slice g n cap) n xs):∀j u,xs[j]?=some u->w.cell? ((g:Addr).add j)=some u:=by
 intro j u a;rcases h.2 with⟨e,_⟩|⟨o,p,i,e,_,d,m,_,l,f⟩
 .cases e
 cases e;have k:=h.1;have c:j<n:=by have:=(Zm.1 a).1;omega
 rw[<-f,Z2 o!,Array.getElem?_toList]at a;have b:(g:Addr).add j=⟨g,j,none⟩:=by
  unfold Zcu;split<;>simp_all
 rw[b];exact ch d a
def ad9 {rb2 base:Nat}{R:List (List Int)}(s x:Zbv)(m:o.op=.call {callee:=.builtin .append,args:= #[s,x],argTypes:= #[35,35]})(c:a.eval s=v)(G:LR2 rb base w v P)(k:a.eval x=u)(C:LR2 rb2 base w u R)(p:P.length+R.length<=10000)(J:rb<=w.heap.size)
 (h:∀v' w',LR2 rb base w' v' (P++R)->w.grownBy w' v.ownBlock->K (a.put o.dst v') w'):o.wp Lp a w K Q:=by
 obtain⟨A,hi,M,O,N⟩:=zp Hw;obtain⟨news,d,z⟩:=C;obtain⟨vals,b,t⟩:=G;rcases d.2 with⟨rfl,L⟩|⟨g,cap,i,rfl,_⟩
 .have E:R=[]:=List.length_eq_zero_iff.1 L
  subst E;obtain⟨q,n,c2,rfl,D⟩:∃q n c2,v=.slice q n c2/\n<=c2:=by
   rcases b.2 with⟨e,_⟩|⟨g,cap,i,e,_,_,H,_⟩
   .exact⟨_,_,_,e,Zp _⟩
   exact⟨_,_,_,e,H⟩
  exact adD (Cz zW) (Dz hi) s x m c k D (h _ w (by rw[ZaA];exact⟨vals,b,t⟩) ⟨rfl,rfl,rfl,Zj _,λ_ _ _=>rfl⟩)
 refine Zak _ s x 35 m rb 22 A () 1 24 (Cz zW) (Dz hi) M O N rfl d! v P.length vals c b g R.length cap news k (by have:=d.1;omega) (aga d) ?_ u! o! J ?_
 .intro y B
  obtain⟨j,F,rfl⟩:=List.mem_iff_getElem.1 B;have f:j<R.length:=by have:=d.1;omega
  obtain⟨u,l,c⟩:=z j _ (BJ f);rw[zf F]at l;cases l;obtain⟨_,_,e,_⟩:=c.val;rw[e]
  rfl
 intro v' w' I r _;exact h v' w' (LR2.app b t z r I) r
def apa (hv:Fq c):∀(m:Nat) {S:Nat->Prop} {w:Zb} {base:Nat} {v1 v2 v3 v4 v5 v6:Zf} {p:List Int},RC S w v1 v2 v3 v4 v5 c->SI (J1 3 base w) w v6 p->base<=w.heap.size->p.length+m=c.Aa.length->(∀b,S b->b<w.heap.size)->
  Calls Lp 121 #[.agg #[v1,v2,v3,v4,v5],v6] w λe w'=>∃v,e=.returned v/\Qb6 w w'/\LR2 w base w' v (ad1 c p):=by
 intro m
 induction m with
 |zero=>
  intro S w base v1 v2 v3 v4 v5 v6 p h hp a hm hS;obtain⟨a1,U,Z,c2,Y,Q,a4,O,X,N,rfl,rfl,rfl,rfl,rfl,l1,m1,l2,m2,l3,m3,l4,m4,l5,m5⟩:=h.vs;obtain⟨pa,pc,rfl,iX,mp⟩:=hp.val;have HG:=Zd (ai5 (c:=c) (p:=p) o!);have hq:((p.length:Int)==(c.Aa.length:Int))=true:=j!
  have HP:=Zd hp;have HB:=Zd a;clear hm hp a;go_enter Lp.func131,akM;go_wp2;go_ret;refine⟨_,rfl,bA (bA (Zh _ _)),?_⟩;rw[HG.out];have ii:YH w w ((w.alloc (.cells (Qe6 c a1 U Z c2 Y Q a4 O X N) 26)).alloc (.cells #[.slice pa p.length pc] 22)):=bA (bA (Zh _ _));refine⟨[.slice pa p.length pc],⟨rfl,.inr ⟨w+1,1,#[.slice pa p.length pc],i!,o!,?_,Zj _,d!,rfl,rfl⟩⟩,?_⟩
  .have:=Bp (w.alloc (.cells (Qe6 c a1 U Z c2 Y Q a4 O X N) 26)) (.cells #[.slice pa p.length pc] 22)
   rwa[ZB]at this
  .intro i x hx
   match i,hx with
   |0,hx=>cases hx;exact⟨_,rfl,Dx (T:=λ_=>False) (Ak.later ii) (λ_ _ x=>x) HP.out⟩
 |succ m ih=>
  intro S w base v1 v2 v3 v4 v5 v6 p h hp a hm hS;obtain⟨a1,U,Z,c2,Y,Q,a4,O,X,N,rfl,rfl,rfl,rfl,rfl,l1,m1,l2,m2,l3,m3,l4,m4,l5,m5⟩:=h.vs;obtain⟨pa,pc,rfl,iX,mp⟩:=hp.val;have IX:=DJ;have Jm:=hv.few;have Az:p.length<c.Aa.length:=o!
  have TB:(p.length:Int)<(c.Aa.length:Int):=o!
  have i9:((p.length:Int)==(c.Aa.length:Int))=false:=j!
  have B_:=hv.step p.length Az;have fi:=Zd (ahb (c:=c) Az);obtain⟨K,o4,s2,s3,rfl,UQ,ER,MM,_⟩:=h.Aa.at_ (i:=p.length) Az;obtain⟨lo,mK⟩:=Qnm ((Aj c.Aa p.length).low);obtain⟨hi,ai⟩:=Qnm ((Aj c.Aa p.length).high);rw[<-mK, <-ai]at fi B_;rw[<-mK]at ER;rw[<-ai]at MM;clear mK ai;obtain⟨M,hM⟩:=Qnm ((hi+1 - lo).toNat);have HM:=Zd hM;have jp:M<=5:=o!
  have ci:∀q:Nat,q<M↔lo+(q:Int)<=hi:=λq=>o!
  clear hM;have mO:YH w w (w.alloc (.cells (Qe6 c a1 U Z c2 Y Q (some ⟨K,o4,none⟩) O X N) 26)):=bA (Zh _ _);have iS:=(mO.cell (p:=⟨K,o4+p.length*5,none⟩) (hS K UQ)).trans ER;have i7:=Zd (show p.length+1+m=c.Aa.length by omega);have HB:=Zd a;have HP:=Zd hp;have HH:=Zd h;have jn:p.length<=2:=o!
  clear hm hp a;go_enter Lp.func131,akM;go_wp2;clear iS;go_loopg [5,6] M (λgg lv n wr=>∃q:Nat,q<=M/\gg=M - q/\n=.int .i64 (lo+q)/\LR2 (w+1) base wr lv (((IU lo hi).take q).flatMap λn=>ad1 c (p++ [n]))/\Qb6 w wr/\wr.heap[w.heap.size]?=some (.cells (Qe6 c a1 U Z c2 Y Q (some ⟨K,o4,none⟩) O X N) 26 (0,0)))
  case atStart=>exact⟨0,Zp _,rfl,i!,by rw[ZdB];exact LR2.nil _ _ _,bA (Zh _ _),Bp _ _⟩
  obtain⟨q,hq,rfl,rfl,hL,I,hX⟩:=hrel;obtain⟨V,hV⟩:=Qnm wr;subst hV;have k3:=ch (i:=3) hX (v:=.slice (some ⟨K,o4,none⟩) c.Aa.length O) rfl;have ip:=(I.cell (p:=⟨K,o4+p.length*5+1,none⟩) (hS K UQ)).trans MM;by_cases ac:q<M
  .have fI:lo+(q:Int)<=hi:=(ci q).1 ac
   have i6:=Zd (afT (lo:=lo) (hi:=hi) (q:=q) (by rw[<-HM.out];exact ac));have gj:(((IU lo hi).take q).flatMap λn=>ad1 c (p++ [n])).length<=625:=by
    have h1:=cr (f:=λn=>ad1 c (p++ [n])) (k:=125) ((IU lo hi).take q) (λx _=>adf hv _);have h2:=ZbW q (IU lo hi);omega
   obtain⟨P,hP⟩:=Qnm (((IU lo hi).take q).flatMap λn=>ad1 c (p++ [n]));have i8:=Zd hP;rw[<-hP]at hL gj;clear hP;obtain⟨la,lc,rfl,l7,m7⟩:=hL.val;have z0:=λu=>Al u (ch (i:=0) hX (v:=.slice a1 c.base.length U) rfl);have z1:=λu=>Al u (ch (i:=1) hX (v:=.slice Z c.Af.length c2) rfl);have z2:=λu=>Al u (ch (i:=2) hX (v:=.slice Y c.hooks.length Q) rfl);have z3:=λu=>Al u k3;have z4:=λu=>Al u (ch (i:=4) hX (v:=.slice X c.now.length N) rfl);have b9:∀W,Qb6 V W->SI (J1 3 base W) W (.slice pa p.length pc) p:=λW hW=>Dx (T:=λ_=>False) (Ak.later (bU I hW)) (λ_ _ x=>x) HP.out;have b8:=Zd b9;have HL:=Zd hL;clear b9 hL;go_wp2;refine aci (S:=λW=>∃p,W=calm V p) 11 [9,10] (.fork 2 (.fork 4 (.one 6 (.one 7 (.one 8 (.one 9 (.one 10 .leaf))))) 6 (.one 4 (.one 7 (.one 8 (.one 9 (.one 10 .leaf)))))) 6 (.one 2 (.one 4 (.one 7 (.one 8 (.one 9 (.one 10 .leaf))))))) [0,1,3,5] k! (λ_ _ d _ _ h=>by cases d<;>exact h) k! (AL (Zh _ _).drew) ?_;refine A4 _ _ k! ?_;simp only[Z6,zd,ZG,ZD,ZC]
   repeat (first|go_big_quiet_step (fail)|quiet_step (fail))
   refine Z4 ?_;clear z0 z1 z2 z3 z4;change acs _ _ _ _ _ _ _ _;have Uh:YH V V V.drew:=(Zh _ _).drew;refine adI ?hA ?hB
   case' hA=>
    obtain⟨A,G⟩:=Qnm (V.drew.alloc (.cells #[] 3));have o:Qb6 V A:=by rw[G];exact bA Uh
    have hO:Own A V (.slice V 0 0) []:=by rw[G];exact YC V.drew #[] 0 (Zj _) (Zp _) rfl
    refine acj (v:=.slice V 0 0) (w':=A) rfl rfl (by rw[G];go_simp) (.inr (AL o)) ?_;refine adI ?oT ?aT
   case' oT=>
    refine adC rfl rfl ?_;refine ad4 (l:=[]) (r:=p) _ _ rfl g! hO g! (b8.out A o) j! o.size ?_;intro v7 B am j;have z:Qb6 V B:=Bm o j (λk H=>by cases H;exact Zj _) o.size;refine⟨.inr (AL z),?_⟩;obtain⟨C,hC⟩:=Qnm (B.alloc (.cells #[.int .i64 (lo+(q:Int))] 3));have s:Qb6 V C:=by rw[hC];exact bA z
    refine acj (v:=.slice B 1 1) (w':=C) rfl rfl (by rw[hC];go_simp) (.inr (AL s)) ?_;have L:Own C V v7 p:=by rw[hC];exact am.later (bA (Zh _ _))
    have J:SI (λy=>y<C.heap.size) C (.slice B 1 1) [lo+(q:Int)]:=by rw[hC];exact M1 [lo+(q:Int)] (Bp B (.cells #[.int .i64 (lo+(q:Int))] 3)) i! (by show 1<=maxLen;decide)
    generalize B=fd at*
   case' aT=>
    obtain⟨B,g⟩:=Qnm (A.alloc (.cells #[.int .i64 (lo+(q:Int))] 3));have z:Qb6 V B:=by rw[g];exact bA o
    refine acj (v:=.slice A 1 1) (w':=B) rfl rfl (by rw[g];go_simp) (.inr (AL z)) ?_;have hO:Own B V (.slice V 0 0) []:=by rw[g];exact hO.later (bA (Zh _ _))
    refine adC rfl rfl ?_;refine ad4 (l:=[]) (r:=p) _ _ rfl g! hO g! (b8.out B z) j! z.size ?_;intro v7 C L j;have s:Qb6 V C:=Bm z j (λk H=>by cases H;exact Zj _) z.size;refine⟨.inr (AL s),?_⟩;have im:V<A.heap.size:=by rw[G];simp
    have ap:SI (λy=>y=A.heap.size) B (.slice A 1 1) [lo+(q:Int)]:=by rw[g];exact M1 [lo+(q:Int)] (Bp A (.cells #[.int .i64 (lo+(q:Int))] 3)) rfl (by show 1<=maxLen;decide)
    have io:A<B.heap.size:=by rw[g];simp
    have J:SI (λy=>y<C.heap.size) C (.slice A 1 1) [lo+(q:Int)]:=Sl.imp (ap.Ar λb a _=>j.block b (by have a:b=_:=a;omega) (λe=>by have a:b=_:=a;have e:=ZW e;dsimp only at e;omega)) (λb a=>by have a:b=_:=a;have:=j.size;show b<_;omega) λ_ _ x=>x;generalize A=fd at*
   case' hB=>
    obtain⟨A,G⟩:=Qnm (V.drew.alloc (.cells #[.int .i64 (lo+(q:Int))] 3));have o:Qb6 V A:=by rw[G];exact bA Uh
    refine acj (v:=.slice V 1 1) (w':=A) rfl rfl (by rw[G];go_simp) (.inr (AL o)) ?_;obtain⟨B,g⟩:=Qnm (A.alloc (.cells #[] 3));have z:Qb6 V B:=by rw[g];exact bA o
    have hO:Own B A (.slice A 0 0) []:=by rw[g];exact YC A #[] 0 (Zj _) (Zp _) rfl
    refine acj (v:=.slice A 0 0) (w':=B) rfl rfl (by rw[g];go_simp) (.inr (AL z)) ?_;refine adC rfl rfl ?_;have im:V<A.heap.size:=by rw[G];simp
    have io:A<B.heap.size:=by rw[g];simp
    refine ad4 (l:=[]) (r:=p) _ _ rfl g! hO g! (b8.out B z) j! o! ?_;intro v7 C am j;have s:Qb6 V C:=Bm z j (λk H=>by have e:=ZW H;dsimp only at e;omega) z.size;refine⟨.inr (AL s),?_⟩;have L:Own C V v7 p:=Own.mono am o!;have ap:SI (λy=>y=V.heap.size) B (.slice V 1 1) [lo+(q:Int)]:=by rw[g];exact M1 [lo+(q:Int)] (Bf (by rw[G];exact Bp V.drew (.cells #[.int .i64 (lo+(q:Int))] 3)) _) rfl (by show 1<=maxLen;decide)
    have J:SI (λy=>y<C.heap.size) C (.slice V 1 1) [lo+(q:Int)]:=Sl.imp (ap.Ar λb a _=>j.block b (by have a:b=_:=a;omega) (λe=>by have a:b=_:=a;have e:=ZW e;dsimp only at e;omega)) (λb a=>by have a:b=_:=a;have:=j.size;show b<_;omega) λ_ _ x=>x;obtain⟨fd,fy⟩:=Qnm V.heap.size;rw[<-fy]at J⊢
   all_goals
    clear k3 ip;have fK:=(Za.1 hX).1;refine adC rfl rfl ?_;refine ad4 (l:=p) (r:=[lo+(q:Int)]) _ _ rfl g! L g! J j! s.size ?_;intro v8 D gn fJ;have an:Qb6 V D:=Bm s fJ (λk H=>(Zcm L k H).1) s.size;refine⟨.inr (AL an),?_⟩;have bi:=bU I an;refine acv (f:=121) (args:= #[.agg (Qe6 c a1 U Z c2 Y Q (some ⟨K,o4,none⟩) O X N),v8]) rfl rfl g! ((ih (base:=base) (HH.out.later bi) (Sl.imp (Own.typ gn) (λb a=>⟨⟨by have:=a.1.1;have:=I.size;have:=HB.out;omega,a.1.2⟩,a.2⟩) λ_ _ x=>x) (by have:=HB.out;have:=bi.size;omega) (by rw[ZA];exact i7.out) (A3 hS bi)).mono ?_);rintro e E ⟨v9,rfl,gt,ct⟩;have t:=bU an gt;refine .inl ⟨_,rfl,.inr (AL t),?_⟩;refine adC rfl rfl ?_;refine ad9 (P:=P) (R:=ad1 c (p++ [lo+(q:Int)])) _ _ rfl g! (HL.out.later t) g! ct (by have:=adf hv (p++ [lo+(q:Int)]);omega) (by have:=t.size;omega) ?_;intro fu F du be;refine⟨.inl rfl,?_⟩;refine acj (v:=fu) (w':=F) rfl rfl g! (.inl rfl) ?_;unfold acs
    go_simp
    have dl:Qb6 w F:=Bm (bU I t) be (λk H=>by have:=HL.out.lt k H;omega) (bU I t).size;have ck:F.heap[w.heap.size]?=some (.cells (Qe6 c a1 U Z c2 Y Q (some ⟨K,o4,none⟩) O X N) 26 (0,0)):=(be.block _ (by have:=t.size;omega) (λe=>by have:=HL.out.lt _ e.symm;omega)).trans ((t.block _ fK).trans hX);have Qs:=Zd (ZY du (ZY dl ck));clear du dl ck be ct;go_wp2;go_roundg (M - (q+1))
    case rel=>exact⟨q+1,ac,rfl,v!,by rw[i6.out,Zbe, <-i8.out];simpa using Qs.out.1,Qs.out.2.1,Qs.out.2.2⟩
    omega
  have fw:q=M:=o!
  subst fw;have fI:¬lo+(q:Int)<=hi:=λx=>by have:=(ci q).2 x;omega
  rw[afX (by rw[<-HM.out];exact Zj _), <-fi.out]at hL;have HL:=Zd hL;clear hL;go_wp2;go_ret;exact⟨_,rfl,I,HL.out.mono (Nat.le_succ _)⟩
def adE {ab:Nat->Nat}{now:List Int}:∀(l:List Int) (a s k:Nat),k<l.length->JR ab now a (l.take (k+1)) s=if nth l k=nth now (a+k) then JR ab now a (l.take k) s else JR ab now a (l.take k) s|||Iv (ab (a+k)) (a+k)
 |x::r,a,s,0,_=>rfl
 |x::r,a,s,k+1,h=>by
  have b:k<r.length:=by simpa using h
  have:=adE (ab:=ab) (now:=now) r (a+1) (if x=nth now a then s else s|||Iv (ab a) a) k b;rw[show a+1+k=a+(k+1) by omega]at this;exact this
def ajv (s t i j:Nat):hasB (s|||Iv t i) j=(hasB s j||(hasB t j||decide (i=j))):=by
 unfold hasB Iv;rw[Nat.testBit_or,Nat.testBit_or,Nat.one_shiftLeft,Nat.testBit_two_pow]
def ads {s n:Nat}(h:s<2^n):∀k,n<=k->FF s k=FF s n
 |0,b=>by rw[Nat.le_zero.1 b]
 |k+1,b=>by
  by_cases e:n=k+1
  .rw[e]
  rw[eF,if_neg,ads h k o!];intro a;have:=Nat.testBit_lt_two_pow (Zl h (YX d! (show n<=k by omega)));unfold hasB at a;rw[this]at a;cases a
def aeD (a:Fq c)(hl:l.length<=c.Aa.length):DS c l<2^c.Aa.length:=
 JW (LH a.over) l 0 0 o! (Zdz _)
def ahh (a:Fq c)(hl:l.length<=c.Aa.length):FF (DS c l) c.Aa.length=AB (DS c l):=
 (ads (aeD a hl) 3 a.few.2).symm
def ahj (a:Fq c)(hl:l.length<=c.Aa.length)(k:Nat):(FF (DS c l) k).length<=c.Aa.length:=by
 by_cases e:k<=c.Aa.length
 .exact Zr (Jo _ _) e
 rw[ads (aeD a hl) k o!];exact Jo _ _
def aia (st:List Bool)(k:Nat)(b:Bool):(adg st).setIfInBounds k (.bool b)=adg (st.set k b):=by
 unfold adg;simp
def AbW.put {wr:Zb}{x:Array Zf}(h:AbW w x n st wr)(k:Nat)(b:Bool):AbW w x n (st.set k b) (wr.setCell ⟨w+1,k,none⟩ (.bool b)):=
 ⟨bS h.below o!,(AZ o! _).trans h.box,by rw[Ba h.row _,aia],by rw[ZcC];exact h.len⟩
def AbW.later {wr:Zb}{x:Array Zf}(h:AbW w x n st wr)(a:Qb6 wr W):AbW w x n st W:=
 ⟨h.below.trans (a.mono h.below.size),(a.block _ (Za.1 h.box).1).trans h.box,(a.block _ (Za.1 h.row).1).trans h.row,h.len⟩
def afi (st:List Bool)(k j:Nat)(b:Bool)(a:k<st.length):(st.set k b).getD j false=if k=j then b else st.getD j false:=by
 simp only[Y6,List.getElem?_set];by_cases e:k=j
 .subst e
  rw[if_pos rfl,if_pos rfl,if_pos a]
  rfl
 rw[if_neg e,if_neg e]
def c95 (h:RC S w v1 v2 v3 v4 v5 c)(hl:SI S w v6 l)(ai:Ca c l=0)(hS:Ql6 S w):
  Calls Lp 54 #[.agg #[v1,v2,v3,v4,v5],v6] w λe w'=>∃v,e=.returned v/\Qb6 w w'/\SI (Cb w w') w' v (AB (DS c l)):=by
 obtain⟨X,R,V,c2,U,Q,M,K,a5,J,rfl,rfl,rfl,rfl,rfl,l1,m1,l2,m2,l3,m3,l4,m4,l5,m5⟩:=h.vs;obtain⟨a6,c6,rfl,l6,m6⟩:=hl.val;obtain⟨i0,hi,Fl,DR,EB⟩:=zp KY;have hu:=Cz YE;have IX:=DJ;obtain⟨Jz,ER⟩:=Bj ai;have hv:=EG Jz;have UO:=(Fb ER).1;obtain⟨_,FD⟩:=Bj Jz;obtain⟨ap,EC⟩:=Bj FD;have ac:=(Bj EC).1;have Jm:=hv.few;have uX:c.now.length=c.Aa.length:=by
  have:=(Bj EC).2;split at this
  .exact(Fb this).1
  cases this
 have HA:=Zd (λi (hi:i<c.Aa.length) j (d:j<c.Aa.length)=>afg ap ac hi d);have gj:=λW=>afe c.Aa.length o! W;obtain⟨tp,s⟩:∃tp:Nat->Nat,tp=λk=>JR (Ax c.Aa) c.now 0 (l.take k) 0:=⟨_,rfl⟩;have fI:=Zd (show tp 0=0 by rw[s];rfl);have fw:=Zd (show∀k,k<c.Aa.length->tp (k+1)=if nth l k=nth c.now k then tp k else tp k|||Iv (Ax c.Aa k) k from λk hk=>by
  rw[s];have:=adE (ab:=Ax c.Aa) (now:=c.now) l 0 0 k o!;rwa[zN]at this)
 have fy:=Zd (show tp c.Aa.length=DS c l by
  rw[s];show JR _ _ 0 (l.take c.Aa.length) 0=JR _ _ 0 l 0;rw[Zb3 o!])
 have ii:=Zd (show∀k,(FF (DS c l) k).length<=c.Aa.length from ahj hv o!);have fJ:=Zd (show FF (DS c l) c.Aa.length=AB (DS c l) from ahh hv o!);have fi:=Zd (λW (hW:Qb6 w W) (n:Nat)=>ala (n:=n) (h.later hW) hv.over (A3 hS hW));have ct:=Zd uX;have cA:=Zd UO;clear uX UO s ai Jz ER FD EC ac ap;have an:AbW w #[.slice X c.base.length R,.slice V c.Af.length c2,.slice U c.hooks.length Q,.slice M c.Aa.length K,.slice a5 c.now.length J] c.Aa.length (List.replicate c.Aa.length false) ((w.alloc (.cells (Qe6 c X R V c2 U Q M K a5 J) 26)).alloc (.cells (adg (List.replicate c.Aa.length false)) 4)):=by
  exact⟨bA (bA (Zh _ _)),Bf (Bp _ _) _,by have:=Bp (w.alloc (.cells (Qe6 c X R V c2 U Q M K a5 J) 26)) (.cells (adg (List.replicate c.Aa.length false)) 4);rwa[ZB]at this,i!⟩
 go_enter Lp.func95,n95;go_wp2;go_loopg [6] c.Aa.length (λg i wr=>∃(k:Nat) (T:List Bool),k<=c.Aa.length/\g=c.Aa.length - k/\i=.int .i64 k/\(∀j,j<c.Aa.length->T.getD j false=hasB (tp k) j)/\AbW w #[.slice X c.base.length R,.slice V c.Af.length c2,.slice U c.hooks.length Q,.slice M c.Aa.length K,.slice a5 c.now.length J] c.Aa.length T wr)
 case atStart=>exact⟨0,_,Zp _,rfl,rfl,λj d=>by rw[fI.out];simp[hasB,Y6,d],an⟩
 obtain⟨k,T,hk,rfl,rfl,aW,A⟩:=hrel;have hT:=Zd aW;clear aW an;have k3:=ch (i:=3) A.box (v:=.slice M c.Aa.length K) rfl;have k4:=ch (i:=4) A.box (v:=.slice a5 c.now.length J) rfl;by_cases Az:k<c.Aa.length
 .have y:k<c.now.length:=by have:=ct.out;omega
  have lQ:k<l.length:=by have:=cA.out;omega
  obtain⟨b5,o5,rfl,wN,H⟩:=h.now.at_ y;obtain⟨b6,o6,rfl,Xj,G⟩:=hl.at_ lQ;rw[<-A.below.cell (p:=⟨b5,o5+k,none⟩) (hS b5 wN)]at H;rw[<-A.below.cell (p:=⟨b6,o6+k,none⟩) (hS b6 Xj)]at G;have HS:=Zd (fw.out k Az);have z1:=λp=>Al p H;have z2:=λp=>Al p G;have z4:=λp=>Al p k4;go_wp2;refine Av k! k! ?_
  repeat (first|go_big_quiet_step (fail)|quiet_step (fail))
  refine Z4 ?_;rintro _ ⟨p,rfl⟩;have yw:=AE wr p;obtain⟨fu,Z⟩:=Qnm (calm wr p);rw[<-Z]at yw⊢;clear Z z1 z2 z4 k3 k4 H G;have o:=A.later yw;obtain⟨k0,k1,k2,k3,k4⟩:=Qc5 o.box;have fx:=cf (i:=k) o.row;have C:=ch o.row (ad2 (k:=k) (by have:=o.len;omega));by_cases f:nth l k=nth c.now k
  .have N:=Zd (show tp (k+1)=tp k by rw[HS.out,if_pos f])
   have z:(nth l k==nth c.now k)=true:=by simpa using f
   clear f;go_wp2;go_roundg (c.Aa.length - (k+1))
   case rel=>exact⟨k+1,T,o!,rfl,v!,λj d=>by rw[N.out];exact hT.out j d,o⟩
   omega
  have N:=Zd (show tp (k+1)=tp k|||Iv (Ax c.Aa k) k by rw[HS.out,if_neg f]);have z:(nth l k==nth c.now k)=false:=by simpa using f
  clear f;obtain⟨W1,NL⟩:=Qnm (fu.setCell ⟨w+1,k,none⟩ (.bool true));have O:=o.put k true;rw[<-NL]at O;have fd:=Zd (fi.out W1 O.below k);obtain⟨q,D⟩:=Qnm (W1.heap.size+1);have M9:q=W1+1:=D;go_wp2;rw[<-NL];clear NL;refine fd.out.mono ?_;rintro e W2 ⟨rfl,bK,mA,ci⟩;rw[<-D]at mA⊢;clear D;have aT:=O.later bK;have HQ:=Zd M9;have I:(T.set k true).length=c.Aa.length:=O.len;have rU:=(Za.1 mA).1;have du:=O.row;have lX:=(Za.1 O.row).1;have fK:w+1<q:=by have:=HQ.out;omega
  clear M9 du lX C fx k0 k1 k2 k3 k4;obtain⟨B,L⟩:=Qnm (ad6 c.Aa k);have uW:=Zd L;rw[<-L]at mA ci;clear L;go_wp2;go_loopg [8] c.Aa.length (λg i Y=>∃(j:Nat) (a:List Bool),j<=c.Aa.length/\g=c.Aa.length - j/\i=.int .i64 j/\(∀m,m<c.Aa.length->a.getD m false=((T.set k true).getD m false||(decide (m<j)&&B.getD m false)))/\AbW w #[.slice X c.base.length R,.slice V c.Af.length c2,.slice U c.hooks.length Q,.slice M c.Aa.length K,.slice (some ⟨b5,o5,none⟩) c.now.length J] c.Aa.length a Y/\Y.heap[q]?=some (.cells (adg B) 4 (0,0)))
  case atStart=>exact⟨0,_,Zp _,rfl,rfl,λm E=>i!,aT,mA⟩
  obtain⟨j,a,d,rfl,rfl,bi,r,be⟩:=hrel;have D3:=Zd bi;clear bi;by_cases lp:j<c.Aa.length
  .have ck:=Zd r.len
   have mK:j<B.length:=o!
   have C:=ch r.row (ad2 (k:=j) (by have:=r.len;omega));have fx:=cf (i:=j) r.row;have ky:=ch be (ad2 (k:=j) mK);have Bu:∀b:Bool,b=(a.getD j false||B.getD j false)->(∀m,m<c.Aa.length->(a.set j b).getD m false=((T.set k true).getD m false||(decide (m<j+1)&&B.getD m false)))/\AbW w #[.slice X c.base.length R,.slice V c.Af.length c2,.slice U c.hooks.length Q,.slice M c.Aa.length K,.slice (some ⟨b5,o5,none⟩) c.now.length J] c.Aa.length (a.set j b) (wr.setCell ⟨w+1,j,none⟩ (.bool b))/\(wr.setCell ⟨w+1,j,none⟩ (.bool b)).heap[q]?=some (.cells (adg B) 4 (0,0)):=λb hb=>by
    refine⟨λm E=>?_,r.put j b,(AZ o! _).trans be⟩;rw[afi _ _ _ _ (by have:=ck.out;omega)];by_cases e:j=m
    .subst e
     rw[if_pos rfl,hb,D3.out j E];simp
    rw[if_neg e,D3.out m E];rw[show decide (m<j+1)=decide (m<j) from decide_eq_decide.2 o!]
   have qO:=Zd Bu;clear Bu;cases P:a.getD j false<;>cases e2:B.getD j false
   all_goals
    rw[P]at C;rw[e2]at ky;go_wp2;go_roundg (c.Aa.length - (j+1))
    case rel=>exact⟨j+1,_,o!,rfl,v!,qO.out _ (by rw[P,e2];rfl)⟩
    omega
  have F:j=c.Aa.length:=o!
  go_wp2;go_roundg (c.Aa.length - (k+1))
  case rel=>exact⟨k+1,a,o!,rfl,v!,λm E=>by
   rw[D3.out m E,N.out,ajv,afi _ _ _ _ (by have:=I;rw[ZcC]at this;omega),uW.out,HA.out k Az m E,show decide (m<j)=true from decide_eq_true o!,Bool.true_and];by_cases e:k=m
   .subst e;simp
   rw[if_neg e,hT.out m E];simp[e],r⟩
  omega
 have y:k=c.Aa.length:=o!
 have I:=Zd (show∀j,j<c.Aa.length->T.getD j false=hasB (DS c l) j from λj d=>by rw[hT.out j d,y,fy.out]);obtain⟨t,ht⟩:=Qnm (DS c l);have b8:=Zd ht;obtain⟨W3,Hv⟩:=Qnm wr;subst Hv;have r:=A;have gt:=A.len;clear y hT ht A;go_wp2;go_loopg [9,10] c.Aa.length (λg v i Y=>∃j:Nat,j<=c.Aa.length/\g=c.Aa.length - j/\i=.int .i64 j/\Y.ownsRow W3 3 1 v (FF t j).length ((FF t j).map (ZL .i64))/\Qb6 W3 Y)
 case atStart=>exact⟨0,Zp _,rfl,rfl,zq _ _ _ _,Zh _ _⟩
 obtain⟨j,d,rfl,rfl,AX,hB⟩:=hrel;have gn:=Jo t j;have D':=hB.size;by_cases lp:j<c.Aa.length
 .have HS:=Zd (eF t j)
  have am:=r.later hB;have C:=ch am.row (ad2 (k:=j) (by have:=am.len;omega));rw[show T.getD j false=hasB t j by rw[I.out j lp,b8.out]]at C;cases z:hasB t j with
  |true=>
   rw[z]at C;have P:=Zd (show FF t (j+1)=FF t j++ [(j:Int)] by rw[HS.out,if_pos z]);clear z;go_wp2_with (at_builtin;refine Yc _ rfl _ _ 22 rfl W3 3 i0 (.int .i64 0) 1 8 hu (Dz hi) Fl DR EB rfl d! _ _ _ rfl (AX.alloc _) ⟨_,0,none⟩ 1 1 [.int .i64 j] rfl rfl (by intro j u d;match j,d with|0,d=>(simp at d;subst d;simp[Zcu])) (by intro u hu;simp at hu;subst hu;rfl) u! o! j! ?_;intro v' w1 Bi AG Gc);have hg:(wr.alloc (.cells #[.int .i64 j] 3)).grownBy w1 u9.ownBlock:=AG;have Bg:Qb6 W3 w1:=Bm (bA hB) hg (λk hk=>(AX.lt k hk).1) j!;have Cm:w1.ownsRow W3 3 1 v' (FF t (j+1)).length ((FF t (j+1)).map (ZL .i64)):=by
    rw[P.out];simpa using Bi
   go_roundg (c.Aa.length - (j+1))
   case rel=>exact⟨j+1,o!,rfl,v!,Cm,Bg⟩
   case measure=>omega
  |false=>
   rw[z]at C;have P:=Zd (show FF t (j+1)=FF t j by rw[HS.out,if_neg (by rw[z];decide)]);clear z;go_wp2;go_roundg (c.Aa.length - (j+1))
   case rel=>exact⟨j+1,o!,rfl,v!,by rw[P.out];exact AX,hB⟩
   omega
 have F:j=c.Aa.length:=o!
 have b9:=eC AX;have HE:=Zd (show FF t j=AB (DS c l) by rw[F,b8.out,fJ.out]);have dl:=Sl.imp (T:=Cb w wr) b9 (λx hx=>⟨Zr r.below.size hx.1,hx.2⟩) λ_ _ x=>x;have Lc:Qb6 w wr:=r.below.trans (hB.mono r.below.size);clear F;go_wp2;go_ret;exact⟨_,rfl,Lc,by rw[<-HE.out];exact dl⟩
def c94 (h:RC S w v1 v2 v3 v4 v5 c)(hl:SI T w v6 l)(Q:∀i,i<c.Aa.length->0<=(Aj c.Aa i).left)(P:∀x,x∈l->0<=x/\x<c.Aa.length)(R:Ql6 S w)(J:∀b,T b->b<w.heap.size):
  Calls Lp 122 #[.agg #[v1,v2,v3,v4,v5],v6] w λe w'=>e=.returned (.int .i64 ((l.find? (SU c)).getD (-1)))/\Qb6 w w':=by
 obtain⟨a1,W,a2,c2,a3,V,Z,K,Y,U,rfl,rfl,rfl,rfl,rfl,l1,m1,l2,m2,l3,m3,l4,m4,l5,m5⟩:=h.vs;obtain⟨a6,c6,rfl,l6,m6⟩:=hl.val;have IX:=DJ;obtain⟨F,hF⟩:=Qnm (l.find? (SU c));rw[<-hF];have HF:=Zd (show(l.drop 0).find? (SU c)=F from hF.symm);clear hF;go_enter Lp.func94,n94;go_wp2;go_loopg [5] l.length (λg i wr=>∃k:Nat,k<=l.length/\g=l.length - k/\i=.int .i64 k/\(l.drop k).find? (SU c)=F/\Qb6 w wr/\wr.heap[w.heap.size]?=some (.cells (Qe6 c a1 W a2 c2 a3 V Z K Y U) 26 (0,0)))
 case atStart=>exact⟨0,Zp _,rfl,rfl,HF.out,bA (Zh _ _),Bp _ _⟩
 obtain⟨k,hk,rfl,rfl,L,m,A⟩:=hrel;have u:=Zd L;clear L;by_cases C:k<l.length
 .obtain⟨b,o,rfl,I,r⟩:=hl.at_ C
  have y:=Zd (U_ (f:=SU c) C);obtain⟨Oo,MF⟩:=P _ (Rd C);obtain⟨x,G⟩:∃x:Nat,nth l k=x:=⟨(nth l k).toNat,o!⟩;rw[G]at r y MF Oo;clear G;have D:x<c.Aa.length:=o!
  obtain⟨B,E,s2,s3,rfl,G1,_,_,_,_,s,_,_⟩:=h.Aa.at_ (i:=x) D;rw[<-m.cell (p:=⟨B,E+x*5+4,none⟩) (R B G1)]at s;rw[<-m.cell (p:=⟨b,o+k,none⟩) (J b I)]at r;have t:=Zd (Q x D);have H:=ch (i:=3) A (v:=.slice (some ⟨B,E,none⟩) c.Aa.length K) rfl;have O:=λp=>Al p r;have N:=λp=>Al p s;have M:=λp=>Al p H;go_wp2;refine Av k! k! ?_
  repeat (first|go_big_quiet_step (fail)|quiet_step (fail))
  refine Z4 ?_;rintro _ ⟨p,rfl⟩;have q:=AE wr p;obtain⟨X,a⟩:=Qnm (calm wr p);rw[<-a]at q⊢;have z:=(q.block _ (Za.1 A).1).trans A;have j:=bU m q;rw[<-q.cell (p:=⟨b,o+k,none⟩) (Zl (J b I) m.size)]at r;clear a O N M H s;by_cases d:(Aj c.Aa x).left=0
  .have T6:((Aj c.Aa x).left==0)=true:=by simpa using d
   have n:=Zd (show F=some (x:Int) by rw[<-u.out,y.out,if_pos (by simp[SU,d])]);clear d;go_wp2;go_ret;exact⟨Bw (by rw[n.out];rfl),j⟩
  have T6:((Aj c.Aa x).left==0)=false:=by simpa using d
  have n:=Zd (show(l.drop (k+1)).find? (SU c)=F by rw[<-u.out,y.out,if_neg (by have:=t.out;simp[SU];omega)]);clear d;go_wp2;go_roundg (l.length - (k+1))
  case rel=>exact⟨k+1,o!,rfl,v!,n.out,j,z⟩
  omega
 have n:=Zd (show F=none by rw[<-u.out,Z7.2 o!];rfl);go_wp2;go_ret;exact⟨Bw (by rw[n.out];rfl),m⟩
def LR2.row {base:Nat}(h:LR2 rb base w v P)(hp:0<P.length):∃g cap,v=.slice (some ⟨g,0,none⟩) P.length cap/\rb<=g/\g<w.heap.size/\(∀i,i<P.length->∃u,w.cell? ⟨g,i,none⟩=some u/\SI (J1 3 base w) w u (BM P i))/\P.length<=cap/\cap<=maxLen:=by
 obtain⟨vals,m,l⟩:=h;rcases m.2 with⟨e,o⟩|⟨g,cap,n,e,k,b,j,f,p,d⟩
 .omega
 refine⟨g,cap,e,k,(Za.1 b).1,λi hi=>?_,j,f⟩;obtain⟨u,a,c⟩:=l i _ (BJ hi);refine⟨u,?_,c⟩;rw[<-d,Z2 o!,Array.getElem?_toList]at a;exact ch b a
def LR2.one {base:Nat}{x:List Int}(b:SI (J1 3 base w) w u x):LR2 w base (w.alloc (.cells #[u] 22)) (.slice w 1 1) [x]:=by
 refine⟨[u],⟨rfl,.inr ⟨w,1,#[u],rfl,Zj _,Bp _ _,Zj _,d!,rfl,rfl⟩⟩,λi y a=>?_⟩
 match i,a with
 |0,a=>cases a;exact⟨_,rfl,Dx (T:=λ_=>False) (Ak.later (bA (Zh _ _))) (λ_ _ x=>x) b⟩
def aib (b:Fq c)(hl:Tc c l):Ev c l=decide (((AB (DS c l)).find? (SU c)).getD (-1)<0):=by
 have a:=MT b (l:=l) (by have:=hl.1;omega);unfold Ev JU;cases h:(AB (DS c l)).find? (SU c) with
 |none=>rfl
 |some x=>
  have:=(a x (List.mem_of_find?_eq_some h)).1;simp;omega
def aeF (a:BN c=0)(hl:Tc c l):Ca c l=0:=by
 unfold Ca;rw[a,iH hl]
 rfl
def LR.mono {base:Nat}(h:LR base w v P)(j:adl<=base):LR adl w v P:=by
 obtain⟨vals,k,l⟩:=h;refine⟨vals,⟨k.1,k.2.imp id λ⟨g,cap,d,e,c,a⟩=>⟨g,cap,d,e,Zr j c,a⟩⟩,λi x hi=>?_⟩;obtain⟨u,c,a⟩:=l i x hi;exact⟨u,c,Sl.imp a (λb f=>⟨⟨Zr j f.1.1,f.1.2⟩,f.2⟩) λ_ _ x=>x⟩
def LR.lr2 {base:Nat}(h:LR base w v P):LR2 base base w v P:=h
def alL (h:RC S w v1 v2 v3 v4 v5 c)(hS:Ql6 S w)(Jz:BN c=0):
  Calls Lp 90 #[.agg #[v1,v2,v3,v4,v5]] w λe w'=>∃a cc,e=.returned (.slice a (LU c).length cc)/\Qb6 w w'/\LR w w' (.slice a (LU c).length cc) (LU c):=by
 obtain⟨a1,c1,a2,c2,a3,c3,a4,c4,a5,c5,rfl,rfl,rfl,rfl,rfl,l1,m1,l2,m2,l3,m3,l4,m4,l5,m5⟩:=h.vs;have IX:=DJ;have J:=EG Jz;have hN:(EH c).length<=125:=by rw[<-ado];exact adf J _
 have U:0<(EH c).length:=by
  have:=Zac (Ev c) (EH c);have h2:0<(LU c).length:=List.length_pos_iff.2 (afa J);unfold LU at h2;omega
 obtain⟨W1,NL⟩:=Qnm (w.alloc (.cells (Qe6 c a1 c1 a2 c2 a3 c3 a4 c4 a5 c5) 26));have Bg:Qb6 w W1:=by rw[NL];exact bA (Zh _ _)
 have lD:W1.heap[w.heap.size]?=some (.cells (Qe6 c a1 c1 a2 c2 a3 c3 a4 c4 a5 c5) 26 (0,0)):=by rw[NL];exact Bp _ _
 have q:=Zd (apa J c.Aa.length (p:=[]) (base:=W1) (h.later Bg) (WC (S:=J1 3 W1 W1) (w:=W1)) (Zj _) i! (A3 hS Bg));rw[ado]at q;have HS:=Zd (λW (z:Qb6 w W)=>(h.later z).imp (T:=λy=>y<W.heap.size) λy hy=>Zl (hS y hy) z.size);have ck:=Zd Jz;have HV:=Zd J;have Z:=Zd (show LU c=(EH c).filter (Ev c) from rfl);have ac:=Zd (λi (hi:i<(EH c).length)=>WV (c:=c) (Z3 (BJ hi)));clear Jz J;obtain⟨L,hL⟩:=Qnm (EH c);rw[<-hL]at q Z ac hN U;clear hL;go_enter Lp.func133,aol;go_wp2;rw[<-NL];clear NL;refine q.out.mono ?_;rintro e I ⟨dl,rfl,Bb,X⟩;obtain⟨g,cap,rfl,tN,lZ,dL,L6,NP⟩:=X.row U;have ci:=Zd dL;have C:=bU Bg Bb;have Ia:=(Bb.block _ (Za.1 lD).1).trans lD;have be:=Bb.size;clear dL X q lD;go_wp2;go_loopg [3,5] L.length (λgg ov iv wr=>∃k:Nat,k<=L.length/\gg=L.length - k/\iv=.int .i64 k/\LR2 I W1 wr ov ((L.take k).filter (Ev c))/\Qb6 I wr)
 case atStart=>exact⟨0,Zp _,rfl,rfl,by rw[ZdB];exact LR2.nil _ _ _,Zh _ _⟩
 obtain⟨k,hk,rfl,rfl,A,G⟩:=hrel;by_cases Az:k<L.length
 .obtain⟨V,hV⟩:=Qnm wr
  subst hV;have n:=ac.out k Az;have s:=Zd (show(L.take (k+1)).filter (Ev c)=(L.take k).filter (Ev c)++ [BM L k].filter (Ev c) by rw[ZbH,BJ Az,ZcW];rfl);obtain⟨u,lH,M⟩:=ci.out k Az;obtain⟨x,hx⟩:=Qnm (BM L k);rw[<-hx]at n M s;clear hx;have H:=aib HV.out n;have ai:=Zd (λW (z:Qb6 I W)=>c95 (HS.out W (bU C z)) (Sl.imp (M.later z) (λb B=>Zl B.1.2 z.size) λ_ _ x=>x) (aeF ck.out n) (λb B=>B));have rU:∀y,y∈AB (DS c x)->0<=y/\y<c.Aa.length:=MT HV.out (l:=x) (by have:=n.1;omega);have xD:=λi hi=>(HV.out.left i hi).1;obtain⟨t,ht⟩:=Qnm (AB (DS c x));rw[<-ht]at ai H rU;clear ht;have am:=Zd (λW (z:Qb6 I W) v {T:Nat->Prop} (ht:SI T W v t) (hT:∀b,T b->b<W.heap.size)=>c94 (HS.out W (bU C z)) ht xD rU (λb B=>B) hT);obtain⟨r,hr⟩:=Qnm ((t.find? (SU c)).getD (-1));rw[<-hr]at am H;have du:=Zd rU;clear hr xD rU;obtain⟨ua,uc,rfl,_⟩:=M.val;have an:((L.take k).filter (Ev c)).length<=125:=by
   have h1:=Zac (Ev c) (L.take k);have h2:=List.length_take_le' k L;omega
  obtain⟨P,Q⟩:=Qnm ((L.take k).filter (Ev c));rw[<-Q]at A s an;clear Q;obtain⟨pa,pc,rfl,_⟩:=A.val;have HP:=Zd A;have HU:=Zd M;have O:=(G.block _ (by have:=(Za.1 Ia).1;omega)).trans Ia;have o:=(G.cell (p:=⟨g,k,none⟩) lZ).trans lH;have N:(k:Int)<(L.length:Int):=o!
  have kq:(0:Int)<=(k:Int):=o!
  obtain⟨z0,z1,z2,z3,z4⟩:=Qz5 O;have z5:=λu=>Al u o;clear A M;go_wp2;refine aci (S:=λW=>∃p,W=calm V p) 9 [] (.one 6 (.one 7 (.one 8 .leaf))) [0,1,2,3,4,5] k! (λ_ _ d _ _ h=>by cases d<;>exact h) k! (AL (Zh _ _).drew) ?_;refine A4 _ _ k! ?_;simp only[Z6,zd,ZG,ZD,ZC]
  repeat (first|go_big_quiet_step (fail)|quiet_step (fail))
  refine Z4 ?_;clear z0 z1 z2 z3 z4 z5;change acs _ _ _ _ _ _ _ _;have Uh:YH V V V.drew:=(Zh _ _).drew;refine acv (f:=54) (args:= #[.agg (Qe6 c a1 c1 a2 c2 a3 c3 a4 c4 a5 c5),.slice ua x.length uc]) rfl rfl g! ((ai.out _ (bU G Uh)).mono ?_);rintro e V1 ⟨v,rfl,b8,me⟩;have D:=bU Uh b8;refine .inl ⟨_,rfl,.inr (AL D),?_⟩;refine acv (f:=122) (args:= #[.agg (Qe6 c a1 c1 a2 c2 a3 c3 a4 c4 a5 c5),v]) rfl rfl g! ((am.out _ (bU G D) v me (λb B=>B.2)).mono ?_);rintro e V2 ⟨rfl,bi⟩;have m:=bU D bi;refine .inl ⟨_,rfl,.inr (AL m),?_⟩;refine acj (v:=.bool (decide (r<0))) (w':=V2) rfl rfl g! (.inr (AL m)) ?_;unfold acs
  go_simp
  have Y:=bU G m;have E:=Zd (HP.out.later m);have ct:=(m.cell (p:=⟨g,k,none⟩) (ZH _ _ o)).trans o;have Hb:SI (J1 3 W1 V2) V2 (.slice ua x.length uc) x:=Dx (T:=λ_=>False) (Ak.later Y) (λ_ _ x=>x) HU.out;have b9:=Zd Hb;clear Hb o O;by_cases tE:r<0
  .have j:Ev c x=true:=by rw[H];exact decide_eq_true tE
   have F:=Zd (show(L.take (k+1)).filter (Ev c)=P++ [x] by rw[s.out,ZbB,if_pos j];rfl);clear H j;go_wp2_with (at_builtin;refine wpList_plain rfl (λK hK=>ad9 (rb:=I) (rb2:=V2) (base:=W1) (P:=P) (R:=[x]) _ _ rfl rfl (E.out.later (bA (Zh _ _))) rfl (LR2.one b9.out) j! (by have:=Y.size;simp;omega) ?_);intro v' V3 ap l9;refine hK _ _ ?_);have Bv:Qb6 I V3:=Bm (bA Y) l9 (λk hk=>E.out.lt k hk) (by have:=Y.size;simp;omega);go_roundg (L.length - (k+1))
   case rel=>exact⟨k+1,Az,rfl,v!,by rw[F.out];exact ap,Bv⟩
   omega
  have j:Ev c x=false:=by rw[H];exact decide_eq_false tE
  have F:=Zd (show(L.take (k+1)).filter (Ev c)=P by rw[s.out,ZbB,if_neg (by rw[j];decide)];exact ZaA _);clear H j;go_wp2;go_roundg (L.length - (k+1))
  case rel=>exact⟨k+1,Az,rfl,v!,by rw[F.out];exact E.out,Y⟩
  omega
 have N:k=L.length:=o!
 rw[N,ZcU, <-Z.out]at A;obtain⟨pa,pc,rfl,_⟩:=A.val;have HP:=Zd A;clear A;go_wp2;go_ret;exact⟨_,_,rfl,bU C G,(HP.out.aaA be).mono Bg.size⟩
def ajM (w:Zb)(P:List (List Int))(e:Int)(b:Ending)(w':Zb):Prop:=∃a cc,b=.returned (.tuple #[.slice a P.length cc,.int .i64 e])/\Qb6 w w'/\SL (Cb w w') w' (.slice a P.length cc) P
def agc {Q:List (List Int)}{a:Option Addr}(e:P=Q)(d:x=y)(c:Qb6 w w')(b:SL (Cb w w') w' (.slice a Q.length cc) Q):ajM w P x (.returned (.tuple #[.slice a Q.length cc,.int .i64 y])) w':=by rw[e,d];exact⟨a,cc,rfl,c,b⟩
def afj:SL S w () []:=⟨none,0,rfl,Zj _,Zp _,λi x a=>by cases a⟩
def adR (n:Int)(p:Int×Int):Iu n p= !AD n p.1 p.2:=by
 unfold Iu AD;by_cases a:p.1<=n
 .by_cases b:n<=p.2
  .simp[a,b,show¬n<p.1 by omega,show¬p.2<n by omega]
  simp[a,b,show p.2<n by omega]
 simp[a,show n<p.1 by omega]
def ajz (hook m b c a:Int):Gu hook m b (c,a)=((decide (0<hook)&& !AD (m - hook - b) c a)|| !AD (m - b) c a):=by
 unfold Gu;rw[adR,adR]
def apn (h:RC S w v1 v2 v3 v4 v5 c)(y:SP T w v6 s)(A:∀b,T b->b<w.heap.size):Calls Lp 42 #[.agg #[v1,v2,v3,v4,v5],v6] w λe w'=>e=.returned (.int .i64 (Fs c.base.length s))/\Qb6 w w':=by
 obtain⟨O,J,N,c2,M,I,L,H,K,G,rfl,rfl,rfl,rfl,rfl,l1,W,l2,V,l3,U,Z,R,Y,Q⟩:=h.vs;obtain⟨a6,c6,rfl,X,P⟩:=y.val;have IX:=DJ;have u:YH w w (w.alloc (.cells (Qe6 c O J N c2 M I L H K G) 26)):=(Zh _ _).alloc (Zj _) _;by_cases v:s.length<c.base.length
 .go_enter Lp.func108,ajT
  go_wp2;go_ret;exact⟨Bw (by rw[Fs,if_pos v]),u⟩
 by_cases C:c.base.length<s.length
 .go_enter Lp.func108,ajT
  go_wp2;go_ret;exact⟨Bw (by rw[Fs,if_neg v,if_pos C]),u⟩
 have q:=Zd (show Fs c.base.length s=Bc (λp=>CV p 0 99) s by rw[Fs,if_neg v,if_neg C]);go_enter Lp.func108,ajT;go_wp2;go_loopg [5] s.length (λg i wr=>∃k:Nat,k<=s.length/\g=s.length - k/\i=.int .i64 k/\Bc (λp=>CV p 0 99) (s.drop k)=Bc (λp=>CV p 0 99) s/\Qb6 w wr)
 case atStart=>exact⟨0,Zp _,rfl,rfl,rfl,u⟩
 obtain⟨k,hk,rfl,rfl,D,a⟩:=hrel;have j:=Zd D;clear D;by_cases E:k<s.length
 .obtain⟨b,o,rfl,z,t,F⟩:=y.at_ E
  rw[<-a.cell (p:=⟨b,o+k*2,none⟩) (A b z)]at t;rw[<-a.cell (p:=⟨b,o+k*2+1,none⟩) (A b z)]at F;have m:=Zd (E_ (f:=λp=>CV p 0 99) (EE E));go_wp2_with (go_at_call 76;refine(adF _ _ _ _).mono ?_;rintro e w' ⟨rfl,rfl⟩)
  .have d:AD (BV s k).1 0 99=true:=by assumption
   go_ret;have l:Bc (λp=>CV p 0 99) s=1:=by rw[<-j.out,m.out,aeH d];rfl
   exact⟨Bw (by rw[q.out,l]),a⟩
  .have d:AD (BV s k).2 0 99=true:=by assumption
   go_ret;have l:Bc (λp=>CV p 0 99) s=1:=by rw[<-j.out,m.out,aeI d];rfl
   exact⟨Bw (by rw[q.out,l]),a⟩
  rename AD (BV s k).2 _ _=false=>x
  rename¬AD (BV s k).1 _ _=true=>d
  have n:=Zd (Bool.eq_false_iff.2 d);have B:=Zd x;clear d x;go_quiet (fail)
  all_goals go_wp2
  .have r:(BV s k).2<(BV s k).1:=by assumption
   go_ret;have l:Bc (λp=>CV p 0 99) s=5:=by rw[<-j.out,m.out,aeJ n.out B.out r];rfl
   exact⟨Bw (by rw[q.out,l]),Y5 a _⟩
  have r:¬(BV s k).2<(BV s k).1:=o!
  go_roundg (s.length - (k+1))
  case rel=>exact⟨k+1,o!,rfl,v!,by rw[<-j.out,m.out,adJ n.out B.out r];rfl,Y5 a _⟩
  omega
 have n:=Zd (show Fs c.base.length s=0 by rw[q.out, <-j.out];exact FZ o!);clear j;go_wp2;go_ret;exact⟨Bw n.out.symm,a⟩
def apo (h:RC S w v1 v2 v3 v4 v5 c)(B:Fq c)(hl:SI S w v6 l)(Jw:Tc c l)(hs:SP T w v7 s)(E:s.length=c.base.length)(il:∀i,i<s.length->0<=(BV s i).1/\(BV s i).1<=99/\0<=(BV s i).2/\(BV s i).2<=99)(Z:Ql6 S w)(hT:∀b,T b->b<w.heap.size):
  Calls Lp 43 #[.agg #[v1,v2,v3,v4,v5],v6,v7] w λe w'=>e=.returned (.bool (BZ c l s))/\Qb6 w w':=by
 have hn:l.length<=c.Aa.length:=by have:=Jw.1;omega
 have hb:∀i,i<l.length->-2<=nth l i/\nth l i<=2:=λi hi=>by have:=Jw.2 i hi;have:=B.step i o!;omega
 have Gv:∀j,-108<=measure c l j/\measure c l j<=108:=Md B hn hb;obtain⟨a1,c1,a2,c2,a3,c3,a4,c4,a5,c5,rfl,rfl,rfl,rfl,rfl,l1,m1,l2,m2,l3,m3,l4,m4,l5,m5⟩:=h.vs;obtain⟨a6,c6,rfl,l6,m6⟩:=hl.val;obtain⟨a7,c7,rfl,l7,m7⟩:=hs.val;have IX:=DJ;obtain⟨W1,NL⟩:=Qnm (w.alloc (.cells (Qe6 c a1 c1 a2 c2 a3 c3 a4 c4 a5 c5) 26));have Bg:Qb6 w W1:=by rw[NL];exact bA (Zh _ _)
 have lD:W1.heap[w.heap.size]?=some (.cells (Qe6 c a1 c1 a2 c2 a3 c3 a4 c4 a5 c5) 26 (0,0)):=by rw[NL];exact Bp _ _
 have N:=Zd (ap8 (h.later Bg) B (hl.later Bg) hn hb (A3 Z Bg));have HG:=Zd (show∀i,i<c.base.length->nth (Cc c l) i=measure c l i from λi hi=>by
  have:=MU (l:=l) hi;simp[nth,Y6,this])
 have NN:(Cc c l).length=c.base.length:=by simp[Cc]
 obtain⟨m,hm⟩:=Qnm (measure c l);have HE:=Zd (show BZ c l s=SV c m 0 (s.drop 0) by rw[hm];rfl);rw[<-hm]at Gv HG;clear hm;have hg:=B.Fp;have be:=Zd B.PN;have ap:=Zd B.hooks;have P:=Zd E;clear E;go_enter Lp.func127,aog;go_wp2;rw[<-NL];clear NL;refine N.out.mono ?_;rintro e W2 ⟨ug,rfl,Bb,n⟩;obtain⟨ga,gc,rfl,_⟩:=n.val;obtain⟨bg,O,am,_,_⟩:=n.at_ (i:=0) (by rw[NN];omega);subst am;have R:=Zd (show∀i,i<c.base.length->W2.cell? ⟨bg,O+i,none⟩=some (.int .i64 (m i)) from λi hi=>by
  obtain⟨b',o',e,_,hc⟩:=n.at_ (i:=i) (by rw[NN];exact hi);cases e;rw[hc,HG.out i hi])
 have q:=bU Bg Bb;have Ia:=(Bb.block _ (Za.1 lD).1).trans lD;rw[NN];clear n NN N HG;go_wp2;go_loopg [8] c.base.length (λg i wr=>∃k:Nat,k<=c.base.length/\g=c.base.length - k/\i=.int .i64 k/\SV c m k (s.drop k)=BZ c l s/\Qb6 W2 wr)
 case atStart=>exact⟨0,Zp _,rfl,rfl,HE.out.symm,Zh _ _⟩
 obtain⟨k,hk,rfl,rfl,CP,hB⟩:=hrel;have hf:=Zd CP;clear CP;by_cases f:k<c.base.length
 .have Az:k<s.length:=by have:=P.out;omega
  have K:=Zd (SW (c:=c) (m:=m) Az);have T5:k<c.Af.length:=by rw[be.out];exact f
  have I:k<c.hooks.length:=by rw[ap.out];exact f
  obtain⟨b7,o7,rfl,U3,p1,p2⟩:=hs.at_ Az;have ai:=bU q hB;rw[<-ai.cell (p:=⟨b7,o7+k*2,none⟩) (hT b7 U3)]at p1;have hE:=B.Af k T5;have hH:=B.hook k I;obtain⟨Xg,Ox,H,G⟩:=il k Az;obtain⟨M,o2,rfl,EC,d1,d2⟩:=h.Af.at_ T5;obtain⟨b3,o3,rfl,Xi,d3⟩:=h.hooks.at_ I;obtain⟨r,F⟩:=Qnm (BV s k);obtain⟨ep,J⟩:∃r,r=BV c.Af k:=⟨_,rfl⟩;obtain⟨hook,bF⟩:∃r,r=nth c.hooks k:=⟨_,rfl⟩;rw[<-F]at p1 p2 Xg Ox H G K;rw[<-J]at d1 d2 hE K;rw[<-bF]at d3 hH K;clear F J bF;obtain⟨lo,hi⟩:=r;obtain⟨d,a⟩:=ep;dsimp only at p1 p2 Xg Ox H G d1 d2 hE;have TB:(k:Int)<(s.length:Int):=o!
  have ct:(k:Int)<(c.base.length:Int):=o!
  have du:(k:Int)<(c.Af.length:Int):=o!
  have dl:(k:Int)<(c.hooks.length:Int):=o!
  obtain⟨Y,hY⟩:=Qnm wr;subst hY;go_wp2;go_loopg [9] ((hi+1 - lo).toNat) (λg i wx=>∃x:Int,0<=x/\x<=100/\g=(hi+1 - x).toNat/\i=.int .i64 x/\NV hook (m k) (d,a) (hi+1 - x).toNat x=F0 hook (m k) (d,a) (lo,hi)/\Qb6 W2 wx)
  case atStart=>exact⟨lo,Xg,o!,rfl,rfl,rfl,hB⟩
  obtain⟨x,Oo,MF,rfl,rfl,xr,U⟩:=hrel;have cK:=Zd xr;clear xr;obtain⟨V,hV⟩:=Qnm wr;subst hV;have t:=bU q U;have bi:=(t.cell (p:=⟨b7,o7+k*2+1,none⟩) (hT b7 U3)).trans p2;by_cases ac:x<=hi
  .have D:=Zd (SX (hook:=hook) (m:=m k) (p:=(d,a)) ac)
   have ck:=Gv k;have L:=(U.block _ (Za.1 Ia).1).trans Ia;have o:=(U.cell (p:=⟨bg,O+k,none⟩) (ZH _ _ (R.out k f))).trans (R.out k f);have A:=ch (i:=1) L (v:=.slice (some ⟨M,o2,none⟩) c.Af.length c2) rfl;have X:=ch (i:=2) L (v:=.slice (some ⟨b3,o3,none⟩) c.hooks.length c3) rfl;have z:=(t.cell (p:=⟨M,o2+k*2,none⟩) (Z M EC)).trans d1;have y:=(t.cell (p:=⟨M,o2+k*2+1,none⟩) (Z M EC)).trans d2;have u:=(t.cell (p:=⟨b3,o3+k,none⟩) (Z b3 Xi)).trans d3;have z1:=λp=>Al p A;have z2:=λp=>Al p X;have z3:=λp=>Al p o;have z4:=λp=>Al p z;have z5:=λp=>Al p y;have z6:=λp=>Al p u;have ci:IntKind.i64.wrap (m k - hook)=m k - hook:=ZcD _ o!;have b9:IntKind.i64.wrap (m k - hook - x)=m k - hook - x:=ZcD _ o!;have b8:IntKind.i64.wrap (m k - x)=m k - x:=ZcD _ o!;have Q2:=Zd (λW=>show Calls Lp 76 #[.int .i64 (m k - x),.int .i64 d,.int .i64 a] W λe w'=>e=.returned (.bool (!AD (m k - x) d a))/\Qb6 W w' from(adF (m k - x) d a W).mono λe w' ⟨h1,h2⟩=>⟨h1,by rw[h2];exact Zh _ _⟩);have Q1:=Zd (λW=>show Calls Lp 76 #[.int .i64 (m k - hook - x),.int .i64 d,.int .i64 a] W λe w'=>e=.returned (.bool (!AD (m k - hook - x) d a))/\Qb6 W w' from(adF (m k - hook - x) d a W).mono λe w' ⟨h1,h2⟩=>⟨h1,by rw[h2];exact Zh _ _⟩);have uw:=ajz hook (m k) x d a;cases M9: !AD (m k - x) d a<;>cases pM:decide (0<hook)<;>cases T6: !AD (m k - hook - x) d a
   all_goals
    rw[M9]at Q2;rw[T6]at Q1;rw[M9,pM,T6]at uw;have Q:=Zd uw;clear T6 M9 uw;go_wp2;refine Av k! k! ?_
    repeat (first|go_big_quiet_step ((go_at_call 76;exact AV (Q2.out _)))|quiet_step ((go_at_call 76;exact AV (Q2.out _))))
    refine Z4 ?_;rintro _ ⟨p,rfl⟩;have C:=AE V p;obtain⟨wy,iq⟩:=Qnm (calm V p);rw[<-iq]at C⊢;clear iq z1 z2 z3 z4 z5 z6;have y1:=λp=>Al p ((C.cell (ZH _ _ A)).trans A);have y2:=λp=>Al p ((C.cell (ZH _ _ X)).trans X);have y3:=λp=>Al p ((C.cell (ZH _ _ o)).trans o);have y4:=λp=>Al p ((C.cell (ZH _ _ z)).trans z);have y5:=λp=>Al p ((C.cell (ZH _ _ y)).trans y);have y6:=λp=>Al p ((C.cell (ZH _ _ u)).trans u);clear A X z y u o;go_wp2;refine Av k! k! ?_
    repeat (first|go_big_quiet_step ((go_at_call 76;exact AV (Q1.out _)))|quiet_step ((go_at_call 76;exact AV (Q1.out _))))
    refine Z4 ?_;rintro _ ⟨p2,rfl⟩;have Jx:=AE wy p2;obtain⟨wz,bG⟩:=Qnm (calm wy p2);rw[<-bG]at Jx⊢;clear bG y1 y2 y3 y4 y5 y6;have O5:=bU U (bU C Jx);go_wp2
    first
     |(go_roundg ((hi+1 - (x+1)).toNat)
       case rel=>exact⟨x+1,o!,o!,rfl,rfl,by rw[<-cK.out,D.out,Q.out];rfl,O5⟩
       case measure=>omega)
     |(go_ret
       exact⟨congrArg (λb=>Zbx (.bool b)) (by rw[<-hf.out,K.out, <-cK.out,D.out,Q.out];rfl),bU q O5⟩)
  have an:=Zd (show F0 hook (m k) (d,a) (lo,hi)=true by rw[<-cK.out];exact U' o!);go_wp2;go_roundg (c.base.length - (k+1))
  case rel=>exact⟨k+1,f,rfl,v!,by rw[<-hf.out,K.out,an.out];rfl,U⟩
  omega
 have HT:=Zd (show BZ c l s=true by rw[<-hf.out,Z7.2 (by have:=P.out;omega)];rfl);go_wp2;go_ret;exact⟨congrArg (λb=>Zbx (.bool b)) HT.out.symm,bU q hB⟩
def apu (h:RC S w v1 v2 v3 v4 v5 c)(hs:SP T w v6 s)(hS:Ql6 S w)(hT:∀b,T b->b<w.heap.size)(Jz:BN c=0)(ER:Fs c.base.length s=0):
  Calls Lp 48 #[.agg #[v1,v2,v3,v4,v5],v6] w λe w'=>∃a cc,e=.returned (.slice a (lF c s).length cc)/\Qb6 w w'/\LR w w' (.slice a (lF c s).length cc) (lF c s):=by
 obtain⟨a1,c1,a2,c2,a3,c3,a4,c4,a5,c5,rfl,rfl,rfl,rfl,rfl,l1,m1,l2,m2,l3,m3,l4,m4,l5,m5⟩:=h.vs;obtain⟨a6,c6,rfl,l6,m6⟩:=hs.val;have IX:=DJ;have hv:=EG Jz;obtain⟨D,il⟩:=Ha ER;have hN:(LU c).length<=125:=by
  have h1:=Zac (Ev c) (EH c);have h2:(EH c).length<=125:=by rw[<-ado];exact adf hv _
  exact Zr h1 h2
 have I:0<(LU c).length:=List.length_pos_iff.2 (afa hv);obtain⟨W1,NL⟩:=Qnm (w.alloc (.cells (Qe6 c a1 c1 a2 c2 a3 c3 a4 c4 a5 c5) 26));have Bg:Qb6 w W1:=by rw[NL];exact bA (Zh _ _)
 have lD:W1.heap[w.heap.size]?=some (.cells (Qe6 c a1 c1 a2 c2 a3 c3 a4 c4 a5 c5) 26 (0,0)):=by rw[NL];exact Bp _ _
 have v:=Zd (alL (h.later Bg) (A3 hS Bg) Jz);have HS:=Zd (λW (j:Qb6 w W)=>(h.later j).imp (T:=λy=>y<W.heap.size) λy hy=>Zl (hS y hy) j.size);have be:=Zd (λW (j:Qb6 w W)=>show SP (λy=>y<W.heap.size) W (.slice a6 s.length c6) s from Sl.imp (hs.later j) (λy hy=>Zl (hT y hy) j.size) λ_ _ x=>x);have HV:=Zd hv;have U:=Zd (ZY D il);have Y:=Zd (show lF c s=(LU c).filter λl=>BZ c l s from rfl);have Z:=Zd (λi (hi:i<(LU c).length)=>WV (show BM (LU c) i∈EH c from(List.mem_filter.1 (Z3 (BJ hi))).1));clear Jz hv ER D il;obtain⟨L,hL⟩:=Qnm (LU c);rw[<-hL]at v Y Z hN I;clear hL;go_enter Lp.func129,aoh;go_wp2;rw[<-NL];clear NL;refine v.out.mono ?_;rintro e O ⟨_,_,rfl,Bb,J⟩;obtain⟨g,cap,e0,tN,lZ,dL,L6,NP⟩:=J.lr2.row I;cases e0;have bi:=Zd dL;have t:=bU Bg Bb;have Ia:=(Bb.block _ (Za.1 lD).1).trans lD;have am:=Bb.size;clear dL J v lD;go_wp2;go_loopg [5,7] L.length (λgg ov iv wr=>∃k:Nat,k<=L.length/\gg=L.length - k/\iv=.int .i64 k/\LR2 O W1 wr ov ((L.take k).filter λl=>BZ c l s)/\Qb6 O wr)
 case atStart=>exact⟨0,Zp _,rfl,rfl,by rw[ZdB];exact LR2.nil _ _ _,Zh _ _⟩
 obtain⟨k,hk,rfl,rfl,q,M⟩:=hrel;by_cases Az:k<L.length
 .obtain⟨V,hV⟩:=Qnm wr
  subst hV;have C:=Z.out k Az;have o:=Zd (show((L.take (k+1)).filter λl=>BZ c l s)=((L.take k).filter λl=>BZ c l s)++ [BM L k].filter λl=>BZ c l s by rw[ZbH,BJ Az,ZcW];rfl);obtain⟨u,lH,B⟩:=bi.out k Az;obtain⟨x,hx⟩:=Qnm (BM L k);rw[<-hx]at C B o;clear hx;have N:=Zd (λW (j:Qb6 O W)=>apo (HS.out W (bU t j)) HV.out (Sl.imp (B.later j) (λb F=>Zl F.1.2 j.size) λ_ _ x=>x) C (be.out W (bU t j)) U.out.1 U.out.2 (λb F=>F) (λb F=>F));obtain⟨r,hr⟩:=Qnm (BZ c x s);have X:=Zd hr;rw[<-hr]at N;clear hr;obtain⟨ua,uc,rfl,_⟩:=B.val;have ac:((L.take k).filter λl=>BZ c l s).length<=125:=by
   have h1:=Zac (λl=>BZ c l s) (L.take k);have h2:=List.length_take_le' k L;omega
  obtain⟨P,H⟩:=Qnm ((L.take k).filter λl=>BZ c l s);rw[<-H]at q o ac;clear H;obtain⟨pa,pc,rfl,_⟩:=q.val;have HP:=Zd q;have HU:=Zd B;have G:=(M.block _ (by have:=(Za.1 Ia).1;omega)).trans Ia;have m:=(M.cell (p:=⟨g,k,none⟩) lZ).trans lH;have E:(k:Int)<(L.length:Int):=o!
  have kq:(0:Int)<=(k:Int):=o!
  obtain⟨z0,z1,z2,z3,z4⟩:=Qz5 G;have z5:=λu=>Al u m;clear q B;go_wp2;refine aci (S:=λW=>∃p,W=calm V p) 7 [] (.one 6 .leaf) [0,1,2,3,4,5] k! (λ_ _ d _ _ h=>by cases d<;>exact h) k! (AL (Zh _ _).drew) ?_;refine A4 _ _ k! ?_;simp only[Z6,zd,ZG,ZD,ZC]
  repeat (first|go_big_quiet_step (fail)|quiet_step (fail))
  refine Z4 ?_;clear z0 z1 z2 z3 z4 z5;change acs _ _ _ _ _ _ _ _;have Uh:YH V V V.drew:=(Zh _ _).drew;refine acv (f:=43) (args:= #[.agg (Qe6 c a1 c1 a2 c2 a3 c3 a4 c4 a5 c5),.slice ua x.length uc,.slice a6 s.length c6]) rfl rfl g! ((N.out _ (bU M Uh)).mono ?_);rintro e V2 ⟨rfl,an⟩;have n:=bU Uh an;refine .inl ⟨_,rfl,.inr (AL n),?_⟩;unfold acs
  go_simp
  have Q:=bU M n;have z:=Zd (HP.out.later n);have b8:=(n.cell (p:=⟨g,k,none⟩) (ZH _ _ m)).trans m;have Hb:SI (J1 3 W1 V2) V2 (.slice ua x.length uc) x:=Dx (T:=λ_=>False) (Ak.later Q) (λ_ _ x=>x) HU.out;have ap:=Zd Hb;clear Hb m G;cases r with
  |true=>
   have A:=Zd (show((L.take (k+1)).filter λl=>BZ c l s)=P++ [x] by rw[o.out,ZbB,if_pos X.out.symm];rfl);go_wp2_with (at_builtin;refine wpList_plain rfl (λK hK=>ad9 (rb:=O) (rb2:=V2) (base:=W1) (P:=P) (R:=[x]) _ _ rfl rfl (z.out.later (bA (Zh _ _))) rfl (LR2.one ap.out) j! (by have:=Q.size;simp;omega) ?_);intro v' V3 ai l9;refine hK _ _ ?_);have Bv:Qb6 O V3:=Bm (bA Q) l9 (λk hk=>z.out.lt k hk) (by have:=Q.size;simp;omega);go_roundg (L.length - (k+1))
   case rel=>exact⟨k+1,Az,rfl,v!,by rw[A.out];exact ai,Bv⟩
   case measure=>omega
  |false=>
   have A:=Zd (show((L.take (k+1)).filter λl=>BZ c l s)=P by rw[o.out,ZbB,if_neg (by rw[<-X.out];decide)];exact ZaA _);go_wp2;go_roundg (L.length - (k+1))
   case rel=>exact⟨k+1,Az,rfl,v!,by rw[A.out];exact z.out,Q⟩
   omega
 have E:k=L.length:=o!
 rw[E,ZcU, <-Y.out]at q;obtain⟨pa,pc,rfl,_⟩:=q.val;have HP:=Zd q;clear q;go_wp2;go_ret;exact⟨_,_,rfl,bU t M,(HP.out.aaA am).mono Bg.size⟩
def ad3 (c:A_)(s:List (Int×Int)):Int:=PM (BN c) (Fs c.base.length s)
def adp (c:A_)(s:List (Int×Int)):List (List Int):=if ad3 c s=0 then lF c s else []
def c65 (h:RC S w v1 v2 v3 v4 v5 c)(n:SP S w v6 s)(l:Ql6 S w):Calls Lp 17 #[.agg #[v1,v2,v3,v4,v5],v6] w (ajM w (adp c s) (ad3 c s)):=by
 obtain⟨J,E,I,c2,H,D,G,C,F,B,rfl,rfl,rfl,rfl,rfl,l1,Y,l2,X,l3,W,l4,V,l5,U⟩:=h.vs;obtain⟨a6,c6,rfl,Z,T⟩:=n.val;obtain⟨W1,m⟩:=Qnm (w.alloc (.cells (Qe6 c J E I c2 H D G C F B) 26));have u:Qb6 w W1:=by rw[m];exact bA (Zh _ _)
 have v:W1.heap[w.heap.size]?=some (.cells (Qe6 c J E I c2 H D G C F B) 26 (0,0)):=by rw[m];exact Bp _ _
 have t:=Zd (c50 (h.later u) (A3 l u));go_enter Lp.func65,n65;go_wp2;rw[<-m];clear m;refine t.out.mono ?_;rintro e W2 ⟨rfl,L⟩;have k:=bU u L;have q:=(L.block _ (Za.1 v).1).trans v;obtain⟨z,k1,k2,y,x⟩:=Qc5 q;by_cases d:BN c=0
 .have p:=Zd (apn (h.later k) (n.later k) (A3 l k))
  have i:=Zd (show ad3 c s=Fs c.base.length s by unfold ad3;rw[d];rfl);have r:=Zd d;rw[d];clear d;go_wp2;refine p.out.mono ?_;rintro e W3 ⟨rfl,K⟩;have f:=bU k K;have O:=(K.block _ (Za.1 q).1).trans q;clear z k1 k2 y x;obtain⟨z,k1,k2,y,x⟩:=Qc5 O;by_cases g:Fs c.base.length s=0
  .have o:=Zd (apu (h.later f) (n.later f) (A3 l f) (A3 l f) r.out g)
   have j:=Zd (show ad3 c s=0 by rw[i.out,g]);have M:=Zd (show adp c s=lF c s from if_pos j.out);rw[g];clear g;go_wp2;refine o.out.mono ?_;rintro e W4 ⟨a,cc,rfl,R,N⟩;go_wp2;go_ret2;exact agc M.out j.out (bU f R) (N.sl.imp λb A=>⟨Zr f.size A.1,A.2⟩)
  have P:(Fs c.base.length s !=0)=true:=by simpa using g
  have j:=Zd (show adp c s=[] from if_neg (by rw[i.out];exact g));clear g;go_wp2;go_ret2;exact agc (Q:=[]) j.out i.out f afj
 have P:(BN c !=0)=true:=by simpa using d
 have i:=Zd (show ad3 c s=BN c from K4 d);have j:=Zd (show adp c s=[] from if_neg (by rw[i.out];exact d));clear d;go_wp2;go_ret2;exact agc (Q:=[]) j.out i.out k afj
def afk (c:A_)(s:List (Int×Int)):List Int:=(acX c (adp c s)).getD []
def am8 (c:A_):Option (List Int)->Int
 |none=>0
 |some l=>(AB (DS c l)).length
def afl (c:A_)(s:List (Int×Int)):Int:=am8 c (acX c (adp c s))
def afm (c:A_)(s:List (Int×Int)):Int:=if ad3 c s=0 then(if adp c s=[] then 11 else 0) else ad3 c s
def am9 (S:Nat->Prop)(w:Zb)(L:List Int)(m x:Int)(e:Ending)(w':Zb):Prop:=Qb6 w w'/\((∃a k,e=.returned (.tuple #[.slice a L.length k,.int .i64 m,.int .i64 x])/\SI (λy=>S y\/Cb w w' y) w' (.slice a L.length k) L)\/∃x,e=.panicked x/\PX x w')
def afn {m:Int}(d:L=[])(b:m=0)(c:x=y)(a:Qb6 w w'):am9 S w L m x (.returned (.tuple #[(),.int .i64 0,.int .i64 y])) w':=by
 rw[d,c,b];exact⟨a,.inl ⟨none,0,rfl,WC⟩⟩
def aeO (h:ad3 c s≠0):afk c s=[]/\afl c s=0/\afm c s=ad3 c s:=by
 have a:adp c s=[]:=if_neg h;unfold afk afl afm;rw[a,if_neg h];exact⟨rfl,rfl,rfl⟩
def apA (h:RC S w v1 v2 v3 v4 v5 c)(p:SP S w v6 s)(r:Ql6 S w):Calls Lp 22 #[.agg #[v1,v2,v3,v4,v5],v6] w (am9 S w (afk c s) (afl c s) (afm c s)):=by
 by_cases f:BN c=0
 .by_cases m:Fs c.base.length s=0
  .refine(c77 h p r f m).mono ?_
   rintro e w' ⟨d,⟨v,rfl,L⟩|K⟩
   .have I:ad3 c s=0:=by unfold ad3;rw[f,m];rfl
    have N:adp c s=lF c s:=if_pos I;unfold afk afl afm;rw[I,N,if_pos rfl];cases q:acX c (lF c s) with
    |none=>
     have:lF c s=[]:=by
      by_cases J:lF c s=[]
      .exact J
      obtain⟨b,H,_⟩:=ahU c J;rw[q]at H;cases H
     rw[if_pos this];exact⟨d,.inl ⟨none,0,rfl,WC⟩⟩
    |some l=>
     obtain⟨a,k,rfl,R⟩:=L l q;have:lF c s≠ []:=λe=>by rw[e]at q;cases q
     rw[if_neg this];exact⟨d,.inl ⟨a,k,rfl,R⟩⟩
   exact⟨d,.inr K⟩
  obtain⟨F,A,E,c2,D,z,C,y,B,x,rfl,rfl,rfl,rfl,rfl,_⟩:=h.vs;obtain⟨P,O,rfl,_⟩:=p.val;have j:YH w w (w.alloc (.cells (Qe6 c F A E c2 D z C y B x) 26)):=bA (Zh _ _);have u:=Zd (λW d=>Wt (w:=W) (h.later d) (A3 r d) f);have Q:=Zd (λW (d:Qb6 w W)=>abe (w:=W) (h.later d) (p.later d) (A3 r d) (Ax c.Aa 0) (Ax c.Aa 1) (Ax c.Aa 2));have hF:ad3 c s=Fs c.base.length s:=by unfold ad3;rw[f];rfl
  obtain⟨o,n,g⟩:=aeO (c:=c) (s:=s) (by rw[hF];exact m);rw[hF]at g;have i:=Zd (ZY o (ZY n g));have M:(Fs c.base.length s !=0)=true:=by simpa using m
  clear f m hF o n g;go_enter Lp.func77,n77;go_wp2_with (first|(go_at_call 44;refine(u.out _ j).mono ?_;rintro e w1 ⟨rfl,G⟩;have t:=j.trans (G.mono j.size))|(go_at_call 39;refine(Q.out _ (bA t)).mono ?_;rintro e w2 ⟨rfl,T⟩))
  go_ret3
  exact afn i.out.1 i.out.2.1 i.out.2.2 (bV (bA t) T)
 obtain⟨F,A,E,c2,D,z,C,y,B,x,rfl,rfl,rfl,rfl,rfl,_⟩:=h.vs;obtain⟨P,O,rfl,_⟩:=p.val;have j:YH w w (w.alloc (.cells (Qe6 c F A E c2 D z C y B x) 26)):=bA (Zh _ _);have u:=Zd (λW d=>c88 (w:=W) (h.later d) (A3 r d));have M:(BN c !=0)=true:=by simpa using f
 have hF:ad3 c s=BN c:=K4 f;obtain⟨o,n,g⟩:=aeO (c:=c) (s:=s) (by rw[hF];exact f);rw[hF]at g;have i:=Zd (ZY o (ZY n g));clear f hF o n g;go_enter Lp.func77,n77;go_wp2_with (first|(go_at_call 44;refine(u.out _ j).mono ?_;rintro e w1 ⟨q1,q2,q3,q4,q5,x1,x2,x3,Z,Y,d1,d2,d3,d4,d5,X,V,U,rfl,G,_⟩))
 go_ret3
 refine afn i.out.1 i.out.2.1 i.out.2.2 ?_;have t:=bV j G
 repeat (with_reducible first|exact t|refine bA ?_)
def aif (w:Zb)(L:List Int)(m x:Int)(e:Ending)(w':Zb):Prop:=∃a k,e=.returned (.tuple #[.slice a L.length k,.int .i64 m,.int .i64 x])/\Qb6 w w'/\SI (Cb w w') w' (.slice a L.length k) L
def aeQ {L':List Int}{m m' x':Int}{a:Option Addr}(f:L=L')(e:m=m')(d:x=x')(c:Qb6 w w')(b:SI (Cb w w') w' (.slice a L'.length k) L'):aif w L m x (.returned (.tuple #[.slice a L'.length k,.int .i64 m',.int .i64 x'])) w':=by
 rw[f,e,d];exact⟨a,k,rfl,c,b⟩
def aih (a:k<P.length)(hi:(k=0/\j=0)\/acX c (P.take k)=some (BM P j)):acX c (P.take (k+1))=some (BM P (if acZ (ade c (BM P k)) (ade c (BM P j))=true then k else j)):=by
 rw[afb c a];rcases hi with⟨rfl,rfl⟩|h
 .rw[ZdB]
  split<;>rfl
 rw[h];unfold aeG;dsimp only;split<;>rfl
def ak5 (h:l∈lF c s):Tc c l:=WV (List.mem_filter.1 (List.mem_filter.1 h).1).1
def ak6 (h:ad3 c s=0):BN c=0/\adp c s=lF c s:=by
 refine⟨?_,if_pos h⟩;by_cases a:BN c=0
 .exact a
 exact absurd ((K4 a:ad3 c s=BN c).symm.trans h) a
def c78 (h:RC S w v1 v2 v3 v4 v5 c)(hs:SP S w v6 s)(hS:Ql6 S w):Calls Lp 23 #[.agg #[v1,v2,v3,v4,v5],v6] w (aif w (afk c s) (afl c s) (afm c s)):=by
 have IX:=DJ;obtain⟨a1,c1,a2,c2,a3,c3,a4,c4,a5,c5,rfl,rfl,rfl,rfl,rfl,l1,m1,l2,m2,l3,m3,l4,m4,l5,m5⟩:=h.vs;obtain⟨a6,c6,rfl,l6,m6⟩:=hs.val;obtain⟨W1,NL⟩:=Qnm (w.alloc (.cells (Qe6 c a1 c1 a2 c2 a3 c3 a4 c4 a5 c5) 26));have Bg:Qb6 w W1:=by rw[NL];exact bA (Zh _ _)
 have lD:W1.heap[w.heap.size]?=some (.cells (Qe6 c a1 c1 a2 c2 a3 c3 a4 c4 a5 c5) 26 (0,0)):=by rw[NL];exact Bp _ _
 have DR:W1=w.heap.size+1:=by rw[NL,ZB]
 have du:=Zd (c65 (h.later Bg) (hs.later Bg) (A3 hS Bg));have ck:=Zd (λhe:ad3 c s≠0=>aeO he);have ci:=Zd (λhe:ad3 c s=0=>ak6 he);have dl:=Zd (show afk c s=(acX c (adp c s)).getD [] from rfl);have ct:=Zd (show afl c s=am8 c (acX c (adp c s)) from rfl);have Y:=Zd (show afm c s=if ad3 c s=0 then(if adp c s=[] then 11 else 0) else ad3 c s from rfl);have lm:=Zd (λl (hl:l∈lF c s)=>ak5 hl);have cA:=Zd (show(lF c s).length<=(EH c).length from Zr (Zac _ _) (Zac _ _));obtain⟨fl,Tq⟩:=Qnm (afk c s);obtain⟨fn,G9⟩:=Qnm (afl c s);obtain⟨fe,yJ⟩:=Qnm (afm c s);obtain⟨P,hP⟩:=Qnm (adp c s);obtain⟨E,hE⟩:=Qnm (ad3 c s);rw[<-Tq, <-G9, <-yJ]at ck;rw[<-Tq, <-G9, <-yJ];rw[<-hE]at du ck ci Y;rw[<-hP]at du ci dl ct Y;rw[<-Tq]at dl;rw[<-G9]at ct;rw[<-yJ]at Y;clear Tq G9 yJ hP hE;go_enter Lp.func78,n78;go_wp2;rw[<-NL];clear NL;refine du.out.mono ?_;rintro e W2 ⟨fa,fc,rfl,Bb,NK⟩;have an:=bU Bg Bb;by_cases ai:E=0
 case neg=>
  have hq:(E !=0)=true:=by simpa using ai
  obtain⟨e1,e2,e3⟩:=ck.out ai;have ip:=Zd e1;have um:=Zd e2;have xq:=Zd e3;clear e1 e2 e3;go_wp2
  go_ret3
  exact aeQ (L':=[]) ip.out um.out xq.out an WC
 obtain⟨Jz,ac⟩:=ci.out ai;subst ai;by_cases fy:P.length=0
 .have fu:P=[]:=List.length_eq_zero_iff.1 fy
  have b9:=Zd fu;have hq:((P.length:Int)==0)=true:=by simpa using fu
  clear fu ac;have ip:=Zd (show fl=[] by rw[dl.out,b9.out];rfl);have um:=Zd (show fn=0 by rw[ct.out,b9.out];rfl);have xq:=Zd (show fe=11 by rw[Y.out,b9.out];rfl);clear b9;go_wp2
  go_ret3
  exact aeQ (L':=[]) ip.out um.out xq.out an WC
 have fw:1<=P.length:=o!
 have hv:=EG Jz;have hN:P.length<=125:=by
  have h2:(EH c).length<=125:=by rw[<-ado];exact adf hv _
  rw[ac];exact Zr cA.out h2
 have ii:=Zd (λi (hi:i<P.length)=>lm.out (BM P i) (ac▸Z3 (BJ hi)));have fK:=Zd (ZY hv.uy (S0 hv hv.now));have HV:=Zd hv;have hq:((P.length:Int)==0)=false:=by simpa using fy
 have ne:=Zd Jz;have kv:=Zd (λi (hi:i<P.length)=>aeF ne.out (ii.out i hi));have X:=Zd (λW (m:Qb6 w W)=>(h.later m).imp (T:=λy=>y<W.heap.size) λy hy=>Zl (hS y hy) m.size);have iD:=Zd NK;have Ia:=(Bb.block _ (Za.1 lD).1).trans lD;have ol:=Bb.size;clear NK hv ac Jz du ck ci fy cA lm lD;go_wp2;go_loopg [9,10] P.length (λgg bv iv wr=>∃k j:Nat,k<=P.length/\gg=P.length - k/\bv=.int .i64 j/\iv=.int .i64 k/\j<P.length/\((k=0/\j=0)\/acX c (P.take k)=some (BM P j))/\Qb6 W2 wr)
 case atStart=>exact⟨0,0,Zp _,rfl,rfl,rfl,fw,.inl ⟨rfl,rfl⟩,Zh _ _⟩
 obtain⟨k,j,hk,rfl,rfl,rfl,hj,fd,K⟩:=hrel;have ap:=Zd fd;clear fd;obtain⟨V,hV⟩:=Qnm wr;subst hV;have I:=(K.block _ (by have:=(Za.1 Ia).1;omega)).trans Ia;have Q:=bU an K;have ka:∀y,Cb W1 W2 y->y<V.heap.size:=λy hy=>Zl hy.2 K.size;obtain⟨kw,oj,ml,mj,jn,lI,N⟩:=iD.out.at_ hj;subst mj;have jt:=(K.cell (p:=⟨kw,oj+j,none⟩) jn.2).trans lI;have B:SI (λy=>y<V.heap.size) V ml (BM P j):=Sl.imp (N.later K) ka λ_ _ x=>x;have H:=kv.out j hj;have mE:=ii.out j hj;have LZ:(j:Int)<(P.length:Int):=o!
 have no:(0:Int)<=(j:Int):=o!
 obtain⟨z0,z1,z2,z3,z4⟩:=Qz5 I;have z5:=λu=>Al u jt;by_cases Z:k<P.length
 .obtain⟨o8,ok,mh,lL,Ga,lG,i6⟩:=iD.out.at_ Z
  cases lL;have jp:=(K.cell (p:=⟨kw,oj+k,none⟩) jn.2).trans lG;have O:SI (λy=>y<V.heap.size) V mh (BM P k):=Sl.imp (i6.later K) ka λ_ _ x=>x;have fi:=kv.out k Z;have Jw:=ii.out k Z;have qO:=Zd (aih Z ap.out);have nm:(k:Int)<(P.length:Int):=o!
  have kq:(0:Int)<=(k:Int):=o!
  have z6:=λu=>Al u jp;obtain⟨x,hx⟩:=Qnm (BM P k);obtain⟨y,hy⟩:=Qnm (BM P j);rw[<-hx]at O fi Jw qO;rw[<-hy]at B H mE qO;clear hx hy i6 N ap;have gn:=Zd (λW (m:Qb6 V W)=>c95 (X.out W (bU Q m)) (Sl.imp (O.later m) (λb g=>Zl g m.size) λ_ _ x=>x) fi (λb g=>g));have J:=Zd (λW (m:Qb6 V W)=>c95 (X.out W (bU Q m)) (Sl.imp (B.later m) (λb g=>Zl g m.size) λ_ _ x=>x) H (λb g=>g));have EC:∀l,Tc c l->∀i,i<l.length->-2<=nth l i/\nth l i<=2:=λl hl i hi=>by have:=hl.2 i hi;have:=HV.out.step i (by have:=hl.1;omega);omega
  have Xi:∀l,Tc c l->l.length<=3/\l.length<=c.now.length:=λl hl=>⟨by have:=hl.1;have:=HV.out.few.2;omega,by have:=hl.1;have:=fK.out.1;omega⟩;have r:=Zd (λW (m:Qb6 V W)=>al6 (X.out W (bU Q m)) (Sl.imp (O.later m) (λb g=>Zl g m.size) λ_ _ x=>x) (λb g=>g) (λb g=>g) (Xi x Jw).1 (Xi x Jw).2 (EC x Jw) λi hi=>fK.out.2 i (by have:=(Xi x Jw).2;omega));have q:=Zd (λW (m:Qb6 V W)=>al6 (X.out W (bU Q m)) (Sl.imp (B.later m) (λb g=>Zl g m.size) λ_ _ x=>x) (λb g=>g) (λb g=>g) (Xi y mE).1 (Xi y mE).2 (EC y mE) λi hi=>fK.out.2 i (by have:=(Xi y mE).2;omega));have iX:=Zd (show ade c x=((AB (DS c x)).length,acL x c.now) from rfl);have iS:=Zd (show ade c y=((AB (DS c y)).length,acL y c.now) from rfl);obtain⟨lK,lJ,rfl,ow,_⟩:=O.val;obtain⟨U,R,rfl,mv,_⟩:=B.val;obtain⟨mt,qN⟩:=Qnm (AB (DS c x));obtain⟨b8,xU⟩:=Qnm (AB (DS c y));rw[<-qN]at gn iX;rw[<-xU]at J iS;obtain⟨dx,i9⟩:=Qnm (acL x c.now);obtain⟨gt,i8⟩:=Qnm (acL y c.now);rw[<-i9]at r iX;rw[<-i8]at q iS;clear qN xU i9 i8 fi H EC Xi O B Jw mE;go_wp2;refine aci (S:=λW=>∃p,W=calm V p) 16 [] (.one 5 (.free 6 (.one 12 (.free 13 (.one 14 (.one 15 .leaf)))))) [0,1,2,3,4,7,8,9,10,11] k! (λ_ _ d _ _ h=>by cases d<;>exact h) k! (AL (Zh _ _).drew) ?_;refine A4 _ _ k! ?_;simp only[Z6,zd,ZG,ZD,ZC]
  repeat (first|go_big_quiet_step (fail)|quiet_step (fail))
  refine Z4 ?_;clear z0 z1 z2 z3 z4 z5 z6;change acs _ _ _ _ _ _ _ _;have Uh:YH V V V.drew:=(Zh _ _).drew;refine acv (f:=54) (args:= #[.agg (Qe6 c a1 c1 a2 c2 a3 c3 a4 c4 a5 c5),.slice lK x.length lJ]) rfl rfl g! ((gn.out _ Uh).mono ?_);rintro e Va ⟨v,rfl,Vn,xf⟩;obtain⟨r1,r2,rfl,_⟩:=xf.val;have gj:=bU Uh Vn;have fI:∃p,Va=calm V p:=AL gj;refine .inl ⟨_,rfl,.inr fI,?_⟩;obtain⟨D,yU⟩:∃D:Int,D=(mt.length:Int):=⟨_,rfl⟩;obtain⟨A,i7⟩:∃A:Int,A=(b8.length:Int):=⟨_,rfl⟩;have io:=Zd yU;have im:=Zd i7;clear yU i7;refine ad7 (v:=.int .i64 D) fI rfl rfl (λw _=>by rw[io.out];go_simp) ?_;refine acv (f:=54) (args:= #[.agg (Qe6 c a1 c1 a2 c2 a3 c3 a4 c4 a5 c5),.slice U y.length R]) rfl rfl g! ((J.out _ gj).mono ?_);rintro e a ⟨v,rfl,am,M⟩;obtain⟨q1,q2,rfl,_⟩:=M.val;have z:=bU gj am;have n:∃p,a=calm V p:=AL z;refine .inl ⟨_,rfl,.inr n,?_⟩;refine ad7 (v:=.int .i64 A) n rfl rfl (λw _=>by rw[im.out];go_simp) ?_;refine acj (v:=.int .i64 D) (w':=a) rfl rfl g! (.inr n) ?_;refine acj (v:=.int .i64 A) (w':=a) rfl rfl g! (.inr n) ?_;unfold acs
  go_simp
  have be:=Zd (show acZ (ade c x) (ade c y)=(decide (D<A)||(decide (D=A)&&decide (dx<gt))) by
   rw[iX.out,iS.out,io.out,im.out,ZcG];unfold acZ;simp only[ZaK,ZF,decide_eq_true_eq];omega)
  clear io im xf M fI n Uh Vn gn J;replace r:=Zd (λW (m:Qb6 a W)=>r.out W (bU z m));replace q:=Zd (λW (m:Qb6 a W)=>q.out W (bU z m));have C:∀ {p:Addr} {v:Zf},V.cell? p=some v->a.cell? p=some v:=λh=>(z.cell (ZH _ _ h)).trans h;have z0:=λu=>Al u (C (ch (i:=0) I (v:=.slice a1 c.base.length c1) rfl));have z1:=λu=>Al u (C (ch (i:=1) I (v:=.slice a2 c.Af.length c2) rfl));have z2:=λu=>Al u (C (ch (i:=2) I (v:=.slice a3 c.hooks.length c3) rfl));have z3:=λu=>Al u (C (ch (i:=3) I (v:=.slice a4 c.Aa.length c4) rfl));have z4:=λu=>Al u (C (ch (i:=4) I (v:=.slice a5 c.now.length c5) rfl));have z5:=λu=>Al u (C jt);have z6:=λu=>Al u (C jp);clear C;by_cases hA:D<A
  .go_wp2
   refine Av k! k! ?_
   repeat (first|go_big_quiet_step ((go_at_call 55;first|with_reducible exact AV (r.out _ (AE _ _))|with_reducible exact AV (q.out _ (AE _ _))))|quiet_step ((go_at_call 55;first|with_reducible exact AV (r.out _ (AE _ _))|with_reducible exact AV (q.out _ (AE _ _)))))
   refine Z4 ?_;rintro _ ⟨p,rfl⟩;have L:=AE a p;obtain⟨YE,o⟩:=Qnm (calm a p);rw[<-o]at L⊢;clear o z0 z1 z2 z3 z4 z5 z6;have F:=bU K (bU z L);have t:acX c (P.take (k+1))=some (BM P k):=by
    have e:=qO.out;rw[be.out,decide_eq_true hA,Bool.true_or,if_pos rfl]at e;exact e
   have G:=Zd t;clear t;go_wp2;go_roundg (P.length - (k+1))
   case rel=>exact⟨k+1,k,Z,rfl,rfl,v!,Z,.inr G.out,F⟩
   omega
  by_cases hQ:D=A
  .subst hQ
   by_cases hD:dx<gt
   .go_wp2
    refine Av k! k! ?_
    repeat (first|go_big_quiet_step ((go_at_call 55;first|with_reducible exact AV (r.out _ (AE _ _))|with_reducible exact AV (q.out _ (AE _ _))))|quiet_step ((go_at_call 55;first|with_reducible exact AV (r.out _ (AE _ _))|with_reducible exact AV (q.out _ (AE _ _)))))
    refine Z4 ?_;rintro _ ⟨p,rfl⟩;have L:=AE a p;obtain⟨YE,o⟩:=Qnm (calm a p);rw[<-o]at L⊢;clear o z0 z1 z2 z3 z4 z5 z6;have F:=bU K (bU z L);have t:acX c (P.take (k+1))=some (BM P k):=by
     have e:=qO.out;rw[be.out,decide_eq_false (show¬D<D by omega),decide_eq_true (p:=True) trivial,decide_eq_true hD,Bool.false_or,Bool.true_and,if_pos rfl]at e;exact e
    have G:=Zd t;clear t;go_wp2;go_roundg (P.length - (k+1))
    case rel=>exact⟨k+1,k,Z,rfl,rfl,v!,Z,.inr G.out,F⟩
    omega
   go_wp2;refine Av k! k! ?_
   repeat (first|go_big_quiet_step ((go_at_call 55;first|with_reducible exact AV (r.out _ (AE _ _))|with_reducible exact AV (q.out _ (AE _ _))))|quiet_step ((go_at_call 55;first|with_reducible exact AV (r.out _ (AE _ _))|with_reducible exact AV (q.out _ (AE _ _)))))
   refine Z4 ?_;rintro _ ⟨p,rfl⟩;have L:=AE a p;obtain⟨YE,o⟩:=Qnm (calm a p);rw[<-o]at L⊢;clear o z0 z1 z2 z3 z4 z5 z6;have F:=bU K (bU z L);have t:acX c (P.take (k+1))=some (BM P j):=by
    have e:=qO.out;rw[be.out,decide_eq_false (show¬D<D by omega),decide_eq_true (p:=True) trivial,decide_eq_false (show¬dx<gt by omega),Bool.false_or,Bool.true_and,if_neg d!]at e;exact e
   have G:=Zd t;clear t;go_wp2;go_roundg (P.length - (k+1))
   case rel=>exact⟨k+1,j,Z,rfl,rfl,v!,hj,.inr G.out,F⟩
   omega
  have n7:(D==A)=false:=by simpa using hQ
  go_wp2;refine Av k! k! ?_
  repeat (first|go_big_quiet_step ((go_at_call 55;first|with_reducible exact AV (r.out _ (AE _ _))|with_reducible exact AV (q.out _ (AE _ _))))|quiet_step ((go_at_call 55;first|with_reducible exact AV (r.out _ (AE _ _))|with_reducible exact AV (q.out _ (AE _ _)))))
  refine Z4 ?_;rintro _ ⟨p,rfl⟩;have L:=AE a p;obtain⟨YE,o⟩:=Qnm (calm a p);rw[<-o]at L⊢;clear o z0 z1 z2 z3 z4 z5 z6;have F:=bU K (bU z L);have t:acX c (P.take (k+1))=some (BM P j):=by
   have e:=qO.out;rw[be.out,decide_eq_false (show¬D<A by omega),decide_eq_false (show¬D=A by omega),Bool.false_or,Bool.false_and,if_neg d!]at e;exact e
  have G:=Zd t;clear t;go_wp2;go_roundg (P.length - (k+1))
  case rel=>exact⟨k+1,j,Z,rfl,rfl,v!,hj,.inr G.out,F⟩
  omega
 have bi:acX c P=some (BM P j):=by
  rcases ap.out with⟨e,_⟩|e
  .omega
  rwa[Zb3 o!]at e
 obtain⟨y,hy⟩:=Qnm (BM P j);rw[<-hy]at B H N bi;have mw:=Zd N;have mz:=Zd (show fl=y by rw[dl.out,bi];rfl);have li:=Zd (show fn=((AB (DS c y)).length:Int) by rw[ct.out,bi];rfl);have my:=Zd (show fe=0 by
  have BL:P≠ []:=λe=>by rw[e]at fw;exact absurd fw d!
  have:=Y.out;simpa[BL]using this)
 clear hy N bi ap;have J:=Zd (λW (m:Qb6 V W)=>c95 (X.out W (bU Q m)) (Sl.imp (B.later m) (λb g=>Zl g m.size) λ_ _ x=>x) H (λb g=>g));obtain⟨U,R,rfl,mv,_⟩:=B.val;obtain⟨b8,xU⟩:=Qnm (AB (DS c y));rw[<-xU]at J li;clear xU H mE B;go_wp2;refine aci (S:=λW=>∃p,W=calm V p) 14 [] (.one 9 (.free 10 (.one 11 (.one 12 (.one 13 .leaf))))) [0,1,2,3,4,5,6,7,8] k! (λ_ _ d _ _ h=>by cases d<;>exact h) k! (AL (Zh _ _).drew) ?_;refine A4 _ _ k! ?_;simp only[Z6,zd,ZG,ZD,ZC]
 repeat (first|go_big_quiet_step (fail)|quiet_step (fail))
 refine Z4 ?_;clear z0 z1 z2 z3 z4 z5;change acs _ _ _ _ _ _ _ _;have Uh:YH V V V.drew:=(Zh _ _).drew;refine acv (f:=54) (args:= #[.agg (Qe6 c a1 c1 a2 c2 a3 c3 a4 c4 a5 c5),.slice U y.length R]) rfl rfl g! ((J.out _ Uh).mono ?_);rintro e a ⟨v,rfl,am,M⟩;obtain⟨q1,q2,rfl,_⟩:=M.val;have z:=bU Uh am;have n:∃p,a=calm V p:=AL z;refine .inl ⟨_,rfl,.inr n,?_⟩;refine ad7 (v:=.int .i64 b8.length) n rfl rfl (λw _=>g!) ?_;refine acj (v:=.slice U y.length R) (w':=a) rfl rfl g! (.inr n) ?_;refine acj (v:=.int .i64 b8.length) (w':=a) rfl rfl g! (.inr n) ?_;refine acj (v:=.int .i64 0) (w':=a) rfl rfl g! (.inr n) ?_;unfold acs
 go_simp
 have fJ:=bU K z;have mx:=Zd (show SI (Cb w a) a (.slice U y.length R) y from Sl.imp (mw.out.later fJ) (λb g=>⟨by have:=g.1;omega,by have:=g.2;have:=fJ.size;omega⟩) λ_ _ x=>x);clear M n Uh am;go_wp2
 go_ret3
 exact aeQ mz.out li.out my.out (bU an fJ) mx.out
def Dis (u v:Zf):Prop:=∀g,u.ownBlock=some g->v.ownBlock=some g->False
def adV {base:Nat}(h:A.ownsRow base e k v n xs):∀g,v.ownBlock=some g->g<A.heap.size:=λg a=>by
 obtain⟨_,b,h⟩:=J3 h g a;exact(Za.1 h).1
def aeS {base n' k':Nat}{e':Zs}{a:List Zf}(h:A.ownsRow base e k v n xs)(c:B.ownsRow A e' k' v' n' a):Dis v v':=λg b d=>by
 have i:=adV h g b;have f:=(J3 c g d).1;omega
variable {args cs:Array Zf}
def acm {base:Nat}(h:A.ownsRow base e k v n xs)(d:Ak (λx=>x=q) A B)(b:A.heap[q]?=some (.cells cs t (0,0)))(c:e≠t):B.ownsRow base e k v n xs:=
 Fc h d λx g a f=>by
  subst f;rw[b]at a;cases a;exact c rfl
def adK {base:Nat}(h:A.ownsRow base e k v n xs)(d:Ak (λx=>u.ownBlock=some x) A B)(a:∀g,u.ownBlock=some g->∃cs,A.heap[g]?=some (.cells cs 55 (0,0)))(c:e≠55):B.ownsRow base e k v n xs:=
 Fc h d λx i b f=>by
  obtain⟨cs,a⟩:=a x f;rw[a]at b;cases b;exact c rfl
def acY {base:Nat}(h:A.ownsRow base e k v n xs)(c:adl<=base):A.ownsRow adl e k v n xs:=by
 refine⟨h.1,?_⟩;rcases h.2 with a|⟨g,cap,b,a,f,d⟩
 .exact .inl a
 exact .inr ⟨g,cap,b,a,Zr c f,d⟩
structure CSp (n M:Nat)(w:Zb)(u1 u2 u3 u4 u5:Zf)(c:A_):Prop where
 base:Own w n u1 c.base
 Af:Ih w n u2 c.Af 73
 hooks:Own w n u3 c.hooks
 now:Own w n u5 c.now
 row:En M w M u4 c.Aa
 le:n<=M
 l1:∀g,u1.ownBlock=some g->g<M
 l2:∀g,u2.ownBlock=some g->g<M
 l3:∀g,u3.ownBlock=some g->g<M
 l5:∀g,u5.ownBlock=some g->g<M
 d13:Dis u1 u3
 d15:Dis u1 u5
 d35:Dis u3 u5
def agV (w:Zb)(c:A_)(e:Ending)(w':Zb):Prop:=∃u1 u2 u3 u4 u5 M,e=.returned (.agg #[u1,u2,u3,u4,u5])/\Qb6 w w'/\CSp w M w' u1 u2 u3 u4 u5 c
def agf {l:List (Int×Int)}(a:news.length=l.length*2)(h:∀i x,l[i]?=some x->(news.drop (i*2)).take 2=[.int .i64 x.1,.int .i64 x.2]):news=l.flatMap λp=> [ZL .i64 p.1,.int .i64 p.2]:=by
 induction l generalizing news with
 |nil=>exact YM (by simpa using a)
 |cons p l c=>
  have b:=h 0 p rfl;rw[Nat.zero_mul,List.drop_zero]at b;rw[List.flatMap_cons, <-b, <-c (news:=news.drop 2) (by rw[List.length_drop,a,zb];omega) λi x d=>by
   rw[List.drop_drop,show 2+i*2=(i+1)*2 by omega];exact h (i+1) x (by simpa using d)]
  exact(List.take_append_drop 2 news).symm
def apQ {l:List (Int×Int)}(h:Sl S Rp 2 w v l)(m:l.length<=1000):Calls Lp 13 #[v] w λe w'=>∃u,e=.returned u/\Qb6 w w'/\Ih w' w u l 73:=by
 obtain⟨a,c,rfl,L,K⟩:=h.val;obtain⟨s,hi,H,J,I⟩:=zp Wu;have t:=Cz Zdg;cases a with
 |none=>
  have y:l=[]:=by
   cases l with
   |nil=>rfl
   |cons x r=>
    obtain⟨N,M,i,_,_,C⟩:=h;cases i;obtain⟨b,o,cs,e,_⟩:=C 0 x rfl;cases e
  subst y;go_enter Lp.func40,n40;go_wp2;go_ret;exact⟨_,rfl,bA (Zh _ _),YC w #[] 0 (Zj _) (Zp _) rfl⟩
 |some p=>
  obtain⟨news,f,g,n⟩:=Sl.row h d! p rfl;have i:=row_one d! f g bC;have F:=Zd n;have D:=Zd g;clear n g;go_enter Lp.func40,n40;go_wp2_with (at_builtin;refine Yc _ rfl _ _ 23 rfl w 73 s (.agg #[.int .i64 0,.int .i64 0]) 2 16 t (Dz hi) H J I rfl d! _ 0 [] rfl (YC w #[] 0 (Zj _) (Zp _) rfl) p l.length c news rfl f (λj u A=>ca (F.out j u A) _) i u! o! i! ?_;intro v' w1 d q G);have B:Qb6 w w1:=Bm (bA (Zh _ _)) q (λk z=>by cases z;exact Zj _) i!;rw[zN,zP]at d;rw[agf f D.out]at d;have E:=Zd d;clear d q G;go_ret;exact⟨_,rfl,B,E.out⟩
structure CRs (w:Zb)(n0 M q:Nat)(xs:Array Zf)(s1 s2 s3 s5:Zf)(c:A_)(k:Nat)(v4:Zf)(wr:Zb):Prop where
 below:Qb6 w wr
 box:wr.heap[w.heap.size]?=some (.cells xs 26 (0,0))
 res:wr.heap[w.heap.size+1]?=some (.cells Qz6 26 (0,0))
 qx:wr.heap[q]?=some (.cells #[s1,s2,s3,v4,s5] 26 (0,0))
 base:Own wr n0 s1 c.base
 Af:Ih wr n0 s2 c.Af 73
 hooks:Own wr n0 s3 c.hooks
 now:Own wr n0 s5 c.now
 row:En M wr M v4 (c.Aa.take k)
 z:M<=wr.heap.size
def apU (h:RC S w v1 v2 v3 v4 v5 c)(hS:Ql6 S w)(ig:c.base.length<=1000)(b9:c.Af.length<=1000)(b8:c.hooks.length<=1000)(Xm:c.Aa.length<=1000)(UO:c.now.length<=1000)(xB:∀i,i<c.Aa.length->(Aj c.Aa i).Ap.length<=1000/\(Aj c.Aa i).over.length<=1000):
  Calls Lp 11 #[.agg #[v1,v2,v3,v4,v5]] w (agV w c):=by
 obtain⟨a1,c1,a2,c2,a3,c3,a4,c4,a5,c5,rfl,rfl,rfl,rfl,rfl,l1,m1,l2,m2,l3,m3,l4,m4,l5,m5⟩:=h.vs;have IX:=DJ;go_enter Lp.func33,n33;go_wp2;obtain⟨z,Hv⟩:=Qnm ((w.alloc (.cells (Qe6 c a1 c1 a2 c2 a3 c3 a4 c4 a5 c5) 26)).alloc (.cells Qz6 26));have R:Qb6 w z:=by rw[Hv];exact bA (bA (Zh _ _))
 have F1:z.heap[w.heap.size]?=some (.cells (Qe6 c a1 c1 a2 c2 a3 c3 a4 c4 a5 c5) 26 (0,0)):=by rw[Hv];exact Bf (Bp _ _) _
 have O9:z.heap[w.heap.size+1]?=some (.cells Qz6 26 (0,0)):=by rw[Hv];exact Jq _ _ _
 rw[<-Hv];clear Hv;have bi:w+1<z.heap.size:=(Za.1 O9).1;refine Code.wp_mono (Q:=λe a' V=>e=.normal/\∃(q:Nat) (p1 p2 E D:Option Addr) (d1 d2 d3 F:Nat) (x5 x6 x7 x8 x9 jX Qj ai MH Lx Ly K0 K1:Zf),a'= {tmps:= #[.agg #[.slice a1 c.base.length c1,.slice a2 c.Af.length c2,.slice a3 c.hooks.length c3,.slice a4 c.Aa.length c4,.slice a5 c.now.length c5],.pointer w,.pointer (w+1:Nat),.pointer q,Ze,x5,x6,x7,x8,x9,jX,Qj,ai,MH,Lx,Ly,K0,K1,Ze,Ze,Ze,Ze,Ze,Ze,Ze,Ze,Ze,Ze,Ze,Ze,Ze,Ze,Ze,Ze,Ze,Ze,Ze],defers:=[]}/\w+1<q/\Qb6 z V/\V.heap[q]?=some (.cells #[.slice p1 c.base.length d1,.slice p2 c.Af.length d2,.slice E c.hooks.length d3,(),.slice D c.now.length F] 26 (0,0))/\Own V z (.slice p1 c.base.length d1) c.base/\Ih V z (.slice p2 c.Af.length d2) c.Af 73/\Own V z (.slice E c.hooks.length d3) c.hooks/\Own V z (.slice D c.now.length F) c.now/\Dis (.slice p1 c.base.length d1) (.slice E c.hooks.length d3)/\Dis (.slice p1 c.base.length d1) (.slice D c.now.length F)/\Dis (.slice E c.hooks.length d3) (.slice D c.now.length F)) ?rest ?first
 case first=>
  have z0:=λp=>Al p (ch (i:=0) F1 (v:=.slice a1 c.base.length c1) rfl);have z1:=λp=>Al p (ch (i:=1) F1 (v:=.slice a2 c.Af.length c2) rfl);have z2:=λp=>Al p (ch (i:=2) F1 (v:=.slice a3 c.hooks.length c3) rfl);have z4:=λp=>Al p (ch (i:=4) F1 (v:=.slice a5 c.now.length c5) rfl);refine G6 (S:=λW=>∃p,W=calm z p) [0,1,3,4,6,7,9,10] 7 #[true,true,false,true,true,false,true,true,false,true,true,false,false,false,false] k! (λ_ _ _ _ _ h=>nomatch h.1) k! (AL (Zh _ _).drew) ?_;refine A4 _ _ k! ?_;simp only[Z6,zd,ZG,ZD,ZC]
  repeat (first|go_big_quiet_step (fail)|quiet_step (fail))
  refine Z4 ?_;clear z0 z1 z2 z4;change Cy _ _ _ _ _ _ _ _ _;obtain⟨V,hV⟩:=Qnm z.drew;have b:Qb6 z V:=by rw[hV];exact(Zh _ _).drew
  rw[<-hV];clear hV;have l:=Yz;have n1:=Yz;have n2:=Yz;have r:=Yz;have s:=Yz;refine AK [2,13] k! i! (Ix ?gA2 ?gB2)
  case' gB2=>
   refine EX (v:=.pointer V) (w':=V.alloc (.cells Qz6 26)) rfl rfl g! ?_;obtain⟨o,m⟩:=Qnm (V.alloc (.cells Qz6 26));have a:Qb6 V o:=by rw[m];exact bA (Zh _ _)
   have l:o.heap[V.heap.size]?=some (.cells Qz6 26 (0,0)):=by rw[m];exact Bp _ _
   have C:=b.size;obtain⟨q,y⟩:=Qnm V.heap.size;rw[<-y]at l C
   try (have n1:=Fu n1 a)
   try (have n2:=Fu n2 a)
   try (have r:=Fu r a)
   try (have s:=Fu s a)
   have b:=b.trans (a.mono b.size);rw[<-m, <-y];refine⟨AL b,?_⟩;clear a y m;obtain⟨V,L⟩:∃P,P=o:=⟨_,rfl⟩;subst L;refine AK [2] k! i! (BF ?_)
  all_goals
   refine DK (f:=12) (args:= #[.slice a1 c.base.length c1]) rfl rfl g! ((WO (h.later (R.trans (b.mono R.size))).base ig).mono ?_);rintro e V ⟨u,rfl,a,t⟩;have n1:=acY t b.size;obtain⟨p1,d1,rfl,_,_⟩:=JS t;clear t
   try (have l:=(a.block _ (Za.1 l).1).trans l)
   try (have n2:=Fu n2 a)
   try (have r:=Fu r a)
   try (have s:=Fu s a)
   have b:=b.trans (a.mono b.size);refine .inl ⟨_,rfl,AL b,?_⟩;clear a
  all_goals first
   |(have kL:=Za.1 l;clear kL;refine AK [5] k! i! (BF ?_))
   |(refine AK [5,13] k! i! (Ix ?gA5 ?gB5)
     case' gB5=>
      refine EX (v:=.pointer V) (w':=V.alloc (.cells Qz6 26)) rfl rfl g! ?_;obtain⟨o,m⟩:=Qnm (V.alloc (.cells Qz6 26));have a:Qb6 V o:=by rw[m];exact bA (Zh _ _)
      have l:o.heap[V.heap.size]?=some (.cells Qz6 26 (0,0)):=by rw[m];exact Bp _ _
      have C:=b.size;obtain⟨q,y⟩:=Qnm V.heap.size;rw[<-y]at l C
      try (have n1:=Fu n1 a)
      try (have n2:=Fu n2 a)
      try (have r:=Fu r a)
      try (have s:=Fu s a)
      have b:=b.trans (a.mono b.size);rw[<-m, <-y];refine⟨AL b,?_⟩;clear a y m;obtain⟨V,L⟩:∃P,P=o:=⟨_,rfl⟩;subst L;refine AK [5] k! i! (BF ?_))
  all_goals
   refine DK (f:=13) (args:= #[.slice a2 c.Af.length c2]) rfl rfl g! ((apQ (h.later (R.trans (b.mono R.size))).Af b9).mono ?_);rintro e V ⟨u,rfl,a,t⟩;have n2:=acY t b.size;obtain⟨p2,d2,rfl,_,_⟩:=JS t;clear t
   try (have l:=(a.block _ (Za.1 l).1).trans l)
   try (have n1:=Fu n1 a)
   try (have r:=Fu r a)
   try (have s:=Fu s a)
   have b:=b.trans (a.mono b.size);refine .inl ⟨_,rfl,AL b,?_⟩;clear a
  all_goals first
   |(have kL:=Za.1 l;clear kL;refine AK [8] k! i! (BF ?_))
   |(refine AK [8,13] k! i! (Ix ?gA8 ?gB8)
     case' gB8=>
      refine EX (v:=.pointer V) (w':=V.alloc (.cells Qz6 26)) rfl rfl g! ?_;obtain⟨o,m⟩:=Qnm (V.alloc (.cells Qz6 26));have a:Qb6 V o:=by rw[m];exact bA (Zh _ _)
      have l:o.heap[V.heap.size]?=some (.cells Qz6 26 (0,0)):=by rw[m];exact Bp _ _
      have C:=b.size;obtain⟨q,y⟩:=Qnm V.heap.size;rw[<-y]at l C
      try (have n1:=Fu n1 a)
      try (have n2:=Fu n2 a)
      try (have r:=Fu r a)
      try (have s:=Fu s a)
      have b:=b.trans (a.mono b.size);rw[<-m, <-y];refine⟨AL b,?_⟩;clear a y m;obtain⟨V,L⟩:∃P,P=o:=⟨_,rfl⟩;subst L;refine AK [8] k! i! (BF ?_))
  all_goals
   refine DK (f:=12) (args:= #[.slice a3 c.hooks.length c3]) rfl rfl g! ((WO (h.later (R.trans (b.mono R.size))).hooks b8).mono ?_);rintro e V ⟨u,rfl,a,t⟩;have r:=acY t b.size;obtain⟨E,d3,rfl,_,_⟩:=JS t;have J:=aeS n1 t;clear t
   try (have l:=(a.block _ (Za.1 l).1).trans l)
   try (have n1:=Fu n1 a)
   try (have n2:=Fu n2 a)
   try (have s:=Fu s a)
   have b:=b.trans (a.mono b.size);refine .inl ⟨_,rfl,AL b,?_⟩;clear a
  all_goals first
   |(have kL:=Za.1 l;clear kL;refine AK [11] k! i! (BF ?_))
   |(refine AK [11,13] k! i! (Ix ?gA11 ?gB11)
     case' gB11=>
      refine EX (v:=.pointer V) (w':=V.alloc (.cells Qz6 26)) rfl rfl g! ?_;obtain⟨o,m⟩:=Qnm (V.alloc (.cells Qz6 26));have a:Qb6 V o:=by rw[m];exact bA (Zh _ _)
      have l:o.heap[V.heap.size]?=some (.cells Qz6 26 (0,0)):=by rw[m];exact Bp _ _
      have C:=b.size;obtain⟨q,y⟩:=Qnm V.heap.size;rw[<-y]at l C
      try (have n1:=Fu n1 a)
      try (have n2:=Fu n2 a)
      try (have r:=Fu r a)
      try (have s:=Fu s a)
      have b:=b.trans (a.mono b.size);rw[<-m, <-y];refine⟨AL b,?_⟩;clear a y m;obtain⟨V,L⟩:∃P,P=o:=⟨_,rfl⟩;subst L;refine AK [11] k! i! (BF ?_))
  all_goals
   refine DK (f:=12) (args:= #[.slice a5 c.now.length c5]) rfl rfl g! ((WO (h.later (R.trans (b.mono R.size))).now UO).mono ?_);rintro e V ⟨u,rfl,a,t⟩;have s:=acY t b.size;obtain⟨D,F,rfl,_,_⟩:=JS t;have I:=aeS n1 t;have H:=aeS r t;clear t
   try (have l:=(a.block _ (Za.1 l).1).trans l)
   try (have n1:=Fu n1 a)
   try (have n2:=Fu n2 a)
   try (have r:=Fu r a)
   have b:=b.trans (a.mono b.size);refine .inl ⟨_,rfl,AL b,?_⟩;clear a
  all_goals first
   |(have kL:=Za.1 l;clear kL;refine AK [12] k! i! (BF ?_)
     refine EX (v:=.agg #[.slice p1 c.base.length d1,.slice p2 c.Af.length d2,.slice E c.hooks.length d3,(),.slice D c.now.length F]) (w':=V) rfl rfl g! ?_;refine⟨AL b,?_⟩)
   |(refine AK [12,13] k! i! (Ix ?gA12 ?gB12)
     case' gB12=>
      refine EX (v:=.pointer V) (w':=V.alloc (.cells Qz6 26)) rfl rfl g! ?_;obtain⟨o,m⟩:=Qnm (V.alloc (.cells Qz6 26));have a:Qb6 V o:=by rw[m];exact bA (Zh _ _)
      have l:o.heap[V.heap.size]?=some (.cells Qz6 26 (0,0)):=by rw[m];exact Bp _ _
      have C:=b.size;obtain⟨q,y⟩:=Qnm V.heap.size;rw[<-y]at l C
      try (have n1:=Fu n1 a)
      try (have n2:=Fu n2 a)
      try (have r:=Fu r a)
      try (have s:=Fu s a)
      have b:=b.trans (a.mono b.size);rw[<-m, <-y];refine⟨AL b,?_⟩;clear a y m;obtain⟨V,L⟩:∃P,P=o:=⟨_,rfl⟩;subst L;refine AK [12] k! i! (BF ?_);refine EX (v:=.agg #[.slice p1 c.base.length d1,.slice p2 c.Af.length d2,.slice E c.hooks.length d3,(),.slice D c.now.length F]) (w':=V) rfl rfl g! ?_;refine⟨AL b,?_⟩
     case' gA12=>
      refine EX (v:=.agg #[.slice p1 c.base.length d1,.slice p2 c.Af.length d2,.slice E c.hooks.length d3,(),.slice D c.now.length F]) (w':=V) rfl rfl g! ?_;refine⟨AL b,?_⟩;refine AK [13] k! i! (BF ?_);refine EX (v:=.pointer V) (w':=V.alloc (.cells Qz6 26)) rfl rfl g! ?_;obtain⟨o,m⟩:=Qnm (V.alloc (.cells Qz6 26));have a:Qb6 V o:=by rw[m];exact bA (Zh _ _)
      have l:o.heap[V.heap.size]?=some (.cells Qz6 26 (0,0)):=by rw[m];exact Bp _ _
      have C:=b.size;obtain⟨q,y⟩:=Qnm V.heap.size;rw[<-y]at l C
      try (have n1:=Fu n1 a)
      try (have n2:=Fu n2 a)
      try (have r:=Fu r a)
      try (have s:=Fu s a)
      have b:=b.trans (a.mono b.size);rw[<-m, <-y];refine⟨AL b,?_⟩;clear a y m;obtain⟨V,L⟩:∃P,P=o:=⟨_,rfl⟩;subst L)
  all_goals
   refine AK [14] k! i! (BF ?_);obtain⟨g0,g1,g2,g3,g4⟩:=Qc5 l;obtain⟨f0,f1,f2,f3,f4⟩:=Qf5 l;obtain⟨o,m⟩:=Qnm (((((V.setCell q (.slice p1 c.base.length d1)).setCell ⟨q,1,none⟩ (.slice p2 c.Af.length d2)).setCell ⟨q,2,none⟩ (.slice E c.hooks.length d3)).setCell ⟨q,3,none⟩ ()).setCell ⟨q,4,none⟩ (.slice D c.now.length F));refine Rj (w':=o) rfl rfl (by rw[m];go_simp) ?_;have am:Qb6 z o:=by rw[m];exact bS (bS (bS (bS (bS b C) C) C) C) C
   have hT:Ak (λx=>x=q) V o:=by rw[m];exact(Ak.refl (λx=>x=q) V).DT.DT.DT.DT.DT
   refine⟨AL am,rfl,?_⟩;exact⟨rfl,q,p1,p2,E,D,d1,d2,d3,F,_,_,_,_,_,_,_,_,_,_,_,_,_,rfl,o!,am,by rw[m];exact Ba (Ba (Ba (Ba (Ba l _) _) _) _) _,acm n1 hT l d!,acm n2 hT l d!,acm r hT l d!,acm s hT l d!,J,I,H⟩
 rintro e a' V ⟨rfl,q,p1,p2,E,D,d1,d2,d3,F,x5,x6,x7,x8,x9,jX,Qj,ai,MH,Lx,Ly,K0,K1,rfl,C,b,l,n1,n2,r,s,J,I,H⟩;obtain⟨M,hM⟩:=Qnm V.heap.size;have fd:z<=M:=by rw[hM];exact b.size
 have L1:=adV n1;have L2:=adV n2;have L3:=adV r;have O:=adV s;rw[<-hM]at L1 L2 L3 O;have HD:=Zd (ZY L1 (ZY L2 (ZY L3 (ZY O (ZY J (ZY I H))))));clear L1 L2 L3 O J I H;have ci:CRs w z M q #[.slice a1 c.base.length c1,.slice a2 c.Af.length c2,.slice a3 c.hooks.length c3,.slice a4 c.Aa.length c4,.slice a5 c.now.length c5] (.slice p1 c.base.length d1) (.slice p2 c.Af.length d2) (.slice E c.hooks.length d3) (.slice D c.now.length F) c 0 () V:=
  ⟨R.trans (b.mono R.size),(b.block _ (Za.1 F1).1).trans F1,(b.block _ bi).trans O9,l,n1,n2,r,s,⟨[],zq _ _ _ _,λi x Z=>by cases Z⟩,ZcS hM⟩
 clear hM b l n1 n2 r s F1 O9 R;dsimp only;go_wp2;go_loopg [4] c.Aa.length (λg i wr=>∃(k:Nat) (v4:Zf),k<=c.Aa.length/\g=c.Aa.length - k/\i=.int .i64 k/\CRs w z M q #[.slice a1 c.base.length c1,.slice a2 c.Af.length c2,.slice a3 c.hooks.length c3,.slice a4 c.Aa.length c4,.slice a5 c.now.length c5] (.slice p1 c.base.length d1) (.slice p2 c.Af.length d2) (.slice E c.hooks.length d3) (.slice D c.now.length F) c k v4 wr)
 case atStart=>exact⟨0,_,Zp _,rfl,rfl,ci⟩
 obtain⟨k,v4,hk,rfl,rfl,n⟩:=hrel;obtain⟨sl,NK⟩:=Qnm (c.Aa.take k);have ac:sl.length=k:=by rw[NK];simp;omega
 have Ci:=n.row;rw[<-NK]at Ci;obtain⟨U,T,rfl,_⟩:=Ci.val;rw[ac]at n Ci;by_cases Az:k<c.Aa.length
 .obtain⟨b4,o4,s2,s3,rfl,UQ,x0,x1,x2,x3,x4,hp,ho⟩:=h.Aa.at_ (i:=k) Az
  have Ga:∀j u,w.cell? ⟨b4,j,none⟩=some u->wr.cell? ⟨b4,j,none⟩=some u:=λj u t=>(n.below.cell (p:=⟨b4,j,none⟩) (hS b4 UQ)).trans t;replace x0:=Ga _ _ x0;replace x1:=Ga _ _ x1;replace x2:=Ga _ _ x2;replace x3:=Ga _ _ x3;replace x4:=Ga _ _ x4;clear Ga;replace hp:=hp.later n.below;replace ho:=ho.later n.below;obtain⟨Oq,Qm⟩:=xB k Az;obtain⟨sm,Qh⟩:=Qnm (Aj c.Aa k);have dl:=Zd (show c.Aa.take (k+1)=sl++ [sm] by rw[NK,Qh,ZbH,Db Az];rfl);rw[<-Qh]at x0 x1 x4 hp ho Oq Qm;clear Qh NK;obtain⟨low,B,Ap,over,left⟩:=sm;dsimp only at x0 x1 x4 hp ho Oq Qm;obtain⟨a6,c6,rfl,l6,m6⟩:=hp.val;obtain⟨a7,c7,rfl,l7,m7⟩:=ho.val;obtain⟨K,Ig⟩:∃K:Nat->Prop,K=λx=>x≠q/\w+1<x:=⟨_,rfl⟩;have LP:∀x,w.heap.size+1<x->x≠q->K x:=λx Z l=>by rw[Ig];exact⟨l,Z⟩
  have qF:¬K w:=by rw[Ig];intro x;omega
  have l_:¬K (w+1):=by rw[Ig];intro x;omega
  have Tg:¬K q:=by rw[Ig];exact λx=>x.1 rfl
  have Qn:¬K b4:=by rw[Ig];intro x;have:=hS b4 UQ;omega
  clear Ig;have z0:=λp:Tw K wr=>p.cell (ch (i:=3) n.box (v:=.slice (some ⟨b4,o4,none⟩) c.Aa.length c4) rfl) qF;have z1:=λp:Tw K wr=>p.cell (ch (i:=3) n.qx (v:=.slice U k T) rfl) Tg;have y0:=λp:Tw K wr=>p.cell x0 Qn;have y1:=λp:Tw K wr=>p.cell x1 Qn;have y2:=λp:Tw K wr=>p.cell x2 Qn;have y3:=λp:Tw K wr=>p.cell x3 Qn;have y4:=λp:Tw K wr=>p.cell x4 Qn;have TB:(k:Int)<(c.Aa.length:Int):=o!
  have fu:(0:Int)<=(k:Int):=o!
  have kD:q<wr:=(Za.1 n.qx).1;have kx:=ch (i:=3) n.box (v:=.slice (some ⟨b4,o4,none⟩) c.Aa.length c4) rfl;have bG:=n.below.size;have DR:w+1<wr.heap.size:=(Za.1 n.res).1;have Rb:M<=wr.heap.size:=n.z;go_wp2;clear kx;refine B0 (S:=λW=>∃p:Tw K wr,W=p.v) [11] [(false,7),(false,8),(false,9),(false,10),(false,11)] [0,1,2,3,4,5,6] k! (λ_ _ d _ _ h=>by cases d<;>exact h) k! (A5 (Ak.later (Zh _ _).drew)) ?_;refine A4 _ _ k! ?_;simp only[Z6,zd,ZG,ZD,ZC]
  repeat (first|go_big_quiet_step (fail)|quiet_step (fail))
  refine Z4 ?_;clear z0 z1 y0 y1 y2 y3 y4 x0 x1 x2 x3 x4;change Dl _ _ _ _ _ _ _;have Uh:YH wr wr wr.drew:=(Zh _ _).drew;refine Dd (f:=33) (args:= #[.agg #[.int .i64 low,.int .i64 B,.slice a6 Ap.length c6,.slice a7 over.length c7,.int .i64 left]]) rfl rfl g! ((aoP (hp.later Uh) (ho.later Uh) Oq Qm).mono ?_);rintro e w1 ⟨u2,u3,rfl,Bg,Hb,Lb⟩;have cu:Qb6 wr w1:=Uh.trans (Bg.mono (Zj _));have Kd:Ak K wr w1:=Ak.later cu;refine⟨_,rfl,.inr (A5 Kd),?_⟩;have Hb:SP (TT wr w1) w1 u2 Ap:=Hb;have Lb:SI (TT wr w1) w1 u3 over:=Own.tt Lb;obtain⟨p6,t6,rfl,_⟩:=Hb.val;obtain⟨p7,t7,rfl,_⟩:=Lb.val;obtain⟨uT,uU⟩:=Qnm (w1.alloc (.cells #[.int .i64 low,.int .i64 B,.slice p6 Ap.length t6,.slice p7 over.length t7,.int .i64 left] 55));have Vn:Qb6 w1 uT:=by rw[uU];exact bA (Zh _ _)
  have Jp:=cu.trans (Vn.mono cu.size);have WQ:Ak K wr uT:=Ak.later Jp;refine JZ (v:=.slice w1 1 1) (w':=uT) rfl rfl (by rw[uU];go_simp) (.inr (A5 WQ)) ?_;obtain⟨vals,AX,DF⟩:=Ci.later Jp;rw[ac]at AX;obtain⟨i0,hi,eL,k9,ct⟩:=zp eI;have ck:=Cz Tryz.underlying24;refine PW rfl rfl ?_;refine Zak _ _ _ 24 rfl M 55 i0 (.agg #[.int .i64 0,.int .i64 0,(),(),.int .i64 0]) 5 72 ck (Dz hi) eL k9 ct rfl d! _ k vals rfl AX w1 1 1 [.int .i64 low,.int .i64 B,.slice p6 Ap.length t6,.slice p7 over.length t7,.int .i64 left] rfl rfl (by rw[uU];exact Hc _ _ _) (by intro u t;simp at t;rcases t with rfl|rfl|rfl|rfl|rfl<;>rfl) u! o! (by have:=Jp.size;omega) ?_;intro v' w2 Cm AG Gc;have Em:∀g,(Zy U k T).ownBlock=some g->M<=g/\∃cs,wr.heap[g]?=some (.cells cs 55 (0,0)):=Ci.own;have Js:Ak (λx=>(Zy U k T).ownBlock=some x) uT w2:=Ak.grown AG λg G=>G;have D3:Ak K wr w2:=WQ.trans (Ak.grown AG λg G=>by
   obtain⟨h1,cs,h2⟩:=Em g G;exact LP g o! (λe=>by subst e;rw[n.qx]at h2;cases h2))
  refine⟨.inr (A5 D3),?_⟩;obtain⟨g',Ey,rfl⟩:=Zay Cm;have Y:=(D3.block q kD Tg).trans n.qx;have f3:=cf (i:=3) Y;have e3:=ch (i:=3) Y (v:=.slice U k T) rfl;refine Dw (v:=.pointer (some ⟨q,3,none⟩)) rfl rfl g! (.inr (A5 D3)) ?_;refine K8 (w':=w2.setCell ⟨q,3,none⟩ (.slice g' (k+1) Ey)) rfl rfl g! (.inl rfl) ?_;have bM:CRs w z M q #[.slice a1 c.base.length c1,.slice a2 c.Af.length c2,.slice a3 c.hooks.length c3,.slice (some ⟨b4,o4,none⟩) c.Aa.length c4,.slice a5 c.now.length c5] (.slice p1 c.base.length d1) (.slice p2 c.Af.length d2) (.slice E c.hooks.length d3) (.slice D c.now.length F) c (k+1) (.slice g' (k+1) Ey) (w2.setCell ⟨q,3,none⟩ (.slice g' (k+1) Ey)):=by
   have Th:Ak (λx=>x=q) w2 (w2.setCell ⟨q,3,none⟩ (.slice g' (k+1) Ey)):=(Ak.refl (λx=>x=q) w2).DT;have ap:∀x,TT M w2 x->¬x=q:=λx Z e=>TT.not (e▸Z) Y ⟨d!,d!,d!⟩;have be:∀ {A:Zb} (hA:∀g cs,wr.heap[g]?=some (Zbi cs 55 (0,0))->A.heap[g]?=some (Zbi cs 55 (0,0))) x,TT M A x->¬(Zy U k T).ownBlock=some x:=λhA x Z e=>by
    obtain⟨_,cs,h2⟩:=Em x e;exact TT.not Z (hA x cs h2) ⟨d!,d!,d!⟩
   have N:Ak (λx=>(Zy U k T).ownBlock=some x) wr w2:=((Ak.later Jp).mono λ_ x=>x).trans Js;have mW:∀g,(Zy U k T).ownBlock=some g->∃cs,wr.heap[g]?=some (.cells cs 55 (0,0)):=λg G=>(Em g G).2;have rK:=be (A:=uT) (λg cs h=>(Jp.block g (Za.1 h).1).trans h);refine⟨?_,?_,?_,Ba Y _,acm (adK n.base N mW d!) Th Y d!,acm (adK n.Af N mW d!) Th Y d!,acm (adK n.hooks N mW d!) Th Y d!,acm (adK n.now N mW d!) Th Y d!,?_,by have:=N.size;simp;omega⟩
   .exact bS ((n.below.trans (Jp.mono n.below.size)).trans (Js.below (λg G=>by have:=(Em g G).1;omega) (by have:=Jp.size;omega))) o!
   .exact(AZ o! _).trans ((D3.block _ o! qF).trans n.box)
   .exact(AZ o! _).trans ((D3.block _ DR l_).trans n.res)
   rw[dl.out];refine En.CN (A:=w2) ?_ Th ap (λg G e=>by
    cases G;subst e;rcases Cm.2 with⟨e,_⟩|⟨g,cap,fi,e,_,h3,_⟩
    .cases e
    cases e;rw[Y]at h3;cases h3)
   rw[show k+1=sl.length+1 by rw[ac]]at*;have xG:Rs (TT M uT) uT [.int .i64 low,.int .i64 B,.slice p6 Ap.length t6,.slice p7 over.length t7,.int .i64 left] ⟨low,B,Ap,over,left⟩:=⟨_,_,rfl,Ug (M6 Hb Vn) Rb,LQ (Ei Lb Vn) Rb⟩;exact En.snoc (λi x hi=>xR (DF i x hi) Js rK) (by have:=AX.1;rw[this,ac]) rfl (xR xG Js rK) Cm
  have du:=Zd bM;clear bM n D3 Js WQ Kd Jp Vn uU Bg cu Hb Lb AX Cm DF AG Gc Em Ci f3 e3 Y hp ho;unfold Dl
  go_simp
  go_wp2;go_roundg (c.Aa.length - (k+1))
  case rel=>exact⟨k+1,_,Az,rfl,v!,du.out⟩
  omega
 have T5:k=c.Aa.length:=o!
 rw[T5,ZcU]at NK;subst NK;subst T5;have kx:=ch (i:=3) n.box (v:=.slice a4 c.Aa.length c4) rfl;obtain⟨s0,s1,s2,s3,s4⟩:=Qc5 n.qx;obtain⟨f0,f1,f2,f3,f4⟩:=Qf5 n.res;obtain⟨r0,r1,r2,r3,r4⟩:=Qc5 n.res;have kD:q<wr:=(Za.1 n.qx).1;have bG:=n.below.size;have DR:w+1<wr.heap.size:=(Za.1 n.res).1;have HC:=Zd n;have HR:=Zd Ci;clear n Ci;go_wp2;refine ZN (v:=.agg #[.slice p1 c.base.length d1,.slice p2 c.Af.length d2,.slice E c.hooks.length d3,.slice U c.Aa.length T,.slice D c.now.length F]) (by rw[A8 rfl];go_simp) rfl ?_;have an:∀X,Qb6 w X->Ak (λx=>x=w.heap.size+1) wr X->agV w c (.returned (.agg #[.slice p1 c.base.length d1,.slice p2 c.Af.length d2,.slice E c.hooks.length d3,.slice U c.Aa.length T,.slice D c.now.length F])) X:=λX Ov Pc=>by
  have hn:∀x,TT M wr x->¬x=w+1:=λx Z e=>by have:=Z.1;omega
  have mM:w<=z.heap.size:=o!
  have G:∀g,(Zy U c.Aa.length T).ownBlock=some g->¬g=w+1:=λg G e=>by have:=(HR.out.own g G).1;omega
  obtain⟨L1,L2,L3,O,J,I,H⟩:=HD.out;exact⟨_,_,_,_,_,M,rfl,Ov,acY (acm HC.out.base Pc HC.out.res d!) mM,acY (acm HC.out.Af Pc HC.out.res d!) mM,acY (acm HC.out.hooks Pc HC.out.res d!) mM,acY (acm HC.out.now Pc HC.out.res d!) mM,HR.out.CN Pc hn G,o!,L1,L2,L3,O,J,I,H⟩
 have Lc:=HC.out.below;refine an _ ?_ ?_
 .repeat (with_reducible first|exact Lc|(refine bS ?_ o!))
 repeat (with_reducible first|exact Ak.refl _ _|(refine Ak.DT ?_))
def CSp.rc {u3:Zf}(h:CSp n M w u1 u2 u3 u4 u5 c):RC (Cb n w) w u1 u2 u3 u4 u5 c:=
 ⟨h.base.si,Sl.imp (h.Af.tt (.inr (.inr rfl))) (λb a=>a.new) λ_ _ x=>x,h.hooks.si,(h.row.ss (Zj _)).imp (λb a=>⟨Zr h.le a.1,a.2⟩) λ_ _ ⟨v2,v3,e,f,d⟩=>⟨v2,v3,e,Sl.imp f (λb a=>⟨Zr h.le a.1,a.2⟩) λ_ _ x=>x,Sl.imp d (λb a=>⟨Zr h.le a.1,a.2⟩) λ_ _ x=>x⟩,h.now.si⟩
def ajB (S:Nat->Prop)(w:Zb)(cs:List Zf)(x:A_):Prop:=∃v1 v2 v3 v4 v5,cs=[v1,v2,v3,v4,v5]/\RC S w v1 v2 v3 v4 v5 x
def ajN (S:Nat->Prop)(w:Zb)(b:Nat)(lv:Zf)(d:Nat)(c:A_)(e:Ending)(w':Zb):Prop:=
 ∃(f a:A_) (q g:Nat),e=.returned (.slice q 4 4)/\B3 b w w'/\BK w' b lv g/\g<=d+2000/\H6 f/\ad8 a/\w<=q/\Sl (λx=>S x\/Cb w w' x) (ajB λx=>S x\/Cb w w' x) 5 w' (.slice q 4 4) [c,f,a,f]
def agh (b:l.Pairwise (· < ·))(a:∀x∈l,0<=x/\x<3):l.length<=3:=(show∀l∈Lj,l.length<=3 by decide) l (EM b a)
def afp (h:BN c=0):∀i,i<c.Aa.length->(Aj c.Aa i).over.length<=3:=λi hi=>by
 have d:=(Bj (Bj h).2).2;have e:=(JQ (Bj (Bj h).2).1).2;have a:=aff (Bj d).1 (Aj c.Aa i) (Z3 (Db hi));exact agh a.1 λx b=>by have:=a.2 x b;omega
def H6.small (h:H6 c):ad8 c:=
 ⟨by have:=h.Fp;omega,by have:=h.PN;have:=h.Fp;omega,by have:=h.hooks;have:=h.Fp;omega,by have:=h.few;omega,by have:=h.now.1;have:=h.few;omega,λi hi=>⟨by have:=(h.seam i hi).few;omega,by have:=afp h.begin i hi;omega⟩⟩
def ain {l:List Ay}{s:Ay}:Aj (l.set k s) j=if j=k/\k<l.length then s else Aj l j:=by
 unfold Aj;by_cases e:j=k
 .subst e
  by_cases a:j<l.length
  .simp[Y6,a]
  simp[Y6,a]
 rw[if_neg (λx=>e x.1),Y6,ZS (λx=>e x.symm),Y6]
def ad8.put {s:Ay}(h:ad8 c)(b:s.Ap.length<=20/\s.over.length<=20):ad8 {c with Aa:=c.Aa.set i s}:=
 ⟨h.base,h.Af,h.hooks,by rw[ZcC];exact h.Aa,h.now,λj a=>by
  rw[ZcC]at a;rw[ain];split
  .exact b
  exact h.part j a⟩
def CSp.CN {u3:Zf}(h:CSp n M A u1 u2 u3 u4 u5 c)(b:Ak T A B)(a:∀x,n<=x->¬T x):CSp n M B u1 u2 u3 u4 u5 c:=
 ⟨CO b a h.base,CO b a h.Af,CO b a h.hooks,CO b a h.now,h.row.CN b (λx d=>a x (Zr h.le d.1)) (λg e=>a g (Zr h.le (h.row.own g e).1)),h.le,h.l1,h.l2,h.l3,h.l5,h.d13,h.d15,h.d35⟩
def CSp.later {u3:Zf}(h:CSp n M A u1 u2 u3 u4 u5 c)(a:Qb6 A B):CSp n M B u1 u2 u3 u4 u5 c:=h.CN (T:=λ_=>False) (Ak.later a) λ_ _ x=>x
def CSp.box {u3:Zf}(h:CSp n M A u1 u2 u3 u4 u5 c)(b:Ak (λx=>x=q) A B)(a:A.heap[q]?=some (.cells cs 26 (0,0))):CSp n M B u1 u2 u3 u4 u5 c:=
 ⟨acm h.base b a d!,acm h.Af b a d!,acm h.hooks b a d!,acm h.now b a d!,h.row.CN b (λx f e=>TT.not (e▸f) a ⟨d!,d!,d!⟩) (λg i e=>by
  obtain⟨_,j,d⟩:=h.row.own g i;subst e;rw[a]at d;cases d),h.le,h.l1,h.l2,h.l3,h.l5,h.d13,h.d15,h.d35⟩
def adj {V:Zb}{v:Nat}{C B A z y p1 p2 l k h t s r q p:Zf}{f co:A_}(E:B3 b w V)(F:BK V b lv v)(J:v<=d+2000)(K:H6 f)(I:ad8 co)
 (H:RC S V C B A z y c) (D:RC (Cb w V) V p1 p2 l k h f) (G:RC (Cb w V) V t s r q p co):
  ajN S w b lv d c (.returned (.slice V 4 4)) (V.alloc (.cells #[C,B,A,z,y,p1,p2,l,k,h,t,s,r,q,p,p1,p2,l,k,h] 26)):=by
 have g:∀o,YH V V (V.alloc o):=λo=>bA (Zh _ _);have m:=E.size;have n:∀o x,Cb w V x->Cb w (V.alloc o) x:=λo x e=>⟨e.1,by rw[ZB];have:=e.2;omega⟩;refine⟨f,co,V,v,rfl,E.below (g _),F.later (g _),J,K,I,m,_,_,rfl,Zj _,d!,λi x e=>?_⟩
 match i,e with
 |0,e=>
  cases e;exact⟨V,0,[C,B,A,z,y],rfl,.inr ⟨m,by rw[ZB];omega⟩,rfl,(λj u a=>by
   match j,a with
   |0,a=>cases a;exact cn _ _ _ rfl
   |1,a=>cases a;exact cn _ _ _ rfl
   |2,a=>cases a;exact cn _ _ _ rfl
   |3,a=>cases a;exact cn _ _ _ rfl
   |4,a=>cases a;exact cn _ _ _ rfl),_,_,_,_,_,rfl,(H.later (g _)).imp λx e=>.inl e⟩
 |1,e=>
  cases e;exact⟨V,0,[p1,p2,l,k,h],rfl,.inr ⟨m,by rw[ZB];omega⟩,rfl,(λj u a=>by
   match j,a with
   |0,a=>cases a;exact cn _ _ _ rfl
   |1,a=>cases a;exact cn _ _ _ rfl
   |2,a=>cases a;exact cn _ _ _ rfl
   |3,a=>cases a;exact cn _ _ _ rfl
   |4,a=>cases a;exact cn _ _ _ rfl),_,_,_,_,_,rfl,(D.later (g _)).imp λx e=>.inr (n _ x e)⟩
 |2,e=>
  cases e;exact⟨V,0,[t,s,r,q,p],rfl,.inr ⟨m,by rw[ZB];omega⟩,rfl,(λj u a=>by
   match j,a with
   |0,a=>cases a;exact cn _ _ _ rfl
   |1,a=>cases a;exact cn _ _ _ rfl
   |2,a=>cases a;exact cn _ _ _ rfl
   |3,a=>cases a;exact cn _ _ _ rfl
   |4,a=>cases a;exact cn _ _ _ rfl),_,_,_,_,_,rfl,(G.later (g _)).imp λx e=>.inr (n _ x e)⟩
 |3,e=>
  cases e;exact⟨V,0,[p1,p2,l,k,h],rfl,.inr ⟨m,by rw[ZB];omega⟩,rfl,(λj u a=>by
   match j,a with
   |0,a=>cases a;exact cn _ _ _ rfl
   |1,a=>cases a;exact cn _ _ _ rfl
   |2,a=>cases a;exact cn _ _ _ rfl
   |3,a=>cases a;exact cn _ _ _ rfl
   |4,a=>cases a;exact cn _ _ _ rfl),_,_,_,_,_,rfl,(D.later (g _)).imp λx e=>.inr (n _ x e)⟩
def c28 (h:RC S w v1 v2 v3 v4 v5 c)(hS:∀x,S x->x<w.heap.size/\x≠b)(hn:SI Sn w lv nums)(E8:∀x,Sn x->x<w.heap.size/\x≠b)(hL:BK w b lv d)(hd:d+5000<4611686018427387904)(Qh:ad8 c):
  Calls Lp 8 #[.agg #[v1,v2,v3,v4,v5],.pointer b] w (ajN S w b lv d c):=by
 obtain⟨a1,c1,a2,c2,a3,c3,a4,c4,a5,c5,rfl,rfl,rfl,rfl,rfl,l1,m1,l2,m2,l3,m3,l4,m4,l5,m5⟩:=h.vs;have IX:=DJ;have GK:b<w:=hL.lt;obtain⟨W1,NL⟩:=Qnm (w.alloc (.cells (Qe6 c a1 c1 a2 c2 a3 c3 a4 c4 a5 c5) 26));have Bg:Qb6 w W1:=by rw[NL];exact bA (Zh _ _)
 have lD:W1.heap[w.heap.size]?=some (.cells (Qe6 c a1 c1 a2 c2 a3 c3 a4 c4 a5 c5) 26 (0,0)):=by rw[NL];exact Bp _ _
 have DR:W1=w.heap.size+1:=by rw[NL,ZB]
 have pp:=Zd (c44 (s:=3) (hn.later Bg) (λx a=>⟨by have:=(E8 x a).1;omega,(E8 x a).2⟩) (hL.later Bg) o! d!);go_enter Lp.func28,n28;go_wp2;rw[<-NL];clear NL;refine pp.out.mono ?_;rintro e W2 ⟨j,u1,u2,u3,u4,u5,d2,rfl,M7,vb,yv,hM,_⟩;obtain⟨p1,e1,p2,e2,p3,e3,p4,e4,p5,e5,rfl,rfl,rfl,rfl,rfl,_⟩:=yv.vs;obtain⟨X2,Ia⟩:=Qnm (W2.alloc (.cells (Qe6 j p1 e1 p2 e2 p3 e3 p4 e4 p5 e5) 26));have mj:Qb6 W2 X2:=by rw[Ia];exact bA (Zh _ _)
 have vF:X2=W2.heap.size+1:=by rw[Ia,ZB]
 have lG:X2.heap[W2.heap.size]?=some (.cells (Qe6 j p1 e1 p2 e2 p3 e3 p4 e4 p5 e5) 26 (0,0)):=by rw[Ia];exact Bp _ _
 have Ot:=M7.Cn;have EB:=Ot.size;have lm:=yv.later mj;have pm:=Ot.below mj;have pi:=pm.at_ lD o!;have t:=hM.small;have pt:=Zd (apU lm (λx a=>by have:=a.2;omega) (by have:=t.base;omega) (by have:=t.Af;omega) (by have:=t.hooks;omega) (by have:=t.Aa;omega) (by have:=t.now;omega) λi hi=>⟨by have:=(t.part i hi).1;omega,by have:=(t.part i hi).2;omega⟩);obtain⟨m,hm⟩:=Qnm W2.heap.size;rw[<-hm]at lG;have t9:W2<=m/\m<=W2.heap.size:=o!
 go_wp2;rw[<-Ia, <-hm];clear Ia hm;refine pt.out.mono ?_;rintro e W3 ⟨q1,q2,q3,q4,q5,M,rfl,Bv,ac⟩;obtain⟨r1,f1,rfl,_⟩:=JS ac.base;obtain⟨r2,f2,rfl,_⟩:=JS ac.Af;obtain⟨r3,f3,rfl,_⟩:=JS ac.hooks;obtain⟨r4,f4,rfl,_⟩:=ac.row.val;obtain⟨r5,f5,rfl,_⟩:=JS ac.now;obtain⟨X3,iz⟩:=Qnm (W3.alloc (.cells (Qe6 j r1 f1 r2 f2 r3 f3 r4 f4 r5 f5) 26));have pd:Qb6 W3 X3:=by rw[iz];exact bA (Zh _ _)
 have vE:X3=W3.heap.size+1:=by rw[iz,ZB]
 have q9:X3.heap[W3.heap.size]?=some (.cells (Qe6 j r1 f1 r2 f2 r3 f3 r4 f4 r5 f5) 26 (0,0)):=by rw[iz];exact Bp _ _
 have so:=Bv.size;have fI:=Bv.trans (pd.mono so);have o9:=pm.below fI;have hC:=ac.later pd;have o8:=(fI.block _ o!).trans lG;have ow:=(fI.block _ o!).trans pi;have ol:=lm.later fI;have kw:=((hn.later Bg).Cn o9 (λx a=>⟨by have:=(E8 x a).1;omega,(E8 x a).2⟩));have rC:=(M7.E4.later mj).later fI;obtain⟨o,ho⟩:=Qnm W3.heap.size;rw[<-ho]at q9;have iG:=Zd (c29 (n:=2) kw (λx a=>⟨by have:=(E8 x a).1;omega,(E8 x a).2⟩) rC o! d!);have nF:W3<=o/\o<=W3.heap.size:=o!
 go_wp2;rw[<-iz, <-ho];clear iz ho;refine iG.out.mono ?_;rintro e y ⟨r,d4,rfl,hr,S5,fi,ut⟩;have Ox:r<=2:=hr;have fC:Ak (λx=>x=b) X3 y:=S5.CN rfl;have R:=hC.CN fC (λx a e=>o!);have ii:=S5.at_ q9 o!;have gt:=S5.at_ o8 o!;have ap:=S5.at_ ow o!;have fw:=ol.Ar (S5.same λx a=>by have:=a.1;omega);have Z:B3 b w y:=by
  have hh:B3 b W1 y:=o9.trans S5;exact⟨hh.os.trans Bg.os,hh.tape.trans Bg.tape,hh.output.trans Bg.output,Zr Bg.size hh.size,λk hk G=>(hh.block k o! G).trans (Bg.block k hk)⟩
 have tn:=Z.size;have V:=h.Ar (Z.same λx a=>(hS x a).2);have vz:=S5.size;have x1:w<m:=o!
 have x2:m<o:=o!
 have x3:o<y:=o!
 clear pp pt iG lD pi lG o8 ow q9 lm ol ac hC yv M7;obtain rfl|rfl|rfl:r=0\/r=1\/r=2:=o!
 .have s8:=Zd (WO V.now (by have:=Qh.now;omega))
  have rq:=ch (i:=4) ap rfl;go_wp2;refine s8.out.mono ?_;rintro e W5 ⟨u,rfl,Cj,n7⟩;obtain⟨t5,s5,rfl,_⟩:=JS n7;have p9:=Cj.size;have fJ:=(Cj.block _ x3).trans ii;obtain⟨B,dl⟩:=Qnm (W5.setCell ⟨o,4,none⟩ (.slice t5 c.now.length s5));have A:Ak (λx=>x=o) W5 B:=by rw[dl];exact(Ak.refl (λx=>x=o) W5).DT
  have an:B.heap[o]?=some (.cells #[.slice r1 j.base.length f1,.slice r2 j.Af.length f2,.slice r3 j.hooks.length f3,.slice r4 j.Aa.length f4,.slice t5 c.now.length s5] 26 (0,0)):=by rw[dl];exact Ba fJ _
  have sr:=(Cj.block _ o!).trans ap;have sq:=(Cj.block _ o!).trans gt;obtain⟨jp,b9,jn,b8,i9⟩:=Qc5 sr;obtain⟨i8,i7,i6,iX,iS⟩:=Qc5 sq;obtain⟨ip,bi,io,be,im⟩:=Qc5 fJ;have vd:=cf (i:=4) fJ;have n1:¬w.heap.size=o:=o!
  have n2:¬m=o:=o!
  clear rq;have X:B3 b w B:=by
   have P:=Z.below Cj;exact⟨A.os.trans P.os,A.tape.trans P.tape,A.output.trans P.output,Zr P.size A.size,λk hk G=>(A.block k (by have:=P.size;omega) o!).trans (P.block k hk G)⟩
  have mw:=A.size;have ai:BK B b lv d4:=by
   obtain⟨st,B_⟩:=fi.later Cj;exact⟨st,(A.block b o! o!).trans B_⟩
  have g1:=(V.later Cj).Ar (A.same λx a=>show¬x=o by have:=hS x a;omega);have g2:=((fw.later Cj).Ar (A.same λx a=>show¬x=o by have:=a.2;omega)).imp (T:=Cb w B) λx a=>⟨by have:=a.1;omega,by have:=a.2;omega⟩;have g3:=(((R.later Cj).box A fJ).rc).imp (T:=Cb w B) λx a=>⟨by have:=a.1;omega,a.2⟩;have g4:SI (Cb w B) B (.slice t5 c.now.length s5) c.now:=Sl.imp (Own.si (acm n7 A fJ d!)) (λx a=>⟨by have:=a.1;omega,a.2⟩) λ_ _ x=>x;have I:=adj (d:=d) X ai o! hM (co:= {j with now:=c.now}) ⟨t.base,t.Af,t.hooks,t.Aa,Qh.now,t.part⟩ g1 g2 ⟨g3.base,g3.Af,g3.hooks,g3.Aa,g4⟩;clear g1 g2 g3 g4 X ai;have mz:B=W5.heap.size:=by rw[dl];simp
  rw[mz]at I;clear mz;go_wp2;rw[<-dl];clear dl;go_ret;exact I
 .have ml:=adj (d:=d) Z fi o! hM t V (fw.imp (T:=Cb w y) λx a=>⟨by have:=a.1;omega,by have:=a.2;omega⟩) (R.rc.imp (T:=Cb w y) λx a=>⟨by have:=a.1;omega,a.2⟩)
  obtain⟨jp,b9,jn,b8,i9⟩:=Qc5 ap;obtain⟨i8,i7,i6,iX,iS⟩:=Qc5 gt;obtain⟨ip,bi,io,be,im⟩:=Qc5 ii;by_cases h0:c.Aa.length=0
  .have hh:¬0<(c.Aa.length:Int):=by omega
   clear h0;go_wp2;go_ret;exact ml
  have hh:0<(c.Aa.length:Int):=o!
  go_wp2;obtain⟨g,eg⟩:∃g,r4=some ⟨g,0,none⟩:=by
   obtain⟨vals,h1,_⟩:=R.row;rcases h1.2 with⟨e,h2⟩|⟨g,cap,D,e,_⟩
   .have:=hM.few
    omega
   cases e;exact⟨g,rfl⟩
  subst eg;obtain⟨U,o4,v2,v3,ea,UQ,x0,x1,ka,jt,x4,hp,rH⟩:=V.Aa.at_ (i:=0) o!;subst ea;obtain⟨a6,c6,rfl,l6,m6⟩:=hp.val;obtain⟨a7,c7,rfl,l7,m7⟩:=rH.val;have fy:=Qh.part 0 o!;obtain⟨sm,am⟩:=Qnm (Aj c.Aa 0);have vG:=Zd am;rw[<-am]at x0 x1 ka jt x4 hp rH fy l6 l7;rw[Nat.zero_mul,Nat.add_zero]at x0 x1 ka jt x4;clear am;obtain⟨low,z,Ap,F,left⟩:=sm;dsimp only at x0 x1 ka jt x4 hp rH fy l6 l7;obtain⟨K,Ig⟩:∃K:Nat->Prop,K=λx=>x=b\/y<=x:=⟨_,rfl⟩;have fh:K b:=by rw[Ig];exact .inl rfl
  have LP:∀x,y.heap.size<=x->K x:=λx a=>by rw[Ig];exact .inr a
  have qF:∀x,x<y.heap.size->x≠b->¬K x:=λx h1 h2=>by rw[Ig];exact λe=>e.elim h2 o!
  clear Ig;have mi:=hS U UQ;have z0:=λp:Tw K y=>p.cell be (qF _ (by show o<_;omega) (by show o≠b;omega));have z1:=λp:Tw K y=>p.cell b8 (qF _ (by show w.heap.size<_;omega) (by show w≠b;omega));have z2:=λp:Tw K y=>p.cell x0 (qF _ (by show U<_;omega) (by show U≠b;omega));have z3:=λp:Tw K y=>p.cell x1 (qF _ (by show U<_;omega) (by show U≠b;omega));have z4:=λp:Tw K y=>p.cell ka (qF _ (by show U<_;omega) (by show U≠b;omega));have z5:=λp:Tw K y=>p.cell jt (qF _ (by show U<_;omega) (by show U≠b;omega));have z6:=λp:Tw K y=>p.cell x4 (qF _ (by show U<_;omega) (by show U≠b;omega));have Qu:IntKind.i64.wrap ((j.Aa.length:Int) - 1)=(j.Aa.length:Int) - 1:=by rw[zE];have:=hM.few;omega
  refine B0 (S:=λW=>∃p:Tw K y,W=p.v) [14] [(false,5),(false,6),(false,7),(false,12),(false,13),(false,14)] [0,1,2,3,4,8,9,10,11] k! (λ_ _ d _ _ h=>by cases d<;>exact h) k! (A5 (Ak.later (Zh _ _).drew)) ?_;refine A4 _ _ k! ?_;simp only[Z6,zd,ZG,ZD,ZC]
  repeat (first|go_big_quiet_step (fail)|quiet_step (fail))
  refine Z4 ?_;clear z0 z1 z2 z3 z4 z5 z6;change Dl _ _ _ _ _ _ _;have Uh:YH y y y.drew:=(Zh _ _).drew;have du:Ak K y y.drew:=Ak.later Uh;refine Dw (v:=.int .i64 j.Aa.length) rfl rfl g! (.inr (A5 du)) ?_;refine Dw (v:=.int .i64 ((j.Aa.length:Int) - 1)) rfl rfl g! (.inr (A5 du)) ?_;refine Dd (f:=32) (args:= #[.pointer b,.int .i64 ((j.Aa.length:Int) - 1)]) rfl rfl g! ((c29 ((kw.Cn S5 (λx a=>⟨by have:=(E8 x a).1;omega,(E8 x a).2⟩)).later Uh) (λx a=>⟨by have:=(E8 x a).1;simp;omega,(E8 x a).2⟩) (fi.later Uh) o! (by have:=hM.few;omega)).mono ?_);rintro e W5 ⟨C,d5,rfl,rr,P,xZ,rx⟩;have L:B3 b y W5:=by
   exact⟨P.os,P.tape,P.output,P.size,λk hk G=>P.block k hk G⟩
  have nm:Ak K y W5:=L.CN fh;refine⟨_,rfl,.inr (A5 nm),?_⟩;have mh:C<j.Aa.length:=by have:=hM.few;omega
  have p9:=L.size;refine Dd (f:=33) (args:= #[.agg #[.int .i64 low,.int .i64 z,.slice a6 Ap.length c6,.slice a7 F.length c7,.int .i64 left]]) rfl rfl g! ((aoP (hp.Ar (L.same λx a=>(hS x a).2)) (rH.Ar (L.same λx a=>(hS x a).2)) (by have:=fy.1;omega) (by have:=fy.2;omega)).mono ?_);rintro e B ⟨u2,u3,rfl,DM,Hb,Lb⟩;have A:Ak K y B:=nm.trans (Ak.later DM);refine⟨_,rfl,.inr (A5 A),?_⟩;have Lb:SI (TT W5 B) B u3 F:=Own.tt Lb;obtain⟨p6,t6,rfl,_⟩:=Hb.val;obtain⟨p7,t7,rfl,_⟩:=Lb.val;have mw:=DM.size;have J:=(R.CN (L.CN (K:=λx=>x=b) rfl) (λx a e=>o!)).later DM;have an:=(DM.block _ o!).trans (L.at_ ii o!);have lL:=(DM.block _ o!).trans (L.at_ gt o!);have lK:=(DM.block _ o!).trans (L.at_ ap o!);have X:=L.below DM;have lJ:=fw.Ar (X.same λx a=>by have:=a.1;omega);have lI:=V.Ar (X.same λx a=>(hS x a).2);have ai:=xZ.later DM;have E:B3 b w B:=Z.trans X;obtain⟨D,q,Q⟩:∃D,B.heap[g]?=some (.cells D 55 (0,0))/\∀k,k<5->∃v,D[C*5+k]?=some v:=by
   obtain⟨vals,h1,_⟩:=J.row;rcases h1.2 with⟨e,_⟩|⟨g',cap,D,e,g3,g4,g5,g6,g7,_⟩
   .cases e
   cases e;exact⟨D,g4,λk hk=>⟨_,Zx (by rw[g7];omega)⟩⟩
  obtain⟨w0,ck⟩:=Q 0 d!;obtain⟨w1,lX⟩:=Q 1 d!;obtain⟨w2,nj⟩:=Q 2 d!;obtain⟨w3,mx⟩:=Q 3 d!;obtain⟨w4,xX⟩:=Q 4 d!;have q0:=ch q ck;have q1:=ch q lX;have q2:=ch q nj;have q3:=ch q mx;have q4:=ch q xX;have ci:=cf (i:=C*5+0) q;have kv:=cf (i:=C*5+1) q;have rg:=cf (i:=C*5+2) q;have re:=cf (i:=C*5+3) q;have pu:=cf (i:=C*5+4) q;rw[Nat.add_zero]at q0 ci;obtain⟨O,H⟩:=Qnm (((((B.setCell ⟨g,C*5,none⟩ (.int .i64 low)).setCell ⟨g,C*5+1,none⟩ (.int .i64 z)).setCell ⟨g,C*5+2,none⟩ (.slice p6 Ap.length t6)).setCell ⟨g,C*5+3,none⟩ (.slice p7 F.length t7)).setCell ⟨g,C*5+4,none⟩ (.int .i64 left));have se:(C:Int)<(j.Aa.length:Int):=o!
  have rE:(0:Int)<=(C:Int):=o!
  refine Dw (v:=.pointer (some ⟨g,C*5,none⟩)) rfl rfl g! (.inr (A5 A)) ?_;refine K8 (w':=O) rfl rfl (by rw[H];go_simp) (.inl rfl) ?_;have l:Ak (λx=>x=g) B O:=by rw[H];exact(Ak.refl (λx=>x=g) B).DT.DT.DT.DT.DT
  have ru:=(J.row.own g rfl).1;have vy:=J.le;have ct:∀x,x<X2.heap.size->¬x=g:=λx a e=>o!
  have li:¬o=g:=λe=>by subst e;rw[an]at q;cases q
  have vx:g<y:=by
   obtain⟨_,cs,h⟩:=R.row.own g rfl;exact(Za.1 h).1
  have no:Rs (TT M B) B [.int .i64 low,.int .i64 z,.slice p6 Ap.length t6,.slice p7 F.length t7,.int .i64 left] ⟨low,z,Ap,F,left⟩:=⟨_,_,rfl,Sl.imp Hb (λx a=>⟨by have:=a.1;omega,a.2⟩) (λ_ _ x=>x),Sl.imp Lb (λx a=>⟨by have:=a.1;omega,a.2⟩) λ_ _ x=>x⟩;have N:=En.put (s:=⟨low,z,Ap,F,left⟩) J.row mh no;dsimp only at N;rw[<-H]at N;have Y:O=B.heap.size:=by rw[H];simp
  have fu:B3 b w O:=by
   exact⟨l.os.trans E.os,l.tape.trans E.tape,l.output.trans E.output,Zr E.size l.size,λk hk G=>(l.block k (by have:=E.size;omega) o!).trans (E.block k hk G)⟩
  have fd:BK O b lv d5:=by
   obtain⟨st,B_⟩:=ai;exact⟨st,(l.block b o! o!).trans B_⟩
  have U3:∀ {v:Zf} {e:Zs} {k n:Nat} {xs:List Zf} {base:Nat},B.ownsRow base e k v n xs->e≠55->O.ownsRow base e k v n xs:=λh he=>acm h l q he;have g1:=lI.Ar (l.same λx a=>show¬x=g by have:=hS x a;omega);have g2:=(lJ.Ar (l.same λx a=>show¬x=g by have:=a.2;omega)).imp (T:=Cb w O) λx a=>⟨by have:=a.1;omega,by have:=a.2;omega⟩;have g3:RC (Cb w O) O (.slice r1 j.base.length f1) (.slice r2 j.Af.length f2) (.slice r3 j.hooks.length f3) (.slice g j.Aa.length f4) (.slice r5 j.now.length f5) {j with Aa:=j.Aa.set C ⟨low,z,Ap,F,left⟩}:=
   ⟨Sl.imp (Own.si (U3 J.base d!)) (λx a=>⟨by have:=a.1;omega,a.2⟩) (λ_ _ x=>x),Sl.imp (Ih.tt (U3 J.Af d!) (.inr (.inr rfl))) (λx a=>⟨by have:=a.1;omega,a.lt⟩) (λ_ _ x=>x),Sl.imp (Own.si (U3 J.hooks d!)) (λx a=>⟨by have:=a.1;omega,a.2⟩) (λ_ _ x=>x),(N.ss (Zj _)).imp (λx a=>⟨by have:=a.1;omega,a.2⟩) (λ_ _ ⟨v2,v3,e,h2,h3⟩=>⟨v2,v3,e,Sl.imp h2 (λx a=>⟨by have:=a.1;omega,a.2⟩) λ_ _ x=>x,Sl.imp h3 (λx a=>⟨by have:=a.1;omega,a.2⟩) λ_ _ x=>x⟩),Sl.imp (Own.si (U3 J.now d!)) (λx a=>⟨by have:=a.1;omega,a.2⟩) (λ_ _ x=>x)⟩
  have I:=adj (d:=d) fu fd o! hM (co:= {j with Aa:=j.Aa.set C ⟨low,z,Ap,F,left⟩}) (t.put fy) g1 g2 g3;rw[Y]at I;have gn:=(l.block o o! li).trans an;have gj:=(l.block m o! (ct m o!)).trans lL;have fK:=(l.block w o! (ct _ o!)).trans lK;obtain⟨jp,b9,jn,b8,i9⟩:=Qc5 fK;obtain⟨i8,i7,i6,iX,iS⟩:=Qc5 gj;obtain⟨ip,bi,io,be,im⟩:=Qc5 gn;have mt:=Zd I;have mv:=Zd Y;clear H I g1 g2 g3 U3 N no l gn gj fK q0 q1 q2 q3 q4 ci kv rg re pu ck lX nj mx xX Y fd fu;unfold Dl
  go_simp
  go_wp2;rw[mv.out];go_ret;exact mt.out
 have ml:=adj (d:=d) Z fi o! hM t V (fw.imp (T:=Cb w y) λx a=>⟨by have:=a.1;omega,by have:=a.2;omega⟩) (R.rc.imp (T:=Cb w y) λx a=>⟨by have:=a.1;omega,a.2⟩);obtain⟨jp,b9,jn,b8,i9⟩:=Qc5 ap;obtain⟨i8,i7,i6,iX,iS⟩:=Qc5 gt;obtain⟨ip,bi,io,be,im⟩:=Qc5 ii;by_cases h0:c.Af.length=0
 .have hh:¬0<(c.Af.length:Int):=by omega
  clear h0;go_wp2;go_ret;exact ml
 have hh:0<(c.Af.length:Int):=o!
 go_wp2;have ne:j.Af.length=j.base.length:=hM.PN;have wd:=Zd ne;have vi:1<=j.Af.length/\j.Af.length<=3:=by have:=hM.Fp;omega
 clear ne;obtain⟨g,eg⟩:∃g,r2=some ⟨g,0,none⟩:=by
  rcases R.Af.2 with⟨e,h2⟩|⟨g,cap,D,e,_⟩
  .omega
  cases e;exact⟨g,rfl⟩
 subst eg;obtain⟨U,o4,ea,UQ,x0,x1⟩:=V.Af.at_ (i:=0) o!;subst ea;obtain⟨sm,am⟩:=Qnm (BV c.Af 0);rw[<-am]at x0 x1;rw[Nat.zero_mul,Nat.add_zero]at x0 x1;clear am;obtain⟨low,z⟩:=sm;dsimp only at x0 x1;obtain⟨K,Ig⟩:∃K:Nat->Prop,K=λx=>x=b\/y<=x:=⟨_,rfl⟩;have fh:K b:=by rw[Ig];exact .inl rfl
 have LP:∀x,y.heap.size<=x->K x:=λx a=>by rw[Ig];exact .inr a
 have qF:∀x,x<y.heap.size->x≠b->¬K x:=λx h1 h2=>by rw[Ig];exact λe=>e.elim h2 o!
 clear Ig;have mi:=hS U UQ;have z0:=λp:Tw K y=>p.cell bi (qF _ (by show o<_;omega) (by show o≠b;omega));have z1:=λp:Tw K y=>p.cell b9 (qF _ (by show w.heap.size<_;omega) (by show w≠b;omega));have z2:=λp:Tw K y=>p.cell x0 (qF _ (by show U<_;omega) (by show U≠b;omega));have z3:=λp:Tw K y=>p.cell x1 (qF _ (by show U<_;omega) (by show U≠b;omega));have Qu:IntKind.i64.wrap ((j.Af.length:Int) - 1)=(j.Af.length:Int) - 1:=by rw[zE];omega
 refine B0 (S:=λW=>∃p:Tw K y,W=p.v) [13] [(false,5),(false,6),(false,7),(false,12),(false,13)] [0,1,2,3,4,8,9,10,11] k! (λ_ _ d _ _ h=>by cases d<;>exact h) k! (A5 (Ak.later (Zh _ _).drew)) ?_;refine A4 _ _ k! ?_;simp only[Z6,zd,ZG,ZD,ZC]
 repeat (first|go_big_quiet_step (fail)|quiet_step (fail))
 refine Z4 ?_;clear z0 z1 z2 z3;change Dl _ _ _ _ _ _ _;have Uh:YH y y y.drew:=(Zh _ _).drew;have du:Ak K y y.drew:=Ak.later Uh;refine Dw (v:=.int .i64 j.Af.length) rfl rfl g! (.inr (A5 du)) ?_;refine Dw (v:=.int .i64 ((j.Af.length:Int) - 1)) rfl rfl g! (.inr (A5 du)) ?_;refine Dd (f:=32) (args:= #[.pointer b,.int .i64 ((j.Af.length:Int) - 1)]) rfl rfl g! ((c29 ((kw.Cn S5 (λx a=>⟨by have:=(E8 x a).1;omega,(E8 x a).2⟩)).later Uh) (λx a=>⟨by have:=(E8 x a).1;simp;omega,(E8 x a).2⟩) (fi.later Uh) o! o!).mono ?_);rintro e B ⟨C,d5,rfl,rr,P,ai,rx⟩;have X:B3 b y B:=by
  exact⟨P.os,P.tape,P.output,P.size,λk hk G=>P.block k hk G⟩
 have A:Ak K y B:=X.CN fh;refine⟨_,rfl,.inr (A5 A),?_⟩;have mh:C<j.Af.length:=o!
 have mw:=X.size;have J:=R.CN (X.CN (K:=λx=>x=b) rfl) (λx a e=>o!);have an:=X.at_ ii o!;have lL:=X.at_ gt o!;have lK:=X.at_ ap o!;have lJ:=fw.Ar (X.same λx a=>by have:=a.1;omega);have lI:=V.Ar (X.same λx a=>(hS x a).2);have E:B3 b w B:=Z.trans X;obtain⟨D,q,Q⟩:∃D,B.heap[g]?=some (.cells D 73 (0,0))/\∀k,k<2->∃v,D[C*2+k]?=some v:=by
  rcases J.Af.2 with⟨e,_⟩|⟨g',cap,D,e,g3,g4,g5,g6,g7,_⟩
  .cases e
  cases e;exact⟨D,g4,λk hk=>⟨_,Zx (by rw[g7];omega)⟩⟩
 obtain⟨w0,ck⟩:=Q 0 d!;obtain⟨w1,lX⟩:=Q 1 d!;have q0:=ch q ck;have q1:=ch q lX;have ci:=cf (i:=C*2+0) q;have kv:=cf (i:=C*2+1) q;rw[Nat.add_zero]at q0 ci;obtain⟨O,H⟩:=Qnm ((B.setCell ⟨g,C*2,none⟩ (.int .i64 low)).setCell ⟨g,C*2+1,none⟩ (.int .i64 z));have se:(C:Int)<(j.Af.length:Int):=o!
 have rE:(0:Int)<=(C:Int):=o!
 refine Dw (v:=.pointer (some ⟨g,C*2,none⟩)) rfl rfl g! (.inr (A5 A)) ?_;refine K8 (w':=O) rfl rfl (by rw[H];go_simp) (.inl rfl) ?_;have l:Ak (λx=>x=g) B O:=by rw[H];exact(Ak.refl (λx=>x=g) B).DT.DT
 have ru:=(J3 J.Af g rfl).1;have us:=J.l2 g rfl;have ct:∀x,x<X2.heap.size->¬x=g:=λx a e=>o!
 have li:¬o=g:=λe=>by subst e;rw[an]at q;cases q
 have N:=Ih.set J.Af mh (low,z);dsimp only at N;rw[<-H]at N;have Y:O=B.heap.size:=by rw[H];simp
 have fu:B3 b w O:=by
  exact⟨l.os.trans E.os,l.tape.trans E.tape,l.output.trans E.output,Zr E.size l.size,λk hk G=>(l.block k (by have:=E.size;omega) o!).trans (E.block k hk G)⟩
 have fd:BK O b lv d5:=by
  obtain⟨st,B_⟩:=ai;exact⟨st,(l.block b o! o!).trans B_⟩
 have U3:∀ {v:Zf} {e:Zs} {k n:Nat} {xs:List Zf} {base:Nat},B.ownsRow base e k v n xs->e≠73->O.ownsRow base e k v n xs:=λh he=>acm h l q he;have my:=J.row.CN l (λx a e=>by have:=a.1;omega) (λx a e=>by have:=(J.row.own x a).1;omega);have un:=J.le;have g1:=lI.Ar (l.same λx a=>show¬x=g by have:=hS x a;omega);have g2:=(lJ.Ar (l.same λx a=>show¬x=g by have:=a.2;omega)).imp (T:=Cb w O) λx a=>⟨by have:=a.1;omega,by have:=a.2;omega⟩;have g3:RC (Cb w O) O (.slice r1 j.base.length f1) (.slice g j.Af.length f2) (.slice r3 j.hooks.length f3) (.slice r4 j.Aa.length f4) (.slice r5 j.now.length f5) {j with Af:=j.Af.set C (low,z)}:=
  ⟨Sl.imp (Own.si (U3 J.base d!)) (λx a=>⟨by have:=a.1;omega,a.2⟩) (λ_ _ x=>x),Sl.imp (Ih.tt N (.inr (.inr rfl))) (λx a=>⟨by have:=a.1;omega,a.lt⟩) (λ_ _ x=>x),Sl.imp (Own.si (U3 J.hooks d!)) (λx a=>⟨by have:=a.1;omega,a.2⟩) (λ_ _ x=>x),(my.ss (Zj _)).imp (λx a=>⟨by have:=a.1;omega,a.2⟩) (λ_ _ ⟨v2,v3,e,h2,h3⟩=>⟨v2,v3,e,Sl.imp h2 (λx a=>⟨by have:=a.1;omega,a.2⟩) λ_ _ x=>x,Sl.imp h3 (λx a=>⟨by have:=a.1;omega,a.2⟩) λ_ _ x=>x⟩),Sl.imp (Own.si (U3 J.now d!)) (λx a=>⟨by have:=a.1;omega,a.2⟩) (λ_ _ x=>x)⟩
 have I:=adj (d:=d) fu fd o! hM (co:= {j with Af:=j.Af.set C (low,z)}) ⟨t.base,by rw[ZcC];exact t.Af,t.hooks,t.Aa,t.now,t.part⟩ g1 g2 g3;rw[Y]at I;have gn:=(l.block o o! li).trans an;have gj:=(l.block m o! (ct m o!)).trans lL;have fK:=(l.block w o! (ct _ o!)).trans lK;obtain⟨jp,b9,jn,b8,i9⟩:=Qc5 fK;obtain⟨i8,i7,i6,iX,iS⟩:=Qc5 gj;obtain⟨ip,bi,io,be,im⟩:=Qc5 gn;have mt:=Zd I;have mv:=Zd Y;clear H I g1 g2 g3 U3 N my l gn gj fK q0 q1 ci kv ck lX Y fd fu;unfold Dl
 go_simp
 go_wp2;rw[mv.out];go_ret;exact mt.out
def aj0 {l:List A_}{x:A_}(h:Sl S (ajB S) 5 w (.slice q n cc) l)(b:l[k]?=some x):
  S q/\∃v1 v2 v3 v4 v5,w.cell? ⟨q,k*5,none⟩=some v1/\w.cell? ⟨q,k*5+1,none⟩=some v2/\w.cell? ⟨q,k*5+2,none⟩=some v3/\w.cell? ⟨q,k*5+3,none⟩=some v4/\w.cell? ⟨q,k*5+4,none⟩=some v5/\RC S w v1 v2 v3 v4 v5 x:=by
 obtain⟨p,m,e,_,_,f⟩:=h;cases e;obtain⟨o,i,cs,g,c,j,a,v1,v2,v3,v4,v5,rfl,d⟩:=f k x b;cases g;rw[zN]at a;exact⟨c,v1,v2,v3,v4,v5,by simpa using a 0 v1 rfl,a 1 v2 rfl,a 2 v3 rfl,a 3 v4 rfl,a 4 v5 rfl,d⟩
def amu {g:List (Int×Int)}(h:RC (λx=>x<w.heap.size) w v1 v2 v3 v4 v5 c)(hg:SP (λx=>x<w.heap.size) w v6 g)(hn:SI (λx=>x<w.heap.size) w v7 nums)(hG:Jr w):Calls Lp 4 #[.agg #[v1,v2,v3,v4,v5],v6,v7] w (Two w (.bool true)):=by
 obtain⟨a1,c1,a2,c2,a3,c3,a4,c4,a5,c5,rfl,rfl,rfl,rfl,rfl,l1,m1,l2,m2,l3,m3,l4,m4,l5,m5⟩:=h.vs;obtain⟨a6,c6,rfl,l6,m6⟩:=hg.val;obtain⟨la,lc,rfl,_⟩:=hn.val;have IX:=DJ;obtain⟨X,hX⟩:=Qnm (w.alloc (.cells (Qe6 c a1 c1 a2 c2 a3 c3 a4 c4 a5 c5) 26));have Ov:Qb6 w X:=by rw[hX];exact bA (Zh _ _)
 have yx:X=w.heap.size+1:=by rw[hX,ZB]
 have my:X.heap[w.heap.size]?=some (.cells (Qe6 c a1 c1 a2 c2 a3 c3 a4 c4 a5 c5) 26 (0,0)):=by rw[hX];exact Bp _ _
 have rE:=Zd (c25 (h.later Ov) (λx (n:x<w)=>o!));go_enter Lp.func18,n18;go_wp2;rw[<-hX];clear hX;refine rE.out.mono ?_;rintro e W1 ⟨io,rfl,oX,Bg⟩;have ck:=bU Ov Bg;have kG:=hG.later ck;have DR:=Bg.size;have l_:=(Bg.block _ o!).trans my;by_cases ii:io=true\/20<g.length
 .cases io with
  |true=>
   go_wp2_with (go_at_call 6;refine(c26 _ kG).mono ?_;rintro e V ⟨Ui,rfl|⟨x,rfl,Ss⟩⟩)
   .go_ret
    exact⟨bU ck Ui,.inl rfl⟩
   .exact⟨rfl,bU ck Ui,.inr ⟨_,rfl,Ss⟩⟩
  |false=>
   have AT:20<(g.length:Int):=by
    rcases ii with e|e
    .cases e
    omega
   go_wp2_with (go_at_call 6;refine(c26 _ kG).mono ?_;rintro e V ⟨Ui,rfl|⟨x,rfl,Ss⟩⟩)
   .go_ret
    exact⟨bU ck Ui,.inl rfl⟩
   exact⟨rfl,bU ck Ui,.inr ⟨_,rfl,Ss⟩⟩
 have mt:io=false:=by cases io;rfl;exact absurd (.inl rfl) ii
 have AS:¬20<(g.length:Int):=λe=>ii (.inr o!);have Qh:=oX mt;subst mt;clear ii oX rE my;obtain⟨k0,k1,k2,k3,k4⟩:=Qc5 l_;obtain⟨W2,MX⟩:=Qnm (W1.alloc (.cells #[.slice la nums.length lc,.int .i64 0,.int .u64 1] 68));have Bb:Qb6 W1 W2:=by rw[MX];exact bA (Zh _ _)
 have EB:W2=W1.heap.size+1:=by rw[MX,ZB]
 have rV:BK W2 W1 (.slice la nums.length lc) 0:=⟨1,by rw[MX];exact Bp _ _⟩;obtain⟨b,hb⟩:=Qnm W1.heap.size;rw[<-hb]at rV;have EC:W1<=b/\b<=W1.heap.size:=o!
 go_wp2;refine(c27 _ ⟨_,_,_,rfl⟩ _).mono ?_;rintro e ym ⟨rfl,hw⟩;rw[<-MX]at hw;have hw:=hw.symm;subst hw;rw[<-hb];clear hb MX;have I:=bU ck Bb;have rC:=Zd (c28 (h.later I) (λx (n:x<w)=>⟨by have:=I.size;omega,o!⟩) (hn.later I) (λx (n:x<w)=>⟨by have:=I.size;omega,o!⟩) rV d! Qh);have mz:=(Bb.block _ o!).trans l_;clear k0 k1 k2 k3 k4;obtain⟨k0,k1,k2,k3,k4⟩:=Qc5 mz;go_wp2;refine rC.out.mono ?_;rintro e W3 ⟨o,du,q,d3,rfl,H4,mx,AN,hM,lK,JA,jt⟩;have Rb:=H4.size;have BL:∀x,(x<w.heap.size\/Cb W2 W3 x)->x<W3.heap.size/\x≠b:=λx n=>by
  rcases n with n|n
  .have:=I.size;exact⟨o!,o!⟩
  have:=n.1;have:=n.2;exact⟨o!,o!⟩
 obtain⟨i6,p1,p2,p3,p4,p5,x0,x1,x2,x3,x4,i9⟩:=aj0 (k:=1) jt rfl;rw[Nat.one_mul]at x0 x1 x2 x3 x4;obtain⟨vE,s8,vz,sr,vy,sq,vx,so,vi,se,rfl,rfl,rfl,rfl,rfl,_⟩:=i9.vs;have fI:=hM.small;have BE:=I.size;have E8:∀x,x<w.heap.size->x<W3.heap.size/\x≠b:=λx n=>⟨o!,o!⟩;have mh:=(hn.later I).Cn H4 (λx (n:x<w.heap.size)=>⟨o!,o!⟩);have n8:=hM.valid.Fp;obtain⟨A9,AC⟩:q≠b/\q<W3:=⟨(BL q i6).2,(BL q i6).1⟩;have ru:=Zd (λW d (hL:LW b (.slice la nums.length lc) W3 d W) (hd:d+1000<4611686018427387904)=>c38 (i9.Ar (hL.Cn.same λx n=>(BL x n).2)) (λx n=>⟨Zl (BL x n).1 hL.Cn.size,(BL x n).2⟩) (mh.Cn hL.Cn E8) (Li hL.Cn E8) hL.E4 hd hM);have AI:=fI.Aa;clear k0 k1 k2 k3 k4;go_wp2;refine(ru.out _ _ (LW.refl mx) o!).mono ?_;rintro e U ⟨ba,bc,u,B4,rfl,ol,tn,Uh,n7⟩;have i7:B3 b W3 U:=ol.Cn;have xi:=Zd (Ha n7).1;clear n7;have yq:=i7.size;have mv:SP (Cb W3 U) U (.slice ba u.length bc) u:=Sl.imp Uh (λx n=>⟨n.1,n.2⟩) λ_ _ x=>x;clear Uh;go_wp2;obtain⟨Z,hZ⟩:=Qnm (U.alloc (.cells #[.slice a6 g.length c6,.slice ba u.length bc,.slice ba u.length bc,.slice a6 g.length c6] 23));have EB:Z=U.heap.size+1:=by rw[hZ,ZB]
 have ne:Qb6 U Z:=by rw[hZ];exact bA (Zh _ _)
 have ci:Z.heap[U.heap.size]?=some (.cells #[.slice a6 g.length c6,.slice ba u.length bc,.slice ba u.length bc,.slice a6 g.length c6] 23 (0,0)):=by rw[hZ];exact Bp _ _
 have fy:B3 b W3 Z:=i7.below ne;rw[<-hZ];obtain⟨qs,lL⟩:=Qnm U.heap.size;rw[<-lL]at ci⊢;clear hZ;have jp:Sl (λx=>x<Z.heap.size) (ajB λx=>x<Z.heap.size) 5 Z (.slice q 4 4) [c,o,du,o]:=by
  have rU:∀x,(x<w.heap.size\/Cb W2 W3 x)->x<Z:=λx n=>by have:=(BL x n).1;omega
  refine Sl.imp (Sl.Ar jt (fy.same λx n=>(BL x n).2) (R:=ajB λx=>x<w.heap.size\/Cb W2 W3 x) ?_) rU ?_
  .rintro cs x ⟨y1,y2,y3,y4,y5,rfl,hR⟩
   exact⟨y1,y2,y3,y4,y5,rfl,hR.Ar (fy.same λx n=>(BL x n).2)⟩
  rintro cs x ⟨y1,y2,y3,y4,y5,rfl,hR⟩;exact⟨y1,y2,y3,y4,y5,rfl,hR.imp rU⟩
 have iX:SP (λx=>x<Z.heap.size) Z (.slice a6 g.length c6) g:=Sl.imp ((hg.later I).Ar (((H4.trans fy)).same λx (n:x<w)=>o!)) (λx (n:x<w)=>by show x<Z;omega) λ_ _ x=>x;have lm:SP (λx=>x<Z.heap.size) Z (.slice ba u.length bc) u:=Sl.imp (mv.later ne) (λx n=>by have:=n.2;show x<Z;omega) λ_ _ x=>x;have oX:u.length<=20:=by have:=xi.out;have:=fI.base;omega
 have li:Qb6 w Z:=B3.aj4 I (H4.trans fy) o!;have un:Jr Z:=hG.later li;obtain⟨cl,dL⟩:=Qnm ([c,o,du,o]);have pm:∀k,k<4->∃x,cl[k]?=some x/\ad8 x:=by
  intro k hk;rw[dL];obtain rfl|rfl|rfl|rfl:k=0\/k=1\/k=2\/k=3:=o!
  .exact⟨_,rfl,Qh⟩
  .exact⟨_,rfl,fI⟩
  .exact⟨_,rfl,lK⟩
  exact⟨_,rfl,fI⟩
 have ww:=Zd (show∀k,k<4->∃ua l uc,Z.cell? ⟨qs,k,none⟩=some (.slice ua (List.length l) uc)/\SP (λx=>x<Z.heap.size) Z (.slice ua l.length uc) l/\l.length<=20 from by
  intro k hk;obtain rfl|rfl|rfl|rfl:k=0\/k=1\/k=2\/k=3:=o!
  .exact⟨_,_,_,ch ci rfl,iX,o!⟩
  .exact⟨_,_,_,ch ci rfl,lm,oX⟩
  .exact⟨_,_,_,ch ci rfl,lm,oX⟩
  exact⟨_,_,_,ch ci rfl,iX,o!⟩)
 rw[<-dL]at jp;have ws:=Zd jp;have wd:=Zd pm;clear dL jp pm iX lm oX ci H4 fy fI hM lK Qh l_ mz rV mx BL i6 h hg hn jt rC ru i9 x0 x1 x2 x3 x4 mh E8 mv tn ol i7 lL;go_loopg [11] 4 (λgg i wr=>∃k:Nat,k<=4/\gg=4 - k/\i=.int .i64 k/\Qb6 Z wr)
 case atStart=>exact⟨0,d!,rfl,rfl,Zh _ _⟩
 obtain⟨k,hk,rfl,rfl,P⟩:=hrel;by_cases Az:k<4
 .obtain⟨x,n,ai⟩:=wd.out k Az
  obtain⟨va,s,vc,Mi,hv,At⟩:=ww.out k Az;obtain⟨_,p1,p2,p3,p4,p5,x0,x1,x2,x3,x4,i8⟩:=aj0 ws.out n;obtain⟨b8,e1,bi,e2,be,e3,ap,e4,an,e5,rfl,rfl,rfl,rfl,rfl,_⟩:=i8.vs;obtain⟨V,hV⟩:=Qnm wr;subst hV;have z7:=P.size;have rU:∀y,y<Z.heap.size->y<V.heap.size:=λy a=>o!
  have m:∀ {p:Addr} {v:Zf},Z.cell? p=some v->V.cell? p=some v:=λh=>(P.cell (ZH _ _ h)).trans h;have jn:RC (λy=>y<V.heap.size) V (.slice b8 x.base.length e1) (.slice bi x.Af.length e2) (.slice be x.hooks.length e3) (.slice ap x.Aa.length e4) (.slice an x.now.length e5) x:=(i8.later P).imp rU;have iS:SP (λy=>y<V.heap.size) V (.slice va s.length vc) s:=Sl.imp (hv.later P) rU λ_ _ x=>x;replace x0:=m x0;replace x1:=m x1;replace x2:=m x2;replace x3:=m x3;replace x4:=m x4;replace Mi:=m Mi;clear m rU i8 hv;have lG:=Zd (λW (j:Qb6 V W)=>aoQ (jn.later j) (λy (a:y<V.heap.size)=>by have:=j.size;omega) (by have:=ai.base;omega) (by have:=ai.Af;omega) (by have:=ai.hooks;omega) (by have:=ai.Aa;omega) (by have:=ai.now;omega) λi hi=>⟨by have:=(ai.part i hi).1;omega,by have:=(ai.part i hi).2;omega⟩);have ip:=Zd (λW (j:Qb6 V W)=>aoO (iS.later j) o!);have pu:=Zd jn;have pt:=Zd iS;have TB:(k:Int)<4:=o!
  have BY:(0:Int)<=(k:Int):=o!
  have z0:=λp=>Al p x0;have z1:=λp=>Al p x1;have z2:=λp=>Al p x2;have z3:=λp=>Al p x3;have z4:=λp=>Al p x4;have z6:=λp=>Al p Mi;clear jn iS;go_wp2
  rename Act->Zb->Prop=>KK
  have vd:∀(A:Zb) (r:Nat) (G F E D C tb:Option Addr) (n1 n2 n3 n4 n5 td:Nat),Qb6 V A->A.heap[r]?=some (.cells (Qe6 x G n1 F n2 E n3 D n4 C n5) 26 (0,0))->RC (λy=>y<A.heap.size) A (.slice G x.base.length n1) (.slice F x.Af.length n2) (.slice E x.hooks.length n3) (.slice D x.Aa.length n4) (.slice C x.now.length n5) x->SP (λy=>y<A.heap.size) A (.slice tb s.length td) s->KK {tmps:= #[Value.agg #[Zy a1 c.base.length c1,Zy a2 c.Af.length c2,Zy a3 c.hooks.length c3,Zy a4 c.Aa.length c4,Zy a5 c.now.length c5],Zy a6 g.length c6,Zy la nums.length lc,ZbT w,Ze,Ze,u6,ZbT b,Zy q 4 4,Zy ba u.length bc,Zy qs 4 4,ZL .i64 (k:Int),ZbT r,Zy tb s.length td,u14,u15,u16,u17,u18,u19,Value.agg #[Zy a1 c.base.length c1,Zy a2 c.Af.length c2,Zy a3 c.hooks.length c3,Zy a4 c.Aa.length c4,Zy a5 c.now.length c5],Value.bool false,Value.bool false,Zy a6 g.length c6,ZL .i64 (g.length:Int),Value.bool (decide (20<(g.length:Int))),Value.bool (decide (20<(g.length:Int))),Ze,Zy la nums.length lc,ZbT b,Value.agg #[Zy a1 c.base.length c1,Zy a2 c.Af.length c2,Zy a3 c.hooks.length c3,Zy a4 c.Aa.length c4,Zy a5 c.now.length c5],ZbT b,Zy q 4 4,ZbT b,Zy q 4 4,ZbT (some ⟨q,5,none⟩),Value.agg #[Zy vE o.base.length s8,Zy vz o.Af.length sr,Zy vy o.hooks.length sq,Zy vx o.Aa.length so,Zy vi o.now.length se],Zy ba u.length bc,Zy a6 g.length c6,Zy ba u.length bc,Zy ba u.length bc,Zy a6 g.length c6,Zy qs 4 4,ZL .i64 (k:Int),Zy q 4 4,ZL .i64 4,Value.bool true,u47,u48,Zy q 4 4,ZL .i64 (k:Int),ZbT (some ⟨q,k*5,none⟩),Value.agg #[Zy b8 x.base.length e1,Zy bi x.Af.length e2,Zy be x.hooks.length e3,Zy ap x.Aa.length e4,Zy an x.now.length e5],Value.agg #[Zy G x.base.length n1,Zy F x.Af.length n2,Zy E x.hooks.length n3,Zy D x.Aa.length n4,Zy C x.now.length n5],Zy qs 4 4,ZL .i64 (k:Int),ZbT (some ⟨qs,k,none⟩),Zy va s.length vc,Zy tb s.length td,u59,u60,u61,u62,u63,u64,u65,u66,u67,u68,u69,u70,u71,u72,u73,u74,u75,u76,u77,u78,u79,u80,u81,u82,u83,u84,u85,u86,u87,u88,u89,u90,u91,u92,u93,u94,u95,u96,u97,u98,u99,u100,u101,u102,u103,u104,u105,u106,u107,u108,u109,u110,Ze],defers:=[]} A:=by
   intro A r G F E D C tb n1 n2 n3 n4 n5 td dl Ia fw kw;clear z0 z1 z2 z3 z4 z6 lG ip;have WS:=(Za.1 Ia).1;have lJ:∀W,Qb6 A W->∀y,y<A.heap.size->y<W.heap.size:=λW j y a=>Zl a j.size;have lI:∀W,Qb6 V W->∀y,y<V.heap.size->y<W.heap.size:=λW j y a=>Zl a j.size;have rq:=Zd (λW (j:Qb6 A W)=>apA (fw.later j) (kw.later j) (lJ W j));have rg:=Zd (λW (j:Qb6 V W)=>c78 (pu.out.later j) (pt.out.later j) (lI W j));obtain⟨fl,Tq⟩:=Qnm (afk x s);obtain⟨fm,ml⟩:=Qnm (afl x s);obtain⟨fe,yJ⟩:=Qnm (afm x s);rw[<-Tq, <-ml, <-yJ]at rq rg;clear Tq ml yJ lJ lI;have wn:=Zd fw;have vG:=Zd kw;obtain⟨g0,g1,g2,g3,g4⟩:=Qc5 Ia;clear fw kw;have vF:=bU li (bU P dl);go_wp2;refine(rq.out _ (Zh _ _)).mono ?_;rintro e Y3 ⟨im,⟨ma,mc,rfl,hm⟩|⟨B2,rfl,Ss⟩⟩
   case inr=>exact⟨rfl,bU vF im,.inr ⟨_,rfl,Ss⟩⟩
   have kv:=bU dl im;have re:=Zd (show SI (λy=>y<Y3.heap.size) Y3 (.slice ma fl.length mc) fl from Sl.imp hm (λy a=>by
    rcases a with a|a
    .have a:y<A:=a
     have:=im.size;show y<_;omega
    exact a.2) λ_ _ x=>x)
   clear g0 g1 g2 g3 g4 hm;have am:∀ {p:Addr} {v:Zf},V.cell? p=some v->Y3.cell? p=some v:=λh=>(kv.cell (ZH _ _ h)).trans h;obtain⟨z0,z1,z2,z3,z4⟩:=Qy5 am x0 x1 x2 x3 x4;have z6:=λp=>Al p (am Mi);go_wp2;refine aci (S:=λW=>∃p,W=calm Y3 p) 16 [] (.one 8 (.free 9 (.free 10 (.free 11 (.free 12 (.one 13 (.one 14 (.one 15 .leaf)))))))) [0,1,2,3,4,5,6,7] k! (λ_ _ d _ _ h=>by cases d<;>exact h) k! (AL (Zh _ _).drew) ?_;refine A4 _ _ k! ?_;simp only[Z6,zd,ZG,ZD,ZC]
   repeat (first|go_big_quiet_step (fail)|quiet_step (fail))
   refine Z4 ?_;clear z0 z1 z2 z3 z4 z6 am;change acs _ _ _ _ _ _ _ _;have ka:YH Y3 Y3 Y3.drew:=(Zh _ _).drew;refine acv (f:=23) (args:= #[.agg (Qe6 x b8 e1 bi e2 be e3 ap e4 an e5),.slice va s.length vc]) rfl rfl g! ((rg.out _ (bU kv ka)).mono ?_);rintro e Y6 ⟨na,nc,rfl,pp,fK⟩;have fu:Qb6 Y3 Y6:=bU ka pp;have rX:∃p,Y6=calm Y3 p:=AL fu;refine .inl ⟨_,rfl,.inr rX,?_⟩;refine ad7 (v:=.tuple #[.slice na fl.length nc,.int .i64 fm,.int .i64 fe]) rX rfl rfl (λw _=>g!) ?_;refine ad7 (v:=.slice na fl.length nc) rX rfl rfl (λw _=>g!) ?_;refine ad7 (v:=.int .i64 fm) rX rfl rfl (λw _=>g!) ?_;refine ad7 (v:=.int .i64 fe) rX rfl rfl (λw _=>g!) ?_;refine acj (v:=.slice na fl.length nc) (w':=Y6) rfl rfl g! (.inr rX) ?_;refine acj (v:=.int .i64 fm) (w':=Y6) rfl rfl g! (.inr rX) ?_;refine acj (v:=.int .i64 fe) (w':=Y6) rfl rfl g! (.inr rX) ?_;unfold acs
   go_simp
   have fi:=bU im fu;have ct:=bU kv fu;have Vf:=(fi.block _ WS).trans Ia;have ac:∀W,Qb6 Y6 W->∀y,y<Y6.heap.size->y<W.heap.size:=λW j y a=>Zl a j.size;have mj:SI (λy=>y<Y6.heap.size) Y6 (.slice ma fl.length mc) fl:=Sl.imp (re.out.later fu) (λy a=>Zl a fu.size) λ_ _ x=>x;have fK:SI (λy=>y<Y6.heap.size) Y6 (.slice na fl.length nc) fl:=Sl.imp fK (λy a=>a.2) λ_ _ x=>x;have no:RC (λy=>y<Y6.heap.size) Y6 (.slice G x.base.length n1) (.slice F x.Af.length n2) (.slice E x.hooks.length n3) (.slice D x.Aa.length n4) (.slice C x.now.length n5) x:=(wn.out.later fi).imp λy a=>Zl a fi.size;have nm:RC (λy=>y<Y6.heap.size) Y6 (.slice b8 x.base.length e1) (.slice bi x.Af.length e2) (.slice be x.hooks.length e3) (.slice ap x.Aa.length e4) (.slice an x.now.length e5) x:=(pu.out.later ct).imp λy a=>Zl a ct.size;have pi:SP (λy=>y<Y6.heap.size) Y6 (.slice tb s.length td) s:=Sl.imp (vG.out.later fi) (λy a=>Zl a fi.size) λ_ _ x=>x;have pd:SP (λy=>y<Y6.heap.size) Y6 (.slice va s.length vc) s:=Sl.imp (pt.out.later ct) (λy a=>Zl a ct.size) λ_ _ x=>x;have rx:=Zd (λW (j:Qb6 Y6 W)=>c36 (no.later j) (nm.later j) (ac W j) (ac W j));have cL:=Zd (λW (j:Qb6 Y6 W)=>show Calls Lp 20 #[.slice ma fl.length mc,.slice na fl.length nc] W λe w'=>e=.returned (.bool true)/\Qb6 W w' from by
    have:=c46 (mj.later j) (fK.later j) (ac W j) (ac W j);rwa[Vu]at this)
   have rr:=Zd (λW (j:Qb6 Y6 W)=>show Calls Lp 21 #[.slice tb s.length td,.slice va s.length vc] W λe w'=>e=.returned (.bool true)/\Qb6 W w' from by
    have:=c43 (pi.later j) (pd.later j) (ac W j) (ac W j);rwa[show adN s s=true from decide_eq_true rfl]at this)
   have am:∀ {p:Addr} {v:Zf},V.cell? p=some v->Y6.cell? p=some v:=λh=>(ct.cell (ZH _ _ h)).trans h;obtain⟨z0,z1,z2,z3,z4⟩:=Qy5 am x0 x1 x2 x3 x4;have z6:=λp=>Al p (am Mi);obtain⟨s0,s1,s2,s3,s4⟩:=Qz5 Vf;clear am ac rX ka pp mj fK no nm pi pd re;go_wp2;refine Av k! k! ?_
   repeat (first|go_big_quiet_step ((first|(go_at_call 19;exact AV (rx.out _ (AE _ _)))|(go_at_call 20;exact AV (cL.out _ (AE _ _)))|(go_at_call 21;exact AV (rr.out _ (AE _ _)))))|quiet_step ((first|(go_at_call 19;exact AV (rx.out _ (AE _ _)))|(go_at_call 20;exact AV (cL.out _ (AE _ _)))|(go_at_call 21;exact AV (rr.out _ (AE _ _))))))
   refine Z4 ?_;rintro _ ⟨p,rfl⟩;have yw:=AE Y6 p;obtain⟨YE,mw⟩:=Qnm (calm Y6 p);rw[<-mw]at yw⊢;clear mw z0 z1 z2 z3 z4 z6 s0 s1 s2 s3 s4;have us:=bU P (bU ct yw);go_wp2;go_roundg (4 - (k+1))
   case rel=>exact⟨k+1,Az,rfl,v!,us⟩
   omega
  refine aci (S:=λW=>∃p,W=calm V p) 13 [] (.fork 4 (.fork 9 (.one 10 (.one 11 (.one 12 .leaf))) 10 (.one 9 (.one 11 (.one 12 .leaf)))) 10 (.one 4 (.one 9 (.one 11 (.one 12 .leaf))))) [0,1,2,3,5,6,7,8] k! (λ_ _ d _ _ h=>by cases d<;>exact h) k! (AL (Zh _ _).drew) ?_;refine A4 _ _ k! ?_;simp only[Z6,zd,ZG,ZD,ZC]
  repeat (first|go_big_quiet_step (fail)|quiet_step (fail))
  refine Z4 ?_;clear z0 z1 z2 z3 z4 z6;change acs _ _ _ _ _ _ _ _;obtain⟨W4,ED⟩:=Qnm V.drew;have gt:Qb6 V W4:=by rw[ED];exact(Zh _ _).drew
  rw[<-ED];clear ED;refine adI ?hA ?hB
  case' hA=>
   refine acv (f:=11) (args:= #[.agg (Qe6 x b8 e1 bi e2 be e3 ap e4 an e5)]) rfl rfl g! ((lG.out _ gt).mono ?_);rintro e W5 ⟨y1,y2,y3,y4,y5,rfl,Jy,fd⟩;have b9:=fd.rc;obtain⟨G,n1,F,n2,E,n3,D,n4,C,n5,rfl,rfl,rfl,rfl,rfl,_⟩:=b9.vs;clear fd;have J:Qb6 V W5:=bU gt Jy;refine .inl ⟨_,rfl,.inr (AL J),?_⟩;have vb:=Jy.size;refine adI ?oT ?aT
  case' oT=>
   refine acv (f:=13) (args:= #[.slice va s.length vc]) rfl rfl g! ((ip.out _ J).mono ?_);rintro e M ⟨v,rfl,B,N⟩;obtain⟨tb,td,rfl,_⟩:=N.val;have z:Qb6 V M:=bU J B;refine .inl ⟨_,rfl,.inr (AL z),?_⟩;have o9:=B.size;obtain⟨L,H⟩:=Qnm (M.alloc (.cells Qz6 26));have t:Qb6 M L:=by rw[H];exact bA (Zh _ _)
   have K:L.heap[M.heap.size]?=some (.cells Qz6 26 (0,0)):=by rw[H];exact Bp _ _
   have Q:Qb6 V L:=bU z t;have H_:V<=M.heap.size:=z.size;refine acj (v:=.pointer M) (w':=L) rfl rfl (by rw[H];go_simp) (.inr (AL Q)) ?_;have o8:L=M.heap.size+1:=by rw[H,ZB]
   obtain⟨r,O⟩:=Qnm M.heap.size;have ow:r<=M.heap.size/\M<=r:=o!
   rw[<-O]at K H_⊢;clear O H;have gj:=((b9.later B).later t).imp (T:=λy=>y<L.heap.size/\y≠r) λy a=>by have:=a.1;have:=a.2;omega
   have fJ:=Sl.imp (N.later t) (T:=λy=>y<L.heap.size/\y≠r) (λy a=>by have:=a.1;have:=a.lt;omega) λ_ _ x=>x;have gn:=Q;obtain⟨Y,hY⟩:=Qnm L;subst hY
  case' aT=>
   obtain⟨M,H⟩:=Qnm (W5.alloc (.cells Qz6 26));have B:Qb6 W5 M:=by rw[H];exact bA (Zh _ _)
   have K:M.heap[W5.heap.size]?=some (.cells Qz6 26 (0,0)):=by rw[H];exact Bp _ _
   have z:Qb6 V M:=bU J B;have H_:V<=W5.heap.size:=J.size;refine acj (v:=.pointer W5) (w':=M) rfl rfl (by rw[H];go_simp) (.inr (AL z)) ?_;have o9:M=W5.heap.size+1:=by rw[H,ZB]
   obtain⟨r,O⟩:=Qnm W5.heap.size;have ow:r<=W5.heap.size/\W5<=r:=o!
   rw[<-O]at K H_⊢;clear O H;refine acv (f:=13) (args:= #[.slice va s.length vc]) rfl rfl g! ((ip.out _ z).mono ?_);rintro e L ⟨v,rfl,t,N⟩;obtain⟨tb,td,rfl,_⟩:=N.val;have Q:Qb6 V L:=bU z t;refine .inl ⟨_,rfl,.inr (AL Q),?_⟩;have o8:=t.size;have gj:=((b9.later B).later t).imp (T:=λy=>y<L.heap.size/\y≠r) λy a=>by have:=a.1;have:=a.2;omega
   have fJ:=Sl.imp N (T:=λy=>y<L.heap.size/\y≠r) (λy a=>by have:=a.1;have:=a.lt;omega) λ_ _ x=>x;have K:=(t.block _ (Za.1 K).1).trans K;have gn:=Q;obtain⟨Y,hY⟩:=Qnm L;subst hY
  case' hB=>
   obtain⟨W5,H⟩:=Qnm (W4.alloc (.cells Qz6 26));have Jy:Qb6 W4 W5:=by rw[H];exact bA (Zh _ _)
   have K:W5.heap[W4.heap.size]?=some (.cells Qz6 26 (0,0)):=by rw[H];exact Bp _ _
   have J:Qb6 V W5:=bU gt Jy;have H_:V<=W4.heap.size:=gt.size;refine acj (v:=.pointer W4) (w':=W5) rfl rfl (by rw[H];go_simp) (.inr (AL J)) ?_;have vb:W5=W4.heap.size+1:=by rw[H,ZB]
   obtain⟨r,O⟩:=Qnm W4.heap.size;have ow:r<=W4.heap.size/\W4<=r:=o!
   rw[<-O]at K H_⊢;clear O H;refine acv (f:=11) (args:= #[.agg (Qe6 x b8 e1 bi e2 be e3 ap e4 an e5)]) rfl rfl g! ((lG.out _ J).mono ?_);rintro e M ⟨y1,y2,y3,y4,y5,rfl,B,fd⟩;have b9:=fd.rc;obtain⟨G,n1,F,n2,E,n3,D,n4,C,n5,rfl,rfl,rfl,rfl,rfl,_⟩:=b9.vs;clear fd;have z:Qb6 V M:=bU J B;refine .inl ⟨_,rfl,.inr (AL z),?_⟩;have o9:=B.size;refine acv (f:=13) (args:= #[.slice va s.length vc]) rfl rfl g! ((ip.out _ z).mono ?_);rintro e L ⟨v,rfl,t,N⟩;obtain⟨tb,td,rfl,_⟩:=N.val;have Q:Qb6 V L:=bU z t;refine .inl ⟨_,rfl,.inr (AL Q),?_⟩;have o8:=t.size;have gj:=(b9.later t).imp (T:=λy=>y<L.heap.size/\y≠r) λy a=>by have:=a.1;have:=a.2;omega
   have fJ:=Sl.imp N (T:=λy=>y<L.heap.size/\y≠r) (λy a=>by have:=a.1;have:=a.lt;omega) λ_ _ x=>x;have K:=(B.block _ (Za.1 K).1).trans K;have K:=(t.block _ (Za.1 K).1).trans K;have gn:=Q;obtain⟨Y,hY⟩:=Qnm L;subst hY
  all_goals
   obtain⟨g0,g1,g2,g3,g4⟩:=Qc5 K;obtain⟨f0,f1,f2,f3,f4⟩:=Qf5 K;obtain⟨A,rD⟩:=Qnm ((((((Y.setCell r (.slice G x.base.length n1)).setCell ⟨r,1,none⟩ (.slice F x.Af.length n2)).setCell ⟨r,2,none⟩ (.slice E x.hooks.length n3)).setCell ⟨r,3,none⟩ (.slice D x.Aa.length n4)).setCell ⟨r,4,none⟩ (.slice C x.now.length n5)));have D3:Ak (λy=>y=r) Y A:=by rw[rD];exact(Ak.refl (λy=>y=r) Y).DT.DT.DT.DT.DT
   have dl:Qb6 V A:=by rw[rD];exact bS (bS (bS (bS (bS gn H_) H_) H_) H_) H_
   have Ia:A.heap[r]?=some (.cells (Qe6 x G n1 F n2 E n3 D n4 C n5) 26 (0,0)):=by rw[rD];exact Ba (Ba (Ba (Ba (Ba K _) _) _) _) _
   refine ai3 (w':=A) rfl rfl (by rw[rD];go_simp) (.inr (AL dl)) ?_;refine acj (v:=.slice tb s.length td) (w':=A) rfl rfl g! (.inr (AL dl)) ?_;clear rD g0 g1 g2 g3 g4 f0 f1 f2 f3 f4;unfold acs
   go_simp
   have An:=D3.size;have fw:=(gj.Ar (D3.same λy a=>show¬y=r from a.2)).imp (T:=λy=>y<A.heap.size) λy a=>by have:=a.1;show y<A;omega
   have ut:=Sl.imp (Sl.Ar fJ (D3.same λy a=>show¬y=r from a.2) λ_ _ x=>x) (T:=λy=>y<A.heap.size) (λy a=>by have:=a.1;show y<A;omega) λ_ _ x=>x;clear gj fJ K gn D3;exact vd _ _ _ _ _ _ _ _ _ _ _ _ _ _ dl Ia fw ut
 have Lc:=bU li P;have t9:=un.later P;go_wp2_with (go_at_call 6;refine(c26 _ t9).mono ?_;rintro e V ⟨Ui,rfl|⟨x,rfl,Ss⟩⟩)
 .go_ret
  exact⟨bU Lc Ui,.inl rfl⟩
 exact⟨rfl,bU Lc Ui,.inr ⟨_,rfl,Ss⟩⟩
end Go.Proofs.Fit
namespace Go.Proofs.YtjmckoeogkjfbaaGreatDoor
open Go Go.Conc Go.RowKit Go.Proofs.Fit
set_option maxRecDepth 100000
def ahB:(Rows.seamFewestsRow.inPlace==Tryz.prog.inPlace 4)=true:=k!
def af4:(Rows.seamFewestsRow.unfollowed==Tryz.prog.unfollowed 4)=true:=k!
def agi:(Rows.seamFewestsRow.recurses==Tryz.prog.recurses 4)=true:=k!
def ajE:(Rows.seamFewestsRow.named==Tryz.prog.varsNamed 4)=true:=k!
def ajF:joinedFacts Zc 4 Tryz.f4 Rows.seamFewestsSpec Rows.seamFewestsRow=true:=
 kQ k! k! k! k! k! ahB af4 agi ajE k! k! k! k! k! k! k! k! k! rfl rfl rfl rfl rfl rfl k! k! k!
def aji (os:Os)(a:os.Started)(H:Type)(enc:Zs×Zf->H):ReturnsInLeavingWide {} Tryz.checked os 4 .any (λw args=>(Rows.seamFewestsSpec.pre enc Zc Tryz.f4 [] false w args/\laidMetH Zc PT w)/\sizedMet enc Zc Tryz.f4 (ZbV Rows.seamFewestsSpec) false w args)
   (Rows.seamFewestsSpec.post enc Zc Tryz.f4 false true false false):=
 eO (s:=Rows.seamFewestsSpec) a rfl rfl Tryz.func4 rfl rfl k! k! rfl k! (λf h=>by
    match f,h with
    | [_,_,_],_=>rfl)
   (ChangeSpec.witness_shaped (enc:=enc) (C:=Tryz.checked) (os:=os) (X:=λw _=>laidMetH Zc PT w) false (Vg os) #[.agg #[(),(),(),(),()],(),()] 8 rfl (World.shaped_of_RefB k! k!) k! k! k! (Ub os _))
   (λW base args f t b j _ d=>ahO rfl b j d λw r q p o n m l c e k h i g d=>amu h i g d)
def amF:Rows.SeamFewestsSaid:=
 OpenClaim.holds_of_wide_leaving 4 Tryz.f4 rfl rfl rfl rfl rfl rfl rfl ⟨rfl,rfl,rfl,rfl,rfl⟩ rfl rfl rfl rfl rfl k! Tryz.func4 ajF
  (of_decide_eq_true k!) (by unfold Func.isWrapper;rw[if_neg (by decide+kernel)];exact⟨rfl,rfl⟩) (λc a H b _=>aji c a H b)
def akp:true=Rows.seamFewestsRow.goesBy Tryz.pinned.checked.prog:=k!
theorem fewests_holds:Rows.SeamFewestsCardSaid:=
 kM [.handle] (true,"9c0765c9ef3282300d67a2610b42c5f567a6947b26a25867ed4cdf43e04bce24") amF k! (OpenClaim.laidByTextAt_later rfl rfl qd abD) rfl ⟨rfl,rfl⟩ uI
  (λf fn c d=>by
   obtain rfl:f=4:=ZW ((show Tryz.prog.funcNamed "galloon/galloonlaw02.SeamFewests" =some 4 by kernel_rfl).symm.trans c)|>.symm;obtain rfl:fn=Tryz.f4:=(ZW (Tryz.func4.symm.trans d)).symm;exact⟨abE,λj t a=>by
    have b:t∈ [26,23,22]:=by simpa using zY a
    have e:([26,23,22].all λu=> !Tryz.prog.wantsStandIn u)=true:=k!
    exact(show Tryz.prog.wantsStandIn t=false by simpa using Zdm.1 e t b)⟩)
  akp
#print axioms fewests_holds
end Go.Proofs.YtjmckoeogkjfbaaGreatDoor
