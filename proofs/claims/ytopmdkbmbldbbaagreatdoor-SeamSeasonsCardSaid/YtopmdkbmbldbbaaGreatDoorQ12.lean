/- SeamSeasons: on all arguments and schedules, with no data race, the law returns true. Conditions: the row's alone. -/
import Derived.Test.YtopmdkbmbldbbaaGreatDoorQ08
import Derived.Test.YtopmdkbmbldbbaaGreatDoorQ11
import Derived.Lib.MinMax
set_option maxRecDepth 100000
set_option maxHeartbeats 6400000
noncomputable section
set_option linter.all false
open And renaming intro->ZY
open Array renaming getElem?_eq_some_iff->Za,toList_setIfInBounds->ZcM,replicate->Yu,getElem?_setIfInBounds_ne->Zk,getElem?_setIfInBounds_self_of_lt->ZV,getElem?_eq_getElem->Zx,mem_of_getElem?->zY
open Bool renaming and_eq_true->ZF
open Function renaming comp_def->ZdQ
open Go renaming Value->Zf,World->Zb,callFunc->Zz,TypeId->Zs,Program->Zo,FuncId->ZaQ,Operand->Zbv,below_drewN->Y5,wpQuiet_nil->Z4,info_parts->zp,wpList_append_own->Yc,ownsRow_succ->Zay,YieldsIf->ZbF,wpOp_mono->Zcc,wp_region_any->Zd5,execOp->Zby,undef->Ze,storeCells->ZbX,run_underlying->Y9,resolve->Zbh,wp_append_own->Zak,bodyPost_ret->ZN
open Go.Act renaming put->Zck
open Go.Addr renaming add->Zcu
open Go.Builtin renaming append_->Zao,firstCells->Zu,lenOf->ZcX
open Go.Calls renaming quiet_of_same->Zb5
open Go.Code renaming region->zU
open Go.DataW renaming TrodAll->Za9
open Go.Ending renaming returned->Zbx
open Go.Instr renaming makeSlice->Zdp
open Go.IntKind renaming wrap_i64->zE
open Go.IntWalk renaming i64_in->ZcD
open Go.Lib renaming hid->Zd
open Go.Obj renaming cells->Zbi
open Go.OpenSpec renaming ofChange->ZbV
open Go.Oper renaming semAt_some->Zdk,wp->ZbA,upon_value->Zdi,upon_enter->Zdj,upon_skip->ZcQ
open Go.Proofs.Tryz renaming prog->Zc,underlying22->YE,underlying23->Zdg,underlying40->zW
open Go.Region renaming Mode->YO,ready->zs,free->Za3,noSelect->YF,wanted->Yf
open Go.Result renaming andThen_ok->Zaw
open Go.RowKit renaming Below->YH
open Go.RowKit.Below renaming refl->Zh
open Go.Sem renaming run_bind->zg
open Go.Value renaming okWide->Zbk,int->ZL,slice->Zy,oneCell'->YT
open Go.World renaming size_alloc->ZB,ownsRow_nil->zq,block_lt_of_cell?->ZH,ownsRow_made->YC
open Go.World.ownsRow renaming alloc->Ya,lt->Zcm
open List renaming getElem?_eq_getElem->zf,mem_of_getElem?->Z3,mem_singleton->Yh,ext_getElem?->YA,getElem?_eq_none->ZP,range->Yr,getD_eq_getElem?_getD->Y6,pairwise_iff_getElem->ZdK,getElem_of_mem->Zas,all_eq_true->Zdm,getElem?_map->YL,getElem?_set_self->Ys,getElem?_set_ne->ZS,drop_eq_nil_iff->Z7,length_set->ZcC,getElem?_eq_some_iff->Zm,getElem?_take_of_lt->Z2,getElem?_drop->Yl,drop_eq_getElem_cons->ZO,filterMap_cons->Z6,filterMap_nil->zd,getElem?_toArray->ZG,getElem?_cons_succ->ZD,getElem?_cons_zero->ZC,length_append->ZA,flatMap_append->Zbe,mem_append->Zab,take_add_one->ZbH,take_of_length_le->Zb3,getElem?_append_left->zl,getElem?_append_right->Zbr,mem_cons_self->zC,filter_cons->ZbB,mem_cons_of_mem->zm,length_cons->zb,nil_append->zP,map_toArray->Zcr,append_nil->ZaA,map_append->Zai,take_zero->ZdB,length_take_le->ZbW,length_filter_le->Zac,filter_append->ZcW,take_length->ZcU,eq_nil_of_length_eq_zero->YM,length_take->ZcV,length_nil->zR,getElem?_concat_length->Y1
open List.cons renaming inj->zL
open Nat renaming zero_le->Zp,not_lt_zero->ZbY,zero_add->zN,lt_of_lt_of_le->Zl,le_refl->Zj,pow_le_pow_right->YX,le_trans->Zr,two_pow_pos->Zdz,le_of_eq->ZcS
open Option renaming bind_eq_some_iff->ZX,map_some->Zdh
open Option.some renaming inj->ZW
open True renaming intro->Yz
namespace Go.Proofs.Fit
open Go
@[simp] def Lp.func4:=l! Tryz.func3
@[simp] def Lp.func25:=l! Tryz.func4
@[simp] def Lp.call25:=c! Lp.func25
@[simp] def Lp.call27:=c! Lp.func27
@[simp] def Lp.func28:=l! Tryz.func7
@[simp] def Lp.call28:=c! Lp.func28
@[simp] def Lp.func36:=l! Tryz.func16
@[simp] def Lp.call36:=c! Lp.func36
@[simp] def Lp.func38:=l! Tryz.func9
@[simp] def Lp.call38:=c! Lp.func38
@[simp] def Lp.func39:=l! Tryz.func10
@[simp] def Lp.call39:=c! Lp.func39
@[simp] def Lp.func42:=l! Tryz.func14
@[simp] def Lp.call42:=c! Lp.func42
@[simp] def Lp.func43:=l! Tryz.func17
@[simp] def Lp.call43:=c! Lp.func43
@[simp] def Lp.func47:=l! Tryz.func30
@[simp] def Lp.call47:=c! Lp.func47
@[simp] def Lp.func50:=l! Tryz.func44
@[simp] def Lp.call50:=c! Lp.func50
@[simp] def Lp.func65:=l! Tryz.func35
@[simp] def Lp.call65:=c! Lp.func65
@[simp] def Lp.func93:=l! Tryz.func79
@[simp] def Lp.call93:=c! Lp.func93
@[simp] def Lp.func94:=l! Tryz.func121
@[simp] def Lp.call94:=c! Lp.func94
@[simp] def Lp.func95:=l! Tryz.func82
@[simp] def Lp.call95:=c! Lp.func95
@[simp] def Lp.func96:=l! Tryz.func81
@[simp] def Lp.call96:=c! Lp.func96
@[simp] def Lp.func97:=l! Tryz.func48
@[simp] def Lp.call97:=c! Lp.func97
@[simp] def Lp.func107:=l! Tryz.func45
@[simp] def Lp.call107:=c! Lp.func107
@[simp] def Lp.func108:=l! Tryz.func46
@[simp] def Lp.call108:=c! Lp.func108
@[simp] def Lp.func109:=l! Tryz.func47
@[simp] def Lp.call109:=c! Lp.func109
@[simp] def Lp.func115:=l! Tryz.func122
@[simp] def Lp.call115:=c! Lp.func115
@[simp] def Lp.func116:=l! Tryz.func76
@[simp] def Lp.call116:=c! Lp.func116
@[simp] def Lp.func117:=l! Tryz.func77
@[simp] def Lp.call117:=c! Lp.func117
@[simp] def Lp.func118:=l! Tryz.func78
@[simp] def Lp.call118:=c! Lp.func118
@[simp] def Lp.func127:=l! Tryz.func92
@[simp] def Lp.call127:=c! Lp.func127
@[simp] def Lp.func129:=l! Tryz.func62
@[simp] def Lp.call129:=c! Lp.func129
@[simp] def Lp.func131:=l! Tryz.func120
@[simp] def Lp.call131:=c! Lp.func131
@[simp] def Lp.func133:=l! Tryz.func91
@[simp] def Lp.call133:=c! Lp.func133
@[simp] def Lp.func135:=l! Tryz.func80
@[simp] def Lp.call135:=c! Lp.func135
@[simp] def Lp.func160:=l! Tryz.func113
@[simp] def Lp.call160:=c! Lp.func160
end Go.Proofs.Fit
namespace Go.Proofs.Fit
open Go Go.Conc Go.FA Go.RowKit
variable {W w A B w' w1:Zb}
variable {n k b i g cap j q rb c2 adx cc M:Nat}
variable {v v1 v2 v3 v4 v5 v' v6 u2 u1 u4 u5 lv u v7:Zf}
def agd {a:Addr}{c:Nat}(h:W.cell? (a.add k)=some v):VR (Qk W) (.slice (some a) n c) (.slice (some a) n c):=by
 obtain⟨_,_,_,b⟩:=Sp h;rw[CF]at b;exact .slice n c ⟨pA b,rfl,rfl⟩
end Go.Proofs.Fit
namespace Go.Proofs.Fit
open Go
def n25:Tryz.f4.ntmps=57:=rfl
def n28:Tryz.f7.ntmps=63:=rfl
def n36:Tryz.f16.ntmps=64:=rfl
def n38:Tryz.f9.ntmps=70:=rfl
def n39:Tryz.f10.ntmps=51:=rfl
def n42:Tryz.f14.ntmps=48:=rfl
def n43:Tryz.f17.ntmps=26:=rfl
def n47:Tryz.f30.ntmps=56:=rfl
def n50:Tryz.f44.ntmps=50:=rfl
def n65:Tryz.f35.ntmps=22:=rfl
def n93:Tryz.f79.ntmps=42:=rfl
def n94:Tryz.f121.ntmps=26:=rfl
def n95:Tryz.f82.ntmps=72:=rfl
def n96:Tryz.f81.ntmps=40:=rfl
def n97:Tryz.f48.ntmps=60:=rfl
def apH:Tryz.f45.ntmps=10:=rfl
def akz:Tryz.f46.ntmps=51:=rfl
def amh:Tryz.f47.ntmps=68:=rfl
def apI:Tryz.f122.ntmps=58:=rfl
def apN:Tryz.f76.ntmps=94:=rfl
def apO:Tryz.f77.ntmps=84:=rfl
def apP:Tryz.f78.ntmps=60:=rfl
def apQ:Tryz.f92.ntmps=93:=rfl
def apS:Tryz.f62.ntmps=31:=rfl
def ami:Tryz.f120.ntmps=44:=rfl
def apU:Tryz.f91.ntmps=31:=rfl
def aq1:Tryz.f80.ntmps=15:=rfl
def aq2:Tryz.f113.ntmps=57:=rfl
end Go.Proofs.Fit
namespace Go.Proofs.Fit
open Go Go.RowKit
variable {H:Type}
variable {W w A B w' w1:Zb}
variable {t e:Zs}
def adZ {enc:Zs×Zf->H}{P:Zo}{base:Nat}{c:Nat->Bool}{d:Bool}{f0 e:Field}(ht:P.underlying t=some (.struct #[f0,e]))(x:P.cellsOf t=2)(A:P.underlying f0.type=some (.int .i64))(z:P.underlying e.type=some (.int .i64))(D:P.cellsOf f0.type=1)(C:P.cellsOf e.type=1)(q:f0.offset=0)(p:e.offset=1):
  Reads enc P w base c d t Rp:=by
 intro n B y r;obtain⟨o,m,_,_,k,s,l⟩:=DataW.trod_struct ht r;have g:=l 0 f0 rfl;have f:=l 1 e rfl;rw[D,q]at g;rw[C,p]at f;have E:o.length=2:=s;rw[zf o!]at g f;obtain⟨a,j⟩:=kJ A _ _ _ g;obtain⟨b,i⟩:=kJ z _ _ _ f;rw[x]at k
 match B,k with
 | [u,v],_=>
  unfold Ri at j i;simp at j i;exact⟨(a,b),by unfold Rp;rw[j,i]⟩
end Go.Proofs.Fit
namespace Go.Proofs.Fit
open Go Go.Conc Go.FA Go.ChangeShapes Go.WideShapes Go.RowKit
set_option maxRecDepth 100000
def Nr (w:Zb)(v:Zf):Prop:=(∃n c,v=.slice none n c)\/(∃a,v=.slice (some a) 0 0)\/∃a n c k u,v=.slice (some a) n c/\w.cell? (a.add k)=some u
variable {W w A B w' w1:Zb}
variable {v v1 v2 v3 v4 v5 v' v6 u2 u1 u4 u5 lv u v7:Zf}
def Nr.aa0 (h:Nr W v):VR (Qk W) v v:=by
 rcases h with⟨n,c,rfl⟩|⟨a,rfl⟩|⟨a,n,c,k,u,rfl,h⟩
 .exact .slice (a:=none) n c trivial
 .exact .void _ _
 exact agd h
section
variable {H:Type}{enc:Zs×Zf->H}{P:Zo}{w:Zb}{base:Nat}{held:Bool}{α:Type}
variable {t e:Zs}
variable {n k b i g cap j q rb c2 adx cc M:Nat}
def reads_held {R:Zb->List Zf->α->Prop}(ht:P.underlying t=some (.slice e))(r:P.cellsOf e=k)(hp:0<k)(h:Reads enc P w base (λ_=>true) held e R):
  Reads enc P w base (λ_=>true) held t (λw cs (l:List α)=>∃v,cs=[v]/\Sl (Lv w) R k w v l/\Nr w v):=by
 intro n cs y j;obtain⟨l,v,rfl,q⟩:=bW ht r hp h n cs y j;refine⟨l,v,rfl,q,?_⟩;rcases DataW.trod_slice ht j with⟨e,_⟩|⟨a,b,cap,f,g,o,_,e,_,_,p,_,m,c,x,_⟩
 .cases e;exact .inl ⟨_,_,rfl⟩
 cases e;by_cases u:cap=0
 .obtain rfl:b=0:=by omega
  subst u;exact .inr (.inl ⟨_,rfl⟩)
 have go:∀i:Nat,(∃y,(w.cells? base (a.add (i*P.cellsOf e)) (P.cellsOf e)).bind (DataW.trod enc P w base (λ_=>true) held o e)=some y)->Nr w (.slice (some a) b cap):=λi ⟨y,h⟩=>by
  obtain⟨C,d,_⟩:=ZX.1 h;obtain⟨A,s⟩:=bR d;have:=s 0 _ (zf o!);rw[Addr.add_zero']at this;exact .inr (.inr ⟨a,b,cap,_,_,rfl,this⟩)
 by_cases z:b=0
 .obtain⟨B,d⟩:=x rfl
  exact go (b+0) ⟨_,(d 0 o!).trans (zf o!)⟩
 exact go 0 ⟨_,(c 0 o!).trans (zf o!)⟩
end
def RsH (w:Zb)(cs:List Zf)(s:Ay):Prop:=∃v2 v3,cs=[.int .i64 s.low,.int .i64 s.high,v2,v3,.int .i64 s.left]/\SP (Lv w) w v2 s.Ap/\SI (Lv w) w v3 s.over/\Nr w v2/\Nr w v3
section
variable {H:Type}{enc:Zs×Zf->H}{w:Zb}{base:Nat}{held:Bool}
def ajR:Tryz.prog.cellsOf 3=1:=k!
def ahB:Tryz.prog.cellsOf 22=1:=k!
def aki:Tryz.prog.cellsOf 23=1:=k!
def amj:Tryz.prog.cellsOf 24=1:=k!
def amk:Tryz.prog.cellsOf 48=1:=k!
def akj:Tryz.prog.cellsOf 50=5:=k!
def aml:Tryz.prog.cellsOf 26=5:=k!
def adT:Reads enc Zc w base (λ_=>true) held 3 Ri:=kJ k!
def ad5:Reads enc Zc w base (λ_=>true) held 22 (λw cs (l:List Int)=>∃v,cs=[v]/\SI (Lv w) w v l/\Nr w v):=
 reads_held (t:=22) (e:=3) k! ajR d! adT
def afl:Reads enc Zc w base (λ_=>true) held 48 (λw cs (l:List (Int×Int))=>∃v,cs=[v]/\SP (Lv w) w v l/\Nr w v):=
 reads_held (t:=48) (e:=105) k! k! d! (adZ Tryz.underlying105 k! k! k! k! k! rfl rfl)
def adJ:Reads enc Zc w base (λ_=>true) held 23 (λw cs (l:List (Int×Int))=>∃v,cs=[v]/\SP (Lv w) w v l/\Nr w v):=
 reads_held (t:=23) (e:=69) k! k! d! (adZ Tryz.underlying69 k! k! k! k! k! rfl rfl)
def agf:Reads enc Zc w base (λ_=>true) held 50 RsH:=by
 intro n b y t;obtain⟨a,m,_,_,o,u,c⟩:=DataW.trod_struct Tryz.underlying50 t;have E:a.length=5:=u;have l:DataW.trod enc Zc w base (λ_=>true) held m 3 ((b.drop 0).take (Tryz.prog.cellsOf 3))=a[0]? :=c 0 _ rfl;have k:DataW.trod enc Zc w base (λ_=>true) held m 3 ((b.drop 1).take (Tryz.prog.cellsOf 3))=a[1]? :=c 1 _ rfl;have j:DataW.trod enc Zc w base (λ_=>true) held m 48 ((b.drop 2).take (Tryz.prog.cellsOf 48))=a[2]? :=c 2 _ rfl;have i:DataW.trod enc Zc w base (λ_=>true) held m 22 ((b.drop 3).take (Tryz.prog.cellsOf 22))=a[3]? :=c 3 _ rfl;have g:DataW.trod enc Zc w base (λ_=>true) held m 3 ((b.drop 4).take (Tryz.prog.cellsOf 3))=a[4]? :=c 4 _ rfl;rw[ajR,zf o!]at l;rw[ajR,zf o!]at k;rw[amk,zf o!]at j;rw[ahB,zf o!]at i;rw[ajR,zf o!]at g;rw[akj]at o;obtain⟨D,f⟩:=adT _ _ _ l;obtain⟨C,e⟩:=adT _ _ _ k;obtain⟨B,x⟩:=afl _ _ _ j;obtain⟨A,v⟩:=ad5 _ _ _ i;obtain⟨z,d⟩:=adT _ _ _ g
 match b,o with
 | [u0,u1,u2,u3,u4],_=>
  unfold Ri at f e d;obtain⟨v2,q,s,d2⟩:=x;obtain⟨v3,p,r,d3⟩:=v;simp at f e q p d;exact⟨⟨D,C,B,A,z⟩,v2,v3,by rw[f,e,d,q,p],s,r,d2,d3⟩
def afm:Reads enc Zc w base (λ_=>true) held 24 (λw cs (l:List Ay)=>∃v,cs=[v]/\Sl (Lv w) RsH 5 w v l/\Nr w v):=
 reads_held (t:=24) (e:=50) k! akj d! agf
structure InC (w:Zb)(v1 v2 v3 v4 v5:Zf)(c:A_):Prop where
 base:SI (Lv w) w v1 c.base/\Nr w v1
 Af:SP (Lv w) w v2 c.Af/\Nr w v2
 hooks:SI (Lv w) w v3 c.hooks/\Nr w v3
 Aa:Sl (Lv w) RsH 5 w v4 c.Aa/\Nr w v4
 now:SI (Lv w) w v5 c.now/\Nr w v5
def aeR:Reads enc Zc w base (λ_=>true) held 26 (λw cs (c:A_)=>∃v1 v2 v3 v4 v5,cs=[v1,v2,v3,v4,v5]/\InC w v1 v2 v3 v4 v5 c):=by
 intro n cs y s;obtain⟨a,m,_,_,j,t,b⟩:=DataW.trod_struct Tryz.underlying26 s;have G:a.length=5:=t;have i:DataW.trod enc Zc w base (λ_=>true) held m 22 ((cs.drop 0).take (Tryz.prog.cellsOf 22))=a[0]? :=b 0 _ rfl;have g:DataW.trod enc Zc w base (λ_=>true) held m 23 ((cs.drop 1).take (Tryz.prog.cellsOf 23))=a[1]? :=b 1 _ rfl;have f:DataW.trod enc Zc w base (λ_=>true) held m 22 ((cs.drop 2).take (Tryz.prog.cellsOf 22))=a[2]? :=b 2 _ rfl;have e:DataW.trod enc Zc w base (λ_=>true) held m 24 ((cs.drop 3).take (Tryz.prog.cellsOf 24))=a[3]? :=b 3 _ rfl;have d:DataW.trod enc Zc w base (λ_=>true) held m 22 ((cs.drop 4).take (Tryz.prog.cellsOf 22))=a[4]? :=b 4 _ rfl;rw[ahB,zf o!]at i;rw[aki,zf o!]at g;rw[ahB,zf o!]at f;rw[amj,zf o!]at e;rw[ahB,zf o!]at d;rw[aml]at j;obtain⟨F,r,q,A⟩:=ad5 _ _ _ i;obtain⟨E,v1,p,z⟩:=adJ _ _ _ g;obtain⟨D,v2,o,x⟩:=ad5 _ _ _ f;obtain⟨C,v3,l,v⟩:=afm _ _ _ e;obtain⟨B,v4,k,u⟩:=ad5 _ _ _ d
 match cs,j with
 | [u0,u1,u2,u3,u4],_=>
  simp at q p o l k;exact⟨⟨F,E,D,C,B⟩,r,v1,v2,v3,v4,by rw[q,p,o,l,k],A,z,x,v,u⟩
end
variable {n k b i g cap j q rb c2 adx cc M:Nat}
def Sl.left {d:Type}{t:Tape}{R R':Zb->List Zf->d->Prop}{l:List d}(h:Sl (Lv W) R k W v l)(n:∀cs x,R W cs x->(∀u∈cs,VR (Qk W) u u)/\R' (tp (BD W) t) cs x):Sl (Lv (tp (BD W) t)) R' k (tp (BD W) t) v l:=by
 obtain⟨a,c,s,r,q,p⟩:=h;refine⟨a,c,s,r,q,λi x m=>?_⟩;obtain⟨b,o,cs,B,A,z,y,w⟩:=p i x m;obtain⟨g,f⟩:=n _ _ w;refine⟨b,o,cs,B,?_,z,λj u e=>?_,f⟩
 .show b<(BD W).heap.size
  rw[ej];exact A
 exact SJ (y j u e) (g u (Z3 e))
variable {l nums:List Int}
def ae3 {t:Tape}(h:SI (Lv W) W v l):SI (Lv (tp (BD W) t)) (tp (BD W) t) v l:=Sl.left h λc x a=>by
 unfold Ri at a;subst a;exact⟨λu b=>by obtain rfl:=Yh.1 b;exact .int _ _,rfl⟩
def agh {t:Tape}{l:List (Int×Int)}(h:SP (Lv W) W v l):SP (Lv (tp (BD W) t)) (tp (BD W) t) v l:=Sl.left h λc x a=>by
 unfold Rp at a;subst a;exact⟨λu b=>by simp at b;rcases b with rfl|rfl<;>exact .int _ _,rfl⟩
def akA {t:Tape}{l:List Ay}(h:Sl (Lv W) RsH 5 W v l):SS (Lv (tp (BD W) t)) (tp (BD W) t) v l:=Sl.left h λe x d=>by
 obtain⟨v2,v3,rfl,c,b,d2,d3⟩:=d;refine⟨λu a=>?_,v2,v3,rfl,agh c,ae3 b⟩;simp at a;rcases a with rfl|rfl|rfl|rfl|rfl
 .exact .int _ _
 .exact .int _ _
 .exact d2.aa0
 .exact d3.aa0
 exact .int _ _
variable {c:A_}
def InC.left (t:Tape)(h:InC W v1 v2 v3 v4 v5 c):RC (Lv (tp (BD W) t)) (tp (BD W) t) v1 v2 v3 v4 v5 c:=
 ⟨ae3 h.base.1,agh h.Af.1,ae3 h.hooks.1,akA h.Aa.1,ae3 h.now.1⟩
def InC.aa0 {W:Zb}{v1 v2 v3 v4 v5:Zf}{c:A_}(h:InC W v1 v2 v3 v4 v5 c):VR (Qk W) (.agg #[v1,v2,v3,v4,v5]) (.agg #[v1,v2,v3,v4,v5]):=by
 refine .P6 ⟨rfl,λi x y b a=>?_⟩
 match i,b,a with
 |0,b,a=>cases b;cases a;exact h.base.2.aa0
 |1,b,a=>cases b;cases a;exact h.Af.2.aa0
 |2,b,a=>cases b;cases a;exact h.hooks.2.aa0
 |3,b,a=>cases b;cases a;exact h.Aa.2.aa0
 |4,b,a=>cases b;cases a;exact h.now.2.aa0
section
variable {H:Type}{enc:Zs×Zf->H}{W:Zb}
variable {ps:List MemPlace}
def agi {base:Nat}{d:DataW H}(ok:Zbk Zc W .any base 26 v)(h:DataW.Trod enc Zc W 0 (λ_=>true) true 26 v d ps):∃v1 v2 v3 v4 v5 c,v=.agg #[v1,v2,v3,v4,v5]/\InC W v1 v2 v3 v4 v5 c:=by
 obtain⟨a,rfl,_⟩:=okWide_struct Tryz.underlying26 ok;obtain⟨n,b⟩:=h;obtain⟨c,v1,v2,v3,v4,v5,e,f⟩:=aeR n _ _ b;refine⟨v1,v2,v3,v4,v5,c,?_,f⟩;have:a.toList=[v1,v2,v3,v4,v5]:=e;rw[<-Array.toList_inj.1 (show a.toList= #[v1,v2,v3,v4,v5].toList from this)]
def aj2 {base:Nat}{d:DataW H}(ok:Zbk Zc W .any base 22 v)(h:DataW.Trod enc Zc W 0 (λ_=>true) true 22 v d ps):∃l,SI (Lv W) W v l/\Nr W v:=by
 obtain⟨a,n,c,rfl⟩:=okWide_slice (t:=22) YE ok;obtain⟨n,f⟩:=h;obtain⟨l,u,e,b⟩:=ad5 n _ _ f;cases e;exact⟨l,b⟩
end
set_option maxRecDepth 100000
variable {H:Type}
variable {args cs cur:Array Zf}
variable {ps:List MemPlace}
def trodAll_three {enc:Zs×Zf->H}{j i g:Zs}{C:List (DataW H)}(h:Za9 enc Zc W 0 (λ_=>true) true [j,i,g] args.toList C ps):
  ∃x y z d1 d2 d3 e d c,args= #[x,y,z]/\DataW.Trod enc Zc W 0 (λ_=>true) true j x d1 e/\DataW.Trod enc Zc W 0 (λ_=>true) true i y d2 d/\DataW.Trod enc Zc W 0 (λ_=>true) true g z d3 c:=by
 obtain⟨x,m,d1,B,e,F,w,_,_,s,r⟩:=trodAll_cons h;obtain⟨y,k,d2,A,d,E,v,_,_,q,p⟩:=trodAll_cons r;obtain⟨z,b,d3,f,c,D,u,_,_,o,n⟩:=trodAll_cons p;have t:b=[]:=by
  cases b with
  |nil=>rfl
  |cons a l=>cases f<;>exact(show False from n).elim
 subst t u v;exact⟨x,y,z,d1,d2,d3,e,d,c,by rw[<-Array.toList_inj.1 (show args.toList= #[x,y,z].toList from w)],s,q,o⟩
def ai2 {ρ:Ren}{x y z:Zf}(e:VR ρ x x)(d:VR ρ y y)(c:VR ρ z z):BS ρ #[x,y,z] #[x,y,z]:=⟨rfl,λi u v b a=>by
 match i,b,a with
 |0,b,a=>cases b;cases a;exact e
 |1,b,a=>cases b;cases a;exact d
 |2,b,a=>cases b;cases a;exact c⟩
set_option maxRecDepth 100000
def RpH (w:Zb)(cs:List Zf)(x:List (Int×Int)):Prop:=∃u,cs=[u]/\SP (Lv w) w u x/\Nr w u
section
variable {H:Type}{enc:Zs×Zf->H}{w:Zb}{base:Nat}{held:Bool}
def afc:Reads enc Zc w base (λ_=>true) held 27 (λw cs (l:List (List (Int×Int)))=>∃v,cs=[v]/\Sl (Lv w) RpH 1 w v l/\Nr w v):=
 reads_held (t:=27) (e:=23) k! aki d! (R:=RpH) adJ
end
def ajS {t:Tape}{l:List (List (Int×Int))}(h:Sl (Lv W) RpH 1 W v l):SSP (Lv (tp (BD W) t)) (tp (BD W) t) v l:=Sl.left h λcs x b=>by
 obtain⟨u,rfl,c,d⟩:=b;exact⟨λy a=>by obtain rfl:=Yh.1 a;exact d.aa0,u,rfl,agh c⟩
section
variable {H:Type}{enc:Zs×Zf->H}{W:Zb}
def agj {base:Nat}{d:DataW H}(ok:Zbk Zc W .any base 27 v)(h:DataW.Trod enc Zc W 0 (λ_=>true) true 27 v d ps):∃l,Sl (Lv W) RpH 1 W v l/\Nr W v:=by
 obtain⟨a,n,c,rfl⟩:=okWide_slice (t:=27) Tryz.underlying27 ok;obtain⟨n,f⟩:=h;obtain⟨l,u,e,b⟩:=afc n _ _ f;cases e;exact⟨l,b⟩
end
variable {f:ZaQ}
def aj6 {fn:Func}{base:Nat}{enc:Zs×Zf->H}{r:List (DataW H)}(hp:fn.params= #[26,27,22])
 (a:∀(j:Nat) t v,fn.params[j]?=some t->args[j]?=some v->Zbk Zc W .any base t v) (k:Za9 enc Zc W 0 (λ_=>true) true fn.params.toList args.toList r ps) (n:Jr (BD W))
 (b:∀(w:Zb) (v1 v2 v3 v4 v5 v6 v7:Zf) (c:A_) (ls:List (List (Int×Int))) (nums:List Int),RC (λx=>x<w.heap.size) w v1 v2 v3 v4 v5 c->SSP (λx=>x<w.heap.size) w v6 ls->SI (λx=>x<w.heap.size) w v7 nums->Jr w->Calls Lp f #[.agg #[v1,v2,v3,v4,v5],v6,v7] w (Two w (.bool true))):
  BS (Qk W) args args/\∀t,Calls Lp f args (tp (BD W) t) (Wr (tp (BD W) t)):=by
 rw[hp]at a k;obtain⟨x,y,z,d1,d2,d3,A,u,s,rfl,q,p,o⟩:=trodAll_three k;obtain⟨v1,v2,v3,v4,v5,c,rfl,i⟩:=agi (a 0 26 x rfl rfl) q;obtain⟨ls,m,g⟩:=agj (a 1 27 y rfl rfl) p;obtain⟨nums,l,d⟩:=aj2 (a 2 22 z rfl rfl) o;exact⟨ai2 i.aa0 g.aa0 d.aa0,λt=>(b _ _ _ _ _ _ _ _ _ _ _ (i.left t) (ajS m) (ae3 l) n).mono λe w' h=>h⟩
end Go.Proofs.Fit
namespace Go.Proofs.Fit
open Go Go.RowKit
def g80 (w:Zb)(x y:Zbv)(xs a:Array Zf):(eqGuard .neq 69 x y (.agg xs) (.agg a)).run Lp w=.ok () w:=run_eqGuard_agg w _ _ _ _ _ _ k!
def q80 (w:Zb)(a b c d:Int):(binOp .neq 69 (.agg #[.int .i64 a,.int .i64 b]) (.agg #[.int .i64 c,.int .i64 d])).run Lp w=.ok (.bool ((a,b) !=(c,d))) w:=by
 rw[run_neq_struct,run_equalIn_agg (ht:=k!) (hp:=k!)];simp[go_sem];by_cases f:a=c<;>by_cases e:b=d<;>simp[f,e]
def af1 (a b:List (Int×Int)):Bool:=decide (a=b)
def ai3 {a b:List (Int×Int)}(hl:a.length=b.length)(h:∀j,j<a.length->BV a j=BV b j):a=b:=by
 apply YA;intro i;by_cases c:i<a.length
 .rw[EE c,EE o!,h i c]
 rw[ZP o!,ZP o!]
variable {S T Sn:Nat->Prop}
variable {W w A B w' w1:Zb}
variable {v v1 v2 v3 v4 v5 v' v6 u2 u1 u4 u5 lv u v7:Zf}
def c43 {a b:List (Int×Int)}(A:SP S w v a)(z:SP T w v' b)(C:Ql6 S w)(B:∀b,T b->b<w.heap.size):
  Calls Lp 17 #[v,v'] w λe w'=>e=.returned (.bool (af1 a b))/\Qb6 w w':=by
 obtain⟨a1,Y,rfl,R,P⟩:=A.val;obtain⟨Z,X,rfl,Q,O⟩:=z.val;have IX:=DJ;by_cases d:a.length=b.length
 .have t:=Zd d
  clear d;have m:((a.length:Int) !=b.length)=false:=by simp[t.out]
  go_enter Lp.func43,n43;go_wp2;go_loopg [5] a.length (λg i wr=>∃k:Nat,k<=a.length/\g=a.length - k/\i=.int .i64 k/\(∀j,j<k->BV a j=BV b j)/\Qb6 w wr)
  case atStart=>exact⟨0,Zp _,rfl,rfl,λj n=>absurd n (ZbY _),Zh _ _⟩
  obtain⟨k,W,rfl,rfl,G,c⟩:=hrel;have o:=Zd G;clear G;by_cases N:k<a.length
  .have s:k<b.length:=by have:=t.out;omega
   obtain⟨l,y,rfl,E,K,H⟩:=A.at_ N;obtain⟨f,x,rfl,F,J,r⟩:=z.at_ s;rw[<-c.cell (p:=⟨l,y+k*2,none⟩) (C l E)]at K;rw[<-c.cell (p:=⟨l,y+k*2+1,none⟩) (C l E)]at H;rw[<-c.cell (p:=⟨f,x+k*2,none⟩) (B f F)]at J;rw[<-c.cell (p:=⟨f,x+k*2+1,none⟩) (B f F)]at r;have V:(k:Int)<(a.length:Int):=o!
   have U:(k:Int)<(b.length:Int):=o!
   have M:=q80;have L:=g80;go_wp2;go_quiet (fail);go_wp2
   .have q:(((BV a k).fst,(BV a k).snd) !=((BV b k).fst,(BV b k).snd))=true:=by assumption
    go_ret;refine⟨?_,Y5 c _⟩;have:af1 a b=false:=by
     unfold af1;refine decide_eq_false λe=>?_;rw[e]at q;simp at q
    rw[this];rfl
   have q:(((BV a k).fst,(BV a k).snd) !=((BV b k).fst,(BV b k).snd))=false:=a!
   have I:BV a k=BV b k:=by simp at q;exact Prod.ext q.1 q.2
   go_roundg (a.length - (k+1))
   case rel=>exact⟨k+1,o!,rfl,v!,λj n=>by
    by_cases e:j=k
    .rw[e];exact I
    exact o.out j o!,Y5 c _⟩
   omega
  have D:af1 a b=true:=decide_eq_true (ai3 t.out λj n=>o.out j o!);have u:=Zd D;clear D o;go_wp2;go_ret;exact⟨by rw[u.out];rfl,c⟩
 have m:((a.length:Int) !=b.length)=true:=j!
 have u:=Zd (show af1 a b=false from decide_eq_false λe=>d (by rw[e]));clear d;go_enter Lp.func43,n43;go_wp2;go_ret;exact⟨by rw[u.out];rfl,Zh _ _⟩
def aiJ (l:List Int)(a:List Bool):List Bool:=l.foldl (λo x=>o.set x.toNat true) a
def yn (n:Nat):Nat->List (List Int)->List Bool->List Bool
 |_,[],a=>a
 |i,s::r,a=>yn n (i+1) r (if i=n\/a.getD i false=true then aiJ s a else a)
def iV (n:Nat)(l:List (List Int)):Nat->List Bool->List Bool
 |0,a=>a
 |k+1,a=>iV n l k (yn n 0 l a)
def acj (l:List Ay):List (List Int):=l.map (·.over)
def aiK (o:List (List Int))(n:Nat):List Bool:=iV n o o.length (List.replicate o.length false)
def adh (l:List Ay)(n:Nat):List Bool:=aiK (acj l) n
def rh (ab:Nat->Nat)(i:Nat):List (List Int)->Nat->Nat
 | []=>ab
 |s::r=>rh (HJ ab i s) (i+1) r
def iW (ab:Nat->Nat)(l:List (List Int)):Nat->Nat->Nat
 |0=>ab
 |n+1=>iW (rh ab 0 l) l n
def ri (l:List (List Int)):Nat->Nat:=iW (λ_=>0) l l.length
def afn:∀(l:List Ay) (ab:Nat->Nat) (i:Nat),K6 ab i l=rh ab i (acj l)
 | [],_,_=>rfl
 |s::r,ab,i=>afn r (HJ ab i s.over) (i+1)
def af4 (l:List Ay):∀(n:Nat) (ab:Nat->Nat),G5 ab l n=iW ab (acj l) n
 |0,_=>rfl
 |n+1,ab=>by
  show G5 (K6 ab 0 l) l n=iW (rh ab 0 (acj l)) (acj l) n;rw[af4 l n,afn]
def aj7 (l:List Ay):Ax l=ri (acj l):=by
 unfold Ax ri;rw[af4,show(acj l).length=l.length by simp[acj]]
def WU (o:List (List Int)):Bool:=(Yr o.length).all λn=>(Yr o.length).all λk=>(aiK o n).getD k false==hasB (ri o n) k
def Lj:List (List Int):=[[],[0],[1],[2],[0,1],[0,2],[1,2],[0,1,2]]
def acD:∀a∈Lj,WU [a.filter (· <1)]=true:=by decide+kernel
def acE:∀a∈Lj,∀b∈Lj,WU [a.filter (· <2),b.filter (· <2)]=true:=by decide+kernel
def acF:∀a∈Lj,∀b∈Lj,∀c∈Lj,WU [a,b,c]=true:=by decide+kernel
variable {l nums:List Int}
def EM (f:l.Pairwise (· < ·))(e:∀x∈l,0<=x/\x<3):l∈Lj:=by
 have g:∀x:Int,0<=x/\x<3->x=0\/x=1\/x=2:=λx h=>o!
 match l,f,e with
 | [],_,_=>simp[Lj]
 | [a],_,e=>
  rcases g a (e a i!) with rfl|rfl|rfl<;>simp[Lj]
 | [a,b],f,e=>
  have i:a<b:=by simpa using f
  rcases g a (e a i!) with rfl|rfl|rfl<;>rcases g b (e b i!) with rfl|rfl|rfl<;>first|(exfalso;omega)|simp[Lj]
 | [a,b,c],f,e=>
  have i:a<b/\b<c:=by
   simp at f;exact⟨f.1.1,f.2⟩
  have j:=e a i!;have m:=e c i!;obtain rfl:a=0:=o!
  obtain rfl:c=2:=o!
  obtain rfl:b=1:=o!
  simp[Lj]
 |a::b::c::d::r,f,e=>
  exfalso;simp only[List.pairwise_cons]at f;have i:=f.1 b i!;have o:=f.2.1 c i!;have n:=f.2.2.1 d i!;have j:=e a i!;have k:=e d i!;omega
def filter_lt {n:Int}(a:∀x∈l,0<=x/\x<n):l.filter (· <n)=l:=List.filter_eq_self.2 λx h=>by simpa using(a x h).2
def vU {o:List (List Int)}(g:o.length<=3)(e:∀l∈o,l.Pairwise (· < ·))(d:∀l∈o,∀x∈l,0<=x/\x<o.length):WU o=true:=by
 match o,g,e,d with
 | [],_,_,_=>rfl
 | [a],_,e,d=>
  have f:=d a i!;have:=acD a (EM (e a i!) λx h=>by have:=f x h;simp at this;omega);rwa[filter_lt (λx h=>by have:=f x h;simpa using this)]at this
 | [a,b],_,e,d=>
  have f:=d a i!;have i:=d b i!;have:=acE a (EM (e a i!) λx h=>by have:=f x h;simp at this;omega) b (EM (e b i!) λx h=>by have:=i x h;simp at this;omega);rwa[filter_lt (λx h=>by have:=f x h;simpa using this),filter_lt (λx h=>by have:=i x h;simpa using this)]at this
 | [a,b,c],_,e,d=>
  exact acF a (EM (e a i!) λx h=>by have:=d a i! x h;simpa using this) b (EM (e b i!) λx h=>by have:=d b i! x h;simpa using this)
   c (EM (e c i!) λx h=>by have:=d c i! x h;simpa using this)
 |_::_::_::_::_,g,_,_=>simp at g
variable {n k b i g cap j q rb c2 adx cc M:Nat}
def aj8 {number:Nat}(h:CY (Ed n number l) 0 l=0):l.Pairwise (· < ·)/\∀x∈l,0<=x/\x<n:=by
 have a:∀k (a:k<l.length),(0<=l[k]/\l[k]<n)/\(0<k->nth l (k - 1)<l[k]):=λk a=>by
  have:=Gs h k l[k] (zf a);unfold Ed at this;split at this
  .cases this
  next g=>
  split at this
  .cases this
  next f=>
  refine⟨?_,λs=>?_⟩
  .have:=G' (n:=l[k]) (lo:=0) (hi:=(n:Int) - 1) (by cases e:AD l[k] 0 ((n:Int) - 1);rfl;exact absurd (.inl e) g)
   omega
  exact Int.lt_of_not_ge λb=>f ⟨o!,by rw[zN];exact b⟩
 refine⟨?_,λx o=>?_⟩
 .have step:∀i (hi:i+1<l.length),l[i]<l[i+1]:=λi hi=>by
   have:=(a (i+1) hi).2 (Nat.succ_pos _);simpa[nth,Y6,show i<l.length by omega]using this
  have c:∀d i (hi:i+d+1<l.length),l[i]<l[i+d+1]:=by
   intro d
   induction d with
   |zero=>intro i hi;exact step i hi
   |succ d m=>
    intro i hi;have g:=m i o!;have f:=step (i+d+1) o!;have e:l[i+(d+1)+1]=l[i+d+1+1]:=rfl;rw[e];omega
  rw[ZdK];intro i j hi r p;have:=c (j - i - 1) i o!;have e:l[i+(j - i - 1)+1]' o!=l[j]:=by congr 1;omega
  rwa[e]at this
 obtain⟨k,q,rfl⟩:=Zas o;exact(a k q).1
def ai5 {l:List Ay}(d:l.length<=3)(h:∀s∈l,s.over.Pairwise (· < ·)/\∀x∈s.over,0<=x/\x<l.length)(f:n<l.length)(e:k<l.length):(adh l n).getD k false=hasB (Ax l n) k:=by
 have c:(acj l).length=l.length:=by simp[acj]
 have:=vU (o:=acj l) o! (λo b=>by obtain⟨s,a,rfl⟩:=List.mem_map.1 b;exact(h s a).1)
  (λo b=>by obtain⟨s,a,rfl⟩:=List.mem_map.1 b;rw[c];exact(h s a).2)
 unfold WU at this;rw[Zdm]at this;have:=this n (by rw[List.mem_range];omega);rw[Zdm]at this;have:=this k (by rw[List.mem_range];omega);rw[aj7];exact eq_of_beq this
def acf (l:List Ay):List Ay:=l.map λx=> {x with left:=0}
def ads:∀(l:List Ay) (ab:Nat->Nat) (i:Nat),K6 ab i (acf l)=K6 ab i l
 | [],_,_=>rfl
 |s::r,ab,i=>ads r (HJ ab i s.over) (i+1)
def ado (l:List Ay):∀(n:Nat) (ab:Nat->Nat),G5 ab (acf l) n=G5 ab l n
 |0,_=>rfl
 |n+1,ab=>by
  show G5 (K6 ab 0 (acf l)) (acf l) n=G5 (K6 ab 0 l) l n;rw[ads,ado l n]
def adt (l:List Ay):Ax (acf l)=Ax l:=by
 unfold Ax;rw[ado];simp[acf]
def ae5 {a b:List Ay}(h:acf a=acf b):Ax a=Ax b:=by rw[<-adt a,h,adt]
def af5 {a b:List Ay}(h:acf a=acf b):a.length=b.length:=by
 have:=congrArg List.length h;simpa[acf]using this
def agk (s:List Ay)(i:Nat):acf (Kn s i)=acf s:=by
 unfold acf Kn;apply YA;intro j;simp only[YL,List.getElem?_modify];cases s[j]? with
 |none=>rfl
 |some x=>by_cases h:i=j<;>simp[h]
def adK:∀(l:List Int) (s:List Ay),acf (CJ s l)=acf s
 | [],_=>rfl
 |i::r,s=>(adK r (Kn s i.toNat)).trans (agk s _)
def ajT {a b:List Ay}(h:acf a=acf b)(hi:i<a.length): {Aj a i with left:=0}= {Aj b i with left:=0}:=by
 have e:=congrArg (λl=>l[i]?) h;simp only[acf,YL,Db hi,Db (show i<b.length by rw[<-af5 h];exact hi),Zdh]at e;exact ZW e
def Qr (n:Nat)(m:Nat->Int):List Int:=(Yr n).map m
def EI (n:Nat)(m:Nat->Int):(Qr n m).length=n:=by simp[Qr]
variable {m:Nat->Int}
def rj (h:i<n):nth (Qr n m) i=m i:=by simp[Qr,nth,h]
def lC (l:List Int):l=Qr l.length (λj=>nth l j):=by
 apply YA;intro i;by_cases h:i<l.length
 .rw[Bn h];simp[Qr,h]
 rw[ZP o!,ZP (by rw[EI];omega)]
def rm (h:i<n)(k b:Int):(Qr n m).set i (m i+b*k)=Qr n (K7 m k ((i:Int),b)):=by
 apply YA;intro j;by_cases c:j<n
 .by_cases a:i=j
  .subst a
   rw[Ys (by rw[EI];exact h)];simp[Qr,c,K7]
  rw[ZS a];simp[Qr,c,K7];omega
 rw[ZP (by simp[EI];omega),ZP (by rw[EI];omega)]
structure MG (w:Zb)(xs:Array Zf)(v:Zf)(n:Nat)(m:Nat->Int)(wr:Zb):Prop where
 below:Qb6 w wr
 box:wr.heap[w.heap.size]?=some (.cells xs 26 (0,0))
 own:Own wr (w+1) v (Qr n m)
def MG.later {wr:Zb}{xs:Array Zf}(h:MG w xs v n m wr)(a:Qb6 wr W):MG w xs v n m W:=
 ⟨h.below.trans (a.mono h.below.size),(a.block _ (Za.1 h.box).1).trans h.box,h.own.later a⟩
def MG.row {wr:Zb}{xs:Array Zf}(h:MG w xs (.slice g n cap) n m wr)(hi:i<n):w+1<=g/\∃a,wr.heap[g]?=some (.cells a 3 (0,0))/\a[i]?=some (.int .i64 (m i)):=by
 obtain⟨l,o,a,e,d,c,k,j,b,f⟩:=h.own.val (by rw[EI];omega);rw[EI]at e;cases e;refine⟨d,a,c,?_⟩;rw[b i (by rw[EI];exact hi),rj hi]
def MG.set {wr:Zb}{xs:Array Zf}(h:MG w xs (.slice g n cap) n m wr)(hi:i<n)(k b:Int):MG w xs (.slice g n cap) n (K7 m k ((i:Int),b)) (wr.setCell ⟨g,i,none⟩ (.int .i64 (m i+b*k))):=by
 obtain⟨p,q,c,e,o,l,j,f,d,a⟩:=h.own.val (by rw[EI];omega);rw[EI]at e;cases e;refine⟨bS h.below o!,(AZ o! _).trans h.box,?_⟩;rw[<-rm hi];exact a i _ (by rw[EI];exact hi)
variable {c:A_}
def c47 (h:RC S w v1 v2 v3 v4 v5 c)(s:Fq c)(hl:SI S w v6 l)(hn:l.length<=c.Aa.length)(hb:∀i,i<l.length->-2<=nth l i/\nth l i<=2)(I:Ql6 S w):
  Calls Lp 30 #[.agg #[v1,v2,v3,v4,v5],v6] w λe w'=>∃u,e=.returned u/\Qb6 w w'/\SI (Cb w w') w' u (Cc c l):=by
 obtain⟨T,M,R,c2,Q,L,a4,A,P,K,rfl,rfl,rfl,rfl,rfl,l1,m1,l2,m2,l3,m3,l4,m4,l5,m5⟩:=h.vs;obtain⟨a6,c6,rfl,l6,m6⟩:=hl.val;have IX:=DJ;obtain⟨tN,lZ⟩:=s.Fp;have HM:=Zd (show measure c l=Iw (λj=>nth c.base j) (l.zip c.Aa) from rfl);have Bg:YH w w (w.alloc (.cells (Qe6 c T M R c2 Q L a4 A P K) 26)):=bA (Zh _ _);have be:=Zd (λW (hB:Qb6 w W)=>WO (h.later hB).base o!);have ai:=MP s;have bc:=Zd (lC c.base);go_enter Lp.func47,n47;go_wp2_with (go_at_call 27;refine(be.out _ Bg).mono ?_;rintro e w1 ⟨u,rfl,Bb,J⟩;obtain⟨g,cap,ap,rfl,z,_⟩:=J.val o!);have an:MG w #[.slice T c.base.length M,.slice R c.Af.length c2,.slice Q c.hooks.length L,.slice a4 c.Aa.length A,.slice P c.now.length K] (.slice g c.base.length cap) c.base.length (λj=>nth c.base j) w1:=by
  refine⟨Bg.trans (Bb.mono Bg.size),(Bb.block _ i!).trans (Bp _ _),?_⟩;rw[<-bc.out];rw[ZB]at J;exact J
 clear Bb J z;go_loopg [6] l.length (λgg i wr=>∃(k:Nat) (m:Nat->Int),k<=l.length/\gg=l.length - k/\i=.int .i64 k/\Iw m ((l.zip c.Aa).drop k)=measure c l/\(∀j,-(60+16*k)<=m j/\m j<=60+16*k)/\MG w #[.slice T c.base.length M,.slice R c.Af.length c2,.slice Q c.hooks.length L,.slice a4 c.Aa.length A,.slice P c.now.length K] (.slice g c.base.length cap) c.base.length m wr)
 case atStart=>exact⟨0,_,Zp _,rfl,rfl,rfl,λj=>by have:=ai j;omega,an⟩
 obtain⟨k,m,hk,rfl,rfl,D,ac,hM⟩:=hrel;have hf:=Zd D;clear D;by_cases Az:k<l.length
 .have U:k<c.Aa.length:=by omega
  have V:=hb k Az;have Z:=Zd (SR (m:=m) Az U);obtain⟨b6,o6,rfl,Xj,xu⟩:=hl.at_ Az;obtain⟨b,o,s2,s3,rfl,UQ,ER,MM,LO,et,mi,Y,ho⟩:=h.Aa.at_ (i:=k) U;obtain⟨a7,c7,rfl,l7,m7⟩:=Y.val;clear ER MM et mi;have Xa:=s.pull k U;have X:=s.Ap k U;have Jm:=s.few;obtain⟨n,Gc⟩:=Qnm (nth l k);rw[<-Gc]at xu V Z;clear Gc;obtain⟨a,lP⟩:=Qnm ((Aj c.Aa k).Ap);rw[<-lP]at LO Y l7 Xa X Z;clear lP;have TB:(k:Int)<(l.length:Int):=o!
  have ct:(k:Int)<(c.Aa.length:Int):=o!
  go_wp2;go_loopg [7] a.length (λgg i wx=>∃(j:Nat) (d:Nat->Int),j<=a.length/\gg=a.length - j/\i=.int .i64 j/\CZ d n (a.drop j)=CZ m n a/\(∀i,-(60+16*(k:Int)+8*j)<=d i/\d i<=60+16*(k:Int)+8*j)/\MG w #[.slice T c.base.length M,.slice R c.Af.length c2,.slice Q c.hooks.length L,.slice (some ⟨b,o,none⟩) c.Aa.length A,.slice P c.now.length K] (.slice g c.base.length cap) c.base.length d wx)
  case atStart=>exact⟨0,m,Zp _,rfl,rfl,rfl,λi=>by have:=ac i;omega,hM⟩
  obtain⟨j,d,hj,rfl,rfl,D,eA,f⟩:=hrel;have MK:=Zd D;clear D;have ba:=(f.below.cell (p:=⟨b,o+k*5+2,none⟩) (I b UQ)).trans LO;have g3:=ch (i:=3) f.box (v:=.slice (some ⟨b,o,none⟩) c.Aa.length A) rfl;by_cases G4:j<a.length
  .obtain⟨O,o7,rfl,U3,F,E⟩:=Y.at_ G4
   rw[<-f.below.cell (p:=⟨O,o7+j*2,none⟩) (I O U3)]at F;rw[<-f.below.cell (p:=⟨O,o7+j*2+1,none⟩) (I O U3)]at E;have B:=(f.below.cell (p:=⟨b6,o6+k,none⟩) (I b6 Xj)).trans xu;have t:=Zd (PO (m:=d) (n:=n) G4);obtain⟨Oo,MF,H,G⟩:=Xa j G4;obtain⟨q,hq⟩:=Qnm (BV a j);rw[<-hq]at F E t Oo MF H G;clear hq;obtain⟨x',y⟩:=q;obtain⟨x,rfl⟩:∃x:Nat,x'=x:=⟨x'.toNat,by simp only at Oo;omega⟩;dsimp only at F E Oo MF H G;have xy:x<c.base.length:=o!
   have bi:(x:Int)<(c.base.length:Int):=o!
   have ck:(0:Int)<=(x:Int):=o!
   have dl:(0:Int)<=(k:Int):=o!
   have LZ:(j:Int)<(a.length:Int):=o!
   have ci:(0:Int)<=(j:Int):=o!
   have bv:=prod_bound ⟨H,G⟩ V;have bV:=eA x;have eB:=f.later (bA (o:=.cells #[.int .i64 x,.int .i64 y] 105) (Zh _ _));go_wp2;obtain⟨C,r⟩:=Qnm (wr.alloc (.cells #[.int .i64 x,.int .i64 y] 105));have e0:C.cell? wr=some (.int .i64 x):=by rw[r];exact cn _ _ _ rfl
   have e1:C.cell? ⟨wr,1,none⟩=some (.int .i64 y):=by rw[r];exact cn _ _ _ rfl
   have e6:C.cell? ⟨b6,o6+k,none⟩=some (.int .i64 n):=by rw[r];exact ca B _
   rw[<-r]at eB;obtain⟨z,ap,Xg,Ox⟩:=eB.row xy;have r0:C.cell? ⟨g,x,none⟩=some (.int .i64 (d x)):=ch Xg Ox;have rf:=cf (i:=x) Xg;rw[<-r];clear r B F E g3 ba;go_still_tail 17,k!;change wpList _ _ _ _ _ C.drew;have am:=(eB.later (Zh _ _).drew).set xy n y;go_wp2;go_roundg (a.length - (j+1))
   case rel=>exact⟨j+1,K7 d n ((x:Int),y),o!,rfl,v!,by rw[<-MK.out,t.out],λi=>by have:=MO (N:=60+16*(k:Int)+8*j) (p:=((x:Int),y)) eA ⟨H,G⟩ V i;omega,am⟩
   omega
  have e2:d=CZ m n a:=by rw[<-MK.out,Z7.2 o!];rfl
  subst e2;go_wp2;go_roundg (l.length - (k+1))
  case rel=>exact⟨k+1,_,o!,rfl,v!,by rw[<-hf.out,Z.out],λi=>by have:=eA i;have:(j:Int)<=2:=o!;omega,f⟩
  omega
 have e1:m=measure c l:=by rw[<-hf.out,Z7.2 j!];rfl
 subst e1;have hs:=hM.own.si;rw[show Qr c.base.length (measure c l)=Cc c l from rfl]at hs;have Lc:=hM.below;go_wp2;go_ret;exact⟨_,rfl,Lc,Sl.imp hs (λx (hx:Cb (w+1) wr x)=>⟨by have:=hx.1;omega,hx.2⟩) (λ_ _ x=>x)⟩
def bU (h:Qb6 w A)(k:Qb6 A B):Qb6 w B:=h.trans (k.mono h.size)
def g64 (w:Zb)(x y:Zbv)(xs a:Array Zf):(eqGuard .neq 105 x y (.agg xs) (.agg a)).run Lp w=.ok () w:=run_eqGuard_agg w _ _ _ _ _ _ k!
def q64 (w:Zb)(a b:Int):(binOp .neq 105 (.agg #[.int .i64 a,.int .i64 b]) (.agg #[.int .i64 a,.int .i64 b])).run Lp w=.ok (.bool false) w:=by
 rw[run_neq_struct,run_equalIn_agg (ht:=k!) (hp:=k!)];simp[go_sem]
def af6:Ke l l=true:=decide_eq_true rfl
def aef {l:List (Int×Int)}:af1 l l=true:=decide_eq_true rfl
def c97 {u3:Zf}{s:Ay}(hp:SP S w v2 s.Ap)(y:SI S w v3 s.over)(x:SP T w u2 s.Ap)(q:SI T w u3 s.over)(m:Ql6 S w)(l:∀b,T b->b<w.heap.size):
  Calls Lp 48 #[.agg #[.int .i64 s.low,.int .i64 s.high,v2,v3,.int .i64 s.left],.agg #[.int .i64 s.low,.int .i64 s.high,u2,u3,.int .i64 s.left]] w λe w'=>e=.returned (.bool true)/\Qb6 w w':=by
 obtain⟨C,A,rfl,l1,m1⟩:=hp.val;obtain⟨B,c2,rfl,l2,m2⟩:=y.val;obtain⟨X,Q,rfl,l3,m3⟩:=x.val;obtain⟨V,P,rfl,l4,m4⟩:=q.val;have IX:=DJ;have o:YH w w ((w.alloc (.cells #[.int .i64 s.low,.int .i64 s.high,.slice C s.Ap.length A,.slice B s.over.length c2,.int .i64 s.left] 50)).alloc (.cells #[.int .i64 s.low,.int .i64 s.high,.slice X s.Ap.length Q,.slice V s.over.length P,.int .i64 s.left] 50)):=bA (bA (Zh _ _));have z:=Zd (λW (a:Qb6 w W)=>c46 (w:=W) (y.later a) (q.later a) (A3 m a) (A3 l a));rw[af6]at z;go_enter Lp.func97,n97;go_wp2_with (go_at_call 25;refine(z.out _ o).mono ?_;rintro e w1 ⟨rfl,c⟩;have F:=o.trans (c.mono o.size);obtain⟨Z,DR⟩:=bw c;obtain⟨Y,H⟩:=E7 c);have v:=(c.block w j!).trans (Bf (Bp w (.cells #[.int .i64 s.low,.int .i64 s.high,.slice C s.Ap.length A,.slice B s.over.length c2,.int .i64 s.left] 50)) _);have u:=(c.block (w+1) i!).trans (Jq w _ _);have M:=ch (i:=2) v rfl;have K:=ch (i:=2) u rfl;clear v u c Y H;go_loopg [5] s.Ap.length (λg i wr=>∃k:Nat,k<=s.Ap.length/\g=s.Ap.length - k/\i=.int .i64 k/\Qb6 w1 wr)
 case atStart=>exact⟨0,Zp _,rfl,rfl,Zh _ _⟩
 obtain⟨k,hk,rfl,rfl,a⟩:=hrel;have d:=F.trans (a.mono F.size);have L:=(a.cell (p:=⟨w,2,none⟩) Z).trans M;have J:=(a.cell (p:=⟨w+1,2,none⟩) DR).trans K;by_cases G:k<s.Ap.length
 .obtain⟨j,t,rfl,D,O,I⟩:=hp.at_ G
  obtain⟨f,r,rfl,E,N,n⟩:=x.at_ G;rw[<-d.cell (p:=⟨j,t+k*2,none⟩) (m j D)]at O;rw[<-d.cell (p:=⟨j,t+k*2+1,none⟩) (m j D)]at I;rw[<-d.cell (p:=⟨f,r+k*2,none⟩) (l f E)]at N;rw[<-d.cell (p:=⟨f,r+k*2+1,none⟩) (l f E)]at n;have i1:(k:Int)<(s.Ap.length:Int):=o!
  have U:=q64;have R:=g64;go_wp2;go_quiet (fail);go_wp2;go_roundg (s.Ap.length - (k+1))
  case rel=>exact⟨k+1,o!,rfl,v!,Y5 a _⟩
  omega
 go_wp2;go_ret;exact⟨rfl,d⟩
def aq6 {u3:Zf}{s:Ay}(hp:SP S w v2 s.Ap)(f:SI S w v3 s.over)(d:SP T w u2 s.Ap)(c:SI T w u3 s.over)(i:Ql6 S w)(g:∀b,T b->b<w.heap.size):
  ∀W,Qb6 w W->Calls Lp 48 #[.agg #[.int .i64 s.low,.int .i64 s.high,v2,v3,.int .i64 s.left],.agg #[.int .i64 s.low,.int .i64 s.high,u2,u3,.int .i64 s.left]] W λe w'=>e=.returned (.bool true)/\Qb6 W w':=
 λ_ a=>c97 (hp.later a) (f.later a) (d.later a) (c.later a) (A3 i a) (A3 g a)
def c36 {u3:Zf}(h:RC S w v1 v2 v3 v4 v5 c)(g:RC T w u1 u2 u3 u4 u5 c)(l:Ql6 S w)(j:∀b,T b->b<w.heap.size):
  Calls Lp 16 #[.agg #[v1,v2,v3,v4,v5],.agg #[u1,u2,u3,u4,u5]] w λe w'=>e=.returned (.bool true)/\Qb6 w w':=by
 obtain⟨a1,c1,R,c2,Q,J,P,I,O,H,rfl,rfl,rfl,rfl,rfl,l1,m1,l2,m2,l3,m3,l4,m4,l5,m5⟩:=h.vs;obtain⟨b1,d1,N,d2,M,d3,L,d4,K,G,rfl,rfl,rfl,rfl,rfl,k1,n1,k2,n2,k3,n3,k4,n4,k5,n5⟩:=g.vs;have IX:=DJ;have Bg:YH w w ((w.alloc (.cells (Qe6 c a1 c1 R c2 Q J P I O H) 26)).alloc (.cells (Qe6 c b1 d1 N d2 M d3 L d4 K G) 26)):=bA (bA (Zh _ _));have r0:=λ{i:Nat} {v:Zf}=>ch (i:=i) (v:=v) (Bf (Bp w (.cells (Qe6 c a1 c1 R c2 Q J P I O H) 26)) (.cells (Qe6 c b1 d1 N d2 M d3 L d4 K G) 26));have U:=λ{i:Nat} {v:Zf}=>ch (i:=i) (v:=v) (Jq w (.cells (Qe6 c a1 c1 R c2 Q J P I O H) 26) (.cells (Qe6 c b1 d1 N d2 M d3 L d4 K G) 26));have HR:Hid (∀(W:Zb),YH ((w.alloc (.cells (Qe6 c a1 c1 R c2 Q J P I O H) 26)).alloc (.cells (Qe6 c b1 d1 N d2 M d3 L d4 K G) 26)).heap.size ((w.alloc (.cells (Qe6 c a1 c1 R c2 Q J P I O H) 26)).alloc (.cells (Qe6 c b1 d1 N d2 M d3 L d4 K G) 26)) W->
   W.cell? ⟨w,1,none⟩=some (.slice R c.Af.length c2)/\W.cell? ⟨w,2,none⟩=some (.slice Q c.hooks.length J)/\W.cell? ⟨w,3,none⟩=some (.slice P c.Aa.length I)/\W.cell? ⟨w,4,none⟩=some (.slice O c.now.length H)/\
   W.cell? ⟨w+1,1,none⟩=some (.slice N c.Af.length d2)/\W.cell? ⟨w+1,2,none⟩=some (.slice M c.hooks.length d3)/\W.cell? ⟨w+1,3,none⟩=some (.slice L c.Aa.length d4)/\W.cell? ⟨w+1,4,none⟩=some (.slice K c.now.length G)):=Zd λW a=>by
  obtain⟨u,_⟩:=E7 a;exact⟨(u _ _ j!).trans (r0 rfl),(u _ _ j!).trans (r0 rfl),(u _ _ j!).trans (r0 rfl),(u _ _ j!).trans (r0 rfl),(u _ _ i!).trans (U rfl),(u _ _ i!).trans (U rfl),(u _ _ i!).trans (U rfl),(u _ _ i!).trans (U rfl)⟩
 clear r0 U;have HA:=Zd (λW (a:Qb6 w W)=>c46 (w:=W) (h.base.later a) (g.base.later a) (A3 l a) (A3 j a));have HE:=Zd (λW (a:Qb6 w W)=>c43 (w:=W) (h.Af.later a) (g.Af.later a) (A3 l a) (A3 j a));have HH:=Zd (λW (a:Qb6 w W)=>c46 (w:=W) (h.hooks.later a) (g.hooks.later a) (A3 l a) (A3 j a));have am:=Zd (λW (a:Qb6 w W)=>c46 (w:=W) (h.now.later a) (g.now.later a) (A3 l a) (A3 j a));rw[af6]at HA HH am;rw[aef]at HE;go_enter Lp.func36,n36;go_wp2_with (go_at_call 25;refine(HA.out _ Bg).mono ?_;rintro e w1 ⟨rfl,Bb⟩;have oT:=Bg.trans (Bb.mono Bg.size);obtain⟨C,B,q,A,z,y,o,x⟩:=HR.out _ Bb);have ac:=Bb;clear Bb;refine(HE.out _ oT).mono ?_;rintro e w2 ⟨rfl,f⟩;have E:=ac.trans (f.mono ac.size);have aT:=oT.trans (f.mono oT.size);clear f C B q A z y o x;obtain⟨C,B,q,A,z,y,o,x⟩:=HR.out _ E;dsimp only;go_wp2_with (fail);refine(HH.out _ aT).mono ?_;rintro e w3 ⟨rfl,f⟩;have D:=E.trans (f.mono E.size);have xa:=aT.trans (f.mono aT.size);clear f C B q A z y o x;obtain⟨C,B,q,A,z,y,o,x⟩:=HR.out _ D;dsimp only;go_wp2_with (fail);refine(am.out _ xa).mono ?_;rintro e w4 ⟨rfl,f⟩;have iu:=D.trans (f.mono D.size);have ai:=xa.trans (f.mono xa.size);clear f C B q A z y o x;obtain⟨C,B,q,A,z,y,o,x⟩:=HR.out _ iu;dsimp only;go_wp2_with (fail);clear C B A z y x;go_loopg [5] c.Aa.length (λg i wr=>∃k:Nat,k<=c.Aa.length/\g=c.Aa.length - k/\i=.int .i64 k/\Qb6 w4 wr)
 case atStart=>exact⟨0,Zp _,rfl,rfl,Zh _ _⟩
 obtain⟨k,hk,rfl,rfl,a⟩:=hrel;have d:=ai.trans (a.mono ai.size);have an:=iu.trans (a.mono iu.size);clear q o;obtain⟨_,_,q,_,_,_,o,_⟩:=HR.out _ an;by_cases Az:k<c.Aa.length
 .obtain⟨n,o1,s2,s3,rfl,Z,h0,h1,h2,h3,h4,hp,ho⟩:=h.Aa.at_ Az
  obtain⟨m,o2,t2,t3,rfl,V,t,s,j2,j3,r,lR,rH⟩:=g.Aa.at_ Az;have F:=Zd (aq6 hp ho lR rH l j);obtain⟨sm,Qh⟩:=Qnm (Aj c.Aa k);rw[<-Qh]at h0 h1 h4 t s r F;clear Qh;have i1:(k:Int)<(c.Aa.length:Int):=o!
  have X:=λp=>Al p q;have Y:=λp=>Al p o;have h0:=λp=>Al p ((d.cell (p:=⟨n,o1+k*5,none⟩) (l n Z)).trans h0);have h1:=λp=>Al p ((d.cell (p:=⟨n,o1+k*5+1,none⟩) (l n Z)).trans h1);have h2:=λp=>Al p ((d.cell (p:=⟨n,o1+k*5+2,none⟩) (l n Z)).trans h2);have h3:=λp=>Al p ((d.cell (p:=⟨n,o1+k*5+3,none⟩) (l n Z)).trans h3);have h4:=λp=>Al p ((d.cell (p:=⟨n,o1+k*5+4,none⟩) (l n Z)).trans h4);have t:=λp=>Al p ((d.cell (p:=⟨m,o2+k*5,none⟩) (j m V)).trans t);have s:=λp=>Al p ((d.cell (p:=⟨m,o2+k*5+1,none⟩) (j m V)).trans s);have j2:=λp=>Al p ((d.cell (p:=⟨m,o2+k*5+2,none⟩) (j m V)).trans j2);have j3:=λp=>Al p ((d.cell (p:=⟨m,o2+k*5+3,none⟩) (j m V)).trans j3);have r:=λp=>Al p ((d.cell (p:=⟨m,o2+k*5+4,none⟩) (j m V)).trans r);have HB:=Zd (λp=>d.trans ((AE wr p).mono d.size));have HQ:=Zd (λp=>a.trans ((AE wr p).mono a.size));go_wp2;refine Av k! k! ?_
  repeat (first|go_big_quiet_step ((go_at_call 48;exact AV (F.out _ (HB.out _))))|quiet_step ((go_at_call 48;exact AV (F.out _ (HB.out _)))))
  refine Z4 ?_;rintro _ ⟨p,rfl⟩;clear X Y h0 h1 h2 h3 h4 t s j2 j3 r;have yw:=HQ.out p;go_wp2;go_roundg (c.Aa.length - (k+1))
  case rel=>exact⟨k+1,o!,rfl,v!,yw⟩
  omega
 go_wp2;go_ret;exact⟨rfl,d⟩
def ai7 (l:List Ay)(i:Nat)(x:Int):List Ay:=l.set i {Aj l i with left:=x}
def ad7 (l:List Ay)(i:Nat)(x:Int):(ai7 l i x).length=l.length:=ZcC
variable {x y lo hi:Int}
def En.left {base:Nat}{l:List Ay}(h:En n w base (.slice g l.length cap) l)(hi:i<l.length):
  En n (w.setCell ⟨g,i*5+4,none⟩ (.int .i64 x)) base (.slice g l.length cap) (ai7 l i x):=by
 obtain⟨a,p,o⟩:=h;rcases p.2 with⟨e,_⟩|⟨I,J,H,e,C,m,B,A,z,u⟩
 .cases e
 cases e;have f:=(Ak.refl (λx=>x=g) w).DT (i:=i*5+4) (v:=.int .i64 x);have q:∀x,TT n w x->¬x=g:=λx s e=>TT.not (e▸s) m ⟨d!,d!,d!⟩;have r:=p.1;refine⟨a.set (i*5+4) (.int .i64 x),⟨by simp[r,ad7],.inr ⟨g,cap,_,by rw[ad7],C,Ba m _,by simpa[ad7]using B,A,by simpa[ad7]using z,?_⟩⟩,λj y b=>?_⟩
 .simp only[ZcM,List.take_set,ad7,u]
 have t:=(Zm.1 b).1;rw[ad7]at t;unfold ai7 at b;by_cases c:i=j
 .subst c
  rw[Ys hi]at b;cases b;obtain⟨v2,v3,F,E,D⟩:=o i _ (Db hi);have e:((a.set (i*5+4) (.int .i64 x)).drop (i*5)).take 5=[.int .i64 (Aj l i).low,.int .i64 (Aj l i).high,v2,v3,.int .i64 x]:=by
   have G:((a.set (i*5+4) (.int .i64 x)).drop (i*5)).take 5=(((a.drop (i*5)).take 5).set 4 (.int .i64 x)):=by
    rw[List.drop_set,if_neg o!,List.take_set,show i*5+4 - i*5=4 by omega]
   rw[G,F]
   rfl
  rw[e];exact xR ⟨v2,v3,rfl,E,D⟩ f q
 rw[ZS c]at b;have e:((a.set (i*5+4) (.int .i64 x)).drop (j*5)).take 5=(a.drop (j*5)).take 5:=by
  apply YA;intro k;by_cases d:k<5
  .rw[Z2 d,Yl,Z2 d,Yl,ZS o!]
  rw[ZP j!,ZP j!]
 rw[e];exact xR (o j y b) f q
def CWr.left {u3:Zf}(h:CWr n w u1 u2 u3 (.slice g c.Aa.length cap) u5 c)(hi:i<c.Aa.length):
  CWr n (w.setCell ⟨g,i*5+4,none⟩ (.int .i64 x)) u1 u2 u3 (.slice g c.Aa.length cap) u5 {c with Aa:=ai7 c.Aa i x}:=by
 obtain⟨_,m,l⟩:=h.row.own g rfl;have d:=(Ak.refl (λx=>x=g) w).DT (i:=i*5+4) (v:=.int .i64 x);have f:∀x,TT n w x->¬x=g:=λx k e=>TT.not (e▸k) l ⟨d!,d!,d!⟩;have j:=d.size;exact⟨Rn h.base d f,mL h.Af d f,Rn h.hooks d f,h.row.left hi,Sl.imp (h.now.Ar (d.same λb a e=>a.2 (by rw[e];rfl))) (λb a=>⟨⟨a.1.1,Zl a.1.2 j⟩,a.2⟩) λ_ _ x=>x⟩
def CWr.CN {u3:Zf}(h:CWr n A u1 u2 u3 u4 u5 c)(d:Ak T A B)(a:∀x,n<=x->¬T x):CWr n B u1 u2 u3 u4 u5 c:=
 ⟨Rn h.base d λx h=>a x h.1,mL h.Af d λx h=>a x h.1,Rn h.hooks d λx h=>a x h.1,h.row.CN d (λx h=>a x h.1) (λg f=>a g (h.row.own g f).1),Sl.imp (h.now.Ar (d.same λb e=>a b e.1.1)) (λb e=>⟨⟨e.1.1,Zl e.1.2 d.size⟩,e.2⟩) λ_ _ x=>x⟩
attribute [local go_sem] Zdk
def Ev (c:A_)(l:List Int):Bool:=(JU c (DS c l)).isNone
def LU (c:A_):List (List Int):=(EH c).filter (Ev c)
def WV (h:l∈EH c):Tc c l:=Lf _ _ h
variable {t e:Zs}
variable {xs vals news:List Zf}
def Tn {base:Nat}(a:Qb6 A B)(h:A.ownsRow base e k v n xs):B.ownsRow base e k v n xs:=CO (T:=λ_=>False) (Ak.later a) (λ_ _ x=>x) h
def SL.imp {l:List (List Int)}(h:SL S w v l)(a:∀b,S b->T b):SL T w v l:=Sl.imp h a λ_ _ ⟨u,e,c⟩=>⟨u,e,Sl.imp c a λ_ _ x=>x⟩
def lF (c:A_)(s:List (Int×Int)):List (List Int):=(LU c).filter λl=>BZ c l s
def LR (base:Nat)(w:Zb)(v:Zf)(P:List (List Int)):Prop:=∃vals,w.ownsRow base 22 1 v P.length vals/\∀(i:Nat) (x:List Int),P[i]?=some x->∃u,vals[i]?=some u/\SI (J1 3 base w) w u x
def LR.nil (base:Nat)(w:Zb):LR base w () []:=⟨[],zq _ _ _ _,λi x h=>h!⟩
variable {P Q:List (List Int)}
def LR.later {base:Nat}(h:LR base A v P)(a:Qb6 A B):LR base B v P:=by
 obtain⟨vals,e,d⟩:=h;refine⟨vals,Tn a e,λi x hi=>?_⟩;obtain⟨u,c,b⟩:=d i x hi;exact⟨u,c,Dx (T:=λ_=>False) (Ak.later a) (λ_ _ x=>x) b⟩
def LR.sl {base:Nat}(h:LR base w v P):SL (Cb base w) w v P:=by
 obtain⟨vals,f,e⟩:=h;refine WM f (Zj _) λi x hi=>?_;obtain⟨u,d,c⟩:=e i x hi;exact⟨u,d,Sl.imp c (λb a=>a.1) λ_ _ x=>x⟩
def Own.typ {base:Nat}(h:Own w base v l):SI (J1 3 base w) w v l:=
 Lg (R:=Ri) d! h λi x a=>by
  rw[Nat.mul_one];obtain⟨hi,e⟩:=Zm.1 a;rw[ZO (by simpa using hi)];simp[Ri,e]
def Ol (a:H6 c)(hl:Tc c l)(hi:i<c.base.length): -108<=nth (Cc c l) i/\nth (Cc c l) i<=108:=by
 have e:nth (Cc c l) i=measure c l i:=by
  have:=MU (l:=l) hi;rw[Bn (by simp[Cc];exact hi)]at this;exact ZW this
 rw[e];exact Md a.valid (by have:=hl.1;omega) (λk b=>by have:=hl.2 k b;have:=(a.seam k (by have:=hl.1;omega)).step;omega) i
variable {s:List (Int×Int)}
def vA (b:s.length=n)(h:∀p∈s,0<=p.1/\p.1<=p.2/\p.2<=99):Fs n s=0:=by
 unfold Fs;rw[if_neg o!,if_neg o!];exact F5 λp a=>Tb (h p a)
def akk (w:Zb)(b:Nat)(lv:Zf)(d n:Nat)(e:Ending)(w':Zb):Prop:=∃(a:Option Addr) (cc:Nat) (s:List (Int×Int)) (c:Nat),e=.returned (.slice a s.length cc)/\LW b lv w c w'/\c<=d+100/\SP (TT w w') w' (.slice a s.length cc) s/\Fs n s=0
def aqk {d:Nat}(h:RC S w v1 v2 v3 v4 v5 c)(P:∀x,S x->x<w.heap.size/\x≠b)(hn:SI Sn w lv nums)(E:∀x,Sn x->x<w.heap.size/\x≠b)(F:BK w b lv d)(O:d+1000<4611686018427387904)(L:H6 c):
  Calls Lp 9 #[.pointer b,.agg #[v1,v2,v3,v4,v5]] w (akk w b lv d c.base.length):=by
 obtain⟨a1,c1,a2,c2,a3,c3,a4,c4,a5,c5,rfl,rfl,rfl,rfl,rfl,_⟩:=h.vs;have IX:=DJ;have ka:=L.few;have n8:=L.Fp;obtain⟨W1,NL⟩:=Qnm (w.alloc (.cells (Qe6 c a1 c1 a2 c2 a3 c3 a4 c4 a5 c5) 26));have lD:W1.heap[w.heap.size]?=some (.cells (Qe6 c a1 c1 a2 c2 a3 c3 a4 c4 a5 c5) 26 (0,0)):=by rw[NL];exact Bp _ _
 have Bg:Qb6 w W1:=by rw[NL];exact bA (Zh _ _)
 have GK:=F.lt;have DR:=Bg.size;obtain⟨q,hq⟩:=Qnm w.heap.size;have M9:q<=w.heap.size/\w<=q:=o!
 rw[<-hq]at lD;have T6:=(Za.1 lD).1;obtain⟨K,Ig⟩:∃K:Nat->Prop,K=λx=>x=b:=⟨_,rfl⟩;have fh:K b:=by rw[Ig]
 have Q:¬K q:=by rw[Ig];intro x;omega
 have LP:∀x,x≠b->¬K x:=λx a=>by rw[Ig];exact a
 clear Ig;obtain⟨k0,k1,k2,k3,k4⟩:=Qc5 lD;have g0:=λp:Tw K W1=>p.cell k0 Q;have g1:=λp:Tw K W1=>p.cell k1 Q;have g2:=λp:Tw K W1=>p.cell k2 Q;have g3:=λp:Tw K W1=>p.cell k3 Q;have g4:=λp:Tw K W1=>p.cell k4 Q;clear k0 k1 k2 k3 k4;go_enter Lp.func38,n38;go_wp2;rw[<-NL, <-hq];clear NL hq;refine B0 (S:=λW=>∃p:Tw K W1,W=p.v) [] [(false,3),(false,4),(false,5)] [0,1,2] k! (λ_ _ d _ _ h=>by cases d<;>exact h) k! (A5 (Ak.later (Zh _ _).drew)) ?_;refine A4 _ _ k! ?_;simp only[Z6,zd,ZG,ZD,ZC]
 repeat (first|go_big_quiet_step (fail)|quiet_step (fail))
 refine Z4 ?_;clear g0 g1 g2 g3 g4;change Dl _ _ _ _ _ _ _;have Uh:YH W1 W1 W1.drew:=(Zh _ _).drew;have Un:=bU Bg Uh;have i8:=Uh.size;refine Dd (f:=31) rfl rfl g! ((c30 ((h.later Un)) (λx a=>⟨by have:=P x a;omega,(P x a).2⟩) (hn.later Un) (λx a=>⟨by have:=E x a;omega,(E x a).2⟩) (F.later Un) o! o! (λi hi=>by have:=(L.seam i hi).step;omega)).mono ?_);rintro e W3 ⟨v3,l,d3,rfl,H,du,li,Qm,Xc,ig⟩;obtain⟨p3,t3,rfl,_⟩:=Qm.val;have Ba:Tc c l:=⟨Xc,λi hi=>⟨(ig i o!).1,(ig i o!).2 (L.seam i o!).step.2.1⟩⟩;have am:Ak K W1 W3:=(Ak.later Uh).trans (H.CN fh);refine⟨_,rfl,.inr (A5 am),?_⟩;have Rb:=H.size;have O9:=((h.later Un).Ar (H.same λx a=>(P x a).2)).imp (T:=λx=>x<W3.heap.size) λx a=>by have:=P x a;show x<_;omega
 have fw:=Zd Ba;refine Dd (f:=30) rfl rfl g! ((c47 O9 L.valid (Sl.imp Qm (T:=λx=>x<W3.heap.size) (λx a=>a.2) λ_ _ x=>x) o! (λi hi=>by have:=fw.out.2 i hi;have:=(L.seam i (by have:=fw.out.1;omega)).step;omega) λx a=>a).mono ?_);rintro e g ⟨u,rfl,De,A⟩;have NN:(Cc c l).length=c.base.length:=by simp[Cc]
 have fH:=Zd (λi (hi:i<c.base.length)=>Ol L Ba hi);obtain⟨G,hG⟩:=Qnm (Cc c l);rw[<-hG]at A NN fH;clear hG;obtain⟨ga,gc,rfl,_⟩:=A.val;rw[NN]at A⊢;have fy:=Zd NN;have i9:=De.size;have fC:Ak K W1 g:=am.uJ De;refine⟨_,rfl,.inr (A5 fC),?_⟩;refine Dw (v:=.slice ga c.base.length gc) rfl rfl g! (.inr (A5 fC)) ?_;have Ks:=(fC.block q T6 Q).trans lD;have ai:B3 b w g:=((B3.refl b w).below Un).trans ((H.below De));have gj:=du.later De;have io:=GK;have HE:=Zd (show∀W,B3 b g W->SP S W (.slice a2 c.Af.length c2) c.Af from λW z=>Sl.Ar h.Af ((ai.trans z).same λx a=>(P x a).2) λ_ _ x=>x);have iS:=Zd (show∀W,B3 b g W->SI (Cb W3 g) W (.slice ga c.base.length gc) G from λW z=>A.Ar (z.same λx a e=>by have:=a.1;omega));have tX:=hn.Ar (ai.same λx a=>(E x a).2);have rW:=Zd (λW d lo hi F O j Z=>abV (w:=g) (W:=W) (d:=d) (lo:=lo) (hi:=hi) tX (λx a=>⟨by have:=E x a;omega,(E x a).2⟩) F O j Z);have iG:=Zd (λW d n F O Z=>abW (w:=g) (W:=W) (d:=d) (n:=n) tX (λx a=>⟨by have:=E x a;omega,(E x a).2⟩) F O Z);have iX:=Zd (λW d n F O Z=>abX (w:=g) (W:=W) (d:=d) (n:=n) tX (λx a=>⟨by have:=E x a;omega,(E x a).2⟩) F O Z);have i6:=Zd (λW d s F O j Z=>abY (w:=g) (W:=W) (d:=d) (s:=s) tX (λx a=>⟨by have:=E x a;omega,(E x a).2⟩) F O j Z);unfold Dl;clear O9 am H Uh Un du A NN ig Xc Ba Qm fC tX io
 go_simp
 go_wp2;obtain⟨an,ap,be,bc,ba⟩:=zp Wu;go_loopg [6,7] c.base.length (λgg ov i wr=>∃(k dk:Nat) (J:Option Addr) (I:Nat) (s:List (Int×Int)),k<=c.base.length/\gg=c.base.length - k/\i=.int .i64 k/\s.length=k/\ov=.slice J k I/\dk<=d3+5*k/\B3 b g wr/\BK wr b lv dk/\Ih wr g (.slice J k I) s 69/\∀p∈s,0<=p.1/\p.1<=p.2/\p.2<=99)
 case atStart=>exact⟨0,d3,none,0,[],Zp _,rfl,rfl,rfl,rfl,Zj _,B3.refl _ _,gj,zq _ _ _ _,λp hp=>by cases hp⟩
 obtain⟨k,dk,J,I,s,hk,rfl,rfl,bi,rfl,jF,z,oJ,AX,rU⟩:=hrel;have Y:=z.at_ Ks o!;have N:=Zd bi;clear bi;have i7:=z.size;by_cases Az:k<c.base.length
 .have T5:k<c.Af.length:=by have:=L.PN;omega
  have fK:k<G.length:=by have:=fy.out;omega
  obtain⟨b1,o1,ee,FD,tN⟩:=((iS.out _ z):SI _ _ _ _)|>λh=>(by rw[<-fy.out]at h;exact h.at_ fK);subst ee;obtain⟨b2,o2,ee,EC,lW,jZ⟩:=(HE.out _ z).at_ T5;subst ee;have gn:=fH.out k Az;have fd:=L.Af _ (Z3 (EE T5));obtain⟨gv,bV⟩:=Qnm (nth G k);obtain⟨el,ck⟩:=Qnm ((BV c.Af k).1);obtain⟨em,ci⟩:=Qnm ((BV c.Af k).2);rw[<-bV]at tN gn;rw[<-ck]at lW fd;rw[<-ci]at jZ fd;clear bV ck ci;have jt:(k:Int)<(c.base.length:Int):=o!
  have jp:(k:Int)<(c.Af.length:Int):=o!
  have kq:(0:Int)<=(k:Int):=o!
  have im:¬K b1:=LP b1 (by have:=FD.1;omega);have vB:¬K b2:=LP b2 (P b2 EC).2;have r0:=λp:Tw K wr=>p.cell (ch (i:=1) Y (v:=.slice (some ⟨b2,o2,none⟩) c.Af.length c2) rfl) Q;have r1:=λp:Tw K wr=>p.cell tN im;have r2:=λp:Tw K wr=>p.cell lW vB;have r3:=λp:Tw K wr=>p.cell jZ vB;go_wp2;refine G7 (S:=λW=>∃p:Tw K wr,W=p.v) 18 [] [(true,10),(false,13),(false,14),(false,15),(false,16),(false,17)] [0,1,2,3,4,5,6,7,8,9,11,12] k! (λ_ _ d _ _ h=>by cases d<;>exact h) k! (A5 (Ak.later (Zh _ _).drew)) ?_;refine A4 _ _ k! ?_;simp only[Z6,zd,ZG,ZD,ZC]
  repeat (first|go_big_quiet_step (fail)|quiet_step (fail))
  refine Z4 ?_;change H2 _ _ _ _ _ _ _ _;obtain⟨V0,tY⟩:=Qnm wr.drew;have mO:Qb6 wr V0:=by rw[tY];exact(Zh _ _).drew
  rw[<-tY];clear tY;have aW:Ak K wr V0:=Ak.later mO;have fu:LW b lv g dk V0:=⟨z.below mO,oJ.later mO⟩;obtain⟨lo,mK⟩:=Qnm (gv - em);have ii: -200<=lo/\lo<=200:=o!
  have X:IntKind.i64.wrap (gv - em)=lo:=by rw[zE,mK];omega
  clear mK;refine Wz (v:=.int .i64 lo) (A5 aW) rfl rfl (λw _=>g!) ?_;clear X;refine Iy (f:=33) rfl rfl g! ((rW.out V0 dk (-3) 3 fu o! o! o!).mono ?_);rintro e V1 ⟨x1,d1,rfl,MF,Na,fq,lE⟩;have Kd:=aW.trans (Na.CN fh);refine⟨_,rfl,.inr (A5 Kd),?_⟩;have WQ:=Kd.uJ (bA (o:=.cells #[.int .i64 0,.int .i64 0,.int .i64 0,.int .i64 (-3+(x1:Int))] 3) (Zh _ _));refine EY (v:=.slice V1 4 4) (w':=V1.alloc (.cells #[.int .i64 0,.int .i64 0,.int .i64 0,.int .i64 (-3+(x1:Int))] 3)) rfl rfl g! (.inr (A5 WQ)) ?_;refine Iy (f:=32) rfl rfl g! ((i6.out V1 _ [0,0,0,-3+(x1:Int)] fq o! i! i!).mono ?_);rintro e t ⟨x2,d2,rfl,mH,Ot,M7,lm⟩;have R:=WQ.trans (Ot.CN fh);refine⟨_,rfl,.inr (A5 R),?_⟩;obtain⟨y,hy,fI⟩:∃y,y=nth [0,0,0,-3+(x1:Int)] x2/\(-3<=y/\y<=3):=⟨_,rfl,by
   have:x2=0\/x2=1\/x2=2\/x2=3:=by simp at mH;omega
   rcases this with rfl|rfl|rfl|rfl<;>simp[nth]<;>omega⟩
  rw[<-hy];clear hy;obtain⟨m,T2⟩:=Qnm (lo+y);have ma: -210<=m/\m<=210:=o!
  have lX:IntKind.i64.wrap (lo+y)=m:=by rw[zE,T2];omega
  clear T2;refine EY (v:=.int .i64 m) (w':=t) rfl rfl g! (.inr (A5 R)) ?_;refine EY (v:=.int .i64 m) (w':=t) rfl rfl g! (.inr (A5 R)) ?_;clear lX ii fI;unfold H2
  go_simp
  have Vn:YH V1 V1 (V1.alloc (.cells #[.int .i64 0,.int .i64 0,.int .i64 0,.int .i64 (-3+(x1:Int))] 3)):=bA (Zh _ _);have vC:B3 b wr t:=((((B3.refl b wr).below mO).trans Na).below Vn).trans Ot;have Cm:=D2 (Fu (D2 (Fu AX mO) Na (by omega:b<g)) Vn) Ot (by omega:b<g);have S5:=z.trans vC;have lL:=vC.size;have z0:=λp:Tw K t=>p.cell (ch (i:=1) (vC.at_ Y o!) (v:=.slice (some ⟨b2,o2,none⟩) c.Af.length c2) rfl) Q;have Ts:=vC.same (T:=λx=>x≠b) (λ_ h=>h);have z2:=λp:Tw K t=>p.cell (Ts.cell (by exact(P b2 EC).2) lW) vB;have z3:=λp:Tw K t=>p.cell (Ts.cell (by exact(P b2 EC).2) jZ) vB;clear r0 r1 r2 r3 aW Kd WQ R Na Ot fu fq AX mO Vn tN lW jZ oJ;go_wp2;refine G7 (S:=λW=>∃p:Tw K t,W=p.v) 18 [] [(true,14),(false,15),(false,16),(false,17)] [0,1,2,3,4,5,6,7,8,9,10,11,12,13] k! (λ_ _ d _ _ h=>by cases d<;>exact h) k! (A5 (Ak.later (Zh _ _).drew)) ?_;refine A4 _ _ k! ?_;simp only[Z6,zd,ZG,ZD,ZC]
  repeat (first|go_big_quiet_step (fail)|quiet_step (fail))
  refine Z4 ?_;change H2 _ _ _ _ _ _ _ _;clear z0 z2 z3;have ry:YH t t t.drew:=(Zh _ _).drew;have R:Ak K t t.drew:=Ak.later ry;have fm:=M7.below ry;obtain⟨ed,ct⟩:=Qnm (em - el);have lK:0<=ed/\ed<=10:=o!
  have X:IntKind.i64.wrap (em - el)=ed:=by rw[zE,ct];omega
  clear ct;refine Wz (v:=.int .i64 ed) (A5 R) rfl rfl (λw _=>g!) ?_;clear X;refine Iy (f:=8) rfl rfl g! ((iG.out _ d2 ed fm o! o!).mono ?_);rintro e V3 ⟨x3,d4,rfl,U4,H,k_,kw⟩;have Ou:=R.trans (H.CN fh);refine⟨_,rfl,.inr (A5 Ou),?_⟩;obtain⟨j,bv⟩:=Qnm (m+(x3:Int));have lJ:m<=j/\j<=300:=o!
  have lX:IntKind.i64.wrap (m+(x3:Int))=j:=by rw[zE,bv];omega
  clear bv;refine EY (v:=.int .i64 j) (w':=V3) rfl rfl g! (.inr (A5 Ou)) ?_;refine EY (v:=.int .i64 j) (w':=V3) rfl rfl g! (.inr (A5 Ou)) ?_;clear lX;unfold H2
  go_simp
  have fi:=((B3.refl b t).below ry).trans H;have ip:=D2 (Fu Cm ry) H (by omega:b<g);have cN:=S5.trans fi;have lI:=fi.size;clear R Ou H Cm ry fm M7;go_wp2;refine(iX.out _ d4 8 k_ o! o!).mono ?_;rintro e V4 ⟨rb,d5,rfl,Xp,ld,kv⟩;have rz:=D2 ip Xp (by omega:b<g);have dl:=cN.trans Xp;have lG:=Xp.size;have M8:k<=3:=o!
  have rA:V4.ownsRow g 69 2 (.slice J k I) k (s.flatMap λp=> [ZL .i64 p.1,.int .i64 p.2]):=by have:=rz;unfold Ih at this;rwa[N.out]at this
  have jn:IntKind.i64.wrap (j+1)=j+1:=by rw[zE];omega
  cases rb with
  |false=>
   go_wp2_with (at_builtin;refine Yc _ rfl _ _ 23 rfl g 69 an (.agg #[.int .i64 0,.int .i64 0]) 2 16 (Cz Zdg) (Dz ap) be bc ba rfl d! (.slice J k I) k (s.flatMap λp=> [ZL .i64 p.1,.int .i64 p.2]) rfl (Ya rA _) V4 1 1 [.int .i64 (max 0 (min m 99)),.int .i64 (max 0 (min j 99))] rfl rfl (Hc _ _ _) (by intro u A;simp at A;rcases A with rfl|rfl<;>rfl) u! o! j! ?_;intro v9 U r V ac);have Em:=J3 rz;have pY:B3 b g U:=(dl.below (bA (Zh _ _))).grown V λx a=>(Em x a).1;have D:BK U b lv d5:=(ld.alloc _).E4.of (V.block b (ld.alloc _).E4.lt (λe=>by have:=(Em b e.symm).1;omega));have C:Ih U g v9 (s++ [(max 0 (min m 99),max 0 (min j 99))]) 69:=by unfold Ih;rw[ZA,N.out,Zbe];exact r
   have B:0<=max 0 (min m 99)/\max 0 (min m 99)<=max 0 (min j 99)/\max 0 (min j 99)<=99:=o!
   obtain⟨g9,gt,rfl⟩:=Zay r;have M:=Zd (ZY pY (ZY D (ZY C B)));clear pY D C B r V ac Em;go_roundg (c.base.length - (k+1))
   case rel=>exact⟨k+1,d5,_,_,s++ [(max 0 (min m 99),max 0 (min j 99))],Az,rfl,v!,by rw[ZA,N.out];rfl,rfl,o!,M.out.1,M.out.2.1,M.out.2.2.1,λp hp=>by rcases Zab.1 hp with h|h;exact rU p h;rw[Yh.1 h];exact M.out.2.2.2⟩
   case measure=>omega
  |true=>
   go_wp2_with (at_builtin;refine Yc _ rfl _ _ 23 rfl g 69 an (.agg #[.int .i64 0,.int .i64 0]) 2 16 (Cz Zdg) (Dz ap) be bc ba rfl d! (.slice J k I) k (s.flatMap λp=> [ZL .i64 p.1,.int .i64 p.2]) rfl (Ya rA _) V4 1 1 [.int .i64 (max 0 (min m 99)),.int .i64 (max 0 (min (j+1) 99))] rfl rfl (Hc _ _ _) (by intro u A;simp at A;rcases A with rfl|rfl<;>rfl) u! o! j! ?_;intro v9 U r V ac);have Em:=J3 rz;have pY:B3 b g U:=(dl.below (bA (Zh _ _))).grown V λx a=>(Em x a).1;have D:BK U b lv d5:=(ld.alloc _).E4.of (V.block b (ld.alloc _).E4.lt (λe=>by have:=(Em b e.symm).1;omega));have C:Ih U g v9 (s++ [(max 0 (min m 99),max 0 (min (j+1) 99))]) 69:=by unfold Ih;rw[ZA,N.out,Zbe];exact r
   have B:0<=max 0 (min m 99)/\max 0 (min m 99)<=max 0 (min (j+1) 99)/\max 0 (min (j+1) 99)<=99:=o!
   obtain⟨g9,gt,rfl⟩:=Zay r;have M:=Zd (ZY pY (ZY D (ZY C B)));clear pY D C B r V ac Em;go_roundg (c.base.length - (k+1))
   case rel=>exact⟨k+1,d5,_,_,s++ [(max 0 (min m 99),max 0 (min (j+1) 99))],Az,rfl,v!,by rw[ZA,N.out];rfl,rfl,o!,M.out.1,M.out.2.1,M.out.2.2.1,λp hp=>by rcases Zab.1 hp with h|h;exact rU p h;rw[Yh.1 h];exact M.out.2.2.2⟩
   omega
 have fJ:k=c.base.length:=o!
 subst fJ;have Jv:SP (TT w wr) wr (.slice J c.base.length I) s:=Sl.imp (AX.tt (.inr (.inr rfl))) (λx a=>a.mono o!) λ_ _ x=>x;have HF:=Zd (show akk w b lv d c.base.length (.returned (.slice J c.base.length I)) wr from⟨J,I,s,dk,by rw[N.out],⟨ai.trans z,oJ⟩,o!,by rw[N.out];exact Jv,vA N.out rU⟩);clear Jv AX rU z oJ Y;go_wp2;go_ret;exact HF.out
def aej:∀(l:List (Int×Int)) (i:Nat) (p:Int×Int),i<l.length->((l.flatMap λp=> [ZL .i64 p.1,.int .i64 p.2]).set (i*2) (.int .i64 p.1)).set (i*2+1) (.int .i64 p.2)=(l.set i p).flatMap λp=> [ZL .i64 p.1,.int .i64 p.2]
 | [],_,_,h=>h!
 |q::r,0,p,_=>rfl
 |q::r,i+1,p,h=>by
  have:=aej r i p (by simpa using h);rw[List.set_cons_succ,List.flatMap_cons,List.flatMap_cons, <-this,show(i+1)*2=i*2+1+1 by omega]
  rfl
def Ih.set {base:Nat}{l:List (Int×Int)}(h:Ih w base (.slice g n cap) l e)(hi:i<l.length)(p:Int×Int):
  Ih ((w.setCell ⟨g,i*2,none⟩ (.int .i64 p.1)).setCell ⟨g,i*2+1,none⟩ (.int .i64 p.2)) base (.slice g n cap) (l.set i p) e:=by
 obtain⟨o,m⟩:=h;rcases m with⟨a,_⟩|⟨r,s,q,a,k,j,f,d,c,b⟩
 .cases a
 cases a;refine⟨?_,.inr ⟨g,cap,_,by rw[ZcC],k,Ba (Ba j _) _,by simpa using f,d,by simpa using c,?_⟩⟩
 .rw[<-aej l i p hi]
  simpa using o
 rw[<-aej l i p hi];simp only[ZcM,ZcC,List.take_set];rw[b]
def aek {ab:Nat->Nat}{l:List Int}:∀(n k s:Nat),l.length - k=n->JR ab l k (l.drop k) s=s
 |0,k,s,h=>eD o!
 |n+1,k,s,h=>by
  rw[bz o!,if_pos rfl];exact aek n (k+1) s o!
def afo (c:A_):DS c c.now=0:=aek _ 0 0 rfl
def agl {n:Int}(h:lo<=n/\n<=hi):n∈IU lo hi:=by
 unfold IU;rw[List.mem_map];exact⟨(n - lo).toNat,by rw[List.mem_range];omega,o!⟩
def afp:∀(s:List Ay) (l:List Int),l.length=s.length->(∀i,i<l.length->(Aj s i).low<=nth l i/\nth l i<=(Aj s i).high)->l∈EZ s
 | [],l,h,_=>by
  obtain rfl:l=[]:=List.length_eq_zero_iff.1 h;simp[EZ]
 |s::r,[],h,_=>h!
 |s::r,x::t,h,a=>by
  unfold EZ;rw[List.mem_flatMap];exact⟨x,agl (a 0 (Nat.succ_pos _)),List.mem_map.2 ⟨t,afp r t (by simpa using h) λi hi=>a (i+1) (Nat.succ_lt_succ hi),rfl⟩⟩
def ajU (a:Fq c):c.now∈LU c:=by
 refine List.mem_filter.2 ⟨afp _ _ a.uy (Fb a.now).2,?_⟩;unfold Ev;rw[afo]
 rfl
def afq (b:Fq c):LU c≠ []:=λh=>by
 have a:=ajU b;rw[h]at a;cases a
inductive HT
 |leaf
 |one (i:Nat) (r:HT)
 |free (i:Nat) (r:HT)
 |fork (i:Nat) (x:HT) (j:Nat) (y:HT)
def HT.len:HT->Nat
 | .leaf=>0
 | .one _ r=>r.len+1
 | .free _ r=>r.len+1
 | .fork _ x _ _=>x.len+1
section
variable {P:Zo}{ops:Array Oper}{Q:Exit->Act->Zb->Prop}{md:YO}{S:Zb->Prop}{T:Nat->Zb->Prop}
def acs (P:Zo)(b:Array Oper)(Q:Exit->Act->Zb->Prop)(S:Zb->Prop)(T:Nat->Zb->Prop):HT->Act->Zb->Prop
 | .leaf,a,w=>Q .normal a w
 | .one i r,a,w=>wpOp P b Q i (λa' w'=>T i w'/\acs P b Q S T r a' w') a w
 | .free i r,a,w=>S w/\∃o v,b[i]?=some o/\ZbF P b S o v a/\acs P b Q S T r (a.put o.dst v) w
 | .fork i x j y,a,w=>wpOp P b Q i (λa' w'=>T i w'/\acs P b Q S T x a' w') a w/\wpOp P b Q j (λa' w'=>T j w'/\acs P b Q S T y a' w') a w
def htB (b:YO)(a:Array Oper)(n:Nat)(lates:List Nat):HT->Array Bool->Bool
 | .leaf,listed=>(zs b a listed).isEmpty
 | .one i r,listed=>decide (zs b a listed=[i])&&htB b a n lates r (listed.setIfInBounds i true)
 | .free i r,listed=>(zs b a listed).contains i&&Za3 b a listed i&&pQ b a n lates i&&htB b a n lates r (listed.setIfInBounds i true)
 | .fork i x j y,listed=>decide (zs b a listed=[i,j])&&decide (x.len=y.len)&&htB b a n lates x (listed.setIfInBounds i true)&&htB b a n lates y (listed.setIfInBounds j true)
def adg {n:Nat}{lates:List Nat}(q:YF ops=true)(l:∀c a d v w,Q (.panic c) (Zck a d v) w->Q (.panic c) a w):
  ∀(t:HT) (listed:Array Bool) (a:Act) (w:Zb),Dn md ops listed->htB md ops n lates t listed=true->acs P ops Q S (FG lates S) t a w->Cy P md ops Q (FG lates S) t.len listed a w
 | .leaf,_,_,_,_,b,h=>⟨by simpa[htB]using b,h⟩
 | .one i r,listed,a,w,e,b,h=>by
  simp only[htB,ZF,decide_eq_true_eq]at b;refine⟨λm=>(by rw[b.1]at m;cases m),λj u=>?_⟩;have s:=u;rw[b.1]at u;have:j=i:=by simpa using u
  subst this;exact Zcc (λp w' x=>⟨x.1,adg q l r _ p w' (e.step s) b.2 x.2⟩) h
 | .free i r,listed,a,w,e,b,h=>by
  simp only[htB,ZF]at b;obtain⟨F,o,v,E,D,h⟩:=h;have A:i∈zs md ops listed:=by simpa using b.1.1.1
  exact Me (S:=S) (n:=n) (f:=r.len) E q (λc a w x=>l c a o.dst v w x) (λw x=>.inr x) (iw b.1.2) listed a w e b.1.1.2 A D F (adg q l r _ _ w (e.step A) b.2 h)
 | .fork i x j y,listed,a,w,e,b,h=>by
  simp only[htB,ZF,decide_eq_true_eq]at b;obtain⟨⟨⟨B,I⟩,H⟩,G⟩:=b;refine⟨λm=>(by rw[B]at m;cases m),λk g=>?_⟩;have C:=g;rw[B]at g;rcases List.mem_cons.1 g with rfl|g
  .exact Zcc (λp w' z=>⟨z.1,adg q l x _ p w' (e.step C) H z.2⟩) h.1
  have:k=j:=by simpa using g
  subst this;exact Zcc (λp w' z=>⟨z.1,by have:=adg q l y _ p w' (e.step C) G z.2;rwa[<-I]at this⟩) h.2
variable {a:Act}
def aci {id:Nat}{l:List Oper}(n:Nat)(lates:List Nat)(t:HT)(ls:List Nat)(i:P.follows .mixedOrders=true)(g:∀c a d v w,Q (.panic c) (Zck a d v) w->Q (.panic c) a w)
 (b:(YF l.toArray&&decide (t.len+ls.length=l.toArray.size)&&lsB .any l.toArray n lates (htB .any l.toArray n lates t) ls (Yu l.toArray.size false))=true) (j:S w.drew)
 (h:MQ P l.toArray S (λa'=>acs P l.toArray Q S (FG lates S) t a' w.drew) ls a):(zU id l.toArray true).wp P Q a w:=by
 simp only[ZF,decide_eq_true_eq]at b;refine Zd5 i (JV (T:=FG lates S) _ _ _ _ ?_);have e:Dn .any l.toArray (Yu l.toArray.size false):=λk ok _ f=>by
  rw[show(Yu l.toArray.size false).getD k false=false by unfold Array.getD;split<;>simp]at f;cases f
 have:=Vd b.1.1 g j (λlisted a m p o=>adg b.1.1 g t listed a w.drew m p o) ls _ a e b.2 h;rw[b.1.2]at this;exact this
variable {r:HT}
variable {o:Oper}
def adu (b:ops[i]?=some o)(c:o.guard=none)(h:o.wp P a w (λa' w'=>T i w'/\acs P ops Q S T r a' w') Q):acs P ops Q S T (.one i r) a w:=by
 unfold acs wpOp;simp only[b];rw[if_pos (by simp[Yf,c])];exact .inl h
def acK (c:ops[i]?=some o)(d:o.guard=none)(b:(Zby a.eval o).run P w=.ok (.value v) w')(e:T i w')
 (h:acs P ops Q S T r (a.put o.dst v) w'):acs P ops Q S T (.one i r) a w:=by
 refine adu c d ?_;unfold ZbA;rw[b,Zdi];exact⟨e,h⟩
variable {f:ZaQ}
variable {args cs cur:Array Zf}
def acL (c:ops[i]?=some o)(d:o.guard=none)(b:(Zby a.eval o).run P w=.ok (.enter f args) w)
 (g:Calls P f args w λe w'=>(∃v,e=.returned v/\T i w'/\acs P ops Q S T r (a.put o.dst v) w')\/∃x,e=.panicked x/\Q (.panic x) a w'):acs P ops Q S T (.one i r) a w:=by
 refine adu c d ?_;unfold ZbA;rw[b,Zdj];refine g.mono λe w' h=>?_;rcases h with⟨v,rfl,h⟩|⟨x,rfl,h⟩
 .exact h
 exact h
def afr (c:ops[i]?=some o)(d:o.guard=none)(b:(Zby a.eval o).run P w=.ok .skip w')(e:T i w')
 (h:acs P ops Q S T r (a.put o.dst Ze) w'):acs P ops Q S T (.one i r) a w:=by
 refine adu c d ?_;unfold ZbA;rw[b,ZcQ];exact⟨e,h⟩
def acX (e:S w)(c:ops[i]?=some o)(d:o.guard=none)(b:∀w,S w->(Zby a.eval o).run P w=.ok (.value v) w)
 (h:acs P ops Q S T r (a.put o.dst v) w):acs P ops Q S T (.free i r) a w:=
 ⟨e,o,v,c,.inl ⟨by simp[Yf,d],b⟩,h⟩
def adU {x y:HT}(c:acs P ops Q S T (.one i x) a w)(b:acs P ops Q S T (.one j y) a w):acs P ops Q S T (.fork i x j y) a w:=⟨c,b⟩
end
def aev:∀(l:List Int) (a b:List Ay) (m:Nat->Int),acf a=acf b->Iw m (l.zip a)=Iw m (l.zip b)
 | [],_,_,_,_=>rfl
 |_::_,[],[],_,_=>rfl
 |_::_,[],_::_,_,h=>h!
 |_::_,_::_,[],_,h=>h!
 |x::l,s::a,t::b,m,h=>by
  have e: {s with left:=0}= {t with left:=0}:=(zL h).1;have d:acf a=acf b:=(zL h).2;have c:s.Ap=t.Ap:=by have:=congrArg Ay.Ap e;exact this
  show Iw (CZ m x s.Ap) (l.zip a)=Iw (CZ m x t.Ap) (l.zip b);rw[c];exact aev l a b _ d
def af7:∀(a b:List Ay),acf a=acf b->EZ a=EZ b
 | [],[],_=>rfl
 | [],_::_,h=>h!
 |_::_,[],h=>h!
 |s::a,t::b,h=>by
  have c: {s with left:=0}= {t with left:=0}:=(zL h).1;have d:s.low=t.low:=by have:=congrArg Ay.low c;exact this
  have e:s.high=t.high:=by have:=congrArg Ay.high c;exact this
  unfold EZ;rw[d,e,af7 a b (zL h).2]
def afs {d:A_}(h:kU c d):acf d.Aa=acf c.Aa:=by
 apply YA;intro i;unfold acf;rw[YL,YL];have a:=h.len;by_cases hi:i<c.Aa.length
 .obtain⟨g,f,e,b⟩:=h.rest i hi
  rw[Db hi,Db (show i<d.Aa.length by rw[h.len];exact hi)];simp only[Zdh,g,f,e,b]
 rw[ZP o!,ZP o!]
def aeC {c d:A_}(b:d.hooks=c.hooks)(a:d.Af=c.Af)(m:Nat->Int):∀(s:List (Int×Int)) (i:Nat),SV d m i s=SV c m i s
 | [],_=>rfl
 |r::s,i=>by
  unfold SV;rw[b,a,aeC b a m s (i+1)]
def aja {d:A_}(h:kU c d)(l:List Int)(s:List (Int×Int)):BZ d l s=BZ c l s:=by
 unfold BZ;rw[aeC h.hooks h.Af]
 congr 1
 unfold measure;rw[h.base];exact aev _ _ _ _ (afs h)
def ad8 (c:A_)(p:List Int):List (List Int):=(EZ (c.Aa.drop p.length)).map (p++ ·)
def adv (c:A_):ad8 c []=EH c:=by simp[ad8,EH]
def aje {p:List Int}(h:p.length=c.Aa.length):ad8 c p=[p]:=by
 unfold ad8;rw[Z7.2 o!];simp[EZ]
def ai8 {p:List Int}(h:p.length<c.Aa.length):ad8 c p=(IU (Aj c.Aa p.length).low (Aj c.Aa p.length).high).flatMap λn=>ad8 c (p++ [n]):=by
 have a:c.Aa.drop p.length=Aj c.Aa p.length::c.Aa.drop (p.length+1):=by
  rw[ZO h]
  congr 1
  have:=Db h;rw[zf h]at this;exact ZW this
 unfold ad8;rw[a];show((IU _ _).flatMap λn=>(EZ (c.Aa.drop (p.length+1))).map (n:: ·)).map (p++ ·)=_;rw[List.map_flatMap]
 congr 1
 funext n
 rw[List.map_map,ZA];simp[ZdQ]
def agF (h:q<(hi+1 - lo).toNat):(IU lo hi).take (q+1)=(IU lo hi).take q++ [lo+(q:Int)]:=by
 unfold IU;rw[ZbH,YL,List.getElem?_range h]
 rfl
def agV (h:(hi+1 - lo).toNat<=q):(IU lo hi).take q=IU lo hi:=Zb3 (by rw[eY];exact h)
def adj (a:Fq c)(p:List Int):(ad8 c p).length<=125:=by
 unfold ad8;rw[List.length_map];have d:=H7 (c.Aa.drop p.length) (λi hi=>by
  rw[List.length_drop]at hi;have:=a.step (p.length+i) o!;have e:Aj (c.Aa.drop p.length) i=Aj c.Aa (p.length+i):=by simp[Aj]
  rw[e];omega)
 have b:5^(c.Aa.drop p.length).length<=5^3:=YX d! (by rw[List.length_drop];have:=a.few;omega);exact Zr d b
def LR2 (rb base:Nat)(w:Zb)(v:Zf)(P:List (List Int)):Prop:=∃vals,w.ownsRow rb 22 1 v P.length vals/\∀(i:Nat) (x:List Int),P[i]?=some x->∃u,vals[i]?=some u/\SI (J1 3 base w) w u x
def LR2.nil (rb base:Nat)(w:Zb):LR2 rb base w () []:=⟨[],zq _ _ _ _,λi x h=>h!⟩
def LR2.later {base:Nat}(h:LR2 rb base A v P)(a:Qb6 A B):LR2 rb base B v P:=by
 obtain⟨vals,e,d⟩:=h;refine⟨vals,Tn a e,λi x hi=>?_⟩;obtain⟨u,c,b⟩:=d i x hi;exact⟨u,c,Dx (T:=λ_=>False) (Ak.later a) (λ_ _ x=>x) b⟩
def LR2.aad {base:Nat}(h:LR2 rb base w v P)(c:base<=rb):LR base w v P:=by
 obtain⟨vals,b,i⟩:=h;exact⟨vals,⟨b.1,b.2.imp id λ⟨g,cap,a,e,f,d⟩=>⟨g,cap,a,e,Zr c f,d⟩⟩,i⟩
def LR2.mono {a base:Nat}(h:LR2 rb base w v P)(d:a<=rb):LR2 a base w v P:=by
 obtain⟨vals,c,j⟩:=h;exact⟨vals,⟨c.1,c.2.imp id λ⟨g,cap,b,e,i,f⟩=>⟨g,cap,b,e,Zr d i,f⟩⟩,j⟩
def LR2.val {base:Nat}(h:LR2 rb base w v P):∃a c,v=.slice a P.length c/\P.length<=c/\c<=maxLen:=by
 obtain⟨vals,i,k⟩:=h;rcases i.2 with⟨e,b⟩|⟨g,cap,j,e,_,_,f,d,_⟩
 .exact⟨none,0,by rw[e,b],o!,Zp _⟩
 exact⟨_,cap,e,f,d⟩
def LR2.lt {rb base:Nat}{w:Zb}{v:Zf}{P:List (List Int)}(h:LR2 rb base w v P):∀k,v.ownBlock=some k->rb<=k:=by
 obtain⟨vals,b,_⟩:=h;exact λk a=>(b.lt k a).1
def LR2.app {base:Nat}(l:A.ownsRow rb 22 1 v P.length vals)(w:∀(i:Nat) (x:List Int),P[i]?=some x->∃u,vals[i]?=some u/\SI (J1 3 base A) A u x)
 (s:∀(i:Nat) (x:List Int),Q[i]?=some x->∃u,news[i]?=some u/\SI (J1 3 base A) A u x) (r:A.grownBy w1 v.ownBlock) (B:w1.ownsRow rb 22 1 v' (P.length+Q.length) (vals++news)):LR2 rb base w1 v' (P++Q):=by
 have t:Ak (λk=>v.ownBlock=some k) A w1:=Ak.grown r λk n=>n;have a:∀u y,SI (J1 3 base A) A u y->SI (J1 3 base w1) w1 u y:=λu y h=>by
  refine Dx t (λb p h=>?_) h;obtain⟨C,c⟩:=p.2;rcases l.2 with⟨e,_⟩|⟨g,cap,q,e,_,o,_⟩
  .rw[e]at h;cases h
  rw[e]at h;cases h;rw[o]at c;cases c
 have m:vals.length=P.length:=by have:=l.1;omega
 refine⟨vals++news,by rw[ZA];exact B,λi y d=>?_⟩;by_cases z:i<P.length
 .rw[zl z]at d
  obtain⟨u,f,j⟩:=w i y d;exact⟨u,by rw[zl o!];exact f,a _ _ j⟩
 rw[Zbr o!]at d;obtain⟨u,f,j⟩:=s _ y d;exact⟨u,by rw[Zbr o!,m];exact f,a _ _ j⟩
def B3.aj4 (h:Qb6 w A)(c:B3 b A B)(d:w<=b):Qb6 w B:=h.trans ((c.CN (K:=λx=>x=b) rfl).below (λx a=>by have:x=b:=a;omega) h.size)
def aeD (c:A_)(i:Int):Bool:=decide (0<(Aj c.Aa i.toNat).left)
def af8 {t:Nat}:(JU c t=none)↔(AB t).all (aeD c)=true:=by
 unfold JU;rw[List.find?_eq_none,Zdm];constructor
 .intro h x a
  have:=h x a;simp[SU,aeD]at this⊢;omega
 intro h x a;have:=h x a;simp[SU,aeD]at this⊢;omega
def agW (h:Ca c l=0):Eg c l=if(AB (DS c l)).all (aeD c)=true then 0 else 12:=by
 unfold Eg;rw[BR h];by_cases a:JU c (DS c l)=none
 .rw[if_pos a,if_pos (af8.1 a)]
 rw[if_neg a,if_neg λx=>a (af8.2 x)]
def ah1 (h:BN c=0)(hi:i<c.Aa.length):0<=(Aj c.Aa i).left/\(Aj c.Aa i).left<=4:=(EG h).left i hi
def ah2 {s:List Ay}{n:List Int}(h:BN c=0)(f:acf s=acf c.Aa)(hl:∀i,i<s.length->0<=(Aj s i).left/\(Aj s i).left<=4)(E:Ct c n=0):BN {c with Aa:=s,now:=n}=0:=by
 have e:=af5 f;have a:∀i,i<s.length->(Aj s i).low=(Aj c.Aa i).low/\(Aj s i).high=(Aj c.Aa i).high/\(Aj s i).Ap=(Aj c.Aa i).Ap/\(Aj s i).over=(Aj c.Aa i).over:=λi hi=>by
  have:=ajT f hi;simp only[Ay.mk.injEq]at this;obtain⟨d,b,j,g,_⟩:=this;exact⟨d,b,j,g⟩
 obtain⟨J,G⟩:=Bj h;obtain⟨I,F⟩:=Bj G;obtain⟨H,o⟩:=Bj F;have p:H0 c.Aa=true:=by
  by_cases q:H0 c.Aa=true
  .exact q
  rw[if_neg q]at o;cases o
 have k1:Dq {c with Aa:=s,now:=n}=0:=J;have C:Di (s.length:Int) 3=0:=by rw[e];exact I
 have B:JP {c with Aa:=s,now:=n}=0:=by
  unfold JP;refine J0 λk x D=>?_;have m:k<s.length:=(Zm.1 D).1;have l:=Gs H k _ (Db (show k<c.Aa.length by omega));rw[zN]at l⊢;obtain⟨d,b,j,g⟩:=a k m;unfold EF at l⊢;show PM (CV ((Aj s k).low,(Aj s k).high) (-2) 2) (PM (Di (Aj s k).Ap.length 2) (PM (CY (Fa c.base.length (Aj s k).Ap) 0 (Aj s k).Ap) (PM (CY (Ed s.length k (Aj s k).over) 0 (Aj s k).over) (Fo 0 4 (Aj s k).left))))=0;rw[d,b,j,g,e];obtain⟨z,y⟩:=Bj l;obtain⟨w,v⟩:=Bj y;obtain⟨u,t⟩:=Bj v;obtain⟨r,z8⟩:=Bj t;rw[BR z,BR w,BR u,BR r];exact Rm (hl k m)
 have A:H0 s=true:=by
  unfold H0 at p⊢;rw[ae5 f,e];exact p
 have k5:Ct {c with Aa:=s,now:=n} n=0:=by
  obtain⟨L,K⟩:=Fb E;refine iH ⟨by show n.length=s.length;omega,λi hi=>?_⟩;show(Aj s i).low<=nth n i/\nth n i<=(Aj s i).high;obtain⟨d,b,_⟩:=a i o!;rw[d,b];exact K i hi
 unfold BN;rw[BR k1,BR C,BR B,if_pos A];exact k5
def aeF (a:Eg c l=0):BN (FH c l (DS c l))=0:=by
 obtain⟨m,n⟩:=Bj a;obtain⟨d,g⟩:=Bj m;have f:∀x∈AB (DS c l),0<=x/\x<c.Aa.length:=MT (EG d) (by have:=(Fb g).1;omega);have j:=agW m;have p:(AB (DS c l)).all (aeD c)=true:=by
  by_cases q:(AB (DS c l)).all (aeD c)=true
  .exact q
  rw[if_neg q]at j;rw[j]at a;cases a
 refine ah2 d (adK _ _) (λi hi=>?_) g;rw[O_]at hi;have b:=ah1 d hi;by_cases k:(i:Int)∈AB (DS c l)
 .have o:=Zdm.1 p _ k
  simp only[aeD,Int.toNat_natCast,decide_eq_true_eq]at o;rcases MZ (AB (DS c l)) c.Aa i (PS _) f with e|e<;>rw[e]<;>omega
 rw[Ld _ _ i f k];exact b
def acm (d:A_)(g:A_->Option (List (List Int)×Int))(a:Option (List (List Int)×Int))(l:List Int):Option (List (List Int)×Int):=
 match g (FH d l (DS d l)) with
 |none=>a
 |some p=>if LJ ((AB (DS d l)).length+p.2) a=true then some (l::p.1,(AB (DS d l)).length+p.2) else a
def acZ:List (List (Int×Int))->A_->Option (List (List Int)×Int)
 | [],_=>some ([],0)
 |s::r,d=>(lF d s).foldl (acm d (acZ r)) none
def foldl_filter {c b:Type}{p:b->Bool}{f g:c->b->c}:∀ {l:List b} {a:c},(∀x∈l,∀a,g a x=if p x=true then f a x else a)->l.foldl g a=(l.filter p).foldl f a
 | [],_,_=>rfl
 |x::r,a,h=>by
  rw[List.foldl_cons,h x (zC ..),ZbB];have d:=λy i=>h y (zm x i);by_cases e:p x=true
  .rw[if_pos e,if_pos e,List.foldl_cons]
   exact foldl_filter d
  rw[if_neg e,if_neg e];exact foldl_filter d
def ahK {c:A_}:∀(i:List (List (Int×Int))) {d:A_},kU c d->BN d=0->acZ i d=Gx (Ax c.Aa) (i.map (Jt c)) d
 | [],_,_,_=>rfl
 |s::r,d,b,k=>by
  have j:=afs b;have m:EH d=EH c:=af7 _ _ j;have u:lF d s=(Jt c s).filter (Ev d):=by
   unfold lF LU Jt;rw[m,List.filter_filter,List.filter_filter];apply List.filter_congr;intro l _;rw[aja b,Bool.and_comm]
  show(lF d s).foldl (acm d (acZ r)) none=(Jt c s).foldl (DL (Ax c.Aa) d (Gx (Ax c.Aa) (r.map (Jt c)))) none;rw[u];refine(foldl_filter λl t o=>?_).symm;have g:Tc d l:=WV (by rw[m];exact(List.mem_filter.1 t).1);have f:Cx (Ax c.Aa) d.now l=DS d l:=by rw[<-ae5 j];rfl
  unfold DL;rw[f];by_cases e:Ev d l=true
  .rw[if_pos e]
   have a:JU d (DS d l)=none:=Option.isNone_iff_eq_none.1 e;have n:Eg d l=0:=by
    unfold Eg Ca;rw[BR (BR k▸iH g),if_pos a]
   have p:∀x,x∈AB (DS d l)->0<=x/\x<d.Aa.length:=MT (EG k) (by have:=g.1;omega);have q:=b.abw (l:=l) (by have:=g.1;have:=b.len;omega) p a;unfold acm;rw[a,ahK r q (aeF n)]
   rfl
  rw[if_neg e];cases a:JU d (DS d l) with
  |none=>exact absurd (by unfold Ev;rw[a];rfl) e
  |some x=>rfl
def atr:Option (List (List Int)×Int)->Int
 |none=> -1
 |some p=>p.2
def ade:Option (List (List Int)×Int)->List (List Int)
 |none=> []
 |some p=>p.1
def ajf {o c:Nat}{r:List (List (Int×Int))}(h:SSP S w (.slice (some ⟨b,o,none⟩) n c) (s::r)):SSP S w (.slice (some ⟨b,o+1,none⟩) r.length (c - 1)) r:=by
 obtain⟨B,z,k,g,y,f⟩:=h;cases k;refine⟨_,_,rfl,?_,o!,λi x a=>?_⟩
 .rw[zb]at g
  omega
 obtain⟨A,v,t,e,q,p,m,l⟩:=f (i+1) x (by simpa using a);cases e;exact⟨b,o+1,t,rfl,q,p,λj u d=>by have:=m j u d;rw[show o+1+i*1+j=o+(i+1)*1+j by omega];exact this,l⟩
def ai9 {o c:Nat}{r:List (List (Int×Int))}(h:SSP S w (.slice (some ⟨b,o,none⟩) n c) (s::r)):SSP S w (.slice (if c=1 then some ⟨b,o,none⟩ else some ⟨b,o+1,none⟩) (n - 1) (c - 1)) r:=by
 have e:=ajf h;obtain⟨u,t,j,g,m,l⟩:=h
 injection j with q a p
 rw[zb]at g a;rw[a,Nat.add_sub_cancel];split
 .next k=>
  have f:r=[]:=List.length_eq_zero_iff.1 o!;subst f;exact⟨_,_,rfl,i!,o!,λi x d=>by cases d⟩
 exact e
def aft {cs:List Zf}{x:List (Int×Int)}(h:Rsp S w cs x)(a:CE S w w')(d:∀b,S b->T b):Rsp T w' cs x:=by
 obtain⟨u,e,c⟩:=h;exact⟨u,e,Sl.imp (SP.Ar c a) d λ_ _ x=>x⟩
def aeG {l:List (List (Int×Int))}(h:SSP S w v l)(a:Qb6 w w'):SSP S w' v l:=
 Sl.Ar h (CE.Ec a) λ_ _ b=>aft b (CE.Ec a) λ_ h=>h
def ad0 {l:List (List (Int×Int))}(h:SSP S w v l)(f:Ql6 S w)(a:Qb6 w w'):SSP (λx=>x<w'.heap.size) w' v l:=by
 refine Sl.imp (Sl.Ar h (CE.Ec a) λi x c=>aft c (CE.Ec a) λ_ h=>h) (λb d=>Zl (f b d) a.size) λi x c=>?_;obtain⟨u,e,g⟩:=c;exact⟨u,e,Sl.imp g (λb d=>Zl (f b d) a.size) λ_ _ x=>x⟩
def adQ (n lo hi:Int)(w:Zb):Calls Lp 80 #[.int .i64 n,.int .i64 lo,.int .i64 hi] w λe w'=>e=.returned (.bool (!AD n lo hi))/\w'=w:=by
 go_enter Lp.func135,aq1;go_wp2
 all_goals go_ret
 all_goals refine⟨?_,rfl⟩
 all_goals simp_all[AD]
 have c:¬n<lo:=o!
 by_cases b:n<=hi
 .have a:¬hi<n:=by omega
  simp[b,c,a]
 have a:hi<n:=o!
 simp[b,a]
def ajV (n a:Int)(w:Zb):Calls Lp 45 #[.int .i64 n,.int .i64 a] w λe w'=>e=.returned (.int .i64 (Di n a))/\w'=w:=by
 go_enter Lp.func107,apH;go_wp2
 all_goals go_ret
 all_goals simp_all[Di]
 all_goals omega
variable {p:Int×Int}
def afd (h:AD p.1 lo hi=true):CV p lo hi=1:=if_pos (.inl h)
def afe (h:AD p.2 lo hi=true):CV p lo hi=1:=if_pos (.inr h)
def aff (b:AD p.1 lo hi=false)(a:AD p.2 lo hi=false)(h:p.2<p.1):CV p lo hi=5:=by
 unfold CV;rw[if_neg (by rw[b,a];simp),if_pos h]
def adV (b:AD p.1 lo hi=false)(a:AD p.2 lo hi=false)(h:¬p.2<p.1):CV p lo hi=0:=by
 unfold CV;rw[if_neg (by rw[b,a];simp),if_neg h]
def aql (h:RC S w v1 v2 v3 v4 v5 c)(E:Ql6 S w):Calls Lp 76 #[.agg #[v1,v2,v3,v4,v5]] w λe w'=>e=.returned (.int .i64 (Dq c))/\Qb6 w w':=by
 obtain⟨N,I,M,c2,L,H,K,G,J,F,rfl,rfl,rfl,rfl,rfl,l1,m1,l2,m2,l3,m3,l4,m4,l5,m5⟩:=h.vs;have IX:=DJ;go_enter Lp.func116,apN;have z:YH w w (w.alloc (.cells (Qe6 c N I M c2 L H K G J F) 26)):=(Zh _ _).alloc (Zj _) _;have X:=Bp w (.cells (Qe6 c N I M c2 L H K G J F) 26);go_wp2_with (go_at_call 45;refine(ajV _ _ _).mono ?_;rintro e w' ⟨rfl,rfl⟩)
 .have D:(Di c.base.length 3 !=0)=true:=by assumption
  go_ret;exact⟨Bw (by rw[Dq,K4 (Gr D)]),z⟩
 rename (Di _ _ !=0)=false=>D
 have l:=Zd D;clear D;go_loopg [4] c.base.length (λg i wr=>∃k:Nat,k<=c.base.length/\g=c.base.length - k/\i=.int .i64 k/\Bc (Fo 1 60) (c.base.drop k)=Bc (Fo 1 60) c.base/\wr=(w.alloc (.cells (Qe6 c N I M c2 L H K G J F) 26)))
 case atStart=>exact⟨0,Zp _,rfl,rfl,rfl,rfl⟩
 obtain⟨k,U,rfl,rfl,m,rfl⟩:=hrel;have a:=Zd m;clear m;by_cases n:k<c.base.length
 .obtain⟨b,o,rfl,u,R⟩:=h.base.at_ n
  have Z:=z.cell (p:=⟨b,o+k,none⟩) (E b u);rw[R]at Z;have d:=Zd (E_ (f:=Fo 1 60) (Bn n));go_wp2_with (go_at_call 80;refine(adQ _ _ _ _).mono ?_;rintro e w' ⟨rfl,rfl⟩)
  .have r:AD (nth c.base k) 1 60=true:=by assumption
   go_ret;have T:Bc (Fo 1 60) c.base=1:=by rw[<-a.out,d.out,Ws r];rfl
   exact⟨Bw (by rw[Dq,BR (FE l.out),T];rfl),z⟩
  have r:AD (nth c.base k) 1 60=false:=a!
  go_roundg (c.base.length - (k+1))
  case rel=>exact⟨k+1,o!,rfl,v!,by rw[<-a.out,d.out,SK r];rfl,rfl⟩
  omega
 have s:=Zd (show Bc (Fo 1 60) c.base=0 by rw[<-a.out];exact FZ o!);clear a;go_wp2
 .have C:((c.Af.length:Int) !=c.base.length)=true:=by assumption
  go_ret;exact⟨Bw (by rw[Dq,BR (FE l.out),BR s.out,if_pos (xp C)]),z⟩
 rename (_ !=_)=false=>C
 have y:=Zd C;clear C;go_loopg [5] c.Af.length (λg i wr=>∃k:Nat,k<=c.Af.length/\g=c.Af.length - k/\i=.int .i64 k/\Bc (λp=>CV p (-9) 9) (c.Af.drop k)=Bc (λp=>CV p (-9) 9) c.Af/\Qb6 w wr/\wr.heap[w.heap.size]?=some (.cells (Qe6 c N I M c2 L H K G J F) 26 (0,0)))
 case atStart=>exact⟨0,Zp _,rfl,rfl,rfl,z,X⟩
 obtain⟨k,U,rfl,rfl,m,j,O⟩:=hrel;have a:=Zd m;clear m;have k0:=ch (i:=0) O rfl;have k1:=ch (i:=1) O rfl;have k2:=ch (i:=2) O rfl;by_cases n:k<c.Af.length
 .obtain⟨b,o,rfl,u,Q,W⟩:=h.Af.at_ n
  rw[<-j.cell (p:=⟨b,o+k*2,none⟩) (E b u)]at Q;rw[<-j.cell (p:=⟨b,o+k*2+1,none⟩) (E b u)]at W;have d:=Zd (E_ (f:=λp=>CV p (-9) 9) (EE n));go_wp2_with (go_at_call 80;refine(adQ _ _ _ _).mono ?_;rintro e w' ⟨rfl,rfl⟩)
  .have t:AD (BV c.Af k).1 (-9) 9=true:=by assumption
   go_ret;have A:Bc (λp=>CV p (-9) 9) c.Af=1:=by rw[<-a.out,d.out,afd t];rfl
   exact⟨Bw (by rw[Dq,BR (FE l.out),BR s.out,if_neg (λx=>x (U2 y.out)),A];rfl),j⟩
  .have t:AD (BV c.Af k).2 (-9) 9=true:=by assumption
   go_ret;have A:Bc (λp=>CV p (-9) 9) c.Af=1:=by rw[<-a.out,d.out,afe t];rfl
   exact⟨Bw (by rw[Dq,BR (FE l.out),BR s.out,if_neg (λx=>x (U2 y.out)),A];rfl),j⟩
  rename AD (BV c.Af k).2 _ _=false=>q
  rename¬AD (BV c.Af k).1 _ _=true=>t
  have v:=Zd (Bool.eq_false_iff.2 t);have B:=Zd q;clear t q;go_quiet (fail)
  all_goals go_wp2
  .have P:(BV c.Af k).2<(BV c.Af k).1:=by assumption
   go_ret;have A:Bc (λp=>CV p (-9) 9) c.Af=5:=by rw[<-a.out,d.out,aff v.out B.out P];rfl
   exact⟨Bw (by rw[Dq,BR (FE l.out),BR s.out,if_neg (λx=>x (U2 y.out)),A];rfl),Y5 j _⟩
  have P:¬(BV c.Af k).2<(BV c.Af k).1:=o!
  go_roundg (c.Af.length - (k+1))
  case rel=>exact⟨k+1,o!,rfl,v!,by rw[<-a.out,d.out,adV v.out B.out P];rfl,Y5 j _,by simpa using O⟩
  omega
 have v:=Zd (show Bc (λp=>CV p (-9) 9) c.Af=0 by rw[<-a.out];exact FZ o!);clear a;go_wp2
 .have q:((c.hooks.length:Int) !=c.base.length)=true:=by assumption
  go_ret;exact⟨Bw (by rw[Dq,BR (FE l.out),BR s.out,if_neg (λx=>x (U2 y.out)),BR v.out,if_pos (xp q)]),j⟩
 rename (_ !=_)=false=>q
 have B:=Zd q;clear q;go_loopg [6] c.hooks.length (λg i V=>∃k:Nat,k<=c.hooks.length/\g=c.hooks.length - k/\i=.int .i64 k/\Bc (Fo 0 5) (c.hooks.drop k)=Bc (Fo 0 5) c.hooks/\V=wr)
 case atStart=>exact⟨0,Zp _,rfl,rfl,rfl,rfl⟩
 obtain⟨k,U,rfl,rfl,m,rfl⟩:=hrel;have a:=Zd m;clear m;by_cases n:k<c.hooks.length
 .obtain⟨b,o,rfl,u,R⟩:=h.hooks.at_ n
  rw[<-j.cell (p:=⟨b,o+k,none⟩) (E b u)]at R;have d:=Zd (E_ (f:=Fo 0 5) (Bn n));go_wp2_with (go_at_call 80;refine(adQ _ _ _ _).mono ?_;rintro e w' ⟨rfl,rfl⟩)
  .have r:AD (nth c.hooks k) 0 5=true:=by assumption
   go_ret;have T:Bc (Fo 0 5) c.hooks=1:=by rw[<-a.out,d.out,Ws r];rfl
   exact⟨Bw (by rw[Dq,BR (FE l.out),BR s.out,if_neg (λx=>x (U2 y.out)),BR v.out,if_neg (λx=>x (U2 B.out)),T]),j⟩
  have r:AD (nth c.hooks k) 0 5=false:=a!
  go_roundg (c.hooks.length - (k+1))
  case rel=>exact⟨k+1,o!,rfl,v!,by rw[<-a.out,d.out,SK r];rfl,rfl⟩
  omega
 have Y:=Zd (show Bc (Fo 0 5) c.hooks=0 by rw[<-a.out];exact FZ o!);clear a;go_wp2;go_ret;exact⟨Bw (by rw[Dq,BR (FE l.out),BR s.out,if_neg (λx=>x (U2 y.out)),BR v.out,if_neg (λx=>x (U2 B.out)),Y.out]),j⟩
def adq (g:Nat)(l:List (Int×Int)):Int:=PM (Di l.length 2) (CY (Fa g l) 0 l)
def aqp {a:List (Int×Int)}(hp:SP S w v a)(T:g<=maxLen)(B:Ql6 S w):Calls Lp 113 #[.int .i64 g,v] w λe w'=>e=.returned (.int .i64 (adq g a))/\Qb6 w w':=by
 obtain⟨V,U,rfl,Q,P⟩:=hp.val;have X:=DJ;have F:=Zd (show adq g a=PM (Di a.length 2) (CY (Fa g a) 0 a) from rfl);go_enter Lp.func160,aq2;go_wp2_with (go_at_call 45;refine(ajV _ _ _).mono ?_;rintro e w' ⟨rfl,y⟩;have y:=y.symm;subst y)
 .have t:(Di a.length 2 !=0)=true:=by assumption
  go_ret;exact⟨Bw (by rw[F.out,K4 (Gr t)]),Zh _ _⟩
 rename (Di _ _ !=0)=false=>t
 have r:=Zd (show adq g a=CY (Fa g a) 0 a by rw[F.out,BR (FE t)]);have W:=Zd t;clear t F;go_loopg [6] a.length (λN i wr=>∃k:Nat,k<=a.length/\N=a.length - k/\i=.int .i64 k/\CY (Fa g a) k (a.drop k)=CY (Fa g a) 0 a/\Qb6 w wr)
 case atStart=>exact⟨0,Zp _,rfl,rfl,rfl,Zh _ _⟩
 obtain⟨k,R,rfl,rfl,K,d⟩:=hrel;have m:=Zd K;clear K;by_cases L:k<a.length
 .obtain⟨q,z,rfl,C,E,D⟩:=hp.at_ L
  obtain⟨O,M,e,_,J,_⟩:=hp.at_ (i:=0) o!;cases e;rw[<-d.cell (p:=⟨q,z+k*2,none⟩) (B q C)]at E;rw[<-d.cell (p:=⟨q,z+k*2+1,none⟩) (B q C)]at D;rw[<-d.cell (p:=⟨q,z+0*2,none⟩) (B q C)]at J;have n:=Zd (K5 (f:=Fa g a) (EE L));obtain⟨x,A⟩:=Qnm (BV a k);rw[<-A]at E D n;have Y:=Zd A;clear A;obtain⟨b,c⟩:=x;dsimp only at E D;rw[Nat.zero_mul,Nat.add_zero]at J;go_wp2_with (go_at_call 80;refine(adQ _ _ _ _).mono ?_;rintro e w' ⟨rfl,rfl⟩)
  .have j:AD b 0 ((g:Int) - 1)=true:=by assumption
   have l:Fa g a k (b,c)=3:=by unfold Fa;rw[if_pos j]
   go_ret;exact⟨Bw (by rw[r.out, <-m.out,n.out,l];rfl),d⟩
  .have j:AD b 0 ((g:Int) - 1)=false:=by assumption
   have o:AD c (-4) 4=true:=a!
   have l:Fa g a k (b,c)=1:=by unfold Fa;rw[if_neg (by rw[j];decide),if_pos (.inr o)]
   go_ret;exact⟨Bw (by rw[r.out, <-m.out,n.out,l];rfl),d⟩
  .have j:AD b 0 ((g:Int) - 1)=false:=by assumption
   have o:(c==0)=true:=a!
   have l:Fa g a k (b,c)=1:=by unfold Fa;rw[if_neg (by rw[j];decide),if_pos (.inl (by simpa using o))]
   go_ret;exact⟨Bw (by rw[r.out, <-m.out,n.out,l];rfl),d⟩
  rename AD b 0 _=false=>j
  rename¬AD c _ _=true=>o
  rename (c==0)=false=>H
  have l:Fa g a k (b,c)=if 0<k/\b=(BV a 0).1 then 4 else 0:=by unfold Fa;rw[if_neg (by rw[j];decide),if_neg (λx=>x.elim (by simpa using H) o)]
  have G:=Zd l;clear l j o H;by_cases I:0<k
  .go_quiet (fail)
   go_wp2
   .have s:((BV a 0).1==b)=true:=by assumption
    go_ret;have u:Fa g a k (b,c)=4:=by rw[G.out,if_pos ⟨I,by simp at s;exact s.symm⟩]
    exact⟨Bw (by rw[r.out, <-m.out,n.out,u];rfl),Y5 d _⟩
   have s:((BV a 0).1==b)=false:=a!
   have u:Fa g a k (b,c)=0:=by rw[G.out,if_neg (λx=>by simp at s;exact s x.2.symm)]
   go_roundg (a.length - (k+1))
   case rel=>exact⟨k+1,o!,rfl,v!,by rw[<-m.out,n.out,u];rfl,Y5 d _⟩
   omega
  go_quiet (fail);go_wp2;have u:Fa g a k (b,c)=0:=by rw[G.out,if_neg (λx=>I x.1)]
  go_roundg (a.length - (k+1))
  case rel=>exact⟨k+1,o!,rfl,v!,by rw[<-m.out,n.out,u];rfl,Y5 d _⟩
  omega
 go_wp2;go_ret;exact⟨Bw (by rw[r.out, <-m.out];exact(MN o!).symm),d⟩
def aia (a b c:Int):PM (PM a b) c=PM a (PM b c):=by
 unfold PM;by_cases h:a=0
 .rw[if_pos h,if_pos h]
 rw[if_neg h,if_neg h,if_neg h]
def aqq (h:RC S w v1 v2 v3 v4 v5 c)(hn:n<c.Aa.length)(K:Ql6 S w):Calls Lp 77 #[.agg #[v1,v2,v3,v4,v5],.int .i64 n] w λe w'=>e=.returned (.int .i64 (EF c n))/\Qb6 w w':=by
 obtain⟨a1,c1,a2,c2,a3,c3,a4,c4,a5,c5,rfl,rfl,rfl,rfl,rfl,l1,m1,l2,m2,l3,m3,l4,m4,l5,m5⟩:=h.vs;have IX:=DJ;obtain⟨b,o,s2,s3,rfl,hb,ER,MM,LO,Z,V,P,J⟩:=h.Aa.at_ hn;obtain⟨a6,c6,rfl,l6,m6⟩:=P.val;obtain⟨a7,c7,rfl,l7,m7⟩:=J.val;have ig:=K b hb;obtain⟨s,O⟩:=Qnm (Aj c.Aa n);have D:EF c n=PM (CV (s.low,s.high) (-2) 2) (PM (adq c.base.length s.Ap) (PM (CY (Ed c.Aa.length n s.over) 0 s.over) (Fo 0 4 s.left))):=by rw[EF,O,adq,aia]
 have C:=Zd D;rw[<-O]at ER MM LO Z V P J l6 l7;clear O D;obtain⟨a,j,BW,d,G⟩:=s;dsimp only at*;have Bg:YH w w (w.alloc (.cells (Qe6 c a1 c1 a2 c2 a3 c3 (some ⟨b,o,none⟩) c4 a5 c5) 26)):=bA (Zh _ _);have F:=Zd (λW (t:Qb6 w W)=>aqp (w:=W) (g:=c.base.length) (P.later t) o! (A3 K t));go_enter Lp.func117,apO;go_wp2_with (first|(go_at_call 80;refine(adQ _ _ _ _).mono ?_;rintro e w' ⟨rfl,rfl⟩)|(go_at_call 113;refine(F.out _ (bA (bA (Zh _ _)))).mono ?_;rintro e w' ⟨rfl,Bv⟩;obtain⟨De,m,Q⟩:=kp Bv;have f0:=m 0 (.slice a1 c.base.length c1) rfl;have f3:=m 3 (.slice (some ⟨b,o,none⟩) c.Aa.length c4) rfl;have g3:=Q 3 (.slice a7 d.length c7) rfl;have Y:=Q 4 (.int .i64 G) rfl;clear m Q))
 .have r:AD a (-2) 2=true:=by assumption
  go_ret;exact⟨Bw (by rw[C.out,afd (p:=(a,j)) r];rfl),bA (bA (Zh _ _))⟩
 .have r:AD j (-2) 2=true:=by assumption
  go_ret;exact⟨Bw (by rw[C.out,afe (p:=(a,j)) r];rfl),bA (bA (Zh _ _))⟩
 .have r:¬AD a (-2) 2=true:=by assumption
  have A:AD j (-2) 2=false:=a!
  have l:j<a:=a!
  go_ret;exact⟨Bw (by rw[C.out,aff (p:=(a,j)) (Bool.eq_false_iff.2 r) A l];rfl),bA (bA (Zh _ _))⟩
 .have r:¬AD a (-2) 2=true:=by assumption
  have A:AD j (-2) 2=false:=a!
  have l:a<=j:=a!
  have q:(adq c.base.length BW !=0)=true:=a!
  go_ret;exact⟨Bw (by rw[C.out,adV (p:=(a,j)) (Bool.eq_false_iff.2 r) A (by show¬j<a;omega),BR rfl,K4 (Gr q)]),De⟩
 rename¬AD a (-2) 2=true=>r
 rename AD j (-2) 2=false=>A
 rename a<=j=>l
 rename (adq _ _ !=0)=false=>q
 have I:=Zd (show EF c n=PM (CY (Ed c.Aa.length n d) 0 d) (Fo 0 4 G) by rw[C.out,adV (p:=(a,j)) (Bool.eq_false_iff.2 r) A (by show¬j<a;omega),BR rfl,BR (FE q)]);clear r A l C ER MM LO Z V F;have Q4:=Zd q;clear q;have D':=ZH w' _ Y;have Sb:w+1<w'.heap.size:=D';clear D';go_loopg [7] d.length (λg i wr=>∃k:Nat,k<=d.length/\g=d.length - k/\i=.int .i64 k/\CY (Ed c.Aa.length n d) k (d.drop k)=CY (Ed c.Aa.length n d) 0 d/\Qb6 w wr/\Qb6 w' wr)
 case atStart=>exact⟨0,Zp _,rfl,rfl,rfl,De,Zh _ _⟩
 obtain⟨k,hk,rfl,rfl,CP,u,t⟩:=hrel;have m:=Zd CP;clear CP;rw[<-t.cell (p:=w) j!]at f0;rw[<-t.cell (p:=⟨w,3,none⟩) j!]at f3;rw[<-t.cell (p:=⟨w+1,3,none⟩) j!]at g3;rw[<-t.cell (p:=⟨w+1,4,none⟩) j!]at Y;by_cases Az:k<d.length
 .obtain⟨E,L,rfl,U3,L6⟩:=J.at_ Az
  rw[<-u.cell (p:=⟨E,L+k,none⟩) (K E U3)]at L6;have R:0<k->wr.cell? ⟨E,L+(k - 1),none⟩=some (.int .i64 (nth d (k - 1))):=λh0=>by
   obtain⟨ai,ac,e,_,X⟩:=J.at_ (i:=k - 1) o!;cases e;rw[<-u.cell (p:=⟨E,L+(k - 1),none⟩) (K E U3)]at X;exact X
  have B:=Zd (K5 (f:=Ed c.Aa.length n d) (Bn Az));obtain⟨x,N⟩:=Qnm (nth d k);rw[<-N]at L6 B;have HX:=Zd N;have T:=Zd R;clear N R;cases l:AD x 0 ((c.Aa.length:Int) - 1) with
  |true=>
   go_wp2;go_quiet (first|(go_at_call 80;refine Zb5 (adQ _ _ _ _)));go_wp2;go_ret;have v:Ed c.Aa.length n d k x=3:=by unfold Ed;rw[if_pos (.inl l)]
   exact⟨Bw (by rw[I.out, <-m.out,B.out,v];rfl),Y5 u _⟩
  |false=>
   go_wp2;go_quiet (first|(go_at_call 80;refine Zb5 (adQ _ _ _ _)));go_wp2
   .have q:(x==(n:Int))=true:=by assumption
    go_ret;have v:Ed c.Aa.length n d k x=3:=by unfold Ed;rw[if_pos (.inr (by simpa using q))]
    exact⟨Bw (by rw[I.out, <-m.out,B.out,v];rfl),Y5 u _⟩
   rename (x==(n:Int))=false=>q
   have z:=Zd (show¬(AD x 0 ((c.Aa.length:Int) - 1)=true\/x=n) from λy=>y.elim (by rw[l];decide) (by simpa using q));clear l q;by_cases M:0<k
   .have R:=T.out M
    go_quiet (fail);go_wp2
    .have U:x<=nth d (k - 1):=by assumption
     have v:Ed c.Aa.length n d k x=5:=by unfold Ed;rw[if_neg z.out,if_pos ⟨M,U⟩]
     go_ret;exact⟨Bw (by rw[I.out, <-m.out,B.out,v];rfl),Y5 (Y5 u _) _⟩
    have U:nth d (k - 1)<x:=a!
    have v:Ed c.Aa.length n d k x=0:=by unfold Ed;rw[if_neg z.out,if_neg (λy=>by have:=y.2;omega)]
    go_roundg (d.length - (k+1))
    case rel=>exact⟨k+1,o!,rfl,v!,by rw[<-m.out,B.out,v];rfl,Y5 u _,Y5 t _⟩
    omega
   go_quiet (fail);go_wp2;have v:Ed c.Aa.length n d k x=0:=by unfold Ed;rw[if_neg z.out,if_neg (λy=>M y.1)]
   go_roundg (d.length - (k+1))
   case rel=>exact⟨k+1,o!,rfl,v!,by rw[<-m.out,B.out,v];rfl,Y5 u _,Y5 t _⟩
   omega
 have H:=Zd (show EF c n=Fo 0 4 G by rw[I.out,BR (by rw[<-m.out];exact MN o!)]);clear m;go_wp2_with (go_at_call 80;refine(adQ _ _ _ _).mono ?_;rintro e w' ⟨rfl,rfl⟩)
 .have l:AD G 0 4=true:=by assumption
  go_ret;exact⟨Bw (by rw[H.out,Ws l]),u⟩
 have l:AD G 0 4=false:=a!
 go_ret;exact⟨Bw (by rw[H.out,SK l]),u⟩
def c93 (h:RC S w v1 v2 v3 v4 v5 c)(hl:SI S w v6 l)(r:Ql6 S w):Calls Lp 79 #[.agg #[v1,v2,v3,v4,v5],v6] w λe w'=>e=.returned (.int .i64 (Ct c l))/\Qb6 w w':=by
 obtain⟨P,L,O,c2,N,K,z,y,M,J,rfl,rfl,rfl,rfl,rfl,l1,m1,l2,m2,l3,m3,l4,m4,l5,Z⟩:=h.vs;obtain⟨a6,c6,rfl,l6,Y⟩:=hl.val;have IX:=DJ;have s:YH w w (w.alloc (.cells (Qe6 c P L O c2 N K z y M J) 26)):=(Zh _ _).alloc (Zj _) _;by_cases t:l.length<c.Aa.length
 .go_enter Lp.func93,n93
  go_wp2;go_ret;exact⟨Bw (by rw[Ct,if_pos t]),s⟩
 by_cases A:c.Aa.length<l.length
 .go_enter Lp.func93,n93
  go_wp2;go_ret;exact⟨Bw (by rw[Ct,if_neg t,if_pos A]),s⟩
 have a:l.length=c.Aa.length:=o!
 have x:Ct c l=Bc (λp:Int×Ay=>Fo p.2.low p.2.high p.1) (l.zip c.Aa):=by rw[Ct,if_neg t,if_neg A]
 have j:(l.zip c.Aa).length=l.length:=by simp[a]
 have B:=Zd x;have U:=Zd j;have V:=Zd a;clear x j a;go_enter Lp.func93,n93;go_wp2;go_loopg [5] l.length (λg i wr=>∃k:Nat,k<=l.length/\g=l.length - k/\i=.int .i64 k/\Bc (λp:Int×Ay=>Fo p.2.low p.2.high p.1) ((l.zip c.Aa).drop k)=Bc (λp:Int×Ay=>Fo p.2.low p.2.high p.1) (l.zip c.Aa)/\Qb6 w wr/\wr.cell? ⟨w,3,none⟩=some (.slice z c.Aa.length y))
 case atStart=>exact⟨0,Zp _,rfl,rfl,rfl,s,i!⟩
 obtain⟨k,hk,rfl,rfl,E,d,G⟩:=hrel;have m:=Zd E;clear E;by_cases F:k<l.length
 .have C:k<c.Aa.length:=by have:=V.out;omega
  obtain⟨b,o,rfl,I,H⟩:=hl.at_ F;obtain⟨n,u,X,W,rfl,D,R,T,_⟩:=h.Aa.at_ C;rw[<-d.cell (p:=⟨b,o+k,none⟩) (r b I)]at H;rw[<-d.cell (p:=⟨n,u+k*5,none⟩) (r n D)]at R;rw[<-d.cell (p:=⟨n,u+k*5+1,none⟩) (r n D)]at T;have v:=Zd (E_ (f:=λp:Int×Ay=>Fo p.2.low p.2.high p.1) (Ra F C));go_wp2;go_quiet (first|(go_at_call 80;refine Zb5 (adQ _ _ _ _)))
  all_goals go_wp2
  .have q:AD (nth l k) (Aj c.Aa k).low (Aj c.Aa k).high=true:=by assumption
   go_ret;exact⟨Bw (by rw[B.out, <-m.out,v.out,Ws q];rfl),Y5 d _⟩
  have q:AD (nth l k) (Aj c.Aa k).low (Aj c.Aa k).high=false:=a!
  go_roundg (l.length - (k+1))
  case rel=>exact⟨k+1,o!,rfl,v!,by rw[<-m.out,v.out,SK q];rfl,Y5 d _,by simpa using G⟩
  omega
 have Q:=Zd (show Ct c l=0 by rw[B.out, <-m.out];exact FZ (by have:=U.out;omega));clear m;go_wp2;go_ret;exact⟨Bw Q.out.symm,d⟩
def amo:(Tryz.prog.info? 4).map (λi=>(i.zero,i.size,i.bytes))=some (some (.bool false),1,1):=k!
def adk (st:List Bool):Array Zf:=(st.map Value.bool).toArray
def afu (n:Nat)(e:n<=1000)(w:Zb):(Zdp 154 (.int .i64 n) (.int .i64 n)).run Lp w=.ok (.slice w n n) (w.alloc (.cells (adk (List.replicate n false)) 4)):=by
 obtain⟨a,hi,b,d,c⟩:=zp amo;have h:=run_make (P:=Lp) w 154 4 a (.bool false) (Cz Tryz.underlying154) (Dz hi) b .i64 .i64 n n o! (Int.le_refl _) (by rw[c];omega) o!;rw[h,d];simp only[Int.toNat_natCast]
 congr 3
 unfold adk;apply Array.ext
 .simp[madeCells]
 intro i g f;simp[madeCells,Value.cells,Nat.mod_one]
def ajg (st:List Bool)(k:Nat):(adk st).setIfInBounds k (.bool true)=adk (st.set k true):=by
 unfold adk;simp
variable {st:List Bool}
def ad9 (h:k<st.length):(adk st)[k]?=some (.bool (st.getD k false)):=by
 unfold adk;simp[Y6,h]
def ah5 (h:k<l.length):aiJ (l.drop k) st=aiJ (l.drop (k+1)) (st.set (nth l k).toNat true):=by
 unfold aiJ;rw[ZO h,List.foldl_cons]
 congr 2
 simp[nth,h]
def ah6 {o:List (List Int)}(h:i<o.length):yn n i (o.drop i) st=yn n (i+1) (o.drop (i+1)) (if i=n\/st.getD i false=true then aiJ (o.getD i []) st else st):=by
 rw[ZO h];show yn n (i+1) (o.drop (i+1)) (if i=n\/st.getD i false=true then aiJ o[i] st else st)=_;rw[show o.getD i []=o[i] by simp[Y6,h]]
structure AbW (w:Zb)(x:Array Zf)(n:Nat)(st:List Bool)(wr:Zb):Prop where
 below:Qb6 w wr
 box:wr.heap[w.heap.size]?=some (.cells x 26 (0,0))
 row:wr.heap[w.heap.size+1]?=some (.cells (adk st) 4 (0,0))
 len:st.length=n
def AbW.set {wr:Zb}{x:Array Zf}(h:AbW w x n st wr)(k:Nat):AbW w x n (st.set k true) (wr.setCell ⟨w+1,k,none⟩ (.bool true)):=
 ⟨bS h.below o!,(AZ o! _).trans h.box,by rw[Ba h.row _,ajg],by rw[ZcC];exact h.len⟩
def amq (h:RC S w v1 v2 v3 v4 v5 c)(Jw:JO c.Aa)(Q:Ql6 S w):
  Calls Lp 78 #[.agg #[v1,v2,v3,v4,v5],.int .i64 n] w λe w'=>e=.returned (.slice (w+1:Nat) c.Aa.length c.Aa.length)/\Qb6 w w'/\w'.heap[w.heap.size+1]?=some (.cells (adk (adh c.Aa n)) 4 (0,0))/\(adh c.Aa n).length=c.Aa.length:=by
 obtain⟨L,H,K,c2,J,G,R,F,I,E,rfl,rfl,rfl,rfl,rfl,l1,m1,l2,m2,l3,m3,l4,m4,l5,m5⟩:=h.vs;have IX:=DJ;have Jm:=Jw.few;have ai:=λW=>afu c.Aa.length o! W;have m:(acj c.Aa).length=c.Aa.length:=by simp[acj]
 have A:iV n (acj c.Aa) c.Aa.length (List.replicate c.Aa.length false)=adh c.Aa n:=by unfold adh aiK;rw[m]
 have HF:=Zd A;have HO:=Zd m;clear A m;go_enter Lp.func118,apP;go_wp2;go_loopg [6] c.Aa.length (λg i wr=>∃(r:Nat) (st:List Bool),r<=c.Aa.length/\g=c.Aa.length - r/\i=.int .i64 r/\iV n (acj c.Aa) (c.Aa.length - r) st=adh c.Aa n/\AbW w #[.slice L c.base.length H,.slice K c.Af.length c2,.slice J c.hooks.length G,.slice R c.Aa.length F,.slice I c.now.length E] c.Aa.length st wr)
 case atStart=>exact⟨0,_,Zp _,rfl,rfl,HF.out,⟨bA (bA (Zh _ _)),Bf (Bp _ _) _,by have:=Bp (w.alloc (.cells (Qe6 c L H K c2 J G R F I E) 26)) (.cells (adk (List.replicate c.Aa.length false)) 4);rwa[ZB]at this,i!⟩⟩
 obtain⟨r,st,hr,rfl,rfl,z,v⟩:=hrel;have B_:=Zd z;clear z;have X:=ch (i:=3) v.box rfl;by_cases Az:r<c.Aa.length
 .go_wp2
  go_loopg [7] c.Aa.length (λg i wx=>∃(j:Nat) (a:List Bool),j<=c.Aa.length/\g=c.Aa.length - j/\i=.int .i64 j/\yn n j ((acj c.Aa).drop j) a=yn n 0 (acj c.Aa) st/\AbW w #[.slice L c.base.length H,.slice K c.Af.length c2,.slice J c.hooks.length G,.slice R c.Aa.length F,.slice I c.now.length E] c.Aa.length a wx)
  case atStart=>exact⟨0,st,Zp _,rfl,rfl,rfl,v⟩
  obtain⟨j,a,hj,rfl,rfl,B,s⟩:=hrel;have U:=Zd B;clear B;have X:=ch (i:=3) s.box rfl;by_cases N:j<c.Aa.length
  .have t:=ch s.row (ad9 (k:=j) (by have:=s.len;omega))
   have lY:(acj c.Aa).getD j []=(Aj c.Aa j).over:=by simp[acj,Aj,Y6,N]
   have Y:=Zd (ah6 (n:=n) (i:=j) (o:=acj c.Aa) (st:=a) (by have:=HO.out;omega));rcases(show j=n\/(¬j=n/\a.getD j false=true)\/¬j=n/\a.getD j false=false by
    by_cases e:j=n
    .exact .inl e
    cases e2:a.getD j false
    .exact .inr (.inr ⟨e,rfl⟩)
    exact .inr (.inl ⟨e,rfl⟩)) with hj1|⟨hj1,xK⟩|⟨hj1,xK⟩
   rotate_left 2
   .have BL:¬(j:Int)=n:=by omega
    rw[xK]at t;go_wp2;go_roundg (c.Aa.length - (j+1))
    case rel=>exact⟨j+1,a,o!,rfl,v!,by rw[<-U.out,Y.out,if_neg (λx=>x.elim hj1 (by rw[xK];decide))],s⟩
    omega
   case' inl=>
    subst hj1;go_wp2;have HC:=Zd (show j=j\/a.getD j false=true from .inl rfl)
   case' inr.inl=>
    have BL:¬(j:Int)=n:=o!
    have HC:=Zd (show j=n\/a.getD j false=true from .inr xK);rw[xK]at t;clear hj1 xK;go_wp2;clear BL
   all_goals
    obtain⟨b,o,v2,v3,ea,Z,_,_,_,T,_,_,P⟩:=h.Aa.at_ N;subst ea;obtain⟨a7,c7,rfl,l7,m7⟩:=P.val;obtain⟨d,C⟩:=Qnm ((Aj c.Aa j).over);have rU:∀k,k<d.length->0<=nth d k/\nth d k<c.Aa.length:=by rw[C];exact Jw.over j N
    have HV:=Zd C;rw[<-C]at T P l7;clear C;rw[<-s.below.cell (p:=⟨b,o+j*5+3,none⟩) (Q b Z)]at T;go_loopg [8] d.length (λg i V=>∃(k:Nat) (l:List Bool),k<=d.length/\g=d.length - k/\i=.int .i64 k/\aiJ (d.drop k) l=aiJ d a/\YH w wr V/\AbW w #[.slice L c.base.length H,.slice K c.Af.length c2,.slice J c.hooks.length G,.slice (some ⟨b,o,none⟩) c.Aa.length F,.slice I c.now.length E] c.Aa.length l V)
    case atStart=>exact⟨0,a,Zp _,rfl,rfl,rfl,Zh _ _,s⟩
    obtain⟨k,l,hk,rfl,rfl,B,U5,f⟩:=hrel;have et:=Zd B;clear B;have X:=ch (i:=3) f.box rfl;rw[<-U5.cell (p:=⟨b,o+j*5+3,none⟩) (Q b Z)]at T;by_cases q:k<d.length
    .obtain⟨b7,o7,rfl,U3,u⟩:=P.at_ q
     have y:=rU k q;obtain⟨x,O⟩:∃x:Nat,nth d k=x:=⟨_,(Int.toNat_of_nonneg y.1).symm⟩;have D:=ah5 (st:=l) q;rw[O]at u y D;rw[Int.toNat_natCast]at D;have HD:=Zd D;have HX:=Zd O;clear D O;have ac:x<c.Aa.length:=o!
     rw[<-f.below.cell (p:=⟨b7,o7+k,none⟩) (Q b7 U3)]at u;have kx:=ch f.row (ad9 (k:=x) (by have:=f.len;omega));have fx:=cf (i:=x) f.row;go_wp2;go_roundg (d.length - (k+1))
     case rel=>exact⟨k+1,l.set x true,o!,rfl,v!,by rw[<-et.out,HD.out],U5.setCell (p:=⟨w+1,x,none⟩) (Nat.le_succ _) _,f.set x⟩
     omega
    go_wp2;have M:=et.out;rw[Z7.2 (show d.length<=k by omega)]at M;have M:l=aiJ d a:=M;go_roundg (c.Aa.length - (j+1))
    case rel=>exact⟨j+1,l,o!,rfl,v!,by rw[<-U.out,Y.out,if_pos HC.out,lY, <-HV.out,M],f⟩
    omega
  go_wp2;go_roundg (c.Aa.length - (r+1))
  case rel=>exact⟨r+1,a,o!,rfl,v!,by rw[<-B_.out,show c.Aa.length - r=(c.Aa.length - (r+1))+1 by omega];show _=iV n _ _ (yn n 0 _ st);rw[<-U.out,Z7.2 (by have:=HO.out;omega)];rfl,s⟩
  omega
 go_wp2;go_ret;have hz:c.Aa.length - r=0:=o!
 have e:=B_.out;rw[hz]at e;have e':st=adh c.Aa n:=e;exact⟨rfl,v.below,by rw[<-e'];exact v.row,by rw[<-e'];exact v.len⟩
def afv (f:JP c=0):∀s∈c.Aa,s.over.Pairwise (· < ·)/\∀x∈s.over,0<=x/\x<c.Aa.length:=λs d=>by
 obtain⟨k,a,e⟩:=Zas d;have h:=Gs f k s (by rw[zf a,e]);rw[zN]at h;unfold EF at h;have b:=(Bj (Bj (Bj (Bj h).2).2).2).1;have g:Aj c.Aa k=s:=by
  have:=Db a;rw[zf a,e]at this;exact(ZW this).symm
 rw[g]at b;exact aj8 b
def afw (d:Di c.Aa.length 3=0)(b:JP c=0)(hi:i<c.Aa.length)(a:k<c.Aa.length):(adh c.Aa i).getD k false=hasB (Ax c.Aa i) k:=
 ai5 (by have:=(JQ d).2;omega) (afv b) hi a
def ajW {l:List Ay}(a:k<l.length)(h:hasB (Ax l k) k=true):H0 l=false:=ks a (by rw[h];rfl)
def ajX {l:List Ay}(h:∀k,k<l.length->hasB (Ax l k) k=false):H0 l=true:=by
 unfold H0;rw[Zdm];intro k a;rw[h k (List.mem_range.1 a)]
 rfl
def c50 (h:RC S w v1 v2 v3 v4 v5 c)(z:Ql6 S w):Calls Lp 44 #[.agg #[v1,v2,v3,v4,v5]] w λe w'=>e=.returned (.int .i64 (BN c))/\Qb6 w w':=by
 obtain⟨I,D,H,c2,G,C,F,B,E,A,rfl,rfl,rfl,rfl,rfl,l1,m1,l2,m2,l3,m3,l4,m4,l5,m5⟩:=h.vs;have IX:=DJ;obtain⟨xs,ai⟩:∃xs:Array Zf,xs= #[.slice I c.base.length D,.slice H c.Af.length c2,.slice G c.hooks.length C,.slice F c.Aa.length B,.slice E c.now.length A]:=⟨_,rfl⟩;have K:=Zd (show BN c=PM (Dq c) (PM (Di c.Aa.length 3) (PM (JP c) (if H0 c.Aa=true then Ct c c.now else 9))) from rfl);have R:=Zd (λW (b:Qb6 w W)=>aql (h.later b) (A3 z b));have Q:=Zd (λW (b:Qb6 w W) n (hn:n<c.Aa.length)=>aqq (h.later b) hn (A3 z b));have T:=Zd (λW (b:Qb6 w W) n (J:JO c.Aa)=>amq (n:=n) (h.later b) J (A3 z b));have Z:=Zd (λW (b:Qb6 w W)=>c93 (h.later b) (h.later b).now (A3 z b));go_enter Lp.func50,n50;go_wp2_with (first|(go_at_call 76;refine(R.out _ (bA (Zh _ _))).mono ?_;rintro e W1 ⟨rfl,Bg⟩;(have M:=(Bg.block _ (by rw[ZB];exact Nat.lt_succ_self _)).trans (Bp w (.cells (Qe6 c I D H c2 G C F B E A) 26)));(have U:Qb6 w W1:=(bA (Zh _ _)).trans (Bg.mono (by rw[ZB];omega)));(have x:=ch (i:=3) M rfl);(have v:=ch (i:=4) M rfl))|(go_at_call 45;refine(ajV _ _ _).mono ?_;rintro e w' ⟨rfl,L⟩;have L:=L.symm;subst L))
 .have p:(Dq c !=0)=true:=by assumption
  go_ret;exact⟨Bw (by rw[K.out,K4 (Gr p)]),U⟩
 .have p:(Dq c !=0)=false:=by assumption
  have o:(Di c.Aa.length 3 !=0)=true:=a!
  go_ret;exact⟨Bw (by rw[K.out,BR (FE p),K4 (Gr o)]),U⟩
 rename (Dq c !=0)=false=>p
 rename (Di _ _ !=0)=false=>o
 have V:=Zd (SQ (FE o));have mG:=Zd (fun(h2:JP c=0) i k=>afw (c:=c) (i:=i) (k:=k) (FE o) h2);have um:=Zd (show BN c=PM (JP c) (if H0 c.Aa=true then Ct c c.now else 9) by rw[K.out,BR (FE p),BR (FE o)]);have Q1:=Zd p;have Q2:=Zd o;clear p o Bg x v K;go_loopg [5] c.Aa.length (λg i wr=>∃k:Nat,k<=c.Aa.length/\g=c.Aa.length - k/\i=.int .i64 k/\CY (λi _=>EF c i) k (c.Aa.drop k)=JP c/\Qb6 w wr/\wr.heap[w.heap.size]?=some (.cells (Qe6 c I D H c2 G C F B E A) 26 (0,0)))
 case atStart=>exact⟨0,Zp _,rfl,rfl,rfl,U,M⟩
 obtain⟨k,hk,rfl,rfl,CP,a,m⟩:=hrel;have y:=Zd CP;clear CP;obtain⟨k0,k1,k2,x,v⟩:=Qc5 m;have N:=(Za.1 m).1;by_cases t:k<c.Aa.length
 .have hd:=Zd (K5 (f:=λi _=>EF c i) (Db t))
  go_wp2_with (go_at_call 77;refine(Q.out _ a _ t).mono ?_;rintro e w2 ⟨rfl,d⟩)
  .have l:(EF c k !=0)=true:=by assumption
   have s:JP c=EF c k:=by rw[<-y.out,hd.out,if_neg (Gr l)]
   go_ret;exact⟨Bw (by rw[um.out,s,K4 (Gr l)]),a.trans (d.mono a.size)⟩
  have l:(EF c k !=0)=false:=a!
  go_roundg (c.Aa.length - (k+1))
  case rel=>exact⟨k+1,o!,rfl,v!,by rw[<-y.out,hd.out,if_pos (FE l)],a.trans (d.mono a.size),(d.block _ N).trans m⟩
  omega
 have s:JP c=0:=by rw[<-y.out];exact MN o!
 have J:=V.out s;have HA:=Zd (mG.out s);have xq:=Zd (show BN c=(if H0 c.Aa=true then Ct c c.now else 9) by rw[um.out,BR s]);have HK:=Zd J;clear y s J;go_wp2;go_loopg [7] c.Aa.length (λg i wx=>∃k:Nat,k<=c.Aa.length/\g=c.Aa.length - k/\i=.int .i64 k/\(∀j,j<k->hasB (Ax c.Aa j) j=false)/\Qb6 w wx/\wx.heap[w.heap.size]?=some (.cells (Qe6 c I D H c2 G C F B E A) 26 (0,0)))
 case atStart=>exact⟨0,Zp _,rfl,rfl,λj P=>absurd P (ZbY _),a,m⟩
 obtain⟨k,hk,rfl,rfl,tE,a,m⟩:=hrel;have O:=Zd tE;clear tE k0 k1 k2 x v;obtain⟨k0,k1,k2,x,v⟩:=Qc5 m;have N:=(Za.1 m).1;by_cases t:k<c.Aa.length
 .have q:=HA.out k k t t
  obtain⟨bb,r⟩:=Qnm (hasB (Ax c.Aa k) k);rw[<-r]at q;have u:=Zd r;have X:=Zd q;clear r q;go_wp2_with (go_at_call 78;refine(T.out _ a k HK.out).mono ?_;rintro e w2 ⟨rfl,d,Ci,ac⟩;have kx:=ch Ci (ad9 (k:=k) o!);rw[X.out]at kx)
  .have l:bb=true:=by assumption
   go_ret;exact⟨Bw (by rw[xq.out,if_neg (by rw[ajW t (u.out.symm.trans l)];decide)]),a.trans (d.mono a.size)⟩
  have l:bb=false:=a!
  go_roundg (c.Aa.length - (k+1))
  case rel=>exact⟨k+1,o!,rfl,v!,λj P=>by
   by_cases e:j=k
   .rw[e];exact u.out.symm.trans l
   exact O.out j o!,a.trans (d.mono a.size),(d.block _ N).trans m⟩
  omega
 have Y:=Zd (show BN c=Ct c c.now by rw[xq.out,if_pos (ajX λj P=>O.out j o!)]);clear O;go_wp2_with (go_at_call 79;refine(Z.out _ a).mono ?_;rintro e w2 ⟨rfl,d⟩);go_ret;exact⟨Bw Y.out.symm,a.trans (d.mono a.size)⟩
def aqt (h:RC S w v1 v2 v3 v4 v5 c)(F:Fq c)(hl:SI S w v6 l)(hn:l.length<=c.Aa.length)(hb:∀i,i<l.length->-2<=nth l i/\nth l i<=2)(I:Ql6 S w):
  Calls Lp 122 #[.agg #[v1,v2,v3,v4,v5],v6] w λe w'=>∃u,e=.returned u/\Qb6 w w'/\SI (Cb w w') w' u (Cc c l):=by
 obtain⟨a1,s,C,c2,B,z,E,f,A,t,rfl,rfl,rfl,rfl,rfl,l1,m1,l2,m2,l3,m3,l4,m4,l5,m5⟩:=h.vs;obtain⟨a6,c6,rfl,l6,m6⟩:=hl.val;have IX:=DJ;obtain⟨tN,lZ⟩:=F.Fp;have HM:=Zd (show measure c l=Iw (λj=>nth c.base j) (l.zip c.Aa) from rfl);have Bg:YH w w (w.alloc (.cells (Qe6 c a1 s C c2 B z E f A t) 26)):=bA (Zh _ _);have ai:=MP F;have be:=Zd (lC c.base);obtain⟨i0,hi,Fl,DR,EB⟩:=zp KY;have hu:=Cz YE;obtain⟨a,rfl⟩:∃a,a1=some a:=by
  obtain⟨b,o,e,_⟩:=h.base.at_ (i:=0) o!;exact⟨_,e⟩
 obtain⟨news,Qa,hR,hc⟩:=Sl.row h.base d! a rfl;have h1:=row_one d! Qa hR pJ;have HC:=Zd hc;have uz:=kY (R:=Ri) Qa hR;clear hc hR;have yd:(((w.alloc (.cells #[.slice (some a) c.base.length s,.slice C c.Af.length c2,.slice B c.hooks.length z,.slice E c.Aa.length f,.slice A c.now.length t] 26)).alloc (.cells #[] 3)).ownsRow (w+1) 3 1 (.slice (w+1:Nat) 0 0) 0 []):=by
  have:=YC (base:=w+1) (e:=3) (size:=1) (w.alloc (.cells #[.slice (some a) c.base.length s,.slice C c.Af.length c2,.slice B c.hooks.length z,.slice E c.Aa.length f,.slice A c.now.length t] 26)) #[] 0 (by rw[ZB];exact Zj _) (Zp _) rfl;rwa[ZB]at this
 have HX:=Zd (show((w.alloc (.cells #[.slice (some a) c.base.length s,.slice C c.Af.length c2,.slice B c.hooks.length z,.slice E c.Aa.length f,.slice A c.now.length t] 26)).alloc (.cells #[] 3)).heap[w.heap.size]?=some (.cells #[.slice (some a) c.base.length s,.slice C c.Af.length c2,.slice B c.hooks.length z,.slice E c.Aa.length f,.slice A c.now.length t] 26 (0,0)) from Bf (Bp _ _) _);go_enter Lp.func115,apI;go_wp2_with (at_builtin;refine Yc _ rfl _ _ 22 rfl (w+1) 3 i0 (.int .i64 0) 1 8 hu (Dz hi) Fl DR EB rfl d! _ 0 [] rfl yd a c.base.length s news rfl Qa (λj u hj=>ca (ca (HC.out j u hj) _) _) h1 u! o! i! ?_;intro v' w1 T AG Q);have De:Qb6 w w1:=Bm (bA (bA (Zh _ _))) AG (λk hk=>by cases hk;exact Nat.le_succ _) j!;rw[zN,zP,uz]at T;obtain⟨g,cap,ba,rfl,H,_⟩:=Own.val (l:=c.base) T o!;have an:MG w #[.slice (some a) c.base.length s,.slice C c.Af.length c2,.slice B c.hooks.length z,.slice E c.Aa.length f,.slice A c.now.length t] (.slice g c.base.length cap) c.base.length (λj=>nth c.base j) w1:=by
  refine⟨De,?_,?_⟩
  .exact(AG.block w j! (λe=>by have:=ZW (show some w.heap.size=some (w.heap.size+1) from e);omega)).trans HX.out
  rw[<-be.out];exact T
 clear T AG Q H;go_loopg [6] l.length (λgg i wr=>∃(k:Nat) (m:Nat->Int),k<=l.length/\gg=l.length - k/\i=.int .i64 k/\Iw m ((l.zip c.Aa).drop k)=measure c l/\(∀j,-(60+16*k)<=m j/\m j<=60+16*k)/\MG w #[.slice (some a) c.base.length s,.slice C c.Af.length c2,.slice B c.hooks.length z,.slice E c.Aa.length f,.slice A c.now.length t] (.slice g c.base.length cap) c.base.length m wr)
 case atStart=>exact⟨0,_,Zp _,rfl,rfl,rfl,λj=>by have:=ai j;omega,an⟩
 obtain⟨k,m,hk,rfl,rfl,K,ac,J⟩:=hrel;have hf:=Zd K;clear K;by_cases Az:k<l.length
 .have P:k<c.Aa.length:=by omega
  have W:=hb k Az;have Z:=Zd (SR (m:=m) Az P);obtain⟨b6,o6,rfl,Xj,xu⟩:=hl.at_ Az;obtain⟨b,o,s2,s3,rfl,UQ,ER,MM,LO,et,mi,Y,ho⟩:=h.Aa.at_ (i:=k) P;obtain⟨a7,c7,rfl,l7,m7⟩:=Y.val;clear ER MM et mi;have Xa:=F.pull k P;have X:=F.Ap k P;have Jm:=F.few;obtain⟨n,Q⟩:=Qnm (nth l k);rw[<-Q]at xu W Z;clear Q;obtain⟨d,lP⟩:=Qnm ((Aj c.Aa k).Ap);rw[<-lP]at LO Y l7 Xa X Z;clear lP;have TB:(k:Int)<(l.length:Int):=o!
  have ct:(k:Int)<(c.Aa.length:Int):=o!
  have bc:=(J.below.cell (p:=⟨b,o+k*5+2,none⟩) (I b UQ)).trans LO;have ap:=ch (i:=3) J.box (v:=.slice (some ⟨b,o,none⟩) c.Aa.length f) rfl;go_wp2;clear bc ap;go_loopg [8] d.length (λgg i wx=>∃(j:Nat) (r:Nat->Int),j<=d.length/\gg=d.length - j/\i=.int .i64 j/\CZ r n (d.drop j)=CZ m n d/\(∀i,-(60+16*(k:Int)+8*j)<=r i/\r i<=60+16*(k:Int)+8*j)/\MG w #[.slice (some a) c.base.length s,.slice C c.Af.length c2,.slice B c.hooks.length z,.slice (some ⟨b,o,none⟩) c.Aa.length f,.slice A c.now.length t] (.slice g c.base.length cap) c.base.length r wx)
  case atStart=>exact⟨0,m,Zp _,rfl,rfl,rfl,λi=>by have:=ac i;omega,J⟩
  obtain⟨j,r,hj,rfl,rfl,K,eA,D⟩:=hrel;have MK:=Zd K;clear K;have dl:=(D.below.cell (p:=⟨b,o+k*5+2,none⟩) (I b UQ)).trans LO;have g3:=ch (i:=3) D.box (v:=.slice (some ⟨b,o,none⟩) c.Aa.length f) rfl;by_cases G4:j<d.length
  .obtain⟨O,o7,rfl,U3,V,U⟩:=Y.at_ G4
   rw[<-D.below.cell (p:=⟨O,o7+j*2,none⟩) (I O U3)]at V;rw[<-D.below.cell (p:=⟨O,o7+j*2+1,none⟩) (I O U3)]at U;have du:=(D.below.cell (p:=⟨b6,o6+k,none⟩) (I b6 Xj)).trans xu;have G:=Zd (PO (m:=r) (n:=n) G4);obtain⟨Oo,MF,M,L⟩:=Xa j G4;obtain⟨q,hq⟩:=Qnm (BV d j);rw[<-hq]at V U G Oo MF M L;clear hq;obtain⟨x',y⟩:=q;obtain⟨x,rfl⟩:∃x:Nat,x'=x:=⟨x'.toNat,by simp only at Oo;omega⟩;dsimp only at V U Oo MF M L;have xy:x<c.base.length:=o!
   have bi:(x:Int)<(c.base.length:Int):=o!
   have ck:(0:Int)<=(x:Int):=o!
   have fd:(0:Int)<=(k:Int):=o!
   have LZ:(j:Int)<(d.length:Int):=o!
   have ci:(0:Int)<=(j:Int):=o!
   have bv:=prod_bound ⟨M,L⟩ W;have bV:=eA x;obtain⟨H,ba,Xg,Ox⟩:=D.row xy;have r0:wr.cell? ⟨g,x,none⟩=some (.int .i64 (r x)):=ch Xg Ox;have rf:=cf (i:=x) Xg;go_wp2;go_still_tail 26,k!;change wpList _ _ _ _ _ wr.drew;have am:=(D.later (Zh _ _).drew).set xy n y;go_wp2;go_roundg (d.length - (j+1))
   case rel=>exact⟨j+1,K7 r n ((x:Int),y),o!,rfl,v!,by rw[<-MK.out,G.out],λi=>by have:=MO (N:=60+16*(k:Int)+8*j) (p:=((x:Int),y)) eA ⟨M,L⟩ W i;omega,am⟩
   omega
  have e2:r=CZ m n d:=by rw[<-MK.out,Z7.2 o!];rfl
  subst e2;go_wp2;go_roundg (l.length - (k+1))
  case rel=>exact⟨k+1,_,o!,rfl,v!,by rw[<-hf.out,Z.out],λi=>by have:=eA i;have:(j:Int)<=2:=o!;omega,D⟩
  omega
 have e1:m=measure c l:=by rw[<-hf.out,Z7.2 j!];rfl
 subst e1;have hs:=J.own.si;rw[show Qr c.base.length (measure c l)=Cc c l from rfl]at hs;have Lc:=J.below;go_wp2;go_ret;exact⟨_,rfl,Lc,Sl.imp hs (λx (hx:Cb (w+1) wr x)=>⟨by have:=hx.1;omega,hx.2⟩) (λ_ _ x=>x)⟩
structure adi (c:A_):Prop where
 base:c.base.length<=20
 Af:c.Af.length<=20
 hooks:c.hooks.length<=20
 Aa:c.Aa.length<=20
 now:c.now.length<=20
 part:∀i,i<c.Aa.length->(Aj c.Aa i).Ap.length<=20/\(Aj c.Aa i).over.length<=20
def afx (w:Zb)(c:A_)(e:Ending)(w':Zb):Prop:=∃b,e=.returned (.bool b)/\(b=false->adi c)/\Qb6 w w'
def afx.yes (h:Qb6 w w'):afx w c (.returned (.bool true)) w':=⟨true,rfl,(λx=>x!),h⟩
def c25 (h:RC S w v1 v2 v3 v4 v5 c)(n:Ql6 S w):
  Calls Lp 4 #[.agg #[v1,v2,v3,v4,v5]] w (afx w c):=by
 obtain⟨A,u,z,c2,y,t,x,s,v,r,rfl,rfl,rfl,rfl,rfl,l1,V,l2,U,l3,T,Z,R,Y,Q⟩:=h.vs;have IX:=DJ;obtain⟨W1,a⟩:=Qnm (w.alloc (.cells (Qe6 c A u z c2 y t x s v r) 26));have f:Qb6 w W1:=by rw[a];exact bA (Zh _ _)
 have C:W1.heap[w.heap.size]?=some (.cells (Qe6 c A u z c2 y t x s v r) 26 (0,0)):=by rw[a];exact Bp _ _
 obtain⟨G,k1,F,E,D⟩:=Qc5 C;by_cases q:20<c.base.length\/20<c.Af.length\/20<c.hooks.length\/20<c.Aa.length\/20<c.now.length
 .go_enter Lp.func25,n25
  clear G k1 F E D;go_wp2
  all_goals first
   |(exfalso;omega)
   |skip
  all_goals
   go_ret;exact afx.yes (bA (Zh _ _))
 have g1:¬20<(c.base.length:Int):=o!
 have g2:¬20<(c.Af.length:Int):=o!
 have g3:¬20<(c.hooks.length:Int):=o!
 have g4:¬20<(c.Aa.length:Int):=o!
 have g5:¬20<(c.now.length:Int):=o!
 have M:=Zd q;clear q;go_enter Lp.func25,n25;have K:=f;rw[a]at K;go_wp2;go_loopg [3] c.Aa.length (λg i wr=>∃k:Nat,k<=c.Aa.length/\g=c.Aa.length - k/\i=.int .i64 k/\(∀j,j<k->(Aj c.Aa j).Ap.length<=20/\(Aj c.Aa j).over.length<=20)/\wr=W1)
 case atStart=>exact⟨0,Zp _,rfl,rfl,λj l=>absurd l (ZbY _),a.symm⟩
 obtain⟨k,hk,rfl,rfl,d,rfl⟩:=hrel;have B:=Zd d;clear d;by_cases N:k<c.Aa.length
 .obtain⟨b,o,v2,v3,rfl,m,_,_,J,L,_,H,I⟩:=h.Aa.at_ N
  obtain⟨a6,c6,rfl,X,P⟩:=H.val;obtain⟨a7,c7,rfl,W,O⟩:=I.val;rw[<-f.cell (p:=⟨b,o+k*5+2,none⟩) (n b m)]at J;rw[<-f.cell (p:=⟨b,o+k*5+3,none⟩) (n b m)]at L;clear a;by_cases h6:20<(Aj c.Aa k).Ap.length\/20<(Aj c.Aa k).over.length
  .go_wp2
   all_goals first
    |(exfalso;omega)
    |skip
   all_goals
    go_ret;exact afx.yes f
  have g6:¬20<((Aj c.Aa k).Ap.length:Int):=o!
  have g7:¬20<((Aj c.Aa k).over.length:Int):=o!
  go_wp2;go_roundg (c.Aa.length - (k+1))
  case rel=>exact⟨k+1,o!,rfl,v!,λj l=>by
   by_cases e:j=k
   .rw[e];omega
   exact B.out j o!,rfl⟩
  omega
 clear a;go_wp2;go_ret;have:=M.out;exact⟨false,rfl,λ_=>⟨o!,o!,o!,o!,o!,λi hi=>B.out i o!⟩,f⟩
def afg {P:Zo}{ty:Zs}{i:TypeInfo}(ht:P.underlying t=some (.slice e))(hi:P.info? e=some i){q:Option Addr}{c:Nat}(a:n<=c):(Zao #[t,t] ty #[.slice q n c,.slice none 0 c2]).run P w=.ok (.slice q n c) w:=by
 have b:(Zu i.size 0 (.slice none 0 c2)).run P w=.ok #[] w:=by simp[run_firstCells_none]
 cases q<;>simp[Zao,ZbX,Y9 ht,sizeOf,typeInfo,hi,ZcX,a,b]
variable {o:Oper}
variable {a:Act}
variable {K:Act->Zb->Prop}
def adL {P:Zo}{Q:Exit->Act->Zb->Prop}{i:TypeInfo}(ht:P.underlying t=some (.slice e))(hi:P.info? e=some i)(s x:Zbv)(f:o.op=.call {callee:=.builtin .append,args:= #[s,x],argTypes:= #[t,t]}){q:Option Addr}{c:Nat}(d:a.eval s=.slice q n c)(b:a.eval x=.slice none 0 c2)(g:n<=c)(h:K (a.put o.dst (.slice q n c)) w):o.wp P a w K Q:=by
 unfold ZbA Zby;simp only[f,Zbh,invoke,builtin,zg,Sem.run_pure,Zaw,Zcr,List.map_cons,List.map_nil,d,b,afg ht hi g];exact h
def adf {Q:Exit->Act->Zb->Prop}{base:Nat}{r:List Int}(s x:Zbv)(t:o.op=.call {callee:=.builtin .append,args:= #[s,x],argTypes:= #[22,22]})(p:a.eval s=v)(k:Own w base v l)(m:a.eval x=u)(f:SI S w u r)(y:l.length+r.length<=1000)(J:base<=w.heap.size)
 (h:∀v' w',Own w' base v' (l++r)->w.grownBy w' v.ownBlock->K (a.put o.dst v') w'):o.wp Lp a w K Q:=by
 obtain⟨B,hi,M,O,N⟩:=zp KY;obtain⟨d,c,rfl,T,P⟩:=f.val;cases d with
 |none=>
  have D:r=[]:=by
   cases r with
   |nil=>rfl
   |cons x r=>
    obtain⟨W,V,i,_,_,G⟩:=f;cases i;obtain⟨b,o,U,e,_⟩:=G 0 x rfl;cases e
  subst D;obtain⟨q,n,c2,rfl,C⟩:∃q n c2,v=.slice q n c2/\n<=c2:=by
   rcases k.2 with⟨e,_⟩|⟨g,cap,L,e,_,_,F,_⟩
   .exact⟨_,_,_,e,Zp _⟩
   exact⟨_,_,_,e,F⟩
  exact adL (Cz YE) (Dz hi) s x t p m C (h _ w (by rw[ZaA];exact k) ⟨rfl,rfl,rfl,Zj _,λ_ _ _=>rfl⟩)
 |some d=>
  obtain⟨news,j,z,E⟩:=Sl.row f d! d rfl;have i:=row_one d! j z pJ;have A:=kY (R:=Ri) j z;refine Zak _ s x 22 t base 3 B (.int .i64 0) 1 8 (Cz YE) (Dz hi) M O N rfl d! v l.length (l.map (ZL .i64)) p k d r.length c news m j E i u! o! J ?_;intro v' w' I H _;refine h v' w' ?_ H;unfold Own;rw[ZA,Zai, <-A];exact I
def ahb {base:Nat}(h:w.ownsRow base e 1 (.slice g n cap) n xs):∀j u,xs[j]?=some u->w.cell? ((g:Addr).add j)=some u:=by
 intro j u a;rcases h.2 with⟨e,_⟩|⟨o,p,i,e,_,d,m,_,l,f⟩
 .cases e
 cases e;have k:=h.1;have c:j<n:=by have:=(Zm.1 a).1;omega
 rw[<-f,Z2 o!,Array.getElem?_toList]at a;have b:(g:Addr).add j=⟨g,j,none⟩:=by
  unfold Zcu;split<;>simp_all
 rw[b];exact ch d a
def ad2 {Q:Exit->Act->Zb->Prop}{rb2 base:Nat}{R:List (List Int)}(s x:Zbv)(m:o.op=.call {callee:=.builtin .append,args:= #[s,x],argTypes:= #[40,40]})(c:a.eval s=v)(G:LR2 rb base w v P)(k:a.eval x=u)(C:LR2 rb2 base w u R)(p:P.length+R.length<=10000)(J:rb<=w.heap.size)
 (h:∀v' w',LR2 rb base w' v' (P++R)->w.grownBy w' v.ownBlock->K (a.put o.dst v') w'):o.wp Lp a w K Q:=by
 obtain⟨A,hi,M,O,N⟩:=zp Hw;obtain⟨news,d,z⟩:=C;obtain⟨vals,b,t⟩:=G;rcases d.2 with⟨rfl,L⟩|⟨g,cap,i,rfl,_⟩
 .have E:R=[]:=List.length_eq_zero_iff.1 L
  subst E;obtain⟨q,n,c2,rfl,D⟩:∃q n c2,v=.slice q n c2/\n<=c2:=by
   rcases b.2 with⟨e,_⟩|⟨g,cap,i,e,_,_,H,_⟩
   .exact⟨_,_,_,e,Zp _⟩
   exact⟨_,_,_,e,H⟩
  exact adL (Cz zW) (Dz hi) s x m c k D (h _ w (by rw[ZaA];exact⟨vals,b,t⟩) ⟨rfl,rfl,rfl,Zj _,λ_ _ _=>rfl⟩)
 refine Zak _ s x 40 m rb 22 A () 1 24 (Cz zW) (Dz hi) M O N rfl d! v P.length vals c b g R.length cap news k (by have:=d.1;omega) (ahb d) ?_ u! o! J ?_
 .intro y B
  obtain⟨j,F,rfl⟩:=List.mem_iff_getElem.1 B;have f:j<R.length:=by have:=d.1;omega
  obtain⟨u,l,c⟩:=z j _ (BJ f);rw[zf F]at l;cases l;obtain⟨_,_,e,_⟩:=c.val;rw[e]
  rfl
 intro v' w' I r _;exact h v' w' (LR2.app b t z r I) r
def aqv (hv:Fq c):∀(m:Nat) {S:Nat->Prop} {w:Zb} {base:Nat} {v1 v2 v3 v4 v5 v6:Zf} {p:List Int},RC S w v1 v2 v3 v4 v5 c->SI (J1 3 base w) w v6 p->base<=w.heap.size->p.length+m=c.Aa.length->(∀b,S b->b<w.heap.size)->
  Calls Lp 120 #[.agg #[v1,v2,v3,v4,v5],v6] w λe w'=>∃v,e=.returned v/\Qb6 w w'/\LR2 w base w' v (ad8 c p):=by
 intro m
 induction m with
 |zero=>
  intro S w base v1 v2 v3 v4 v5 v6 p h hp a hm hS;obtain⟨a1,U,Z,c2,Y,Q,a4,O,X,N,rfl,rfl,rfl,rfl,rfl,l1,m1,l2,m2,l3,m3,l4,m4,l5,m5⟩:=h.vs;obtain⟨pa,pc,rfl,im,mp⟩:=hp.val;have HG:=Zd (aje (c:=c) (p:=p) o!);have hq:((p.length:Int)==(c.Aa.length:Int))=true:=j!
  have HP:=Zd hp;have HB:=Zd a;clear hm hp a;go_enter Lp.func131,ami;go_wp2;go_ret;refine⟨_,rfl,bA (bA (Zh _ _)),?_⟩;rw[HG.out];have fK:YH w w ((w.alloc (.cells (Qe6 c a1 U Z c2 Y Q a4 O X N) 26)).alloc (.cells #[.slice pa p.length pc] 22)):=bA (bA (Zh _ _));refine⟨[.slice pa p.length pc],⟨rfl,.inr ⟨w+1,1,#[.slice pa p.length pc],i!,o!,?_,Zj _,d!,rfl,rfl⟩⟩,?_⟩
  .have:=Bp (w.alloc (.cells (Qe6 c a1 U Z c2 Y Q a4 O X N) 26)) (.cells #[.slice pa p.length pc] 22)
   rwa[ZB]at this
  .intro i x hx
   match i,hx with
   |0,hx=>cases hx;exact⟨_,rfl,Dx (T:=λ_=>False) (Ak.later fK) (λ_ _ x=>x) HP.out⟩
 |succ m ih=>
  intro S w base v1 v2 v3 v4 v5 v6 p h hp a hm hS;obtain⟨a1,U,Z,c2,Y,Q,a4,O,X,N,rfl,rfl,rfl,rfl,rfl,l1,m1,l2,m2,l3,m3,l4,m4,l5,m5⟩:=h.vs;obtain⟨pa,pc,rfl,im,mp⟩:=hp.val;have IX:=DJ;have Jm:=hv.few;have Az:p.length<c.Aa.length:=o!
  have TB:(p.length:Int)<(c.Aa.length:Int):=o!
  have iX:((p.length:Int)==(c.Aa.length:Int))=false:=j!
  have B_:=hv.step p.length Az;have du:=Zd (ai8 (c:=c) Az);obtain⟨K,o4,s2,s3,rfl,UQ,ER,MM,_⟩:=h.Aa.at_ (i:=p.length) Az;obtain⟨lo,mK⟩:=Qnm ((Aj c.Aa p.length).low);obtain⟨hi,ai⟩:=Qnm ((Aj c.Aa p.length).high);rw[<-mK, <-ai]at du B_;rw[<-mK]at ER;rw[<-ai]at MM;clear mK ai;obtain⟨M,hM⟩:=Qnm ((hi+1 - lo).toNat);have HM:=Zd hM;have i7:M<=5:=o!
  have bv:∀q:Nat,q<M↔lo+(q:Int)<=hi:=λq=>o!
  clear hM;have mO:YH w w (w.alloc (.cells (Qe6 c a1 U Z c2 Y Q (some ⟨K,o4,none⟩) O X N) 26)):=bA (Zh _ _);have ii:=(mO.cell (p:=⟨K,o4+p.length*5,none⟩) (hS K UQ)).trans ER;have ip:=Zd (show p.length+1+m=c.Aa.length by omega);have HB:=Zd a;have HP:=Zd hp;have HH:=Zd h;have i6:p.length<=2:=o!
  clear hm hp a;go_enter Lp.func131,ami;go_wp2;clear ii;go_loopg [5,6] M (λgg lv n wr=>∃q:Nat,q<=M/\gg=M - q/\n=.int .i64 (lo+q)/\LR2 (w+1) base wr lv (((IU lo hi).take q).flatMap λn=>ad8 c (p++ [n]))/\Qb6 w wr/\wr.heap[w.heap.size]?=some (.cells (Qe6 c a1 U Z c2 Y Q (some ⟨K,o4,none⟩) O X N) 26 (0,0)))
  case atStart=>exact⟨0,Zp _,rfl,i!,by rw[ZdB];exact LR2.nil _ _ _,bA (Zh _ _),Bp _ _⟩
  obtain⟨q,hq,rfl,rfl,hL,I,hX⟩:=hrel;obtain⟨V,hV⟩:=Qnm wr;subst hV;have k3:=ch (i:=3) hX (v:=.slice (some ⟨K,o4,none⟩) c.Aa.length O) rfl;have gt:=(I.cell (p:=⟨K,o4+p.length*5+1,none⟩) (hS K UQ)).trans MM;by_cases ac:q<M
  .have fu:lo+(q:Int)<=hi:=(bv q).1 ac
   have io:=Zd (agF (lo:=lo) (hi:=hi) (q:=q) (by rw[<-HM.out];exact ac));have fH:(((IU lo hi).take q).flatMap λn=>ad8 c (p++ [n])).length<=625:=by
    have h1:=cr (f:=λn=>ad8 c (p++ [n])) (k:=125) ((IU lo hi).take q) (λx _=>adj hv _);have h2:=ZbW q (IU lo hi);omega
   obtain⟨P,hP⟩:=Qnm (((IU lo hi).take q).flatMap λn=>ad8 c (p++ [n]));have iS:=Zd hP;rw[<-hP]at hL fH;clear hP;obtain⟨la,lc,rfl,l7,m7⟩:=hL.val;have z0:=λu=>Al u (ch (i:=0) hX (v:=.slice a1 c.base.length U) rfl);have z1:=λu=>Al u (ch (i:=1) hX (v:=.slice Z c.Af.length c2) rfl);have z2:=λu=>Al u (ch (i:=2) hX (v:=.slice Y c.hooks.length Q) rfl);have z3:=λu=>Al u k3;have z4:=λu=>Al u (ch (i:=4) hX (v:=.slice X c.now.length N) rfl);have bi:∀W,Qb6 V W->SI (J1 3 base W) W (.slice pa p.length pc) p:=λW hW=>Dx (T:=λ_=>False) (Ak.later (bU I hW)) (λ_ _ x=>x) HP.out;have be:=Zd bi;have HL:=Zd hL;clear bi hL;go_wp2;refine aci (S:=λW=>∃p,W=calm V p) 11 [9,10] (.fork 2 (.fork 4 (.one 6 (.one 7 (.one 8 (.one 9 (.one 10 .leaf))))) 6 (.one 4 (.one 7 (.one 8 (.one 9 (.one 10 .leaf)))))) 6 (.one 2 (.one 4 (.one 7 (.one 8 (.one 9 (.one 10 .leaf))))))) [0,1,3,5] k! (λ_ _ d _ _ h=>by cases d<;>exact h) k! (AL (Zh _ _).drew) ?_;refine A4 _ _ k! ?_;simp only[Z6,zd,ZG,ZD,ZC]
   repeat (first|go_big_quiet_step (fail)|quiet_step (fail))
   refine Z4 ?_;clear z0 z1 z2 z3 z4;change acs _ _ _ _ _ _ _ _;have Uh:YH V V V.drew:=(Zh _ _).drew;refine adU ?hA ?hB
   case' hA=>
    obtain⟨A,G⟩:=Qnm (V.drew.alloc (.cells #[] 3));have o:Qb6 V A:=by rw[G];exact bA Uh
    have hO:Own A V (.slice V 0 0) []:=by rw[G];exact YC V.drew #[] 0 (Zj _) (Zp _) rfl
    refine acK (v:=.slice V 0 0) (w':=A) rfl rfl (by rw[G];go_simp) (.inr (AL o)) ?_;refine adU ?oT ?aT
   case' oT=>
    refine adu rfl rfl ?_;refine adf (l:=[]) (r:=p) _ _ rfl g! hO g! (be.out A o) j! o.size ?_;intro v7 B am j;have z:Qb6 V B:=Bm o j (λk H=>by cases H;exact Zj _) o.size;refine⟨.inr (AL z),?_⟩;obtain⟨C,hC⟩:=Qnm (B.alloc (.cells #[.int .i64 (lo+(q:Int))] 3));have s:Qb6 V C:=by rw[hC];exact bA z
    refine acK (v:=.slice B 1 1) (w':=C) rfl rfl (by rw[hC];go_simp) (.inr (AL s)) ?_;have L:Own C V v7 p:=by rw[hC];exact am.later (bA (Zh _ _))
    have J:SI (λy=>y<C.heap.size) C (.slice B 1 1) [lo+(q:Int)]:=by rw[hC];exact M1 [lo+(q:Int)] (Bp B (.cells #[.int .i64 (lo+(q:Int))] 3)) i! (by show 1<=maxLen;decide)
    generalize B=dl at*
   case' aT=>
    obtain⟨B,g⟩:=Qnm (A.alloc (.cells #[.int .i64 (lo+(q:Int))] 3));have z:Qb6 V B:=by rw[g];exact bA o
    refine acK (v:=.slice A 1 1) (w':=B) rfl rfl (by rw[g];go_simp) (.inr (AL z)) ?_;have hO:Own B V (.slice V 0 0) []:=by rw[g];exact hO.later (bA (Zh _ _))
    refine adu rfl rfl ?_;refine adf (l:=[]) (r:=p) _ _ rfl g! hO g! (be.out B z) j! z.size ?_;intro v7 C L j;have s:Qb6 V C:=Bm z j (λk H=>by cases H;exact Zj _) z.size;refine⟨.inr (AL s),?_⟩;have gj:V<A.heap.size:=by rw[G];simp
    have ap:SI (λy=>y=A.heap.size) B (.slice A 1 1) [lo+(q:Int)]:=by rw[g];exact M1 [lo+(q:Int)] (Bp A (.cells #[.int .i64 (lo+(q:Int))] 3)) rfl (by show 1<=maxLen;decide)
    have gn:A<B.heap.size:=by rw[g];simp
    have J:SI (λy=>y<C.heap.size) C (.slice A 1 1) [lo+(q:Int)]:=Sl.imp (ap.Ar λb a _=>j.block b (by have a:b=_:=a;omega) (λe=>by have a:b=_:=a;have e:=ZW e;dsimp only at e;omega)) (λb a=>by have a:b=_:=a;have:=j.size;show b<_;omega) λ_ _ x=>x;generalize A=dl at*
   case' hB=>
    obtain⟨A,G⟩:=Qnm (V.drew.alloc (.cells #[.int .i64 (lo+(q:Int))] 3));have o:Qb6 V A:=by rw[G];exact bA Uh
    refine acK (v:=.slice V 1 1) (w':=A) rfl rfl (by rw[G];go_simp) (.inr (AL o)) ?_;obtain⟨B,g⟩:=Qnm (A.alloc (.cells #[] 3));have z:Qb6 V B:=by rw[g];exact bA o
    have hO:Own B A (.slice A 0 0) []:=by rw[g];exact YC A #[] 0 (Zj _) (Zp _) rfl
    refine acK (v:=.slice A 0 0) (w':=B) rfl rfl (by rw[g];go_simp) (.inr (AL z)) ?_;refine adu rfl rfl ?_;have gj:V<A.heap.size:=by rw[G];simp
    have gn:A<B.heap.size:=by rw[g];simp
    refine adf (l:=[]) (r:=p) _ _ rfl g! hO g! (be.out B z) j! o! ?_;intro v7 C am j;have s:Qb6 V C:=Bm z j (λk H=>by have e:=ZW H;dsimp only at e;omega) z.size;refine⟨.inr (AL s),?_⟩;have L:Own C V v7 p:=Own.mono am o!;have ap:SI (λy=>y=V.heap.size) B (.slice V 1 1) [lo+(q:Int)]:=by rw[g];exact M1 [lo+(q:Int)] (Bf (by rw[G];exact Bp V.drew (.cells #[.int .i64 (lo+(q:Int))] 3)) _) rfl (by show 1<=maxLen;decide)
    have J:SI (λy=>y<C.heap.size) C (.slice V 1 1) [lo+(q:Int)]:=Sl.imp (ap.Ar λb a _=>j.block b (by have a:b=_:=a;omega) (λe=>by have a:b=_:=a;have e:=ZW e;dsimp only at e;omega)) (λb a=>by have a:b=_:=a;have:=j.size;show b<_;omega) λ_ _ x=>x;obtain⟨dl,fm⟩:=Qnm V.heap.size;rw[<-fm]at J⊢
   all_goals
    clear k3 gt;have fy:=(Za.1 hX).1;refine adu rfl rfl ?_;refine adf (l:=p) (r:=[lo+(q:Int)]) _ _ rfl g! L g! J j! s.size ?_;intro v8 D fI fw;have an:Qb6 V D:=Bm s fw (λk H=>(Zcm L k H).1) s.size;refine⟨.inr (AL an),?_⟩;have bc:=bU I an;refine acL (f:=120) (args:= #[.agg (Qe6 c a1 U Z c2 Y Q (some ⟨K,o4,none⟩) O X N),v8]) rfl rfl g! ((ih (base:=base) (HH.out.later bc) (Sl.imp (Own.typ fI) (λb a=>⟨⟨by have:=a.1.1;have:=I.size;have:=HB.out;omega,a.1.2⟩,a.2⟩) λ_ _ x=>x) (by have:=HB.out;have:=bc.size;omega) (by rw[ZA];exact ip.out) (A3 hS bc)).mono ?_);rintro e E ⟨v9,rfl,fJ,ci⟩;have t:=bU an fJ;refine .inl ⟨_,rfl,.inr (AL t),?_⟩;refine adu rfl rfl ?_;refine ad2 (P:=P) (R:=ad8 c (p++ [lo+(q:Int)])) _ _ rfl g! (HL.out.later t) g! ci (by have:=adj hv (p++ [lo+(q:Int)]);omega) (by have:=t.size;omega) ?_;intro fd F ct ba;refine⟨.inl rfl,?_⟩;refine acK (v:=fd) (w':=F) rfl rfl g! (.inl rfl) ?_;unfold acs
    go_simp
    have ck:Qb6 w F:=Bm (bU I t) ba (λk H=>by have:=HL.out.lt k H;omega) (bU I t).size;have bV:F.heap[w.heap.size]?=some (.cells (Qe6 c a1 U Z c2 Y Q (some ⟨K,o4,none⟩) O X N) 26 (0,0)):=(ba.block _ (by have:=t.size;omega) (λe=>by have:=HL.out.lt _ e.symm;omega)).trans ((t.block _ fy).trans hX);have Qs:=Zd (ZY ct (ZY ck bV));clear ct ck bV ba ci;go_wp2;go_roundg (M - (q+1))
    case rel=>exact⟨q+1,ac,rfl,v!,by rw[io.out,Zbe, <-iS.out];simpa using Qs.out.1,Qs.out.2.1,Qs.out.2.2⟩
    omega
  have fi:q=M:=o!
  subst fi;have fu:¬lo+(q:Int)<=hi:=λx=>by have:=(bv q).2 x;omega
  rw[agV (by rw[<-HM.out];exact Zj _), <-du.out]at hL;have HL:=Zd hL;clear hL;go_wp2;go_ret;exact⟨_,rfl,I,HL.out.mono (Nat.le_succ _)⟩
def adM {ab:Nat->Nat}{now:List Int}:∀(l:List Int) (a s k:Nat),k<l.length->JR ab now a (l.take (k+1)) s=if nth l k=nth now (a+k) then JR ab now a (l.take k) s else JR ab now a (l.take k) s|||Iv (ab (a+k)) (a+k)
 |x::r,a,s,0,_=>rfl
 |x::r,a,s,k+1,h=>by
  have b:k<r.length:=by simpa using h
  have:=adM (ab:=ab) (now:=now) r (a+1) (if x=nth now a then s else s|||Iv (ab a) a) k b;rw[show a+1+k=a+(k+1) by omega]at this;exact this
def ak0 (s t i j:Nat):hasB (s|||Iv t i) j=(hasB s j||(hasB t j||decide (i=j))):=by
 unfold hasB Iv;rw[Nat.testBit_or,Nat.testBit_or,Nat.one_shiftLeft,Nat.testBit_two_pow]
def adB {s n:Nat}(h:s<2^n):∀k,n<=k->FF s k=FF s n
 |0,b=>by rw[Nat.le_zero.1 b]
 |k+1,b=>by
  by_cases e:n=k+1
  .rw[e]
  rw[eF,if_neg,adB h k o!];intro a;have:=Nat.testBit_lt_two_pow (Zl h (YX d! (show n<=k by omega)));unfold hasB at a;rw[this]at a;cases a
def af9 (a:Fq c)(hl:l.length<=c.Aa.length):DS c l<2^c.Aa.length:=
 JW (LH a.over) l 0 0 o! (Zdz _)
def aib (a:Fq c)(hl:l.length<=c.Aa.length):FF (DS c l) c.Aa.length=AB (DS c l):=
 (adB (af9 a hl) 3 a.few.2).symm
def aie (a:Fq c)(hl:l.length<=c.Aa.length)(k:Nat):(FF (DS c l) k).length<=c.Aa.length:=by
 by_cases e:k<=c.Aa.length
 .exact Zr (Jo _ _) e
 rw[adB (af9 a hl) k o!];exact Jo _ _
def aji (st:List Bool)(k:Nat)(b:Bool):(adk st).setIfInBounds k (.bool b)=adk (st.set k b):=by
 unfold adk;simp
def AbW.put {wr:Zb}{x:Array Zf}(h:AbW w x n st wr)(k:Nat)(b:Bool):AbW w x n (st.set k b) (wr.setCell ⟨w+1,k,none⟩ (.bool b)):=
 ⟨bS h.below o!,(AZ o! _).trans h.box,by rw[Ba h.row _,aji],by rw[ZcC];exact h.len⟩
def AbW.later {wr:Zb}{x:Array Zf}(h:AbW w x n st wr)(a:Qb6 wr W):AbW w x n st W:=
 ⟨h.below.trans (a.mono h.below.size),(a.block _ (Za.1 h.box).1).trans h.box,(a.block _ (Za.1 h.row).1).trans h.row,h.len⟩
def afz (st:List Bool)(k j:Nat)(b:Bool)(a:k<st.length):(st.set k b).getD j false=if k=j then b else st.getD j false:=by
 simp only[Y6,List.getElem?_set];by_cases e:k=j
 .subst e
  rw[if_pos rfl,if_pos rfl,if_pos a]
  rfl
 rw[if_neg e,if_neg e]
def c95 (h:RC S w v1 v2 v3 v4 v5 c)(hl:SI S w v6 l)(ai:Ca c l=0)(hS:Ql6 S w):
  Calls Lp 82 #[.agg #[v1,v2,v3,v4,v5],v6] w λe w'=>∃v,e=.returned v/\Qb6 w w'/\SI (Cb w w') w' v (AB (DS c l)):=by
 obtain⟨X,R,V,c2,U,Q,M,K,a5,J,rfl,rfl,rfl,rfl,rfl,l1,m1,l2,m2,l3,m3,l4,m4,l5,m5⟩:=h.vs;obtain⟨a6,c6,rfl,l6,m6⟩:=hl.val;obtain⟨i0,hi,Fl,DR,EB⟩:=zp KY;have hu:=Cz YE;have IX:=DJ;obtain⟨Jz,ER⟩:=Bj ai;have hv:=EG Jz;have UO:=(Fb ER).1;obtain⟨_,FD⟩:=Bj Jz;obtain⟨ap,EC⟩:=Bj FD;have ac:=(Bj EC).1;have Jm:=hv.few;have uX:c.now.length=c.Aa.length:=by
  have:=(Bj EC).2;split at this
  .exact(Fb this).1
  cases this
 have HA:=Zd (λi (hi:i<c.Aa.length) j (d:j<c.Aa.length)=>afw ap ac hi d);have fH:=λW=>afu c.Aa.length o! W;obtain⟨tp,s⟩:∃tp:Nat->Nat,tp=λk=>JR (Ax c.Aa) c.now 0 (l.take k) 0:=⟨_,rfl⟩;have fu:=Zd (show tp 0=0 by rw[s];rfl);have fi:=Zd (show∀k,k<c.Aa.length->tp (k+1)=if nth l k=nth c.now k then tp k else tp k|||Iv (Ax c.Aa k) k from λk hk=>by
  rw[s];have:=adM (ab:=Ax c.Aa) (now:=c.now) l 0 0 k o!;rwa[zN]at this)
 have fm:=Zd (show tp c.Aa.length=DS c l by
  rw[s];show JR _ _ 0 (l.take c.Aa.length) 0=JR _ _ 0 l 0;rw[Zb3 o!])
 have fK:=Zd (show∀k,(FF (DS c l) k).length<=c.Aa.length from aie hv o!);have fw:=Zd (show FF (DS c l) c.Aa.length=AB (DS c l) from aib hv o!);have du:=Zd (λW (hW:Qb6 w W) (n:Nat)=>amq (n:=n) (h.later hW) hv.over (A3 hS hW));have ci:=Zd uX;have cA:=Zd UO;clear uX UO s ai Jz ER FD EC ac ap;have an:AbW w #[.slice X c.base.length R,.slice V c.Af.length c2,.slice U c.hooks.length Q,.slice M c.Aa.length K,.slice a5 c.now.length J] c.Aa.length (List.replicate c.Aa.length false) ((w.alloc (.cells (Qe6 c X R V c2 U Q M K a5 J) 26)).alloc (.cells (adk (List.replicate c.Aa.length false)) 4)):=by
  exact⟨bA (bA (Zh _ _)),Bf (Bp _ _) _,by have:=Bp (w.alloc (.cells (Qe6 c X R V c2 U Q M K a5 J) 26)) (.cells (adk (List.replicate c.Aa.length false)) 4);rwa[ZB]at this,i!⟩
 go_enter Lp.func95,n95;go_wp2;go_loopg [6] c.Aa.length (λg i wr=>∃(k:Nat) (T:List Bool),k<=c.Aa.length/\g=c.Aa.length - k/\i=.int .i64 k/\(∀j,j<c.Aa.length->T.getD j false=hasB (tp k) j)/\AbW w #[.slice X c.base.length R,.slice V c.Af.length c2,.slice U c.hooks.length Q,.slice M c.Aa.length K,.slice a5 c.now.length J] c.Aa.length T wr)
 case atStart=>exact⟨0,_,Zp _,rfl,rfl,λj d=>by rw[fu.out];simp[hasB,Y6,d],an⟩
 obtain⟨k,T,hk,rfl,rfl,aW,A⟩:=hrel;have hT:=Zd aW;clear aW an;have k3:=ch (i:=3) A.box (v:=.slice M c.Aa.length K) rfl;have k4:=ch (i:=4) A.box (v:=.slice a5 c.now.length J) rfl;by_cases Az:k<c.Aa.length
 .have y:k<c.now.length:=by have:=ci.out;omega
  have lQ:k<l.length:=by have:=cA.out;omega
  obtain⟨b5,o5,rfl,wN,H⟩:=h.now.at_ y;obtain⟨b6,o6,rfl,Xj,G⟩:=hl.at_ lQ;rw[<-A.below.cell (p:=⟨b5,o5+k,none⟩) (hS b5 wN)]at H;rw[<-A.below.cell (p:=⟨b6,o6+k,none⟩) (hS b6 Xj)]at G;have HS:=Zd (fi.out k Az);have z1:=λp=>Al p H;have z2:=λp=>Al p G;have z4:=λp=>Al p k4;go_wp2;refine Av k! k! ?_
  repeat (first|go_big_quiet_step (fail)|quiet_step (fail))
  refine Z4 ?_;rintro _ ⟨p,rfl⟩;have yw:=AE wr p;obtain⟨fd,Z⟩:=Qnm (calm wr p);rw[<-Z]at yw⊢;clear Z z1 z2 z4 k3 k4 H G;have o:=A.later yw;obtain⟨k0,k1,k2,k3,k4⟩:=Qc5 o.box;have fx:=cf (i:=k) o.row;have C:=ch o.row (ad9 (k:=k) (by have:=o.len;omega));by_cases f:nth l k=nth c.now k
  .have N:=Zd (show tp (k+1)=tp k by rw[HS.out,if_pos f])
   have z:(nth l k==nth c.now k)=true:=by simpa using f
   clear f;go_wp2;go_roundg (c.Aa.length - (k+1))
   case rel=>exact⟨k+1,T,o!,rfl,v!,λj d=>by rw[N.out];exact hT.out j d,o⟩
   omega
  have N:=Zd (show tp (k+1)=tp k|||Iv (Ax c.Aa k) k by rw[HS.out,if_neg f]);have z:(nth l k==nth c.now k)=false:=by simpa using f
  clear f;obtain⟨W1,NL⟩:=Qnm (fd.setCell ⟨w+1,k,none⟩ (.bool true));have O:=o.put k true;rw[<-NL]at O;have dl:=Zd (du.out W1 O.below k);obtain⟨q,D⟩:=Qnm (W1.heap.size+1);have M9:q=W1+1:=D;go_wp2;rw[<-NL];clear NL;refine dl.out.mono ?_;rintro e W2 ⟨rfl,bK,mA,bv⟩;rw[<-D]at mA⊢;clear D;have aT:=O.later bK;have HQ:=Zd M9;have I:(T.set k true).length=c.Aa.length:=O.len;have rU:=(Za.1 mA).1;have ct:=O.row;have lX:=(Za.1 O.row).1;have fy:w+1<q:=by have:=HQ.out;omega
  clear M9 ct lX C fx k0 k1 k2 k3 k4;obtain⟨B,L⟩:=Qnm (adh c.Aa k);have uW:=Zd L;rw[<-L]at mA bv;clear L;go_wp2;go_loopg [8] c.Aa.length (λg i Y=>∃(j:Nat) (a:List Bool),j<=c.Aa.length/\g=c.Aa.length - j/\i=.int .i64 j/\(∀m,m<c.Aa.length->a.getD m false=((T.set k true).getD m false||(decide (m<j)&&B.getD m false)))/\AbW w #[.slice X c.base.length R,.slice V c.Af.length c2,.slice U c.hooks.length Q,.slice M c.Aa.length K,.slice (some ⟨b5,o5,none⟩) c.now.length J] c.Aa.length a Y/\Y.heap[q]?=some (.cells (adk B) 4 (0,0)))
  case atStart=>exact⟨0,_,Zp _,rfl,rfl,λm E=>i!,aT,mA⟩
  obtain⟨j,a,d,rfl,rfl,bc,r,ba⟩:=hrel;have D3:=Zd bc;clear bc;by_cases lp:j<c.Aa.length
  .have bV:=Zd r.len
   have mK:j<B.length:=o!
   have C:=ch r.row (ad9 (k:=j) (by have:=r.len;omega));have fx:=cf (i:=j) r.row;have ky:=ch ba (ad9 (k:=j) mK);have Bu:∀b:Bool,b=(a.getD j false||B.getD j false)->(∀m,m<c.Aa.length->(a.set j b).getD m false=((T.set k true).getD m false||(decide (m<j+1)&&B.getD m false)))/\AbW w #[.slice X c.base.length R,.slice V c.Af.length c2,.slice U c.hooks.length Q,.slice M c.Aa.length K,.slice (some ⟨b5,o5,none⟩) c.now.length J] c.Aa.length (a.set j b) (wr.setCell ⟨w+1,j,none⟩ (.bool b))/\(wr.setCell ⟨w+1,j,none⟩ (.bool b)).heap[q]?=some (.cells (adk B) 4 (0,0)):=λb hb=>by
    refine⟨λm E=>?_,r.put j b,(AZ o! _).trans ba⟩;rw[afz _ _ _ _ (by have:=bV.out;omega)];by_cases e:j=m
    .subst e
     rw[if_pos rfl,hb,D3.out j E];simp
    rw[if_neg e,D3.out m E];rw[show decide (m<j+1)=decide (m<j) from decide_eq_decide.2 o!]
   have qO:=Zd Bu;clear Bu;cases P:a.getD j false<;>cases e2:B.getD j false
   all_goals
    rw[P]at C;rw[e2]at ky;go_wp2;go_roundg (c.Aa.length - (j+1))
    case rel=>exact⟨j+1,_,o!,rfl,v!,qO.out _ (by rw[P,e2];rfl)⟩
    omega
  have F:j=c.Aa.length:=o!
  go_wp2;go_roundg (c.Aa.length - (k+1))
  case rel=>exact⟨k+1,a,o!,rfl,v!,λm E=>by
   rw[D3.out m E,N.out,ak0,afz _ _ _ _ (by have:=I;rw[ZcC]at this;omega),uW.out,HA.out k Az m E,show decide (m<j)=true from decide_eq_true o!,Bool.true_and];by_cases e:k=m
   .subst e;simp
   rw[if_neg e,hT.out m E];simp[e],r⟩
  omega
 have y:k=c.Aa.length:=o!
 have I:=Zd (show∀j,j<c.Aa.length->T.getD j false=hasB (DS c l) j from λj d=>by rw[hT.out j d,y,fm.out]);obtain⟨t,ht⟩:=Qnm (DS c l);have be:=Zd ht;obtain⟨W3,Hv⟩:=Qnm wr;subst Hv;have r:=A;have fJ:=A.len;clear y hT ht A;go_wp2;go_loopg [9,10] c.Aa.length (λg v i Y=>∃j:Nat,j<=c.Aa.length/\g=c.Aa.length - j/\i=.int .i64 j/\Y.ownsRow W3 3 1 v (FF t j).length ((FF t j).map (ZL .i64))/\Qb6 W3 Y)
 case atStart=>exact⟨0,Zp _,rfl,rfl,zq _ _ _ _,Zh _ _⟩
 obtain⟨j,d,rfl,rfl,AX,hB⟩:=hrel;have fI:=Jo t j;have D':=hB.size;by_cases lp:j<c.Aa.length
 .have HS:=Zd (eF t j)
  have am:=r.later hB;have C:=ch am.row (ad9 (k:=j) (by have:=am.len;omega));rw[show T.getD j false=hasB t j by rw[I.out j lp,be.out]]at C;cases z:hasB t j with
  |true=>
   rw[z]at C;have P:=Zd (show FF t (j+1)=FF t j++ [(j:Int)] by rw[HS.out,if_pos z]);clear z;go_wp2_with (at_builtin;refine Yc _ rfl _ _ 22 rfl W3 3 i0 (.int .i64 0) 1 8 hu (Dz hi) Fl DR EB rfl d! _ _ _ rfl (AX.alloc _) ⟨_,0,none⟩ 1 1 [.int .i64 j] rfl rfl (by intro j u d;match j,d with|0,d=>(simp at d;subst d;simp[Zcu])) (by intro u hu;simp at hu;subst hu;rfl) u! o! j! ?_;intro v' w1 Bi AG Gc);have hg:(wr.alloc (.cells #[.int .i64 j] 3)).grownBy w1 u9.ownBlock:=AG;have Bg:Qb6 W3 w1:=Bm (bA hB) hg (λk hk=>(AX.lt k hk).1) j!;have Cm:w1.ownsRow W3 3 1 v' (FF t (j+1)).length ((FF t (j+1)).map (ZL .i64)):=by
    rw[P.out];simpa using Bi
   go_roundg (c.Aa.length - (j+1))
   case rel=>exact⟨j+1,o!,rfl,v!,Cm,Bg⟩
   case measure=>omega
  |false=>
   rw[z]at C;have P:=Zd (show FF t (j+1)=FF t j by rw[HS.out,if_neg (by rw[z];decide)]);clear z;go_wp2;go_roundg (c.Aa.length - (j+1))
   case rel=>exact⟨j+1,o!,rfl,v!,by rw[P.out];exact AX,hB⟩
   omega
 have F:j=c.Aa.length:=o!
 have bi:=eC AX;have HE:=Zd (show FF t j=AB (DS c l) by rw[F,be.out,fw.out]);have ck:=Sl.imp (T:=Cb w wr) bi (λx hx=>⟨Zr r.below.size hx.1,hx.2⟩) λ_ _ x=>x;have Lc:Qb6 w wr:=r.below.trans (hB.mono r.below.size);clear F;go_wp2;go_ret;exact⟨_,rfl,Lc,by rw[<-HE.out];exact ck⟩
def c94 (h:RC S w v1 v2 v3 v4 v5 c)(hl:SI T w v6 l)(Q:∀i,i<c.Aa.length->0<=(Aj c.Aa i).left)(P:∀x,x∈l->0<=x/\x<c.Aa.length)(R:Ql6 S w)(J:∀b,T b->b<w.heap.size):
  Calls Lp 121 #[.agg #[v1,v2,v3,v4,v5],v6] w λe w'=>e=.returned (.int .i64 ((l.find? (SU c)).getD (-1)))/\Qb6 w w':=by
 obtain⟨a1,W,a2,c2,a3,V,Z,K,Y,U,rfl,rfl,rfl,rfl,rfl,l1,m1,l2,m2,l3,m3,l4,m4,l5,m5⟩:=h.vs;obtain⟨a6,c6,rfl,l6,m6⟩:=hl.val;have IX:=DJ;obtain⟨F,hF⟩:=Qnm (l.find? (SU c));rw[<-hF];have HF:=Zd (show(l.drop 0).find? (SU c)=F from hF.symm);clear hF;go_enter Lp.func94,n94;go_wp2;go_loopg [5] l.length (λg i wr=>∃k:Nat,k<=l.length/\g=l.length - k/\i=.int .i64 k/\(l.drop k).find? (SU c)=F/\Qb6 w wr/\wr.heap[w.heap.size]?=some (.cells (Qe6 c a1 W a2 c2 a3 V Z K Y U) 26 (0,0)))
 case atStart=>exact⟨0,Zp _,rfl,rfl,HF.out,bA (Zh _ _),Bp _ _⟩
 obtain⟨k,hk,rfl,rfl,L,m,A⟩:=hrel;have u:=Zd L;clear L;by_cases C:k<l.length
 .obtain⟨b,o,rfl,I,r⟩:=hl.at_ C
  have y:=Zd (U_ (f:=SU c) C);obtain⟨Oo,MF⟩:=P _ (Rd C);obtain⟨x,G⟩:∃x:Nat,nth l k=x:=⟨(nth l k).toNat,o!⟩;rw[G]at r y MF Oo;clear G;have D:x<c.Aa.length:=o!
  obtain⟨B,E,s2,s3,rfl,G1,_,_,_,_,s,_,_⟩:=h.Aa.at_ (i:=x) D;rw[<-m.cell (p:=⟨B,E+x*5+4,none⟩) (R B G1)]at s;rw[<-m.cell (p:=⟨b,o+k,none⟩) (J b I)]at r;have t:=Zd (Q x D);have H:=ch (i:=3) A (v:=.slice (some ⟨B,E,none⟩) c.Aa.length K) rfl;have O:=λp=>Al p r;have N:=λp=>Al p s;have M:=λp=>Al p H;go_wp2;refine Av k! k! ?_
  repeat (first|go_big_quiet_step (fail)|quiet_step (fail))
  refine Z4 ?_;rintro _ ⟨p,rfl⟩;have q:=AE wr p;obtain⟨X,a⟩:=Qnm (calm wr p);rw[<-a]at q⊢;have z:=(q.block _ (Za.1 A).1).trans A;have j:=bU m q;rw[<-q.cell (p:=⟨b,o+k,none⟩) (Zl (J b I) m.size)]at r;clear a O N M H s;by_cases d:(Aj c.Aa x).left=0
  .have T6:((Aj c.Aa x).left==0)=true:=by simpa using d
   have n:=Zd (show F=some (x:Int) by rw[<-u.out,y.out,if_pos (by simp[SU,d])]);clear d;go_wp2;go_ret;exact⟨Bw (by rw[n.out];rfl),j⟩
  have T6:((Aj c.Aa x).left==0)=false:=by simpa using d
  have n:=Zd (show(l.drop (k+1)).find? (SU c)=F by rw[<-u.out,y.out,if_neg (by have:=t.out;simp[SU];omega)]);clear d;go_wp2;go_roundg (l.length - (k+1))
  case rel=>exact⟨k+1,o!,rfl,v!,n.out,j,z⟩
  omega
 have n:=Zd (show F=none by rw[<-u.out,Z7.2 o!];rfl);go_wp2;go_ret;exact⟨Bw (by rw[n.out];rfl),m⟩
structure aaz (S:Nat->Prop)(w:Zb)(q:Nat)(ss:List Ay)(cur:Array Zf)(wr:Zb):Prop where
 arr:wr.heap[q]?=some (.cells cur 50 (0,0))
 at_:∀i,i<ss.length->∃v2 v3,cur[i*5]?=some (.int .i64 (Aj ss i).low)/\cur[i*5+1]?=some (.int .i64 (Aj ss i).high)/\cur[i*5+2]?=some v2/\cur[i*5+3]?=some v3/\cur[i*5+4]?=some (.int .i64 (Aj ss i).left)/\
  SP S w v2 (Aj ss i).Ap/\SI S w v3 (Aj ss i).over
variable {args cs cur:Array Zf}
def aaz.dec {wr:Zb}{a:List Ay}(h:aaz S w q a cur wr)(hi:i<a.length):
  aaz S w q (Kn a i) (cur.setIfInBounds (i*5+4) (.int .i64 ((Aj a i).left - 1))) (wr.setCell ⟨q,i*5+4,none⟩ (.int .i64 ((Aj a i).left - 1))):=by
 refine⟨Ba h.arr _,λj d=>?_⟩;rw[Gw]at d;obtain⟨v2,v3,l,k,g,f,e,c,b⟩:=h.at_ j d;have n:=(Za.1 e).1;simp only[LI hi];by_cases m:j=i
 .subst m
  rw[if_pos rfl];refine⟨v2,v3,?_,?_,?_,?_,?_,c,b⟩
  .rw[Zk o!];exact l
  .rw[Zk o!];exact k
  .rw[Zk o!];exact g
  .rw[Zk o!];exact f
  rw[ZV n]
 rw[if_neg m];refine⟨v2,v3,?_,?_,?_,?_,?_,c,b⟩
 .rw[Zk o!];exact l
 .rw[Zk o!];exact k
 .rw[Zk o!];exact g
 .rw[Zk o!];exact f
 rw[Zk o!];exact e
def aaz.sl {wr:Zb}{b:List Ay}(h:aaz S w q b cur wr)(e:Qb6 w wr)(d:∀x,S x->T x)(l:T q)(n:b.length<=cap)(m:cap<=maxLen):Sl T (λW=>Rs T W) 5 wr (.slice q b.length cap) b:=by
 refine⟨_,_,rfl,n,m,λi x c=>?_⟩;have hi:=(Zm.1 c).1;have k:x=Aj b i:=by have:=Db hi;rw[c]at this;exact ZW this
 subst k;obtain⟨v2,v3,t,s,r,p,o,g,f⟩:=h.at_ i hi;refine⟨q,0,[.int .i64 (Aj b i).low,.int .i64 (Aj b i).high,v2,v3,.int .i64 (Aj b i).left],rfl,l,rfl,λj u a=>?_,v2,v3,rfl,(g.later e).imp d λ_ _ x=>x,(f.later e).imp d λ_ _ x=>x⟩;rw[zN];refine ch h.arr ?_
 match j,a with
 |0,a=>cases a;exact t
 |1,a=>cases a;exact s
 |2,a=>cases a;exact r
 |3,a=>cases a;exact p
 |4,a=>cases a;exact o
def aaz.later {wr:Zb}{a:List Ay}(h:aaz S w q a cur wr)(b:Qb6 wr W):aaz S w q a cur W:=
 ⟨(b.block _ (Za.1 h.arr).1).trans h.arr,h.at_⟩
def amx {wr:Zb}{a:List Ay}(l:wr.heap[q]?=some (.cells cur 50 (0,0)))(k:a.length=n)(m:cur.toList.take (n*5)=news)(o:∀(i:Nat) (x:Ay),a[i]?=some x->Rs S w ((news.drop (i*5)).take 5) x):aaz S w q a cur wr:=by
 subst k;refine⟨l,λi hi=>?_⟩;obtain⟨v2,v3,e,g,f⟩:=o i _ (Db hi);have b:∀j u,[.int .i64 (Aj a i).low,.int .i64 (Aj a i).high,v2,v3,.int .i64 (Aj a i).left][j]?=some u->cur[i*5+j]?=some u:=λj u c=>by
  have d:j<5:=by have:=(Zm.1 c).1;simpa using this
  rw[<-e,Z2 d,Yl, <-m,Z2 (by have:=ij hi d;omega)]at c;simpa using c
 exact⟨v2,v3,b 0 _ rfl,b 1 _ rfl,b 2 _ rfl,b 3 _ rfl,b 4 _ rfl,g,f⟩
def ajj (w1:Zb)(p:Addr)(u:Zf)(e:Zs)(k:Nat):((w1.setCell p u).alloc (.cells #[] e)).ownsRow w1 e k (.slice w1 0 0) 0 []:=by
 have h:(w1.setCell p u).heap.size=w1.heap.size:=i!
 have:=YC (base:=w1) (e:=e) (size:=k) (w1.setCell p u) #[] 0 (by rw[h];exact Zj _) (Zp _) i!;rwa[h]at this
def ak1 {base:Nat}(h:w.ownsRow base e k v n xs)(l:0<n):∃q cap cur,v=.slice (some ⟨q,0,none⟩) n cap/\base<=q/\w.heap[q]?=some (.cells cur e (0,0))/\n<=cap/\cap<=maxLen/\cur.toList.take (n*k)=xs:=by
 rcases h.2 with⟨_,j⟩|⟨q,cap,cur,c,d,f,g,a,i,b⟩
 .omega
 exact⟨q,cap,cur,c,d,f,g,a,b⟩
def ahL (h:Qb6 w A)(a:B3 b A B)(d:w<=b):Qb6 w B:=
 ⟨a.os.trans h.os,a.tape.trans h.tape,a.output.trans h.output,Zr h.size a.size,λk c=>(a.block k (Zl c h.size) o!).trans (h.block k c)⟩
def amy (S:Nat->Prop)(w:Zb)(c:A_)(l:List Int)(e:Ending)(w':Zb):Prop:=∃(u1 u2 u3 u4 u5:Zf),e=.returned (.agg #[u1,u2,u3,u4,u5])/\Qb6 w w'/\RC (λx=>S x\/Cb w w' x) w' u1 u2 u3 u4 u5 (FH c l (DS c l))
def c96 (h:RC S w v1 v2 v3 v4 v5 c)(hl:SI S w v6 l)(L:Ca c l=0)(hS:Ql6 S w):
  Calls Lp 81 #[.agg #[v1,v2,v3,v4,v5],v6] w (amy S w c l):=by
 obtain⟨I,F,H,c2,G,E,a4,D,a5,c5,rfl,rfl,rfl,rfl,rfl,l1,m1,l2,m2,l3,m3,l4,m4,l5,m5⟩:=h.vs;obtain⟨a6,c6,rfl,l6,m6⟩:=hl.val;have IX:=DJ;have HV:=EG (Bj L).1;have UO:=Zd (Fb (Bj L).2).1;have Jm:=HV.few;have kw:=Zd HV.left;have fu:∀x,x∈AB (DS c l)->0<=x/\x<c.Aa.length:=MT HV (l:=l) (by have:=UO.out;omega);clear HV;obtain⟨fd,rfl⟩:∃ad,a6=some ad:=by
  obtain⟨b,o,e,_⟩:=hl.at_ (i:=0) (by have:=UO.out;omega);exact⟨_,e⟩
 obtain⟨f,rfl⟩:∃ad,a4=some ad:=by
  obtain⟨b,o,v2,v3,e,_⟩:=h.Aa.at_ (i:=0) o!;exact⟨_,e⟩
 obtain⟨i7,K,IV,Z⟩:=Sl.row hl d! fd rfl;have gn:=row_one d! K IV pJ;have ck:=kY (R:=Ri) K IV;obtain⟨i8,tX,ai,ac⟩:=Sl.row h.Aa d! f rfl;have gt:=row_one d! tX ai ah8;have ka:=Zd ai;have li:=Zd (λW (hW:Qb6 w W) j u B=>(hW.cell (ZH _ _ (Z j u B))).trans (Z j u B));have lm:=Zd (λW (hW:Qb6 w W) j u B=>(hW.cell (ZH _ _ (ac j u B))).trans (ac j u B));clear Z ac IV ai;have iX:=Zd ck;clear ck;obtain⟨i0,hi,Fl,DR,EB⟩:=zp KY;have hu:=Cz YE;obtain⟨jp,gi,io,im,ii⟩:=zp eI;have jn:=Cz Tryz.underlying24;obtain⟨W1,NL⟩:=Qnm ((w.alloc (.cells #[.slice I c.base.length F,.slice H c.Af.length c2,.slice G c.hooks.length E,.slice (some f) c.Aa.length D,.slice a5 c.now.length c5] 26)).alloc (.cells Qz6 26));have Bg:Qb6 w W1:=by rw[NL];exact bA (bA (Zh _ _))
 have lD:W1.heap[w.heap.size]?=some (.cells #[.slice I c.base.length F,.slice H c.Af.length c2,.slice G c.hooks.length E,.slice (some f) c.Aa.length D,.slice a5 c.now.length c5] 26 (0,0)):=by rw[NL];exact Bf (Bp _ _) _
 have N:W1.heap[w.heap.size+1]?=some (.cells Qz6 26 (0,0)):=by rw[NL];exact Jq w _ _
 have lG:=Zd (c95 (h.later Bg) (hl.later Bg) L (A3 hS Bg));clear L;go_enter Lp.func96,n96;go_wp2;rw[<-NL];clear NL;refine lG.out.mono ?_;rintro e a ⟨v,rfl,Bb,hv⟩;obtain⟨t,ht⟩:=Qnm (AB (DS c l));have HT:=Zd (show FH c l (DS c l)= {c with now:=l,Aa:=CJ c.Aa t} by rw[ht];rfl);rw[<-ht]at hv fu;have mh:t.length<=3:=by rw[ht];exact Jo _ 3
 clear ht;obtain⟨p7,c7,rfl,l7,m7⟩:=hv.val;have i6:=bU Bg Bb;have Ia:=(Bb.block _ (Za.1 lD).1).trans lD;have yv:=(Bb.block _ (Za.1 N).1).trans N;obtain⟨k0,k1,k2,k3,k4⟩:=Qc5 Ia;have yd:((a.alloc (.cells #[.slice I c.base.length F,.slice H c.Af.length c2,.slice G c.hooks.length E,.slice (some f) c.Aa.length D,.slice a5 c.now.length c5] 26)).alloc (.cells #[] 3)).ownsRow (a+1) 3 1 (.slice (a+1:Nat) 0 0) 0 []:=by
  have:=YC (base:=a+1) (e:=3) (size:=1) (a.alloc (.cells #[.slice I c.base.length F,.slice H c.Af.length c2,.slice G c.hooks.length E,.slice (some f) c.Aa.length D,.slice a5 c.now.length c5] 26)) #[] 0 (by rw[ZB];exact Zj _) (Zp _) rfl;rwa[ZB]at this
 have HK:=Zd (show((a.alloc (.cells #[.slice I c.base.length F,.slice H c.Af.length c2,.slice G c.hooks.length E,.slice (some f) c.Aa.length D,.slice a5 c.now.length c5] 26)).alloc (.cells #[] 3)).heap[a.heap.size]?=some (.cells #[.slice I c.base.length F,.slice H c.Af.length c2,.slice G c.hooks.length E,.slice (some f) c.Aa.length D,.slice a5 c.now.length c5] 26 (0,0)) from Bf (Bp _ _) _);have mt:=Bb.size;have k9:=(Za.1 N).1;have ml:¬a.heap.size=w.heap.size:=o!
 have iS:¬w.heap.size=a.heap.size:=o!
 have fi:=Zd Ia;have fm:=Zd yv;have A:=Zd i6;clear Ia yv;go_wp2_with (first|(at_builtin;refine Yc _ rfl _ _ 22 rfl (a+1) 3 i0 (.int .i64 0) 1 8 hu (Dz hi) Fl DR EB rfl d! _ 0 [] rfl yd fd l.length c6 i7 rfl K (λj u B=>ca (ca (li.out _ A.out j u B) _) _) gn (by have:=UO.out;unfold maxLen;omega) (by have:=UO.out;omega) i! ?_;intro v' w1 Bi AG Gc;clear yd k0 k1 k2 k3 k4;rw[zN,zP,iX.out]at Bi;(have Bv:Qb6 a w1:=Bm (bA (bA (Zh _ _))) AG (λk hk=>by cases hk;exact Nat.le_succ _) j!);(have et:=eC Bi);obtain⟨n,z,rfl,_⟩:=et.val;(have U4:=(AG.block a j! (λe=>by have:=ZW (show some a.heap.size=some (a.heap.size+1) from e);omega)).trans HK.out);(have n4:=ch (i:=4) U4 (v:=.slice a5 c.now.length c5) rfl);(have f4:=cf (i:=4) U4);(have iz:=(Bv.block _ o!).trans fi.out);(have k3:=ca (ch (i:=3) ((AZ (b:=a) (i:=4) iS (.slice n l.length z)).trans iz) (v:=.slice (some f) c.Aa.length D) rfl) (.cells #[] 50));(have rp:=bU A.out Bv);(have am:YH w w (w1.setCell ⟨a,4,none⟩ (.slice n l.length z)):=bS rp A.out.size);(have dl:((w1.setCell ⟨a,4,none⟩ (.slice n l.length z)).alloc (.cells #[] 50)).ownsRow w1 50 5 (.slice w1 0 0) 0 []:=ajj w1 _ _ 50 5);clear AG Gc)|(at_builtin;refine Yc _ rfl _ _ 24 rfl w1 50 jp (.agg #[.int .i64 0,.int .i64 0,(),(),.int .i64 0]) 5 72 jn (Dz gi) io im ii rfl d! _ 0 [] rfl dl f c.Aa.length D i8 rfl tX (λj u B=>ca (lm.out _ am j u B) _) gt u! o! i! ?_;intro v' w4 rz ct ip;rw[zN,zP]at rz;(have De:YH w1 (w1.setCell ⟨a,4,none⟩ (.slice n l.length z)) w4:=Bm ((Zh w1 (w1.setCell ⟨a,4,none⟩ (.slice n l.length z))).alloc i! _) ct (λk hk=>by cases hk;exact Zj _) i!);obtain⟨q,cap,cur,rfl,T6,M9,JA,fI,iB⟩:=ak1 rz o!;(have J:w4.heap[a.heap.size]?=some (.cells #[.slice I c.base.length F,.slice H c.Af.length c2,.slice G c.hooks.length E,.slice (some f) c.Aa.length D,.slice n l.length z] 26 (0,0)):=(De.block _ (Za.1 U4).1).trans (Ba U4 _));(have n3:=ch (i:=3) J (v:=.slice (some f) c.Aa.length D) rfl);(have f3:=cf (i:=3) J);clear n4 f4 k3 dl ct ip));have lL:a<w1.heap.size:=(Za.1 U4).1;have fH:¬q=a:=o!
 have qM:¬a.heap.size=q:=o!
 obtain⟨P,Jy⟩:=Qnm (w4.setCell ⟨a,3,none⟩ (.slice q c.Aa.length cap));have fG:P.heap[a.heap.size]?=some (.cells #[.slice I c.base.length F,.slice H c.Af.length c2,.slice G c.hooks.length E,.slice q c.Aa.length cap,.slice n l.length z] 26 (0,0)):=by rw[Jy];exact Ba J _
 have ap:YH (w1.setCell ⟨a,4,none⟩ (.slice n l.length z)).heap.size (w1.setCell ⟨a,4,none⟩ (.slice n l.length z)) w4:=by
  rw[show(w1.setCell ⟨a,4,none⟩ (.slice n l.length z)).heap.size=w1.heap.size by simp];exact De
 have C:B3 a w1 P:=by rw[Jy];exact((B3.refl _ _).set.below ap).set
 have Cj:Qb6 w P:=by rw[Jy];exact bS (bU am ap) A.out.size
 have an:aaz S w q c.Aa cur P:=by rw[Jy];exact amx ((AZ fH _).trans M9) rfl iB ka.out
 have bi:SI (Cb W1 a) P (.slice p7 t.length c7) t:=(hv.later Bv).Ar (C.same λy r=>by have:=r.2;omega);have bv:SI (λy=>a.heap.size<y/\y<w1) P (.slice n l.length z) l:=Sl.imp (et.Ar (C.same λy r=>by have:=r.1;omega)) (λy r=>⟨by have:=r.1;omega,r.2⟩) λ_ _ x=>x;have fK:P.heap[w.heap.size+1]?=some (.cells Qz6 26 (0,0)):=(C.block _ o! o!).trans ((Bv.block _ o!).trans fm.out);have mj:=C.size;have ma:q<P:=(Za.1 an.arr).1;have kv:=Zd bv;have jt:=Zd bi;have lE:=Zd Cj;rw[<-Jy];clear Jy J De ap C am M9 iB rz et hv Bi U4 iz rp bv n3 f3 HK fm fi lD N K tX bi Cj Bv;go_loopg [7] t.length (λg i wr=>∃(k:Nat) (m:List Ay) (ba:Array Zf),k<=t.length/\g=t.length - k/\i=.int .i64 k/\m.length=c.Aa.length/\CJ m (t.drop k)=CJ c.Aa t/\(∀j,j<c.Aa.length->-(k:Int)<=(Aj m j).left/\(Aj m j).left<=4)/\B3 q P wr/\aaz S w q m ba wr)
 case atStart=>exact⟨0,c.Aa,cur,Zp _,rfl,rfl,rfl,rfl,λj B=>by have:=kw.out j B;omega,B3.refl _ _,an⟩
 obtain⟨k,m,ba,hk,rfl,rfl,du,CP,Q,M,hA⟩:=hrel;have hf:=Zd CP;have iD:=Zd du;clear CP du an;have be:=(M.block _ o! qM).trans fG;by_cases Az:k<t.length
 .obtain⟨b,o,rfl,hb,hc⟩:=jt.out.at_ Az
  have OJ:=CE.cell (M.same (T:=λb=>b≠q) (λ_ h=>h)) (p:=⟨b,o+k,none⟩) (by have:=hb.2;simp;omega) hc;clear hc;obtain⟨Oo,MF⟩:=fu _ (Rd Az);have Pv:=Zd (eM (s:=m) Az);obtain⟨y,bc⟩:∃y:Nat,nth t k=y:=⟨(nth t k).toNat,o!⟩;rw[bc]at OJ Oo MF Pv;clear bc;have V:y<c.Aa.length:=o!
  have U:y<m.length:=by rw[iD.out];exact V
  have lK:(y:Int)<(c.Aa.length:Int):=o!
  obtain⟨y2,y3,_,_,_,_,e4,_,_⟩:=hA.at_ y U;obtain⟨xr,MK⟩:=Q y V;have ci:=Zd Q;have Uh:YH wr wr wr.drew:=(Zh _ _).drew;have O:=hA.later Uh;have HD:=Zd (O.dec U);have HU:=Zd ((M.below Uh).set (i:=y*5+4) (v:=.int .i64 ((Aj m y).left - 1)));have r4:=ch hA.arr e4;have f4:=cf (i:=y*5+4) O.arr;have fw:=ch O.arr e4;have b3:=ch (i:=3) be (v:=.slice q c.Aa.length cap) rfl;have z1:=λp=>Al p OJ;have z2:=λp=>Al p r4;have z3:=λp=>Al p b3;clear hA M Q e4 O;obtain⟨lf,Q⟩:=Qnm ((Aj m y).left);rw[<-Q]at r4 fw xr MK HD HU z2;have mv:=Zd Q;clear Q;have Qu:IntKind.i64.wrap (lf - 1)=lf - 1:=ZcD _ o!;go_wp2;refine B0 (S:=λW=>∃p,W=calm wr p) [12] [(false,9),(false,10),(false,11),(false,12)] [0,1,2,3,4,5,6,7,8] k! (λ_ _ d _ _ h=>by cases d<;>exact h) k! (AL Uh) ?_;refine A4 _ _ k! ?_;simp only[Z6,zd,ZG,ZD,ZC]
  repeat (first|go_big_quiet_step (fail)|quiet_step (fail))
  refine Z4 ?_;clear z1 z2 z3 b3 OJ r4;change Dl _ _ _ _ _ _ _;refine Dw (v:=.int .i64 (lf - 1)) rfl rfl g! (.inr (AL Uh)) ?_;refine Dw (v:=.pointer (some ⟨q,y*5,none⟩)) rfl rfl g! (.inr (AL Uh)) ?_;refine Dw (v:=.pointer (some ⟨q,y*5+4,none⟩)) rfl rfl g! (.inr (AL Uh)) ?_;refine K8 (w':=wr.drew.setCell ⟨q,y*5+4,none⟩ (.int .i64 (lf - 1))) rfl rfl g! (.inl rfl) ?_;unfold Dl
  go_simp
  go_wp2;go_roundg (t.length - (k+1))
  case rel=>exact⟨k+1,Kn m y,_,o!,rfl,v!,by rw[Gw];exact iD.out,by rw[<-hf.out,Pv.out];rfl,λi hi=>by
   have:=ci.out i hi;rw[LI U];split
   .have:=ci.out y V
    show -((k+1:Nat):Int)<=(Aj m y).left - 1/\(Aj m y).left - 1<=4;omega
   omega,HU.out,HD.out⟩
  omega
 have fJ:=Zd (show m=CJ c.Aa t by rw[<-hf.out,Z7.2 o!];rfl);have bV:=(M.block _ (by have:=M.size;omega) o!).trans fK;obtain⟨t0,t1,t2,t3,t4⟩:=Qc5 be;obtain⟨g0,g1,g2,g3,g4⟩:=Qc5 bV;obtain⟨f0,f1,f2,f3,f4⟩:=Qf5 bV;go_wp2;refine ZN (v:=.agg #[.slice I c.base.length F,.slice H c.Af.length c2,.slice G c.hooks.length E,.slice q c.Aa.length cap,.slice n l.length z]) (by rw[A8 rfl];go_simp) rfl ?_;have i9:Qb6 w wr:=ahL lE.out M (by have:=A.out.size;omega);have lI:=M.size;have fy:∀X,Qb6 w X->Ak (λx=>x=w.heap.size+1) wr X->amy S w c l (.returned (.agg #[.slice I c.base.length F,.slice H c.Af.length c2,.slice G c.hooks.length E,.slice q c.Aa.length cap,.slice n l.length z])) X:=λX Ov Pc=>by
  have lJ:=Pc.size;have gj:aaz S w q m ba X:=⟨(Pc.block _ o! o!).trans hA.arr,hA.at_⟩;have NK:=gj.sl (T:=λx=>S x\/Cb w X x) Ov (λx Y=>.inl Y) (.inr ⟨by have:=A.out.size;omega,o!⟩) (by rw[iD.out];exact JA) fI;rw[iD.out,fJ.out]at NK;refine⟨_,_,_,_,_,rfl,Ov,?_⟩;rw[HT.out];refine⟨(h.base.later Ov).imp (λx Y=>.inl Y) λ_ _ x=>x,(h.Af.later Ov).imp (λx Y=>.inl Y) λ_ _ x=>x,(h.hooks.later Ov).imp (λx Y=>.inl Y) λ_ _ x=>x,NK,?_⟩;have n1:=kv.out.Ar (M.same λy r=>by have:=r.2;omega);exact Sl.imp (n1.Ar (Pc.same λy r=>show¬y=w+1 by have:=r.1;omega)) (λy r=>.inr ⟨by have:=r.1;omega,by have:=r.2;omega⟩) λ_ _ x=>x
 refine fy _ ?_ ?_
 .repeat (with_reducible first|exact i9|(refine bS ?_ o!))
 repeat (with_reducible first|exact Ak.refl _ _|(refine Ak.DT ?_))
def LR2.row {base:Nat}(h:LR2 rb base w v P)(hp:0<P.length):∃g cap,v=.slice (some ⟨g,0,none⟩) P.length cap/\rb<=g/\g<w.heap.size/\(∀i,i<P.length->∃u,w.cell? ⟨g,i,none⟩=some u/\SI (J1 3 base w) w u (BM P i))/\P.length<=cap/\cap<=maxLen:=by
 obtain⟨vals,m,l⟩:=h;rcases m.2 with⟨e,n⟩|⟨g,cap,cur,e,k,b,j,f,o,d⟩
 .omega
 refine⟨g,cap,e,k,(Za.1 b).1,λi hi=>?_,j,f⟩;obtain⟨u,a,c⟩:=l i _ (BJ hi);refine⟨u,?_,c⟩;rw[<-d,Z2 o!,Array.getElem?_toList]at a;exact ch b a
def LR2.one {base:Nat}{x:List Int}(b:SI (J1 3 base w) w u x):LR2 w base (w.alloc (.cells #[u] 22)) (.slice w 1 1) [x]:=by
 refine⟨[u],⟨rfl,.inr ⟨w,1,#[u],rfl,Zj _,Bp _ _,Zj _,d!,rfl,rfl⟩⟩,λi y a=>?_⟩
 match i,a with
 |0,a=>cases a;exact⟨_,rfl,Dx (T:=λ_=>False) (Ak.later (bA (Zh _ _))) (λ_ _ x=>x) b⟩
def ajo (b:Fq c)(hl:Tc c l):Ev c l=decide (((AB (DS c l)).find? (SU c)).getD (-1)<0):=by
 have a:=MT b (l:=l) (by have:=hl.1;omega);unfold Ev JU;cases h:(AB (DS c l)).find? (SU c) with
 |none=>rfl
 |some x=>
  have:=(a x (List.mem_of_find?_eq_some h)).1;simp;omega
def afa (a:BN c=0)(hl:Tc c l):Ca c l=0:=by
 unfold Ca;rw[a,iH hl]
 rfl
def LR.mono {base:Nat}(h:LR base w v P)(f:adx<=base):LR adx w v P:=by
 obtain⟨vals,j,k⟩:=h;refine⟨vals,⟨j.1,j.2.imp id λ⟨g,cap,cur,e,c,a⟩=>⟨g,cap,cur,e,Zr f c,a⟩⟩,λi x hi=>?_⟩;obtain⟨u,c,a⟩:=k i x hi;exact⟨u,c,Sl.imp a (λb d=>⟨⟨Zr f d.1.1,d.1.2⟩,d.2⟩) λ_ _ x=>x⟩
def LR.lr2 {base:Nat}(h:LR base w v P):LR2 base base w v P:=h
def amE (h:RC S w v1 v2 v3 v4 v5 c)(hS:Ql6 S w)(Jz:BN c=0):
  Calls Lp 91 #[.agg #[v1,v2,v3,v4,v5]] w λe w'=>∃a cc,e=.returned (.slice a (LU c).length cc)/\Qb6 w w'/\LR w w' (.slice a (LU c).length cc) (LU c):=by
 obtain⟨a1,c1,a2,c2,a3,c3,a4,c4,a5,c5,rfl,rfl,rfl,rfl,rfl,l1,m1,l2,m2,l3,m3,l4,m4,l5,m5⟩:=h.vs;have IX:=DJ;have J:=EG Jz;have hN:(EH c).length<=125:=by rw[<-adv];exact adj J _
 have U:0<(EH c).length:=by
  have:=Zac (Ev c) (EH c);have h2:0<(LU c).length:=List.length_pos_iff.2 (afq J);unfold LU at h2;omega
 obtain⟨W1,NL⟩:=Qnm (w.alloc (.cells (Qe6 c a1 c1 a2 c2 a3 c3 a4 c4 a5 c5) 26));have Bg:Qb6 w W1:=by rw[NL];exact bA (Zh _ _)
 have lD:W1.heap[w.heap.size]?=some (.cells (Qe6 c a1 c1 a2 c2 a3 c3 a4 c4 a5 c5) 26 (0,0)):=by rw[NL];exact Bp _ _
 have q:=Zd (aqv J c.Aa.length (p:=[]) (base:=W1) (h.later Bg) (WC (S:=J1 3 W1 W1) (w:=W1)) (Zj _) i! (A3 hS Bg));rw[adv]at q;have HS:=Zd (λW (z:Qb6 w W)=>(h.later z).imp (T:=λy=>y<W.heap.size) λy hy=>Zl (hS y hy) z.size);have bV:=Zd Jz;have HV:=Zd J;have Z:=Zd (show LU c=(EH c).filter (Ev c) from rfl);have ac:=Zd (λi (hi:i<(EH c).length)=>WV (c:=c) (Z3 (BJ hi)));clear Jz J;obtain⟨L,hL⟩:=Qnm (EH c);rw[<-hL]at q Z ac hN U;clear hL;go_enter Lp.func133,apU;go_wp2;rw[<-NL];clear NL;refine q.out.mono ?_;rintro e I ⟨ck,rfl,Bb,X⟩;obtain⟨g,cap,rfl,tN,lZ,dL,L6,NP⟩:=X.row U;have bv:=Zd dL;have C:=bU Bg Bb;have Ia:=(Bb.block _ (Za.1 lD).1).trans lD;have ba:=Bb.size;clear dL X q lD;go_wp2;go_loopg [3,5] L.length (λgg ov iv wr=>∃k:Nat,k<=L.length/\gg=L.length - k/\iv=.int .i64 k/\LR2 I W1 wr ov ((L.take k).filter (Ev c))/\Qb6 I wr)
 case atStart=>exact⟨0,Zp _,rfl,rfl,by rw[ZdB];exact LR2.nil _ _ _,Zh _ _⟩
 obtain⟨k,hk,rfl,rfl,A,G⟩:=hrel;by_cases Az:k<L.length
 .obtain⟨V,hV⟩:=Qnm wr
  subst hV;have n:=ac.out k Az;have s:=Zd (show(L.take (k+1)).filter (Ev c)=(L.take k).filter (Ev c)++ [BM L k].filter (Ev c) by rw[ZbH,BJ Az,ZcW];rfl);obtain⟨u,lH,M⟩:=bv.out k Az;obtain⟨x,hx⟩:=Qnm (BM L k);rw[<-hx]at n M s;clear hx;have H:=ajo HV.out n;have ai:=Zd (λW (z:Qb6 I W)=>c95 (HS.out W (bU C z)) (Sl.imp (M.later z) (λb B=>Zl B.1.2 z.size) λ_ _ x=>x) (afa bV.out n) (λb B=>B));have rU:∀y,y∈AB (DS c x)->0<=y/\y<c.Aa.length:=MT HV.out (l:=x) (by have:=n.1;omega);have xD:=λi hi=>(HV.out.left i hi).1;obtain⟨t,ht⟩:=Qnm (AB (DS c x));rw[<-ht]at ai H rU;clear ht;have am:=Zd (λW (z:Qb6 I W) v {T:Nat->Prop} (ht:SI T W v t) (hT:∀b,T b->b<W.heap.size)=>c94 (HS.out W (bU C z)) ht xD rU (λb B=>B) hT);obtain⟨r,hr⟩:=Qnm ((t.find? (SU c)).getD (-1));rw[<-hr]at am H;have ct:=Zd rU;clear hr xD rU;obtain⟨ua,uc,rfl,_⟩:=M.val;have an:((L.take k).filter (Ev c)).length<=125:=by
   have h1:=Zac (Ev c) (L.take k);have h2:=List.length_take_le' k L;omega
  obtain⟨P,Q⟩:=Qnm ((L.take k).filter (Ev c));rw[<-Q]at A s an;clear Q;obtain⟨pa,pc,rfl,_⟩:=A.val;have HP:=Zd A;have HU:=Zd M;have O:=(G.block _ (by have:=(Za.1 Ia).1;omega)).trans Ia;have o:=(G.cell (p:=⟨g,k,none⟩) lZ).trans lH;have N:(k:Int)<(L.length:Int):=o!
  have kq:(0:Int)<=(k:Int):=o!
  obtain⟨z0,z1,z2,z3,z4⟩:=Qz5 O;have z5:=λu=>Al u o;clear A M;go_wp2;refine aci (S:=λW=>∃p,W=calm V p) 9 [] (.one 6 (.one 7 (.one 8 .leaf))) [0,1,2,3,4,5] k! (λ_ _ d _ _ h=>by cases d<;>exact h) k! (AL (Zh _ _).drew) ?_;refine A4 _ _ k! ?_;simp only[Z6,zd,ZG,ZD,ZC]
  repeat (first|go_big_quiet_step (fail)|quiet_step (fail))
  refine Z4 ?_;clear z0 z1 z2 z3 z4 z5;change acs _ _ _ _ _ _ _ _;have Uh:YH V V V.drew:=(Zh _ _).drew;refine acL (f:=82) (args:= #[.agg (Qe6 c a1 c1 a2 c2 a3 c3 a4 c4 a5 c5),.slice ua x.length uc]) rfl rfl g! ((ai.out _ (bU G Uh)).mono ?_);rintro e V1 ⟨v,rfl,be,me⟩;have D:=bU Uh be;refine .inl ⟨_,rfl,.inr (AL D),?_⟩;refine acL (f:=121) (args:= #[.agg (Qe6 c a1 c1 a2 c2 a3 c3 a4 c4 a5 c5),v]) rfl rfl g! ((am.out _ (bU G D) v me (λb B=>B.2)).mono ?_);rintro e V2 ⟨rfl,bc⟩;have m:=bU D bc;refine .inl ⟨_,rfl,.inr (AL m),?_⟩;refine acK (v:=.bool (decide (r<0))) (w':=V2) rfl rfl g! (.inr (AL m)) ?_;unfold acs
  go_simp
  have Y:=bU G m;have E:=Zd (HP.out.later m);have ci:=(m.cell (p:=⟨g,k,none⟩) (ZH _ _ o)).trans o;have Hb:SI (J1 3 W1 V2) V2 (.slice ua x.length uc) x:=Dx (T:=λ_=>False) (Ak.later Y) (λ_ _ x=>x) HU.out;have bi:=Zd Hb;clear Hb o O;by_cases tE:r<0
  .have j:Ev c x=true:=by rw[H];exact decide_eq_true tE
   have F:=Zd (show(L.take (k+1)).filter (Ev c)=P++ [x] by rw[s.out,ZbB,if_pos j];rfl);clear H j;go_wp2_with (at_builtin;refine wpList_plain rfl (λK hK=>ad2 (rb:=I) (rb2:=V2) (base:=W1) (P:=P) (R:=[x]) _ _ rfl rfl (E.out.later (bA (Zh _ _))) rfl (LR2.one bi.out) j! (by have:=Y.size;simp;omega) ?_);intro v' V3 ap l9;refine hK _ _ ?_);have Bv:Qb6 I V3:=Bm (bA Y) l9 (λk hk=>E.out.lt k hk) (by have:=Y.size;simp;omega);go_roundg (L.length - (k+1))
   case rel=>exact⟨k+1,Az,rfl,v!,by rw[F.out];exact ap,Bv⟩
   omega
  have j:Ev c x=false:=by rw[H];exact decide_eq_false tE
  have F:=Zd (show(L.take (k+1)).filter (Ev c)=P by rw[s.out,ZbB,if_neg (by rw[j];decide)];exact ZaA _);clear H j;go_wp2;go_roundg (L.length - (k+1))
  case rel=>exact⟨k+1,Az,rfl,v!,by rw[F.out];exact E.out,Y⟩
  omega
 have N:k=L.length:=o!
 rw[N,ZcU, <-Z.out]at A;obtain⟨pa,pc,rfl,_⟩:=A.val;have HP:=Zd A;clear A;go_wp2;go_ret;exact⟨_,_,rfl,bU C G,(HP.out.aad ba).mono Bg.size⟩
def ako (w:Zb)(P:List (List Int))(e:Int)(b:Ending)(w':Zb):Prop:=∃a cc,b=.returned (.tuple #[.slice a P.length cc,.int .i64 e])/\Qb6 w w'/\SL (Cb w w') w' (.slice a P.length cc) P
def ahh {a:Option Addr}(e:P=Q)(d:x=y)(c:Qb6 w w')(b:SL (Cb w w') w' (.slice a Q.length cc) Q):ako w P x (.returned (.tuple #[.slice a Q.length cc,.int .i64 y])) w':=by rw[e,d];exact⟨a,cc,rfl,c,b⟩
def aeI:SL S w () []:=⟨none,0,rfl,Zj _,Zp _,λi x a=>by cases a⟩
def aeJ (n:Int)(p:Int×Int):Iu n p= !AD n p.1 p.2:=by
 unfold Iu AD;by_cases a:p.1<=n
 .by_cases b:n<=p.2
  .simp[a,b,show¬n<p.1 by omega,show¬p.2<n by omega]
  simp[a,b,show p.2<n by omega]
 simp[a,show n<p.1 by omega]
def ak4 (hook m b c a:Int):Gu hook m b (c,a)=((decide (0<hook)&& !AD (m - hook - b) c a)|| !AD (m - b) c a):=by
 unfold Gu;rw[aeJ,aeJ]
def amI (h:RC S w v1 v2 v3 v4 v5 c)(y:SP T w v6 s)(A:∀b,T b->b<w.heap.size):Calls Lp 46 #[.agg #[v1,v2,v3,v4,v5],v6] w λe w'=>e=.returned (.int .i64 (Fs c.base.length s))/\Qb6 w w':=by
 obtain⟨O,J,N,c2,M,I,L,H,K,G,rfl,rfl,rfl,rfl,rfl,l1,W,l2,V,l3,U,Z,R,Y,Q⟩:=h.vs;obtain⟨a6,c6,rfl,X,P⟩:=y.val;have IX:=DJ;have u:YH w w (w.alloc (.cells (Qe6 c O J N c2 M I L H K G) 26)):=(Zh _ _).alloc (Zj _) _;by_cases v:s.length<c.base.length
 .go_enter Lp.func108,akz
  go_wp2;go_ret;exact⟨Bw (by rw[Fs,if_pos v]),u⟩
 by_cases C:c.base.length<s.length
 .go_enter Lp.func108,akz
  go_wp2;go_ret;exact⟨Bw (by rw[Fs,if_neg v,if_pos C]),u⟩
 have q:=Zd (show Fs c.base.length s=Bc (λp=>CV p 0 99) s by rw[Fs,if_neg v,if_neg C]);go_enter Lp.func108,akz;go_wp2;go_loopg [5] s.length (λg i wr=>∃k:Nat,k<=s.length/\g=s.length - k/\i=.int .i64 k/\Bc (λp=>CV p 0 99) (s.drop k)=Bc (λp=>CV p 0 99) s/\Qb6 w wr)
 case atStart=>exact⟨0,Zp _,rfl,rfl,rfl,u⟩
 obtain⟨k,hk,rfl,rfl,D,a⟩:=hrel;have j:=Zd D;clear D;by_cases E:k<s.length
 .obtain⟨b,o,rfl,z,t,F⟩:=y.at_ E
  rw[<-a.cell (p:=⟨b,o+k*2,none⟩) (A b z)]at t;rw[<-a.cell (p:=⟨b,o+k*2+1,none⟩) (A b z)]at F;have m:=Zd (E_ (f:=λp=>CV p 0 99) (EE E));go_wp2_with (go_at_call 80;refine(adQ _ _ _ _).mono ?_;rintro e w' ⟨rfl,rfl⟩)
  .have d:AD (BV s k).1 0 99=true:=by assumption
   go_ret;have l:Bc (λp=>CV p 0 99) s=1:=by rw[<-j.out,m.out,afd d];rfl
   exact⟨Bw (by rw[q.out,l]),a⟩
  .have d:AD (BV s k).2 0 99=true:=by assumption
   go_ret;have l:Bc (λp=>CV p 0 99) s=1:=by rw[<-j.out,m.out,afe d];rfl
   exact⟨Bw (by rw[q.out,l]),a⟩
  rename AD (BV s k).2 _ _=false=>x
  rename¬AD (BV s k).1 _ _=true=>d
  have n:=Zd (Bool.eq_false_iff.2 d);have B:=Zd x;clear d x;go_quiet (fail)
  all_goals go_wp2
  .have r:(BV s k).2<(BV s k).1:=by assumption
   go_ret;have l:Bc (λp=>CV p 0 99) s=5:=by rw[<-j.out,m.out,aff n.out B.out r];rfl
   exact⟨Bw (by rw[q.out,l]),Y5 a _⟩
  have r:¬(BV s k).2<(BV s k).1:=o!
  go_roundg (s.length - (k+1))
  case rel=>exact⟨k+1,o!,rfl,v!,by rw[<-j.out,m.out,adV n.out B.out r];rfl,Y5 a _⟩
  omega
 have n:=Zd (show Fs c.base.length s=0 by rw[q.out, <-j.out];exact FZ o!);clear j;go_wp2;go_ret;exact⟨Bw n.out.symm,a⟩
def ar2 (h:RC S w v1 v2 v3 v4 v5 c)(B:Fq c)(hl:SI S w v6 l)(Jw:Tc c l)(hs:SP T w v7 s)(F:s.length=c.base.length)(il:∀i,i<s.length->0<=(BV s i).1/\(BV s i).1<=99/\0<=(BV s i).2/\(BV s i).2<=99)(hS:Ql6 S w)(hT:∀b,T b->b<w.heap.size):
  Calls Lp 92 #[.agg #[v1,v2,v3,v4,v5],v6,v7] w λe w'=>e=.returned (.bool (BZ c l s))/\Qb6 w w':=by
 have hn:l.length<=c.Aa.length:=by have:=Jw.1;omega
 have hb:∀i,i<l.length->-2<=nth l i/\nth l i<=2:=λi hi=>by have:=Jw.2 i hi;have:=B.step i o!;omega
 have Gv:∀j,-108<=measure c l j/\measure c l j<=108:=Md B hn hb;obtain⟨a1,c1,a2,c2,a3,c3,a4,c4,a5,c5,rfl,rfl,rfl,rfl,rfl,l1,m1,l2,m2,l3,m3,l4,m4,l5,m5⟩:=h.vs;obtain⟨a6,c6,rfl,l6,m6⟩:=hl.val;obtain⟨a7,c7,rfl,l7,m7⟩:=hs.val;have IX:=DJ;obtain⟨W1,NL⟩:=Qnm (w.alloc (.cells (Qe6 c a1 c1 a2 c2 a3 c3 a4 c4 a5 c5) 26));have Bg:Qb6 w W1:=by rw[NL];exact bA (Zh _ _)
 have lD:W1.heap[w.heap.size]?=some (.cells (Qe6 c a1 c1 a2 c2 a3 c3 a4 c4 a5 c5) 26 (0,0)):=by rw[NL];exact Bp _ _
 have O:=Zd (aqt (h.later Bg) B (hl.later Bg) hn hb (A3 hS Bg));have HG:=Zd (show∀i,i<c.base.length->nth (Cc c l) i=measure c l i from λi hi=>by
  have:=MU (l:=l) hi;simp[nth,Y6,this])
 have NN:(Cc c l).length=c.base.length:=by simp[Cc]
 obtain⟨m,hm⟩:=Qnm (measure c l);have HE:=Zd (show BZ c l s=SV c m 0 (s.drop 0) by rw[hm];rfl);rw[<-hm]at Gv HG;clear hm;have hg:=B.Fp;have ba:=Zd B.PN;have ap:=Zd B.hooks;have Q:=Zd F;clear F;go_enter Lp.func127,apQ;go_wp2;rw[<-NL];clear NL;refine O.out.mono ?_;rintro e W2 ⟨ug,rfl,Bb,n⟩;obtain⟨ga,gc,rfl,_⟩:=n.val;obtain⟨bg,P,am,_,_⟩:=n.at_ (i:=0) (by rw[NN];omega);subst am;have U:=Zd (show∀i,i<c.base.length->W2.cell? ⟨bg,P+i,none⟩=some (.int .i64 (m i)) from λi hi=>by
  obtain⟨b',o',e,_,hc⟩:=n.at_ (i:=i) (by rw[NN];exact hi);cases e;rw[hc,HG.out i hi])
 have q:=bU Bg Bb;have Ia:=(Bb.block _ (Za.1 lD).1).trans lD;rw[NN];clear n NN O HG;go_wp2;go_loopg [8] c.base.length (λg i wr=>∃k:Nat,k<=c.base.length/\g=c.base.length - k/\i=.int .i64 k/\SV c m k (s.drop k)=BZ c l s/\Qb6 W2 wr)
 case atStart=>exact⟨0,Zp _,rfl,rfl,HE.out.symm,Zh _ _⟩
 obtain⟨k,hk,rfl,rfl,CP,hB⟩:=hrel;have hf:=Zd CP;clear CP;by_cases f:k<c.base.length
 .have Az:k<s.length:=by have:=Q.out;omega
  have L:=Zd (SW (c:=c) (m:=m) Az);have T5:k<c.Af.length:=by rw[ba.out];exact f
  have J:k<c.hooks.length:=by rw[ap.out];exact f
  obtain⟨b7,o7,rfl,U3,p1,D⟩:=hs.at_ Az;have ai:=bU q hB;rw[<-ai.cell (p:=⟨b7,o7+k*2,none⟩) (hT b7 U3)]at p1;have hE:=B.Af k T5;have hH:=B.hook k J;obtain⟨Xg,Ox,I,H⟩:=il k Az;obtain⟨N,o2,rfl,EC,d1,d2⟩:=h.Af.at_ T5;obtain⟨b3,o3,rfl,Xi,d3⟩:=h.hooks.at_ J;obtain⟨r,G⟩:=Qnm (BV s k);obtain⟨ep,K⟩:∃r,r=BV c.Af k:=⟨_,rfl⟩;obtain⟨hook,bF⟩:∃r,r=nth c.hooks k:=⟨_,rfl⟩;rw[<-G]at p1 D Xg Ox I H L;rw[<-K]at d1 d2 hE L;rw[<-bF]at d3 hH L;clear G K bF;obtain⟨lo,hi⟩:=r;obtain⟨d,a⟩:=ep;dsimp only at p1 D Xg Ox I H d1 d2 hE;have TB:(k:Int)<(s.length:Int):=o!
  have ci:(k:Int)<(c.base.length:Int):=o!
  have ct:(k:Int)<(c.Af.length:Int):=o!
  have ck:(k:Int)<(c.hooks.length:Int):=o!
  obtain⟨Y,hY⟩:=Qnm wr;subst hY;go_wp2;go_loopg [9] ((hi+1 - lo).toNat) (λg i wx=>∃x:Int,0<=x/\x<=100/\g=(hi+1 - x).toNat/\i=.int .i64 x/\NV hook (m k) (d,a) (hi+1 - x).toNat x=F0 hook (m k) (d,a) (lo,hi)/\Qb6 W2 wx)
  case atStart=>exact⟨lo,Xg,o!,rfl,rfl,rfl,hB⟩
  obtain⟨x,Oo,MF,rfl,rfl,xr,X⟩:=hrel;have cK:=Zd xr;clear xr;obtain⟨V,hV⟩:=Qnm wr;subst hV;have t:=bU q X;have bc:=(t.cell (p:=⟨b7,o7+k*2+1,none⟩) (hT b7 U3)).trans D;by_cases ac:x<=hi
  .have E:=Zd (SX (hook:=hook) (m:=m k) (p:=(d,a)) ac)
   have bV:=Gv k;have M:=(X.block _ (Za.1 Ia).1).trans Ia;have o:=(X.cell (p:=⟨bg,P+k,none⟩) (ZH _ _ (U.out k f))).trans (U.out k f);have A:=ch (i:=1) M (v:=.slice (some ⟨N,o2,none⟩) c.Af.length c2) rfl;have Z:=ch (i:=2) M (v:=.slice (some ⟨b3,o3,none⟩) c.hooks.length c3) rfl;have z:=(t.cell (p:=⟨N,o2+k*2,none⟩) (hS N EC)).trans d1;have y:=(t.cell (p:=⟨N,o2+k*2+1,none⟩) (hS N EC)).trans d2;have u:=(t.cell (p:=⟨b3,o3+k,none⟩) (hS b3 Xi)).trans d3;have z1:=λp=>Al p A;have z2:=λp=>Al p Z;have z3:=λp=>Al p o;have z4:=λp=>Al p z;have z5:=λp=>Al p y;have z6:=λp=>Al p u;have bv:IntKind.i64.wrap (m k - hook)=m k - hook:=ZcD _ o!;have bi:IntKind.i64.wrap (m k - hook - x)=m k - hook - x:=ZcD _ o!;have be:IntKind.i64.wrap (m k - x)=m k - x:=ZcD _ o!;have Q2:=Zd (λW=>show Calls Lp 80 #[.int .i64 (m k - x),.int .i64 d,.int .i64 a] W λe w'=>e=.returned (.bool (!AD (m k - x) d a))/\Qb6 W w' from(adQ (m k - x) d a W).mono λe w' ⟨h1,h2⟩=>⟨h1,by rw[h2];exact Zh _ _⟩);have Q1:=Zd (λW=>show Calls Lp 80 #[.int .i64 (m k - hook - x),.int .i64 d,.int .i64 a] W λe w'=>e=.returned (.bool (!AD (m k - hook - x) d a))/\Qb6 W w' from(adQ (m k - hook - x) d a W).mono λe w' ⟨h1,h2⟩=>⟨h1,by rw[h2];exact Zh _ _⟩);have uw:=ak4 hook (m k) x d a;cases M9: !AD (m k - x) d a<;>cases pM:decide (0<hook)<;>cases T6: !AD (m k - hook - x) d a
   all_goals
    rw[M9]at Q2;rw[T6]at Q1;rw[M9,pM,T6]at uw;have R:=Zd uw;clear T6 M9 uw;go_wp2;refine Av k! k! ?_
    repeat (first|go_big_quiet_step ((go_at_call 80;exact AV (Q2.out _)))|quiet_step ((go_at_call 80;exact AV (Q2.out _))))
    refine Z4 ?_;rintro _ ⟨p,rfl⟩;have C:=AE V p;obtain⟨wy,iq⟩:=Qnm (calm V p);rw[<-iq]at C⊢;clear iq z1 z2 z3 z4 z5 z6;have y1:=λp=>Al p ((C.cell (ZH _ _ A)).trans A);have y2:=λp=>Al p ((C.cell (ZH _ _ Z)).trans Z);have y3:=λp=>Al p ((C.cell (ZH _ _ o)).trans o);have y4:=λp=>Al p ((C.cell (ZH _ _ z)).trans z);have y5:=λp=>Al p ((C.cell (ZH _ _ y)).trans y);have y6:=λp=>Al p ((C.cell (ZH _ _ u)).trans u);clear A Z z y u o;go_wp2;refine Av k! k! ?_
    repeat (first|go_big_quiet_step ((go_at_call 80;exact AV (Q1.out _)))|quiet_step ((go_at_call 80;exact AV (Q1.out _))))
    refine Z4 ?_;rintro _ ⟨D,rfl⟩;have Jx:=AE wy D;obtain⟨wz,bG⟩:=Qnm (calm wy D);rw[<-bG]at Jx⊢;clear bG y1 y2 y3 y4 y5 y6;have O5:=bU X (bU C Jx);go_wp2
    first
     |(go_roundg ((hi+1 - (x+1)).toNat)
       case rel=>exact⟨x+1,o!,o!,rfl,rfl,by rw[<-cK.out,E.out,R.out];rfl,O5⟩
       case measure=>omega)
     |(go_ret
       exact⟨congrArg (λb=>Zbx (.bool b)) (by rw[<-hf.out,L.out, <-cK.out,E.out,R.out];rfl),bU q O5⟩)
  have an:=Zd (show F0 hook (m k) (d,a) (lo,hi)=true by rw[<-cK.out];exact U' o!);go_wp2;go_roundg (c.base.length - (k+1))
  case rel=>exact⟨k+1,f,rfl,v!,by rw[<-hf.out,L.out,an.out];rfl,X⟩
  omega
 have HT:=Zd (show BZ c l s=true by rw[<-hf.out,Z7.2 (by have:=Q.out;omega)];rfl);go_wp2;go_ret;exact⟨congrArg (λb=>Zbx (.bool b)) HT.out.symm,bU q hB⟩
def amK (h:RC S w v1 v2 v3 v4 v5 c)(hs:SP T w v6 s)(hS:Ql6 S w)(hT:∀b,T b->b<w.heap.size)(Jz:BN c=0)(ER:Fs c.base.length s=0):
  Calls Lp 62 #[.agg #[v1,v2,v3,v4,v5],v6] w λe w'=>∃a cc,e=.returned (.slice a (lF c s).length cc)/\Qb6 w w'/\LR w w' (.slice a (lF c s).length cc) (lF c s):=by
 obtain⟨a1,c1,a2,c2,a3,c3,a4,c4,a5,c5,rfl,rfl,rfl,rfl,rfl,l1,m1,l2,m2,l3,m3,l4,m4,l5,m5⟩:=h.vs;obtain⟨a6,c6,rfl,l6,m6⟩:=hs.val;have IX:=DJ;have hv:=EG Jz;obtain⟨D,il⟩:=Ha ER;have hN:(LU c).length<=125:=by
  have h1:=Zac (Ev c) (EH c);have h2:(EH c).length<=125:=by rw[<-adv];exact adj hv _
  exact Zr h1 h2
 have I:0<(LU c).length:=List.length_pos_iff.2 (afq hv);obtain⟨W1,NL⟩:=Qnm (w.alloc (.cells (Qe6 c a1 c1 a2 c2 a3 c3 a4 c4 a5 c5) 26));have Bg:Qb6 w W1:=by rw[NL];exact bA (Zh _ _)
 have lD:W1.heap[w.heap.size]?=some (.cells (Qe6 c a1 c1 a2 c2 a3 c3 a4 c4 a5 c5) 26 (0,0)):=by rw[NL];exact Bp _ _
 have v:=Zd (amE (h.later Bg) (A3 hS Bg) Jz);have HS:=Zd (λW (j:Qb6 w W)=>(h.later j).imp (T:=λy=>y<W.heap.size) λy hy=>Zl (hS y hy) j.size);have ba:=Zd (λW (j:Qb6 w W)=>show SP (λy=>y<W.heap.size) W (.slice a6 s.length c6) s from Sl.imp (hs.later j) (λy hy=>Zl (hT y hy) j.size) λ_ _ x=>x);have HV:=Zd hv;have U:=Zd (ZY D il);have Y:=Zd (show lF c s=(LU c).filter λl=>BZ c l s from rfl);have Z:=Zd (λi (hi:i<(LU c).length)=>WV (show BM (LU c) i∈EH c from(List.mem_filter.1 (Z3 (BJ hi))).1));clear Jz hv ER D il;obtain⟨L,hL⟩:=Qnm (LU c);rw[<-hL]at v Y Z hN I;clear hL;go_enter Lp.func129,apS;go_wp2;rw[<-NL];clear NL;refine v.out.mono ?_;rintro e O ⟨_,_,rfl,Bb,J⟩;obtain⟨g,cap,e0,tN,lZ,dL,L6,NP⟩:=J.lr2.row I;cases e0;have bc:=Zd dL;have t:=bU Bg Bb;have Ia:=(Bb.block _ (Za.1 lD).1).trans lD;have am:=Bb.size;clear dL J v lD;go_wp2;go_loopg [5,7] L.length (λgg ov iv wr=>∃k:Nat,k<=L.length/\gg=L.length - k/\iv=.int .i64 k/\LR2 O W1 wr ov ((L.take k).filter λl=>BZ c l s)/\Qb6 O wr)
 case atStart=>exact⟨0,Zp _,rfl,rfl,by rw[ZdB];exact LR2.nil _ _ _,Zh _ _⟩
 obtain⟨k,hk,rfl,rfl,q,M⟩:=hrel;by_cases Az:k<L.length
 .obtain⟨V,hV⟩:=Qnm wr
  subst hV;have C:=Z.out k Az;have o:=Zd (show((L.take (k+1)).filter λl=>BZ c l s)=((L.take k).filter λl=>BZ c l s)++ [BM L k].filter λl=>BZ c l s by rw[ZbH,BJ Az,ZcW];rfl);obtain⟨u,lH,B⟩:=bc.out k Az;obtain⟨x,hx⟩:=Qnm (BM L k);rw[<-hx]at C B o;clear hx;have N:=Zd (λW (j:Qb6 O W)=>ar2 (HS.out W (bU t j)) HV.out (Sl.imp (B.later j) (λb F=>Zl F.1.2 j.size) λ_ _ x=>x) C (ba.out W (bU t j)) U.out.1 U.out.2 (λb F=>F) (λb F=>F));obtain⟨r,hr⟩:=Qnm (BZ c x s);have X:=Zd hr;rw[<-hr]at N;clear hr;obtain⟨ua,uc,rfl,_⟩:=B.val;have ac:((L.take k).filter λl=>BZ c l s).length<=125:=by
   have h1:=Zac (λl=>BZ c l s) (L.take k);have h2:=List.length_take_le' k L;omega
  obtain⟨P,H⟩:=Qnm ((L.take k).filter λl=>BZ c l s);rw[<-H]at q o ac;clear H;obtain⟨pa,pc,rfl,_⟩:=q.val;have HP:=Zd q;have HU:=Zd B;have G:=(M.block _ (by have:=(Za.1 Ia).1;omega)).trans Ia;have m:=(M.cell (p:=⟨g,k,none⟩) lZ).trans lH;have E:(k:Int)<(L.length:Int):=o!
  have kq:(0:Int)<=(k:Int):=o!
  obtain⟨z0,z1,z2,z3,z4⟩:=Qz5 G;have z5:=λu=>Al u m;clear q B;go_wp2;refine aci (S:=λW=>∃p,W=calm V p) 7 [] (.one 6 .leaf) [0,1,2,3,4,5] k! (λ_ _ d _ _ h=>by cases d<;>exact h) k! (AL (Zh _ _).drew) ?_;refine A4 _ _ k! ?_;simp only[Z6,zd,ZG,ZD,ZC]
  repeat (first|go_big_quiet_step (fail)|quiet_step (fail))
  refine Z4 ?_;clear z0 z1 z2 z3 z4 z5;change acs _ _ _ _ _ _ _ _;have Uh:YH V V V.drew:=(Zh _ _).drew;refine acL (f:=92) (args:= #[.agg (Qe6 c a1 c1 a2 c2 a3 c3 a4 c4 a5 c5),.slice ua x.length uc,.slice a6 s.length c6]) rfl rfl g! ((N.out _ (bU M Uh)).mono ?_);rintro e V2 ⟨rfl,an⟩;have n:=bU Uh an;refine .inl ⟨_,rfl,.inr (AL n),?_⟩;unfold acs
  go_simp
  have Q:=bU M n;have z:=Zd (HP.out.later n);have be:=(n.cell (p:=⟨g,k,none⟩) (ZH _ _ m)).trans m;have Hb:SI (J1 3 W1 V2) V2 (.slice ua x.length uc) x:=Dx (T:=λ_=>False) (Ak.later Q) (λ_ _ x=>x) HU.out;have ap:=Zd Hb;clear Hb m G;cases r with
  |true=>
   have A:=Zd (show((L.take (k+1)).filter λl=>BZ c l s)=P++ [x] by rw[o.out,ZbB,if_pos X.out.symm];rfl);go_wp2_with (at_builtin;refine wpList_plain rfl (λK hK=>ad2 (rb:=O) (rb2:=V2) (base:=W1) (P:=P) (R:=[x]) _ _ rfl rfl (z.out.later (bA (Zh _ _))) rfl (LR2.one ap.out) j! (by have:=Q.size;simp;omega) ?_);intro v' V3 ai l9;refine hK _ _ ?_);have Bv:Qb6 O V3:=Bm (bA Q) l9 (λk hk=>z.out.lt k hk) (by have:=Q.size;simp;omega);go_roundg (L.length - (k+1))
   case rel=>exact⟨k+1,Az,rfl,v!,by rw[A.out];exact ai,Bv⟩
   case measure=>omega
  |false=>
   have A:=Zd (show((L.take (k+1)).filter λl=>BZ c l s)=P by rw[o.out,ZbB,if_neg (by rw[<-X.out];decide)];exact ZaA _);go_wp2;go_roundg (L.length - (k+1))
   case rel=>exact⟨k+1,Az,rfl,v!,by rw[A.out];exact z.out,Q⟩
   omega
 have E:k=L.length:=o!
 rw[E,ZcU, <-Y.out]at q;obtain⟨pa,pc,rfl,_⟩:=q.val;have HP:=Zd q;clear q;go_wp2;go_ret;exact⟨_,_,rfl,bU t M,(HP.out.aad am).mono Bg.size⟩
def ahj (c:A_)(s:List (Int×Int)):Int:=PM (BN c) (Fs c.base.length s)
def ajq (c:A_)(s:List (Int×Int)):List (List Int):=if ahj c s=0 then lF c s else []
def c65 (h:RC S w v1 v2 v3 v4 v5 c)(n:SP S w v6 s)(l:Ql6 S w):Calls Lp 35 #[.agg #[v1,v2,v3,v4,v5],v6] w (ako w (ajq c s) (ahj c s)):=by
 obtain⟨K,F,J,c2,I,E,H,D,G,C,rfl,rfl,rfl,rfl,rfl,l1,Z,l2,Y,l3,X,l4,W,l5,V⟩:=h.vs;obtain⟨a6,c6,rfl,l6,U⟩:=n.val;obtain⟨W1,m⟩:=Qnm (w.alloc (.cells (Qe6 c K F J c2 I E H D G C) 26));have u:Qb6 w W1:=by rw[m];exact bA (Zh _ _)
 have v:W1.heap[w.heap.size]?=some (.cells (Qe6 c K F J c2 I E H D G C) 26 (0,0)):=by rw[m];exact Bp _ _
 have t:=Zd (c50 (h.later u) (A3 l u));go_enter Lp.func65,n65;go_wp2;rw[<-m];clear m;refine t.out.mono ?_;rintro e W2 ⟨rfl,M⟩;have k:=bU u M;have q:=(M.block _ (Za.1 v).1).trans v;obtain⟨A,k1,z,y,x⟩:=Qc5 q;by_cases d:BN c=0
 .have p:=Zd (amI (h.later k) (n.later k) (A3 l k))
  have i:=Zd (show ahj c s=Fs c.base.length s by unfold ahj;rw[d];rfl);have r:=Zd d;rw[d];clear d;go_wp2;refine p.out.mono ?_;rintro e W3 ⟨rfl,L⟩;have f:=bU k L;have P:=(L.block _ (Za.1 q).1).trans q;clear A k1 z y x;obtain⟨A,k1,z,y,x⟩:=Qc5 P;by_cases g:Fs c.base.length s=0
  .have o:=Zd (amK (h.later f) (n.later f) (A3 l f) (A3 l f) r.out g)
   have j:=Zd (show ahj c s=0 by rw[i.out,g]);have N:=Zd (show ajq c s=lF c s from if_pos j.out);rw[g];clear g;go_wp2;refine o.out.mono ?_;rintro e W4 ⟨a,cc,rfl,T,O⟩;go_wp2;go_ret2;exact ahh N.out j.out (bU f T) (O.sl.imp λb B=>⟨Zr f.size B.1,B.2⟩)
  have R:(Fs c.base.length s !=0)=true:=by simpa using g
  have j:=Zd (show ajq c s=[] from if_neg (by rw[i.out];exact g));clear g;go_wp2;go_ret2;exact ahh (Q:=[]) j.out i.out f aeI
 have R:(BN c !=0)=true:=by simpa using d
 have i:=Zd (show ahj c s=BN c from K4 d);have j:=Zd (show ajq c s=[] from if_neg (by rw[i.out];exact d));clear d;go_wp2;go_ret2;exact ahh (Q:=[]) j.out i.out k aeI
def CT.wr {u3:Zf}(h:CT n w u1 u2 u3 u4 u5 c):CWr n w u1 u2 u3 u4 u5 c:=
 ⟨h.base,h.Af,h.hooks,h.row,Sl.imp h.now (λx a=>⟨a.new,λe=>by
  obtain⟨_,cs,b⟩:=h.row.own x e;exact TT.not a b ⟨d!,d!,d!⟩⟩) λ_ _ x=>x⟩
def CWr.amM {m:Nat}{u3:Zf}(a:c.Aa.length=m)(h:CWr n w u1 u2 u3 (.slice g m cap) u5 c)(hi:i<m):
  CWr n (w.setCell ⟨g,i*5+4,none⟩ (.int .i64 x)) u1 u2 u3 (.slice g m cap) u5 {c with Aa:=ai7 c.Aa i x}:=by
 subst a;exact h.left hi
def acQ (c:A_)(a:List (List (Int×Int))):Int:=PM (BN c) (PM (Di a.length 3) (Bc (Fs c.base.length) a))
def al3 (w:Zb)(z:Int)(e:Ending)(w':Zb):Prop:=e=.returned (.tuple #[(),.int .i64 0,.int .i64 z])/\Qb6 w w'
def ar3 {a:List (List (Int×Int))}(h:RC S w v1 v2 v3 v4 v5 c)(hs:SSP S w v6 a)(R:Ql6 S w)(T:acQ c a≠0):
  Calls Lp 13 #[.agg #[v1,v2,v3,v4,v5],v6] w (al3 w (acQ c a)):=by
 obtain⟨J,D,I,c2,G,C,F,B,E,A,rfl,rfl,rfl,rfl,rfl,l1,m1,l2,m2,l3,m3,l4,m4,l5,m5⟩:=h.vs;obtain⟨a6,c6,rfl,l6,m6⟩:=hs.val;have IX:=DJ;have j:YH w w (w.alloc (.cells (Qe6 c J D I c2 G C F B E A) 26)):=bA (Zh _ _);by_cases P:BN c=0
 .have O:=Zd (λW x=>Wt (w:=W) (h.later x) (A3 R x) P)
  by_cases d:Di a.length 3=0
  .have Q:=Zd (show acQ c a=Bc (Fs c.base.length) a from(BR P).trans (BR d))
   have n:=Zd (show∀W,Calls Lp 37 #[.int .i64 a.length,.int .i64 3] W λe w'=>e=.returned (.int .i64 0)/\w'=W from λW=>by
    have:=uk (a.length:Int) 3 W;rwa[d]at this)
   have Z:=Zd T;clear T d;go_enter Lp.func41,n41;go_wp2_with (first|(go_at_call 36;refine(O.out _ j).mono ?_;rintro e w1 ⟨rfl,M⟩;have L:=j.trans (M.mono j.size))|(go_at_call 37;refine(n.out _).mono ?_;rintro e w2 ⟨rfl,Y⟩;obtain rfl:=Y.symm));obtain⟨W2,U⟩:=Qnm (w1.alloc (.cells (AW (.slice J c.base.length D) (.slice I c.Af.length c2) (.slice G c.hooks.length C) (.slice F c.Aa.length B) (.slice E c.now.length A) (Ax c.Aa)) 81));have Ia:Qb6 w1 W2:=by rw[U];exact bA (Zh _ _)
   have T3:W2.heap[w1.heap.size]?=some (.cells (AW (.slice J c.base.length D) (.slice I c.Af.length c2) (.slice G c.hooks.length C) (.slice F c.Aa.length B) (.slice E c.now.length A) (Ax c.Aa)) 81 (0,0)):=by rw[U];exact Bp _ _
   have De:=L.trans (Ia.mono L.size);change Code.wp _ _ _ _ (w1.alloc (.cells (AW (.slice J c.base.length D) (.slice I c.Af.length c2) (.slice G c.hooks.length C) (.slice F c.Aa.length B) (.slice E c.now.length A) (Ax c.Aa)) 81));rw[<-U];clear U Ia M O n;obtain⟨q,DU⟩:=Qnm (Ax c.Aa);rw[<-DU]at T3;have mG:=Zd DU;clear DU;have T8:=Zd (λW (x:Qb6 w W) u s (N:SP S w u s)=>show Calls Lp 38 #[.agg #[.slice J c.base.length D,.slice I c.Af.length c2,.slice G c.hooks.length C,.slice F c.Aa.length B,.slice E c.now.length A,.int .u8 (q 0),.int .u8 (q 1),.int .u8 (q 2)],u] W λe w'=>e=.returned (.int .i64 (Fs c.base.length s))/\Qb6 W w' from
    abe (w:=W) (h.later x) (N.later x) (A3 R x) (q 0) (q 1) (q 2))
   go_loopg [37] a.length (λg i wr=>∃k:Nat,k<=a.length/\g=a.length - k/\i=.int .i64 k/\Bc (Fs c.base.length) (a.drop k)=acQ c a/\Qb6 W2 wr)
   case atStart=>exact⟨0,Zp _,rfl,rfl,Q.out.symm,Zh _ _⟩
   obtain⟨k,hk,rfl,rfl,hf,K⟩:=hrel;have V:=Zd hf;clear hf;have Cj:=De.trans (K.mono De.size);have r:=(K.block _ (Za.1 T3).1).trans T3;have k0:=ch (i:=0) r (v:=.slice J c.base.length D) rfl;have k1:=ch (i:=1) r (v:=.slice I c.Af.length c2) rfl;have k2:=ch (i:=2) r (v:=.slice G c.hooks.length C) rfl;have k3:=ch (i:=3) r (v:=.slice F c.Aa.length B) rfl;have k4:=ch (i:=4) r (v:=.slice E c.now.length A) rfl;have k5:=ch (i:=5) r (v:=.int .u8 (q 0)) rfl;have k6:=ch (i:=6) r (v:=.int .u8 (q 1)) rfl;have k7:=ch (i:=7) r (v:=.int .u8 (q 2)) rfl;by_cases Az:k<a.length
   .obtain⟨b,o,u,rfl,hb,hc,N⟩:=hs.at_ Az
    rw[<-Cj.cell (p:=⟨b,o+k,none⟩) (R b hb)]at hc;have X:=Zd (E_ (f:=Fs c.base.length) (Oj Az));obtain⟨s0,ER⟩:=Qnm (lz a k);rw[<-ER]at N X;clear ER;obtain⟨a7,c7,rfl,l7,m7⟩:=N.val;obtain⟨y,hy⟩:=Qnm (Fs c.base.length s0);have t:=T8.out _ Cj _ _ N;rw[<-hy]at t X;have H:=Zd t;clear t hy T8;by_cases mC:y=0
    .subst mC
     go_wp2_with (go_at_call 38;refine H.out.mono ?_;rintro e w3 ⟨rfl,DM⟩;have NU:=K.trans (DM.mono K.size));go_roundg (a.length - (k+1))
     case rel=>exact⟨k+1,o!,rfl,v!,by rw[<-V.out,X.out];exact(if_pos trivial).symm,NU⟩
     omega
    go_wp2_with (go_at_call 38;refine H.out.mono ?_;rintro e w3 ⟨rfl,DM⟩;have NU:=K.trans (DM.mono K.size));have HY:=Zd (show acQ c a=y by rw[<-V.out,X.out];exact if_neg mC);refine ZN (Eh rfl _ _ _) rfl ?_;rw[HY.out];exact⟨rfl,bU De NU⟩
   exfalso;rw[FZ o!]at V;exact Z.out V.out.symm
  obtain⟨z,l⟩:=Qnm (Di a.length 3);have Q:=Zd (show acQ c a=z from(BR P).trans ((K4 d).trans l.symm));have n:=Zd (show∀W,Calls Lp 37 #[.int .i64 a.length,.int .i64 3] W λe w'=>e=.returned (.int .i64 z)/\w'=W from λW=>by
   rw[l];exact uk (a.length:Int) 3 W)
  rw[<-l]at d;clear l T;go_enter Lp.func41,n41;go_wp2_with (first|(go_at_call 36;refine(O.out _ j).mono ?_;rintro e w1 ⟨rfl,M⟩;have L:=j.trans (M.mono j.size))|(go_at_call 37;refine(n.out _).mono ?_;rintro e w2 ⟨rfl,Y⟩;obtain rfl:=Y.symm));refine ZN (Eh rfl _ _ _) rfl ?_;rw[Q.out];exact⟨rfl,bA L⟩
 obtain⟨z,l⟩:=Qnm (BN c);have Q:=Zd (show acQ c a=z from(K4 P).trans l.symm);have m:=c88 (h.later j) (A3 R j);unfold agX at m;rw[<-l]at m;rw[<-l]at P;have O:=Zd m;clear m l T;go_enter Lp.func41,n41;go_wp2_with (go_at_call 36;refine O.out.mono ?_;rintro e w1 ⟨q1,q2,q3,q4,q5,n1,n2,n3,n4,n5,d1,d2,d3,d4,d5,k0,k1,k2,rfl,M,_⟩;have L:=j.trans (M.mono j.size));refine ZN (Eh rfl _ _ _) rfl ?_;rw[Q.out];exact⟨rfl,bA L⟩
def adN (c:A_)(a:List (List (Int×Int))):Int:=if acQ c a=0 then qW c a else 0
def adO (c:A_)(a:List (List (Int×Int))):Int:=if acQ c a=0 then qX c a else acQ c a
def adP (c:A_)(a:List (List (Int×Int))):List (List Int):=if acQ c a=0 then qV c a else []
def ar4 {b:List (List (Int×Int))}(h:RC S w v1 v2 v3 v4 v5 c)(d:SSP S w v6 b)(f:Ql6 S w)(g:∀i,i<c.Aa.length->(Aj c.Aa i).over.length<=1000):
  Calls Lp 13 #[.agg #[v1,v2,v3,v4,v5],v6] w λe w'=>Qb6 w w'/\((∃v,e=.returned (.tuple #[v,.int .i64 (adN c b),.int .i64 (adO c b)])/\SL (Cb w w') w' v (adP c b))\/∃x,e=.panicked x/\PX x w'):=by
 by_cases a:acQ c b=0
 .obtain⟨n,r⟩:=Bj a
  obtain⟨q,p⟩:=Bj r;have t:=JQ q;have:=c41 h d f n o! (λs l=>by
   obtain⟨k,m⟩:=List.mem_iff_getElem?.1 l;exact Ef p k s m) g
  unfold adN adO adP;rw[if_pos a,if_pos a,if_pos a];exact this
 refine(ar3 h d f a).mono ?_;rintro e w' ⟨rfl,o⟩;unfold adN adO adP;rw[if_neg a,if_neg a,if_neg a];exact⟨o,.inl ⟨_,rfl,⟨none,0,rfl,Zj _,Zp _,λi x j=>by simp at j⟩⟩⟩
def plN:Option (List (List Int)×Int)->Int
 |none=>0
 |some p=>p.2
def afb:∀(c:List (List (Int×Int))) (d:A_) (p:List (List Int)×Int),acZ c d=some p->0<=p.2/\p.2<=3*c.length/\p.1.length=c.length
 | [],d,p,h=>by cases h;exact⟨Int.le_refl _,Int.le_refl _,rfl⟩
 |s::r,d,p,h=>by
  have key:∀(L:List (List Int)) (o:Option (List (List Int)×Int)),(∀p,o=some p->0<=p.2/\p.2<=3*(s::r).length/\p.1.length=(s::r).length)->∀p,L.foldl (acm d (acZ r)) o=some p->0<=p.2/\p.2<=3*(s::r).length/\p.1.length=(s::r).length:=by
   intro L
   induction L with
   |nil=>intro o b p f;exact b p f
   |cons l L g=>
    intro o b p f;refine g (acm d (acZ r) o l) (λq a=>?_) p f;unfold acm at a;split at a
    .exact b q a
    rename_i e i;split at a
    .cases a
     have:=afb r _ _ i;have j:(AB (DS d l)).length<=3:=Jo _ 3;refine⟨?_,?_,?_⟩
     .show 0<=((AB (DS d l)).length:Int)+e.2;omega
     .show((AB (DS d l)).length:Int)+e.2<=_;rw[zb];omega
     show(l::e.1).length=_;rw[zb,zb];omega
    exact b q a
  exact key (lF d s) none (λq a=>by cases a) p h
def amN (w:Zb)(o:Option (List (List Int)×Int))(e:Ending)(w':Zb):Prop:=Qb6 w w'/\∃a cc,e=.returned (.agg #[.slice a (ade o).length cc,.int .i64 (plN o),.bool o.isSome])/\LR w w' (.slice a (ade o).length cc) (ade o)
def LR2.off {base:Nat}(h:LR2 rb base w v P)(j:w.heap[b]?=some (.cells cs e (0,0)))(k:e≠22/\e≠3)(l:B3 b w w'):LR2 rb base w' v P:=by
 obtain⟨vals,a,d⟩:=h;refine⟨vals,⟨a.1,?_⟩,λi y hi=>?_⟩
 .rcases a.2 with f|⟨g,cap,cur,f,p,c,o⟩
  .exact .inl f
  refine .inr ⟨g,cap,cur,f,p,(l.block g (Za.1 c).1 (λs=>?_)).trans c,o⟩;subst s;rw[j]at c;cases c;exact k.1 rfl
 obtain⟨u,r,n⟩:=d i y hi;refine⟨u,r,Dx (T:=λx=>x=b) (l.CN (K:=λx=>x=b) rfl) (λx m q=>?_) n⟩;subst q;obtain⟨_,t,h⟩:=m;rw[j]at h;cases h;exact k.2 rfl
def LR2.base {base:Nat}(h:LR2 rb base w v P)(f:adx<=base):LR2 rb adx w v P:=by
 obtain⟨vals,c,b⟩:=h;refine⟨vals,c,λi y hi=>?_⟩;obtain⟨u,e,d⟩:=b i y hi;exact⟨u,e,Sl.imp d (λx a=>⟨⟨Zr f a.1.1,a.1.2⟩,a.2⟩) λ_ _ x=>x⟩
def aif {o:Option (List (List Int)×Int)}(n:Int)(l:List Int)(p:List (List Int)×Int)(c:LJ (n+p.2) o=true)(d:A_)(g:A_->Option (List (List Int)×Int))(b:g (FH d l (DS d l))=some p)(a:n=((AB (DS d l)).length:Int)):acm d g o l=some (l::p.1,n+p.2):=by
 unfold acm;rw[b, <-a];exact if_pos c
def aih {o:Option (List (List Int)×Int)}(n:Int)(l:List Int)(p:List (List Int)×Int)(c:¬LJ (n+p.2) o=true)(d:A_)(g:A_->Option (List (List Int)×Int))(b:g (FH d l (DS d l))=some p)(a:n=((AB (DS d l)).length:Int)):acm d g o l=o:=by
 unfold acm;rw[b, <-a];exact if_neg c
def aii {o:Option (List (List Int)×Int)}(l:List Int)(d:A_)(g:A_->Option (List (List Int)×Int))(a:g (FH d l (DS d l))=none):acm d g o l=o:=by
 unfold acm;rw[a]
def ar5 (ss:List (List (Int×Int))):∀(S:Nat->Prop) (w:Zb) (v1 v2 v3 v4 v5 v6:Zf) (c:A_),RC S w v1 v2 v3 v4 v5 c->SSP S w v6 ss->(∀b,S b->b<w.heap.size)->BN c=0->ss.length<=20->(∀s∈ss,Fs c.base.length s=0)->
  Calls Lp 47 #[.agg #[v1,v2,v3,v4,v5],v6] w (amN w (acZ ss c)):=by
 induction ss with
 |nil=>
  intro S w v1 v2 v3 v4 v5 v6 c h hs hS Jz hl dl;obtain⟨a1,c1,a2,c2,a3,c3,a4,c4,a5,c5,rfl,rfl,rfl,rfl,rfl,_⟩:=h.vs;obtain⟨a6,c6,rfl,_⟩:=Sl.val hs;obtain⟨X,hX⟩:=Qnm ((w.alloc (.cells (Qe6 c a1 c1 a2 c2 a3 c3 a4 c4 a5 c5) 26)).alloc (.cells #[(),.int .i64 0,.bool true] 101));have Ov:Qb6 w X:=by rw[hX];exact bA (bA (Zh _ _))
  have hK:X.heap[w.heap.size+1]?=some (.cells #[(),.int .i64 0,.bool true] 101 (0,0)):=by rw[hX];have:=Bp (w.alloc (.cells (Qe6 c a1 c1 a2 c2 a3 c3 a4 c4 a5 c5) 26)) (.cells #[(),.int .i64 0,.bool true] 101);rwa[ZB]at this
  go_enter Lp.func109,amh;go_wp2;rw[<-hX];have k0:=ch (i:=0) hK (v:=.slice none 0 0) rfl;have k1:=ch (i:=1) hK (v:=.int .i64 0) rfl;have k2:=ch (i:=2) hK (v:=.bool true) rfl;refine ZN (v:=.agg #[(),.int .i64 0,.bool true]) (by rw[A8 rfl];go_simp) rfl ?_;exact⟨Ov,none,0,rfl,LR.nil _ _⟩
 |cons s r ih=>
  intro S w v1 v2 v3 v4 v5 v6 c h hs hS Jz hl dl;obtain⟨a1,c1,a2,c2,a3,c3,a4,c4,a5,c5,rfl,rfl,rfl,rfl,rfl,_⟩:=h.vs;obtain⟨a6,c6,rfl,l6,m6⟩:=Sl.val hs;have IX:=DJ;have rC:=Zd ih;have mv:=Zd Jz;have rr:=Zd (dl s (zC ..));have rq:=Zd (λx (m:x∈r)=>dl x (zm _ m));have lI:=Zd (show∀W,Qb6 w W->SSP (λx=>x<W.heap.size) W (.slice a6 (s::r).length c6) (s::r) from λW hB=>ad0 hs hS hB);obtain⟨b6,o6,u,ee,Xj,lH,hu⟩:=hs.at_ (i:=0) (Nat.succ_pos _);subst ee;replace hu:SP S w u s:=hu;obtain⟨ua,uc,rfl,_⟩:=hu.val;have us:r.length<=19:=by rw[zb]at hl;omega
  obtain⟨D,gn⟩:∃n,n=(s::r).length:=⟨_,rfl⟩;have lE:D=r.length+1:=gn.trans (zb ..);rw[<-gn]at l6 lI⊢;have td:0<D:=o!
  have t9:D<=c6:=l6;have vb:=Zd lE;clear gn lE hl dl ih hs l6;obtain⟨X1,lD⟩:=Qnm (w.alloc (.cells (Qe6 c a1 c1 a2 c2 a3 c3 a4 c4 a5 c5) 26));obtain⟨X2,Ia⟩:=Qnm (X1.alloc (.cells #[(),.int .i64 0,.bool false] 101));obtain⟨X,hX⟩:=Qnm (X2.alloc (.cells #[(),.int .i64 0,.bool false] 101));have DR:X1=w.heap.size+1:=by rw[lD,ZB]
  have EB:X2=w.heap.size+2:=by rw[Ia,ZB];omega
  have rE:X=w.heap.size+3:=by rw[hX,ZB];omega
  have Bg:Qb6 w X1:=by rw[lD];exact bA (Zh _ _)
  have Bb:Qb6 X1 X2:=by rw[Ia];exact bA (Zh _ _)
  have Bv:Qb6 X2 X:=by rw[hX];exact bA (Zh _ _)
  have Ov:Qb6 w X:=bU (bU Bg Bb) Bv;have hK:X.heap[w.heap.size]?=some (.cells (Qe6 c a1 c1 a2 c2 a3 c3 a4 c4 a5 c5) 26 (0,0)):=(Bv.block _ o!).trans ((Bb.block _ o!).trans (by rw[lD];exact Bp _ _));have hR:X.heap[w.heap.size+1]?=some (.cells #[(),.int .i64 0,.bool false] 101 (0,0)):=(Bv.block _ o!).trans (by rw[Ia, <-DR];exact Bp _ _);have hP:X.heap[w.heap.size+1+1]?=some (.cells #[(),.int .i64 0,.bool false] 101 (0,0)):=by rw[hX,show w+1+1=X2.heap.size by omega];exact Bp _ _
  have sr:((D:Int)==0)=false:=j!
  have i8:=Zd (show(lF c s).foldl (acm c (acZ r)) none=acZ (s::r) c from rfl);obtain⟨C,hC⟩:=Qnm (acZ (s::r) c);rw[<-hC]at i8⊢;clear hC;go_enter Lp.func109,amh;go_wp2;rw[<-lD, <-Ia, <-hX];have lJ:=Zd (show∀W,Qb6 w W->RC (λx=>x<W.heap.size) W (.slice a1 c.base.length c1) (.slice a2 c.Af.length c2) (.slice a3 c.hooks.length c3) (.slice a4 c.Aa.length c4) (.slice a5 c.now.length c5) c from λW hB=>(h.later hB).imp λx m=>Zl (hS x m) hB.size);obtain⟨q,hq⟩:=Qnm w.heap.size;obtain⟨qr,kD⟩:∃q,q=w.heap.size+1:=⟨_,rfl⟩;obtain⟨I,ba⟩:∃q,q=w.heap.size+1+1:=⟨_,rfl⟩;have HK:=Zd (show∀W,B3 I X W->W.heap[q]?=some (.cells (Qe6 c a1 c1 a2 c2 a3 c3 a4 c4 a5 c5) 26 (0,0))/\W.heap[qr]?=some (.cells #[(),.int .i64 0,.bool false] 101 (0,0))/\Qb6 w W from λW hU=>by
   subst hq kD ba;exact⟨(hU.block _ o! o!).trans hK,(hU.block _ o! o!).trans hR,ahL Ov hU o!⟩)
  rw[<-ba, <-kD];rw[<-hq]at hK⊢;rw[<-ba]at hP;have xS:I<X.heap.size/\w<=I:=o!
  clear lD Ia hX Bg Bb Bv hR;have HQ:=Zd (ZY hq (ZY kD ba));clear hq kD ba;have lm:=(Ov.cell (p:=⟨b6,o6,none⟩) (hS b6 Xj)).trans lH;obtain⟨z0,z1,z2,z3,z4⟩:=Qz5 hK;have z5:=λu=>Al u lm;have tn:(0:Int)<(D:Int):=o!
  refine aci (S:=λW=>∃p,W=calm X p) 6 [] (.one 4 (.one 5 .leaf)) [0,1,2,3] k! (λ_ _ d _ _ h=>by cases d<;>exact h) k! (AL (Zh _ _).drew) ?_;refine A4 _ _ k! ?_;simp only[Z6,zd,ZG,ZD,ZC]
  repeat (first|go_big_quiet_step (fail)|quiet_step (fail))
  refine Z4 ?_;clear z0 z1 z2 z3 z4 z5;change acs _ _ _ _ _ _ _ _;have Uh:YH X X X.drew:=(Zh _ _).drew;have Un:=bU Ov Uh;have ct:=Uh.size;have lG:=Zd (amK (h.later Un) (hu.later Un) (A3 hS Un) (A3 hS Un) Jz rr.out);refine acL (f:=62) (args:= #[.agg (Qe6 c a1 c1 a2 c2 a3 c3 a4 c4 a5 c5),.slice ua s.length uc]) rfl rfl g! (lG.out.mono ?_);rintro e X4 ⟨fa,fc,rfl,De,kv⟩;have fw:=bU Uh De;have io:∃p,X4=calm X p:=AL fw;refine .inl ⟨_,rfl,.inr io,?_⟩;refine acK (v:=.slice fa (lF c s).length fc) (w':=X4) rfl rfl g! (.inr io) ?_;unfold acs
  go_simp
  have ka:=(fw.block _ xS.1).trans hP;have sq:=fw.size;have ml:=Zd (λl (hl:l∈lF c s)=>show Tc c l/\Ev c l=true from by
   have h2:=List.mem_filter.1 (List.mem_filter.1 hl).1;exact⟨WV h2.1,h2.2⟩)
  have hv:=EG Jz;have o9:(lF c s).length<=125:=by
   have h1:(lF c s).length<=(EH c).length:=Zr (Zac _ _) (Zac _ _);have h2:(EH c).length<=125:=by rw[<-adv];exact adj hv _
   exact Zr h1 h2
  have mj:=Zd (show LR2 X X X4 (.slice fa (lF c s).length fc) (lF c s) from(kv.lr2.mono ct).base ct);obtain⟨F,hF⟩:=Qnm (lF c s);rw[<-hF]at mj ml i8 o9⊢;clear hF kv lG Uh Un De io hv hK lm hP lH hu Jz;go_wp2;go_loopg [7] F.length (λgg i wr=>∃(k:Nat) (o:Option (List (List Int)×Int)) (pa:Option Addr) (pc:Nat),k<=F.length/\gg=F.length - k/\i=.int .i64 k/\(F.drop k).foldl (acm c (acZ r)) o=C/\(∀p,o=some p->0<=p.2/\p.2<=100)/\wr.heap[I]?=some (.cells #[.slice pa (ade o).length pc,.int .i64 (plN o),.bool o.isSome] 101 (0,0))/\LR2 X X wr (.slice pa (ade o).length pc) (ade o)/\B3 I X4 wr)
  case atStart=>exact⟨0,none,none,0,Zp _,rfl,rfl,i8.out,(λp hp=>by cases hp),ka,LR2.nil _ _ _,B3.refl _ _⟩
  obtain⟨k,o,pa,pc,hk,rfl,rfl,CP,ho,FY,ac,hU⟩:=hrel;have HO:=Zd (ZY CP (ZY ho ac));clear CP ho ac;obtain⟨V,hV⟩:=Qnm wr;subst hV;have jt:B3 I X V:=((B3.refl I X).below fw).trans hU;obtain⟨ap,Z,fI⟩:=HK.out V jt;have mw:=jt.size;by_cases Az:k<F.length
  .have HL:=Zd (ml.out _ (Z3 (BJ Az)))
   have iT:=Zd (eW (g:=acm c (acZ r)) (a:=o) Az);obtain⟨g,cap,e0,tN,lZ,dL,_,_⟩:=(LR2.off mj.out ka ⟨d!,d!⟩ hU).row o!;cases e0;obtain⟨u,lH,hu⟩:=dL k Az;obtain⟨l,hl⟩:=Qnm (BM F k);rw[<-hl]at hu HL iT;clear hl dL;obtain⟨va,vc,rfl,_⟩:=hu.val;have TB:(k:Int)<(F.length:Int):=o!
   have kq:(0:Int)<=(k:Int):=o!
   have hE:Eg c l=0:=by
    have WY:=HL.out.2;unfold Eg Ca;rw[BR (BR mv.out▸iH HL.out.1),if_pos (Option.isNone_iff_eq_none.1 WY)]
   have re:=Zd (show BN (FH c l (DS c l))=0 from aeF hE);have gt:=afa mv.out HL.out.1;have iD:=Zd (show∀W,Qb6 V W->SI (λx=>x<W.heap.size) W (.slice va l.length vc) l from λW hB=>Sl.imp (hu.later hB) (λx m=>by have:=m.1.2;have:=hB.size;show x<W;omega) λ_ _ x=>x);have rg:=Zd hu;have i9:=Zd (λW (hB:Qb6 V W)=>c96 (lJ.out W (bU fI hB)) (iD.out W hB) gt (λx m=>m));have jn:=Zd (λW (hB:Qb6 V W)=>c95 (lJ.out W (bU fI hB)) (iD.out W hB) gt (λx m=>m));obtain⟨d6,jp⟩:∃d6:Option Addr,d6=(if c6=1 then some ⟨b6,o6,none⟩ else some ⟨b6,o6+1,none⟩):=⟨_,rfl⟩;have mt:=Zd jp;clear jp;obtain⟨d,hd⟩:=Qnm (FH c l (DS c l));have no:d.base.length=c.base.length:=by rw[hd];rfl
   have bV:=Zd (λW (hB:Qb6 V W) (u1 u2 u3 u4 u5:Zf) (hR:RC (λx=>x<W.heap.size) W u1 u2 u3 u4 u5 d)=>rC.out (λx=>x<W.heap.size) W u1 u2 u3 u4 u5 (.slice d6 (D - 1) (c6 - 1)) d hR (by rw[mt.out];exact ai9 (lI.out W (bU fI hB))) (λx m=>m) (by rw[hd];exact re.out) o! (by rw[no];exact rq.out));have HD:=Zd hd;obtain⟨Q,nF⟩:=Qnm (acZ r d);rw[<-nF]at bV;obtain⟨pp,qN⟩:=Qnm (AB (DS c l));rw[<-qN]at jn;have mh:=Zd qN;clear qN;have lK:=Zd (show∀p,Q=some p->0<=p.2/\p.2<=3*r.length/\p.1.length=r.length from λp hp=>afb r d p (nF.symm.trans hp));have HG:=Zd (show acZ r (FH c l (DS c l))=Q by rw[<-hd];exact nF.symm);have mx:=hu;clear nF hd hu hE gt mx;obtain⟨z0,z1,z2,z3,z4⟩:=Qz5 ap;have z5:=λu=>Al u lH;have un:(1:Int)<=(D:Int):=o!
   go_wp2;refine aci (S:=λW=>∃p,W=calm V p) 11 [] (.free 7 (.fork 5 (.fork 8 (.one 9 (.one 10 .leaf)) 9 (.one 8 (.one 10 .leaf))) 9 (.one 5 (.one 8 (.one 10 .leaf))))) [0,1,2,3,4,6] k! (λ_ _ d _ _ h=>by cases d<;>exact h) k! (AL (Zh _ _).drew) ?_;refine A4 _ _ k! ?_;simp only[Z6,zd,ZG,ZD,ZC]
   repeat (first|go_big_quiet_step (fail)|quiet_step (fail))
   refine Z4 ?_;clear z0 z1 z2 z3 z4 z5;change acs _ _ _ _ _ _ _ _;have Uh:YH V V V.drew:=(Zh _ _).drew;have ct:=Uh.size;refine acX (v:=(.slice d6 (D - 1) (c6 - 1))) (AL Uh) rfl rfl (λw _=>by rw[mt.out];go_simp) ?_;refine adU ?_ ?_;refine acL (f:=81) (args:= #[.agg (Qe6 c a1 c1 a2 c2 a3 c3 a4 c4 a5 c5),.slice va l.length vc]) rfl rfl g! ((i9.out _ Uh).mono ?_);rintro e W5 ⟨u1,u2,u3,u4,u5,rfl,Cj,H⟩;rw[<-HD.out]at H;have p9:=Cj.size;have B:Qb6 V W5:=bU Uh Cj;have H:=H.imp (T:=λx=>x<W5.heap.size) λx m=>by
    rcases m with m|m
    .have m:x<V.drew:=m;show x<W5;omega
    exact m.2
   refine .inl ⟨_,rfl,.inr (AL B),?_⟩;refine adU ?_ ?_;refine acL (f:=47) (args:= #[.agg #[u1,u2,u3,u4,u5],.slice d6 (D - 1) (c6 - 1)]) rfl rfl g! ((bV.out _ B _ _ _ _ _ H).mono ?_);rintro e W6 ⟨DM,ra,rc,rfl,bi⟩;have my:=DM.size;have M:Qb6 V W6:=bU B DM;refine .inl ⟨_,rfl,.inr (AL M),?_⟩;obtain⟨A,K⟩:=Qnm (W6.alloc (.cells #[(),.int .i64 0,.bool false] 101));have t:Qb6 W6 A:=by rw[K];exact bA (Zh _ _)
   have G:A.heap[W6.heap.size]?=some (.cells #[(),.int .i64 0,.bool false] 101 (0,0)):=by rw[K];exact Bp _ _
   have z:Qb6 V A:=bU M t;have H_:V<=W6.heap.size:=M.size;refine acK (v:=.pointer W6) (w':=A) rfl rfl (by rw[K];go_simp) (.inr (AL z)) ?_;obtain⟨bx,O⟩:=Qnm W6.heap.size;rw[<-O]at G H_⊢;clear O K;have be:LR2 V V A (.slice ra (ade Q).length rc) (ade Q):=((bi.later t).lr2.mono o!).base o!;have fu:=z;obtain⟨Y,hY⟩:=Qnm A;subst hY
   rotate_left
   obtain⟨A,K⟩:=Qnm (W5.alloc (.cells #[(),.int .i64 0,.bool false] 101));have t:Qb6 W5 A:=by rw[K];exact bA (Zh _ _)
   have G:A.heap[W5.heap.size]?=some (.cells #[(),.int .i64 0,.bool false] 101 (0,0)):=by rw[K];exact Bp _ _
   have z:Qb6 V A:=bU B t;have H_:V<=W5.heap.size:=B.size;refine acK (v:=.pointer W5) (w':=A) rfl rfl (by rw[K];go_simp) (.inr (AL z)) ?_;obtain⟨bx,O⟩:=Qnm W5.heap.size;rw[<-O]at G H_⊢;clear O K;have so:=z.size;have n7:=(H.later t).imp (T:=λx=>x<A.heap.size) λx m=>by have m:x<W5:=m;have:=t.size;show x<A;omega
   refine acL (f:=47) (args:= #[.agg #[u1,u2,u3,u4,u5],.slice d6 (D - 1) (c6 - 1)]) rfl rfl g! ((bV.out _ z _ _ _ _ _ n7).mono ?_);rintro e W6 ⟨DM,ra,rc,rfl,bi⟩;have M:Qb6 V W6:=bU z DM;refine .inl ⟨_,rfl,.inr (AL M),?_⟩;have G:=(DM.block _ (Za.1 G).1).trans G;have be:LR2 V V W6 (.slice ra (ade Q).length rc) (ade Q):=(bi.lr2.mono o!).base o!;have fu:=M;obtain⟨Y,hY⟩:=Qnm W6;subst hY
   rotate_left
   obtain⟨A,K⟩:=Qnm (V.drew.alloc (.cells #[(),.int .i64 0,.bool false] 101));have t:YH V.drew V.drew A:=by rw[K];exact bA (Zh _ _)
   have G:A.heap[V.drew.heap.size]?=some (.cells #[(),.int .i64 0,.bool false] 101 (0,0)):=by rw[K];exact Bp _ _
   have z:Qb6 V A:=bU Uh t;have H_:V<=V.drew.heap.size:=ct;refine acK (v:=.pointer V.drew) (w':=A) rfl rfl (by rw[K];go_simp) (.inr (AL z)) ?_;obtain⟨bx,O⟩:=Qnm V.drew.heap.size;rw[<-O]at G H_⊢;clear O K;refine acL (f:=81) (args:= #[.agg (Qe6 c a1 c1 a2 c2 a3 c3 a4 c4 a5 c5),.slice va l.length vc]) rfl rfl g! ((i9.out _ z).mono ?_);rintro e W5 ⟨u1,u2,u3,u4,u5,rfl,Cj,H⟩;rw[<-HD.out]at H;have p9:=Cj.size;have B:Qb6 V W5:=bU z Cj;have H:=H.imp (T:=λx=>x<W5.heap.size) λx m=>by
    rcases m with m|m
    .have m:x<A:=m;show x<W5;omega
    exact m.2
   refine .inl ⟨_,rfl,.inr (AL B),?_⟩;refine acL (f:=47) (args:= #[.agg #[u1,u2,u3,u4,u5],.slice d6 (D - 1) (c6 - 1)]) rfl rfl g! ((bV.out _ B _ _ _ _ _ H).mono ?_);rintro e W6 ⟨DM,ra,rc,rfl,bi⟩;have my:=DM.size;have M:Qb6 V W6:=bU B DM;refine .inl ⟨_,rfl,.inr (AL M),?_⟩;have G:=(DM.block _ (by have:=(Za.1 G).1;omega)).trans ((Cj.block _ (Za.1 G).1).trans G);have be:LR2 V V W6 (.slice ra (ade Q).length rc) (ade Q):=(bi.lr2.mono (by have:=B.size;omega)).base (by have:=B.size;omega);have fu:=M;obtain⟨Y,hY⟩:=Qnm W6;subst hY
   rotate_left
   all_goals
    have g0:=ch (i:=0) G (v:=.slice none 0 0) rfl;have g1:=ch (i:=1) G (v:=.int .i64 0) rfl;have g2:=ch (i:=2) G (v:=.bool false) rfl;have f0:=cf (i:=0) G;have f1:=cf (i:=1) G;have f2:=cf (i:=2) G;obtain⟨rn,gj⟩:=Qnm ((ade Q).length);rw[<-gj]at be⊢;have ut:=Zd gj;clear gj;obtain⟨pn,du⟩:=Qnm (plN Q);have s8:0<=pn/\pn<=60:=by
     rw[du];cases nF:Q with
     |none=>exact⟨d!,d!⟩
     |some p=>have:=lK.out p nF;constructor<;>(show _<=_)<;>(unfold plN;dsimp only)<;>omega
    rw[<-du];have ru:=Zd du;clear du;obtain⟨Y2,rD⟩:=Qnm (((Y.setCell bx (.slice ra rn rc)).setCell ⟨bx,1,none⟩ (.int .i64 pn)).setCell ⟨bx,2,none⟩ (.bool Q.isSome));have D3:B3 bx Y Y2:=by rw[rD];exact(B3.refl bx Y).set.set.set
    have fy:Qb6 V Y2:=by rw[rD];exact bS (bS (bS fu H_) H_) H_
    have Ia:Y2.heap[bx]?=some (.cells #[.slice ra rn rc,.int .i64 pn,.bool Q.isSome] 101 (0,0)):=by rw[rD];exact Ba (Ba (Ba G _) _) _
    refine afr (w':=Y2) rfl rfl (by rw[rD];go_simp) (.inr (AL fy)) ?_;clear rD g0 g1 g2 f0 f1 f2;unfold acs
    go_simp
    have rV:=be.off G ⟨d!,d!⟩ D3;have se:=D3.size;clear be G fu D3;have U:∀ {p:Addr} {v:Zf},V.cell? p=some v->Y2.cell? p=some v:=λh=>(fy.cell (ZH _ _ h)).trans h;have z0:=λu=>Al u (U (ch (i:=0) ap (v:=.slice a1 c.base.length c1) rfl));have z1:=λu=>Al u (U (ch (i:=1) ap (v:=.slice a2 c.Af.length c2) rfl));have z2:=λu=>Al u (U (ch (i:=2) ap (v:=.slice a3 c.hooks.length c3) rfl));have z3:=λu=>Al u (U (ch (i:=3) ap (v:=.slice a4 c.Aa.length c4) rfl));have z4:=λu=>Al u (U (ch (i:=4) ap (v:=.slice a5 c.now.length c5) rfl));have z5:=λu=>Al u (U lH);have z6:=λu=>Al u (ch (i:=1) Ia (v:=.int .i64 pn) rfl);clear U;go_wp2;refine aci (S:=λW=>∃p,W=calm Y2 p) 11 [] (.one 5 (.free 6 (.free 9 (.one 10 .leaf)))) [0,1,2,3,4,7,8] k! (λ_ _ d _ _ h=>by cases d<;>exact h) k! (AL (Zh _ _).drew) ?_;refine A4 _ _ k! ?_;simp only[Z6,zd,ZG,ZD,ZC]
    repeat (first|go_big_quiet_step (fail)|quiet_step (fail))
    refine Z4 ?_;clear z0 z1 z2 z3 z4 z5 z6;change acs _ _ _ _ _ _ _ _;have iX:YH Y2 Y2 Y2.drew:=(Zh _ _).drew;refine acL (f:=82) (args:= #[.agg (Qe6 c a1 c1 a2 c2 a3 c3 a4 c4 a5 c5),.slice va l.length vc]) rfl rfl g! ((jn.out _ (bU fy iX)).mono ?_);rintro e E ⟨v,rfl,Bv,Vr⟩;obtain⟨r1,r2,rfl,_⟩:=Vr.val;have fH:=bU iX Bv;have bv:∃p,E=calm Y2 p:=AL fH;refine .inl ⟨_,rfl,.inr bv,?_⟩;obtain⟨j,Gc⟩:∃j:Int,j=(pp.length:Int):=⟨_,rfl⟩;have lL:=Zd Gc;have tb:0<=j/\j<=3:=by have:(AB (DS c l)).length<=3:=Jo _ 3;rw[<-mh.out]at this;omega
    clear Gc;have hw:IntKind.i64.wrap (j+pn)=j+pn:=by rw[zE];omega
    refine acX (v:=.int .i64 j) bv rfl rfl (λw _=>by rw[lL.out];go_simp) ?_;refine acX (v:=.int .i64 (j+pn)) bv rfl rfl (λw _=>g!) ?_;refine acK (v:=.int .i64 (j+pn)) (w':=E) rfl rfl g! (.inr bv) ?_;unfold acs
    go_simp
    have am:=bU fy fH;have iz:=(fH.block _ (Za.1 Ia).1).trans Ia;have kw:=rV.later fH;have mz:I<V:=(Za.1 FY).1;have bc:=(am.block _ mz).trans FY;have Rb:=am.size;obtain⟨N,hN⟩:=Qnm (j+pn);rw[<-hN];have ow:0<=N/\N<=100:=o!
    have pu:=Zd hN;have ma:=Zd (show j=((AB (DS c l)).length:Int) by rw[lL.out,mh.out]);have i7:=Zd (show(F.drop (k+1)).foldl (acm c (acZ r)) (acm c (acZ r) o l)=C by rw[<-iT.out];exact HO.out.1);have H4:=hU.below am;clear hN Ia rV iX Bv bv Vr hw i9 jn bV;have t2:=ch (i:=2) iz (v:=.bool Q.isSome) rfl;have an:=ch (i:=1) bc (v:=.int .i64 (plN o)) rfl;have j2:=ch (i:=2) bc (v:=.bool o.isSome) rfl;cases Q with
    |none=>
     have qO:=Zd (aii (o:=o) l c (acZ r) HG.out);replace t2:E.cell? ⟨bx,2,none⟩=some (.bool false):=t2;go_wp2;go_roundg (F.length - (k+1))
     case rel=>exact⟨k+1,o,pa,pc,Az,rfl,v!,by have:=i7.out;rwa[qO.out]at this,HO.out.2.1,bc,LR2.later HO.out.2.2 am,H4⟩
     case measure=>omega
    |some p=>
     replace t2:E.cell? ⟨bx,2,none⟩=some (.bool true):=t2;have fJ:=Zd (show N=j+p.2 from pu.out.trans (by rw[ru.out];rfl));by_cases ai:LJ (j+p.2) o=true
     .have qO:=Zd (aif (o:=o) j l p ai c (acZ r) HG.out ma.out)
      have HB:=Zd ai;clear ai;have Xa:p.1.length<=20:=by have:=(lK.out p rfl).2.2;omega
      have rB:=Zd kw;have pi:E.cell? ⟨g,k,none⟩=some (.slice va l.length vc):=(am.cell (ZH _ _ lH)).trans lH;cases o
      case' none=>
       replace j2:E.cell? ⟨I,2,none⟩=some (.bool false):=j2
      case' some qq=>
       replace j2:E.cell? ⟨I,2,none⟩=some (.bool true):=j2;replace an:E.cell? ⟨I,1,none⟩=some (.int .i64 qq.2):=an;have G1:N<qq.2:=by rw[fJ.out];exact of_decide_eq_true HB.out
      all_goals
       have z5:=λu=>Al u pi;have z6:=λu=>Al u (ch (i:=0) iz (v:=.slice ra rn rc) rfl);clear kw;go_wp2;refine aci (S:=λW=>∃p,W=calm E p) 11 [10] (.one 4 (.one 7 (.free 9 (.one 10 .leaf)))) [0,1,2,3,5,6,8] k! (λ_ _ d _ _ h=>by cases d<;>exact h) k! (AL (Zh _ _).drew) ?_;refine A4 _ _ k! ?_;simp only[Z6,zd,ZG,ZD,ZC]
       repeat (first|go_big_quiet_step (fail)|quiet_step (fail))
       refine Z4 ?_;clear z5 z6 t2 an j2;change acs _ _ _ _ _ _ _ _;have i6:YH E E E.drew:=(Zh _ _).drew;have pd:=i6.size;obtain⟨A,K⟩:=Qnm (E.drew.alloc (.cells #[.slice va l.length vc] 22));have t:YH E.drew E.drew A:=by rw[K];exact bA (Zh _ _)
       have fm:=bU i6 t;have Ue:LR2 E.drew X A (.slice E.drew 1 1) [l]:=by
        rw[K];exact LR2.one (Dx (T:=λ_=>False) (Ak.later (bU am i6)) (λ_ _ x=>x) rg.out)
       have rV:LR2 V X A (.slice ra rn rc) p.1:=(LR2.later rB.out fm).base mw;refine acK (v:=.slice E.drew 1 1) (w':=A) rfl rfl (by rw[K];go_simp) (.inr (AL fm)) ?_;refine adu rfl rfl (ad2 (rb:=E.drew) (rb2:=V) (base:=X) (P:=[l]) (R:=p.1) _ _ rfl g! Ue g! rV j! t.size ?_);intro v' W9 fi r_;have Jx:Qb6 E W9:=Bm fm r_ (λy hy=>by cases hy;exact pd) fm.size;refine⟨.inr (AL Jx),?_⟩;obtain⟨ck,ci,rfl,_⟩:=fi.val;obtain⟨fK,iS⟩:∃n,n=([l]++p.1).length:=⟨_,rfl⟩;rw[<-iS]at fi⊢;refine acX (v:=.agg #[.slice ck fK ci,.int .i64 N,.bool true]) (AL Jx) rfl rfl (λw _=>g!) ?_;have J:=(Jx.block _ o!).trans bc;have pt:=ch (i:=0) J rfl;have an:=ch (i:=1) J rfl;have j2:=ch (i:=2) J rfl;have f0:=cf (i:=0) J;have f1:=cf (i:=1) J;have f2:=cf (i:=2) J;obtain⟨Y5,fd⟩:=Qnm (((W9.setCell I (.slice ck fK ci)).setCell ⟨I,1,none⟩ (.int .i64 N)).setCell ⟨I,2,none⟩ (.bool true));have ii:B3 I W9 Y5:=by rw[fd];exact(B3.refl I W9).set.set.set
       have pX:Y5.heap[I]?=some (.cells #[.slice ck fK ci,.int .i64 N,.bool true] 101 (0,0)):=by rw[fd];exact Ba (Ba (Ba J _) _) _
       refine afr (w':=Y5) rfl rfl (by rw[fd];go_simp) (.inl rfl) ?_;have Qs:=Zd (ZY pX (ZY ((LR2.off fi J ⟨d!,d!⟩ ii).mono (show X<=E.drew.heap.size by omega)) ((H4.below Jx).trans ii)));have li:=Zd iS;clear fd pt an j2 f0 f1 f2 ii pX J fi r_ iS Ue rV K t;unfold acs
       go_simp
       go_wp2;go_roundg (F.length - (k+1))
       case rel=>exact⟨k+1,some (l::p.1,j+p.2),ck,ci,Az,rfl,v!,by have:=i7.out;rwa[qO.out]at this,(λp' lR=>by cases lR;rw[<-fJ.out];exact ow),by have:=Qs.out.1;rw[li.out,fJ.out]at this;exact this,by have:=Qs.out.2.1;rw[li.out]at this;exact this,Qs.out.2.2⟩
       omega
     have qO:=Zd (aih (o:=o) j l p ai c (acZ r) HG.out ma.out);cases o with
     |none=>exact absurd rfl ai
     |some qq=>
      replace j2:E.cell? ⟨I,2,none⟩=some (.bool true):=j2;replace an:E.cell? ⟨I,1,none⟩=some (.int .i64 qq.2):=an;have G1:¬N<qq.2:=by rw[fJ.out];exact λh=>ai (decide_eq_true h)
      clear ai;go_wp2;go_roundg (F.length - (k+1))
      case rel=>exact⟨k+1,some qq,pa,pc,Az,rfl,v!,by have:=i7.out;rwa[qO.out]at this,HO.out.2.1,bc,LR2.later HO.out.2.2 am,H4⟩
      omega
  have nm:k=F.length:=o!
  subst nm;have ne:o=C:=by have:=HO.out.1;rwa[List.drop_length]at this
  subst ne;have k0:=ch (i:=0) FY (v:=.slice pa (ade o).length pc) rfl;have k1:=ch (i:=1) FY (v:=.int .i64 (plN o)) rfl;have k2:=ch (i:=2) FY (v:=.bool o.isSome) rfl;have kD:w<=qr:=by have:=HQ.out.2.1;omega
  have r0:=ch (i:=0) Z (v:=.slice none 0 0) rfl;have r1:=ch (i:=1) Z (v:=.int .i64 0) rfl;have r2:=ch (i:=2) Z (v:=.bool false) rfl;have f0:=cf (i:=0) Z;have f1:=cf (i:=1) Z;have f2:=cf (i:=2) Z;obtain⟨Lo,ac⟩:∃L,L=ade o:=⟨_,rfl⟩;obtain⟨No,im⟩:∃n,n=plN o:=⟨_,rfl⟩;obtain⟨pm,ip⟩:∃b,b=o.isSome:=⟨_,rfl⟩;have rx:=Zd (show LR2 X X V (.slice pa Lo.length pc) Lo by rw[ac];exact HO.out.2.2);have HE:=Zd (ZY ac (ZY im ip));rw[<-ac]at k0;rw[<-im]at k1;rw[<-ip]at k2;clear ac im ip;go_wp2;refine ZN (v:=.agg #[.slice pa Lo.length pc,.int .i64 No,.bool pm]) (by rw[A8 rfl];go_simp) rfl ?_;refine⟨bS (bS (bS fI kD) kD) kD,pa,pc,by rw[HE.out.1,HE.out.2.1,HE.out.2.2],?_⟩;rw[<-HE.out.1];exact((LR2.off rx.out Z ⟨d!,d!⟩ (((B3.refl qr V).set).set).set).base o!).mono o!
def c39 {s:List (List (Int×Int))}(h:RC S w v1 v2 v3 v4 v5 c)(hs:SSP S w v6 s)(hS:Ql6 S w)(ig:c.base.length<=1000)(ci:c.Af.length<=1000)(bV:c.hooks.length<=1000)(Xm:c.Aa.length<=1000)(UO:c.now.length<=1000)(xB:∀i,i<c.Aa.length->(Aj c.Aa i).Ap.length<=1000/\(Aj c.Aa i).over.length<=1000)(NK:s.length<=1000):
  Calls Lp 10 #[.agg #[v1,v2,v3,v4,v5],v6] w λe w'=>Qb6 w w'/\∃b,e=.returned (.bool b):=by
 obtain⟨a1,c1,a2,c2,a3,c3,a4,c4,a5,c5,rfl,rfl,rfl,rfl,rfl,l1,m1,l2,m2,l3,m3,l4,m4,l5,m5⟩:=h.vs;obtain⟨a6,c6,rfl,l6,m6⟩:=hs.val;have IX:=DJ;obtain⟨X,hX⟩:=Qnm (w.alloc (.cells (Qe6 c a1 c1 a2 c2 a3 c3 a4 c4 a5 c5) 26));have Bg:Qb6 w X:=by rw[hX];exact bA (Zh _ _)
 have l_:X.heap[w.heap.size]?=some (.cells (Qe6 c a1 c1 a2 c2 a3 c3 a4 c4 a5 c5) 26 (0,0)):=by rw[hX];exact Bp _ _
 go_enter Lp.func39,n39;go_wp2;rw[<-hX];clear hX;have fy:=Zd (λW (U:Qb6 w W)=>aoQ (h.later U) (A3 hS U) ig ci bV Xm UO xB);go_loopg [5,6] s.length (λgg n i R=>∃(k:Nat) (z:Int),k<=s.length/\gg=s.length - k/\n=.int .i64 z/\i=.int .i64 (k:Int)/\Qb6 w R/\R.heap[w.heap.size]?=some (.cells (Qe6 c a1 c1 a2 c2 a3 c3 a4 c4 a5 c5) 26 (0,0)))
 case atStart=>exact⟨0,1,Zp _,rfl,rfl,rfl,Bg,l_⟩
 obtain⟨k,z,hk,rfl,rfl,rfl,hB,hK⟩:=hrel;obtain⟨V,hV⟩:=Qnm wr;subst hV;by_cases Az:k<s.length/\k<3
 .obtain⟨Az,Qm⟩:=Az
  have TB:(k:Int)<(s.length:Int):=o!
  have M8:(k:Int)<3:=o!
  obtain⟨x0,x1,x2,x3,x4⟩:=Qc5 hK;go_wp2_with (go_at_call 11;refine(fy.out _ hB).mono ?_;rintro e Y ⟨w1,w2,w3,w4,w5,rfl,DM,B⟩;have IV:=B.rc;obtain⟨P,K,O,J,N,I,C,r,M,H,rfl,rfl,rfl,rfl,rfl,_⟩:=IV.vs);obtain⟨be,A⟩:=Qnm (Y.alloc (.cells (Qe6 c P K O J N I C r M H) 26));have D:Qb6 Y be:=by rw[A];exact bA (Zh _ _)
  have ba:be.heap[Y.heap.size]?=some (.cells (Qe6 c P K O J N I C r M H) 26 (0,0)):=by rw[A];exact Bp _ _
  have fd:=B.wr.CN (Ak.later (T:=λ_=>False) D) (λ_ _ x=>x);have Jx:=bU hB (bU DM D);have fu:=bU DM D;have bv:=DM.size;have fH:=hB.size;rw[<-A];obtain⟨b9,an⟩:=Qnm Y.heap.size;have fm:b9<=Y.heap.size/\Y<=b9:=o!
  have ai:∀g,(Zy C c.Aa.length r).ownBlock=some g->g≠b9:=λg hg e=>by
   obtain⟨_,cs,hc⟩:=B.row.own g hg;have:=(Za.1 hc).1;omega
  have fw:=Zd ai;rw[<-an]at ba⊢;clear A x0 x1 x2 x3 x4 B IV D DM an bv fm ai;go_wp2;go_loopg [8] c.Aa.length (λgg i R=>∃(j:Nat) (t:List Ay),j<=c.Aa.length/\gg=c.Aa.length - j/\i=.int .i64 (j:Int)/\t.length=c.Aa.length/\Qb6 V R/\CWr V R (.slice P c.base.length K) (.slice O c.Af.length J) (.slice N c.hooks.length I) (.slice C c.Aa.length r) (.slice M c.now.length H) {c with Aa:=t}/\R.heap[b9]?=some (.cells (Qe6 c P K O J N I C r M H) 26 (0,0)))
  case atStart=>exact⟨0,c.Aa,Zp _,rfl,rfl,rfl,fu,fd,ba⟩
  obtain⟨j,t,hj,rfl,rfl,Qh,Qp,q,a⟩:=hrel;have G:=Zd Qh;clear Qh;by_cases lp:j<c.Aa.length
  .have LZ:(j:Int)<(c.Aa.length:Int):=by omega
   have ck:j<t.length:=by have:=G.out;omega
   obtain⟨g,cap,e0,dl⟩:=q.row.ptr (by show 0<t.length;omega);have e:(Zy C c.Aa.length r)=.slice g c.Aa.length cap:=e0.trans (by show Zy _ t.length _=_;rw[G.out]);clear e0;cases e;have r_:=fw.out g rfl;obtain⟨b2,o2,x2,x3,ee,EC,_,_,_,_,mi,_,_⟩:=q.rc.Aa.at_ (i:=j) ck;cases ee;obtain⟨_,gs,ct⟩:=q.row.own g rfl;rw[zN]at mi;have f4:=cf (i:=j*5+4) ct;have d3:=ch (i:=3) a (v:=.slice g c.Aa.length r) rfl;go_wp2;go_roundg (c.Aa.length - (j+1))
   case rel=>exact⟨j+1,ai7 t j 4,lp,rfl,v!,by rw[ad7];exact G.out,bS Qp dl,CWr.amM (m:=c.Aa.length) G.out q lp,(((B3.refl g wr).set (i:=j*5+4) (v:=.int .i64 4)).block b9 (Za.1 a).1 (λe=>r_ e.symm)).trans a⟩
   omega
  have d3:=ch (i:=3) a (v:=.slice C c.Aa.length r) rfl;have ap:RC (λy=>y<wr.heap.size) wr (.slice P c.base.length K) (.slice O c.Af.length J) (.slice N c.hooks.length I) (.slice C c.Aa.length r) (.slice M c.now.length H) {c with Aa:=t}:=q.rc.imp λy hy=>hy.2;obtain⟨b,o,u,rfl,hb,hc,hu⟩:=hs.at_ Az;have E:=bU hB Qp;rw[<-E.cell (p:=⟨b,o+k,none⟩) (hS b hb)]at hc;obtain⟨Z,ER⟩:=Qnm (lz s k);rw[<-ER]at hu;clear ER;obtain⟨a7,c7,rfl,l7,m7⟩:=hu.val;have ac:SP (λy=>y<wr.heap.size) wr (.slice a7 Z.length c7) Z:=Sl.imp (hu.later E) (λy hy=>Zl (hS y hy) E.size) λ_ _ x=>x;have bi:=Zd (λW (U:Qb6 wr W)=>c65 (ap.later U) (ac.later U) (λy hy=>Zl hy U.size));have z0:=λp=>Al p (ch (i:=0) a (v:=.slice P c.base.length K) rfl);have z1:=λp=>Al p (ch (i:=1) a (v:=.slice O c.Af.length J) rfl);have z2:=λp=>Al p (ch (i:=2) a (v:=.slice N c.hooks.length I) rfl);have z3:=λp=>Al p d3;have z4:=λp=>Al p (ch (i:=4) a (v:=.slice M c.now.length H) rfl);have z5:=λp=>Al p hc;have Uh:YH wr wr wr.drew:=(Zh _ _).drew;go_wp2;refine aci (S:=λW=>∃p,W=calm wr p) 11 [] (.one 5 (.free 6 (.free 7 (.free 8 (.one 9 (.one 10 .leaf)))))) [0,1,2,3,4] k! (λ_ _ d _ _ h=>by cases d<;>exact h) k! (AL (Zh _ _).drew) ?_;refine A4 _ _ k! ?_;simp only[Z6,zd,ZG,ZD,ZC]
  repeat (first|go_big_quiet_step (fail)|quiet_step (fail))
  refine Z4 ?_;clear z0 z1 z2 z3 z4 z5;change acs _ _ _ _ _ _ _ _;refine acL (f:=35) (args:= #[.agg (Qe6 c P K O J N I C r M H),.slice a7 Z.length c7]) rfl rfl g! ((bi.out _ Uh).mono ?_);rintro e YB ⟨a8,c8,rfl,bc,_⟩;obtain⟨L,hL⟩:=Qnm (ajq {c with Aa:=t} Z);obtain⟨Q,am⟩:=Qnm (ahj {c with Aa:=t} Z);rw[<-hL, <-am];clear hL am;have F:=bU Uh bc;have l:∃p,YB=calm wr p:=AL F;refine .inl ⟨_,rfl,.inr l,?_⟩;refine acX (v:=.tuple #[.slice a8 L.length c8,.int .i64 Q]) l rfl rfl (λw _=>g!) ?_;refine acX (v:=.slice a8 L.length c8) l rfl rfl (λw _=>g!) ?_;refine acX (v:=.int .i64 Q) l rfl rfl (λw _=>g!) ?_;refine acK (v:=.slice a8 L.length c8) (w':=YB) rfl rfl g! (.inr l) ?_;refine acK (v:=.int .i64 Q) (w':=YB) rfl rfl g! (.inr l) ?_;unfold acs
  go_simp
  have fi:=bU E F;have du:=((bU Qp F).block _ (Za.1 hK).1).trans hK;clear ap ac bi bc F l q a d3;go_wp2;go_roundg (s.length - (k+1))
  case rel=>exact⟨k+1,_,Az,rfl,rfl,v!,fi,du⟩
  omega
 have M8:¬((k:Int)<(s.length:Int)/\(k:Int)<3):=o!
 go_wp2
 all_goals
  go_ret;exact⟨hB,_,rfl⟩
def ahu (w:Zb)(P:List (List Int))(n x:Int)(e:Ending)(w':Zb):Prop:=Qb6 w w'/\∃a k,e=.returned (.tuple #[.slice a P.length k,.int .i64 n,.int .i64 x])/\SL (Cb w w') w' (.slice a P.length k) P
def ahP {n m:Int}{a:Option Addr}(f:P=Q)(e:n=m)(d:x=y)(c:Qb6 w w')(b:SL (Cb w w') w' (.slice a Q.length k) Q):ahu w P n x (.returned (.tuple #[.slice a Q.length k,.int .i64 m,.int .i64 y])) w':=by
 rw[f,e,d];exact⟨c,a,k,rfl,b⟩
def adw {n:Int}(d:P=[])(c:n=0)(b:x=y)(a:Qb6 w w'):ahu w P n x (.returned (.tuple #[(),.int .i64 0,.int .i64 y])) w':=
 ahP (Q:=[]) d c b a aeI
def aju {a:List (List (Int×Int))}{z:Int}(h:acQ c a=z)(d:z≠0):adP c a=[]/\adN c a=0/\adO c a=z:=by
 have b:¬acQ c a=0:=by rw[h];exact d
 exact⟨if_neg b,if_neg b,(if_neg b).trans h⟩
def ajv (b:BN c=0):kU c c:=
 have a:=EG b
 ⟨rfl,rfl,rfl,rfl,a.uy,λi hi=>a.left i hi,λ_ _=>⟨rfl,rfl,rfl,rfl⟩⟩
def aka {a:List (List (Int×Int))}(h:acQ c a=0)(d:BN c=0):adP c a=ade (acZ a c)/\adN c a=plN (acZ a c)/\adO c a=(if(acZ a c).isSome=true then 0 else 11):=by
 have b:acZ a c=qU c a:=ahK a (ajv d) d;refine⟨(if_pos h).trans ?_,(if_pos h).trans ?_,(if_pos h).trans ?_⟩
 .unfold qV;rw[b];cases qU c a<;>rfl
 .unfold qW;rw[b];cases qU c a<;>rfl
 unfold qX;rw[b];cases qU c a<;>rfl
def c42 {a:List (List (Int×Int))}(h:RC S w v1 v2 v3 v4 v5 c)(hs:SSP S w v6 a)(hS:Ql6 S w):
  Calls Lp 14 #[.agg #[v1,v2,v3,v4,v5],v6] w (ahu w (adP c a) (adN c a) (adO c a)):=by
 obtain⟨a1,c1,a2,c2,a3,c3,a4,c4,a5,c5,rfl,rfl,rfl,rfl,rfl,l1,m1,l2,m2,l3,m3,l4,m4,l5,m5⟩:=h.vs;obtain⟨a6,c6,rfl,l6,m6⟩:=hs.val;have IX:=DJ;obtain⟨X,hX⟩:=Qnm (w.alloc (.cells (Qe6 c a1 c1 a2 c2 a3 c3 a4 c4 a5 c5) 26));have Ov:Qb6 w X:=by rw[hX];exact bA (Zh _ _)
 have hK:X.heap[w.heap.size]?=some (.cells (Qe6 c a1 c1 a2 c2 a3 c3 a4 c4 a5 c5) 26 (0,0)):=by rw[hX];exact Bp _ _
 have fI:X=w.heap.size+1:=by rw[hX,ZB]
 have ck:=Zd (c50 (h.later Ov) (A3 hS Ov));have I:=Zd (show∀W,Qb6 w W->RC S W (.slice a1 c.base.length c1) (.slice a2 c.Af.length c2) (.slice a3 c.hooks.length c3) (.slice a4 c.Aa.length c4) (.slice a5 c.now.length c5) c/\SSP S W (.slice a6 a.length c6) a/\∀b,S b->b<W.heap.size from λW hB=>⟨h.later hB,aeG hs hB,A3 hS hB⟩);obtain⟨J,Fl⟩:∃z,z=BN c:=⟨_,rfl⟩;obtain⟨x,DR⟩:∃z,z=Di a.length 3:=⟨_,rfl⟩;have HE:=Zd (show acQ c a=PM J (PM x (Bc (Fs c.base.length) a)) by rw[Fl,DR];rfl);have bV:=Zd Fl;have fu:=Zd DR;rw[<-Fl]at ck;have fi:=Zd (show∀W,Calls Lp 45 #[.int .i64 a.length,.int .i64 3] W λe w'=>e=.returned (.int .i64 x)/\w'=W from λW=>by rw[DR];exact ajV (a.length:Int) 3 W);clear Fl DR;obtain⟨H,B⟩:∃r,r=adP c a:=⟨_,rfl⟩;obtain⟨G,C⟩:∃r,r=adN c a:=⟨_,rfl⟩;obtain⟨F,A⟩:∃r,r=adO c a:=⟨_,rfl⟩;have R:=Zd (show∀z,acQ c a=z->z≠0->H=[]/\G=0/\F=z by rw[B,C,A];exact λz h1 h2=>aju h1 h2);have fH:=Zd (show acQ c a=0->BN c=0->H=ade (acZ a c)/\G=plN (acZ a c)/\F=(if(acZ a c).isSome=true then 0 else 11) by rw[B,C,A];exact aka);rw[<-B, <-C, <-A];clear B C A;go_enter Lp.func42,n42;go_wp2;rw[<-hX];clear hX;refine ck.out.mono ?_;rintro e W1 ⟨rfl,Bg⟩;have E:=bU Ov Bg;by_cases h0:J=0
 case neg=>
  have O:(J !=0)=true:=by simpa using h0
  have m:=Zd (R.out J (HE.out.trans (K4 h0)) h0);go_wp2
  go_ret3
  exact adw m.out.1 m.out.2.1 m.out.2.2 E
 subst h0;have ci:=Zd (show acQ c a=PM x (Bc (Fs c.base.length) a) from HE.out.trans (BR rfl));go_wp2;refine(fi.out _).mono ?_;rintro e fJ ⟨rfl,hw⟩;have hw:=hw.symm;subst hw;by_cases h1:x=0
 case neg=>
  have O:(x !=0)=true:=by simpa using h1
  have m:=Zd (R.out x (ci.out.trans (K4 h1)) h1);go_wp2
  go_ret3
  exact adw m.out.1 m.out.2.1 m.out.2.2 E
 subst h1;have um:=Zd (show Bc (Fs c.base.length) a=acQ c a from(ci.out.trans (BR rfl)).symm);have l_:=(Bg.block _ o!).trans hK;obtain⟨q,O⟩:=Qnm w.heap.size;rw[<-O]at l_;have HQ:=Zd O;go_wp2;rw[<-O];clear O;go_loopg [9] a.length (λg i wr=>∃k:Nat,k<=a.length/\g=a.length - k/\i=.int .i64 k/\Bc (Fs c.base.length) (a.drop k)=acQ c a/\(∀j,j<k->Fs c.base.length (lz a j)=0)/\Qb6 W1 wr)
 case atStart=>exact⟨0,Zp _,rfl,rfl,um.out,λj hj=>absurd hj o!,Zh _ _⟩
 obtain⟨k,hk,rfl,rfl,hf,ai,Jp⟩:=hrel;have HF:=Zd (ZY hf ai);clear hf ai;obtain⟨V,hV⟩:=Qnm wr;subst hV;have n:=bU E Jp;have ba:=(Jp.block _ (by rw[HQ.out];have:=Bg.size;omega)).trans l_;by_cases Az:k<a.length
 .obtain⟨b,o,u,ea,hb,lH,hu⟩:=(I.out V n).2.1.at_ Az
  cases ea;have HD:=Zd (E_ (f:=Fs c.base.length) (Oj Az));obtain⟨s0,ER⟩:=Qnm (lz a k);rw[<-ER]at hu HD;have fy:=Zd ER;clear ER;obtain⟨a7,c7,rfl,l7,m7⟩:=hu.val;obtain⟨y,M⟩:=Qnm (Fs c.base.length s0);have U:=Zd (show∀W,Qb6 V W->Calls Lp 46 #[.agg #[.slice a1 c.base.length c1,.slice a2 c.Af.length c2,.slice a3 c.hooks.length c3,.slice a4 c.Aa.length c4,.slice a5 c.now.length c5],.slice a7 s0.length c7] W λe w'=>e=.returned (.int .i64 y)/\Qb6 W w' from λW hW=>by
   rw[M];exact amI (I.out W (bU n hW)).1 (hu.later hW) (I.out W (bU n hW)).2.2)
  rw[<-M]at HD;have HY:=Zd M;have TB:(k:Int)<(a.length:Int):=o!
  have kq:(0:Int)<=(k:Int):=o!
  obtain⟨J,x,z2,z3,z4⟩:=Qz5 ba;have z5:=λu=>Al u lH;clear hu M lH;go_wp2;refine Av k! k! ?_
  repeat (first|go_big_quiet_step ((go_at_call 46;with_reducible exact AV (U.out _ (AE _ _))))|quiet_step ((go_at_call 46;with_reducible exact AV (U.out _ (AE _ _)))))
  refine Z4 ?_;rintro _ ⟨p,rfl⟩;have yw:=AE V p;obtain⟨YE,t⟩:=Qnm (calm V p);rw[<-t]at yw⊢;clear t J x z2 z3 z4 z5 U;have bc:=bU Jp yw;by_cases mC:y=0
  .subst mC
   go_wp2;go_roundg (a.length - (k+1))
   case rel=>exact⟨k+1,o!,rfl,v!,by rw[<-HF.out.1,HD.out];exact(if_pos trivial).symm,(λj hj=>by
    by_cases e:j=k
    .rw[e, <-fy.out];exact HY.out.symm
    exact HF.out.2 j o!),bc⟩
   omega
  have O:(y !=0)=true:=by simpa using mC
  have m:=Zd (R.out y (by rw[<-HF.out.1,HD.out];exact if_neg mC) mC);go_wp2
  go_ret3
  exact adw m.out.1 m.out.2.1 m.out.2.2 (bU E bc)
 have ct:k=a.length:=o!
 have fd:=Zd (show acQ c a=0 by rw[<-HF.out.1,ct];exact FZ (Zj _));have du:=Zd (show∀s∈a,Fs c.base.length s=0 from λs hm=>by
  obtain⟨j,hj,e⟩:=List.mem_iff_getElem.1 hm;have:=HF.out.2 j o!;rwa[show lz a j=s from by have:=Oj hj;rw[zf hj]at this;exact(ZW this).symm.trans e]at this)
 obtain⟨an,gF,am⟩:=I.out V n;have be:a.length<=20:=by have:=JQ fu.out.symm;omega
 obtain⟨o,ho⟩:=Qnm (acZ a c);have ac:=Zd (ar5 a S V _ _ _ _ _ _ c an gF am bV.out.symm be du.out);have m:=Zd (fH.out fd.out bV.out.symm);rw[<-ho]at ac m;clear ho an gF am be;obtain⟨k0,k1,k2,k3,k4⟩:=Qc5 ba;go_wp2;refine ac.out.mono ?_;rintro e Y ⟨dl,L,K,rfl,xU⟩;have bi:=bU n dl;have P:=LR.sl xU;clear k0 k1 k2 k3 k4 xU ac;cases o with
 |none=>
  have l:=Zd (show H=[]/\G=0/\F=11 from m.out);go_wp2
  go_ret3
  exact adw l.out.1 l.out.2.1 l.out.2.2 (bA bi)
 |some p=>
  have l:=Zd (show H=p.1/\G=p.2/\F=0 from m.out);replace P:SL (Cb V Y) Y (.slice L p.1.length K) p.1:=P;have Jx:YH w w (Y.alloc (.cells #[.slice L (ade (some p)).length K,.int .i64 (plN (some p)),.bool true] 101)):=bA bi;have Q:YH Y Y (Y.alloc (.cells #[.slice L (ade (some p)).length K,.int .i64 (plN (some p)),.bool true] 101)):=bA (Zh _ _);have d:(Y.alloc (.cells #[.slice L (ade (some p)).length K,.int .i64 (plN (some p)),.bool true] 101)).heap[Y.heap.size]?=some (.cells #[.slice L (ade (some p)).length K,.int .i64 (plN (some p)),.bool true] 101 (0,0)):=Bp _ _;go_wp2;obtain⟨Z,hZ⟩:=Qnm (Y.alloc (.cells #[.slice L (ade (some p)).length K,.int .i64 (plN (some p)),.bool true] 101));rw[<-hZ]at Jx Q d;rw[<-hZ];clear hZ;obtain⟨fm,N⟩:=Qnm Y.heap.size;rw[<-N]at d;rw[<-N];clear N;replace d:Z.heap[fm]?=some (.cells #[.slice L p.1.length K,.int .i64 p.2,.bool true] 101 (0,0)):=d;have J:=λu=>Al u (ch (i:=0) d (v:=.slice L p.1.length K) rfl);have x:=λu=>Al u (ch (i:=1) d (v:=.int .i64 p.2) rfl);refine Av k! k! ?_
  repeat (first|go_big_quiet_step (fail)|quiet_step (fail))
  refine Z4 ?_;rintro _ ⟨bv,rfl⟩;have D:=AE Z bv;obtain⟨YE,t⟩:=Qnm (calm Z bv);rw[<-t]at D⊢;have O5:=bU Jx D;have ap:=SL.imp (T:=Cb w YE) ((P.later Q).later D) (λy M=>⟨by have:=M.1;have:=n.size;omega,by have:=M.2;have:=Q.size;have:=D.size;omega⟩);have fw:=Zd ap;clear t J x d ap;go_wp2
  go_ret3
  exact ahP l.out.1 l.out.2.1 l.out.2.2 O5 fw.out
def Dis (u v:Zf):Prop:=∀g,u.ownBlock=some g->v.ownBlock=some g->False
def aeO {base:Nat}(h:A.ownsRow base e k v n xs):∀g,v.ownBlock=some g->g<A.heap.size:=λg a=>by
 obtain⟨_,cs,h⟩:=J3 h g a;exact(Za.1 h).1
def afi {base n' k':Nat}{e':Zs}{a:List Zf}(h:A.ownsRow base e k v n xs)(c:B.ownsRow A e' k' v' n' a):Dis v v':=λg b d=>by
 have i:=aeO h g b;have f:=(J3 c g d).1;omega
def acv {base:Nat}(h:A.ownsRow base e k v n xs)(d:Ak (λx=>x=q) A B)(b:A.heap[q]?=some (.cells cs t (0,0)))(c:e≠t):B.ownsRow base e k v n xs:=
 Fc h d λx g a f=>by
  subst f;rw[b]at a;cases a;exact c rfl
def adY {base:Nat}(h:A.ownsRow base e k v n xs)(d:Ak (λx=>u.ownBlock=some x) A B)(a:∀g,u.ownBlock=some g->∃cs,A.heap[g]?=some (.cells cs 50 (0,0)))(c:e≠50):B.ownsRow base e k v n xs:=
 Fc h d λx i b f=>by
  obtain⟨cs,a⟩:=a x f;rw[a]at b;cases b;exact c rfl
def ad1 {base:Nat}(h:A.ownsRow base e k v n xs)(b:adx<=base):A.ownsRow adx e k v n xs:=by
 refine⟨h.1,?_⟩;rcases h.2 with a|⟨g,cap,cur,a,d,c⟩
 .exact .inl a
 exact .inr ⟨g,cap,cur,a,Zr b d,c⟩
structure CSp (n M:Nat)(w:Zb)(u1 u2 u3 u4 u5:Zf)(c:A_):Prop where
 base:Own w n u1 c.base
 Af:Ih w n u2 c.Af 69
 hooks:Own w n u3 c.hooks
 now:Own w n u5 c.now
 row:En M w M u4 c.Aa
 le:n<=M
 l1:∀g,u1.ownBlock=some g->g<M
 l2:∀g,u2.ownBlock=some g->g<M
 l3:∀g,u3.ownBlock=some g->g<M
 l5:∀g,u5.ownBlock=some g->g<M
 d13:Dis u1 u3
 d15:Dis u1 u5
 d35:Dis u3 u5
def ahR (w:Zb)(c:A_)(e:Ending)(w':Zb):Prop:=∃u1 u2 u3 u4 u5 M,e=.returned (.agg #[u1,u2,u3,u4,u5])/\Qb6 w w'/\CSp w M w' u1 u2 u3 u4 u5 c
def ahw {l:List (Int×Int)}(a:news.length=l.length*2)(h:∀i x,l[i]?=some x->(news.drop (i*2)).take 2=[.int .i64 x.1,.int .i64 x.2]):news=l.flatMap λp=> [ZL .i64 p.1,.int .i64 p.2]:=by
 induction l generalizing news with
 |nil=>exact YM (by simpa using a)
 |cons p l c=>
  have b:=h 0 p rfl;rw[Nat.zero_mul,List.drop_zero]at b;rw[List.flatMap_cons, <-b, <-c (news:=news.drop 2) (by rw[List.length_drop,a,zb];omega) λi x d=>by
   rw[List.drop_drop,show 2+i*2=(i+1)*2 by omega];exact h (i+1) x (by simpa using d)]
  exact(List.take_append_drop 2 news).symm
def aro {l:List (Int×Int)}(h:Sl S Rp 2 w v l)(m:l.length<=1000):Calls Lp 12 #[v] w λe w'=>∃u,e=.returned u/\Qb6 w w'/\Ih w' w u l 69:=by
 obtain⟨a,c,rfl,L,K⟩:=h.val;obtain⟨s,hi,H,J,I⟩:=zp Wu;have t:=Cz Zdg;cases a with
 |none=>
  have y:l=[]:=by
   cases l with
   |nil=>rfl
   |cons x r=>
    obtain⟨N,M,i,_,_,C⟩:=h;cases i;obtain⟨b,o,cs,e,_⟩:=C 0 x rfl;cases e
  subst y;go_enter Lp.func40,n40;go_wp2;go_ret;exact⟨_,rfl,bA (Zh _ _),YC w #[] 0 (Zj _) (Zp _) rfl⟩
 |some p=>
  obtain⟨news,f,g,n⟩:=Sl.row h d! p rfl;have i:=row_one d! f g bC;have F:=Zd n;have D:=Zd g;clear n g;go_enter Lp.func40,n40;go_wp2_with (at_builtin;refine Yc _ rfl _ _ 23 rfl w 69 s (.agg #[.int .i64 0,.int .i64 0]) 2 16 t (Dz hi) H J I rfl d! _ 0 [] rfl (YC w #[] 0 (Zj _) (Zp _) rfl) p l.length c news rfl f (λj u A=>ca (F.out j u A) _) i u! o! i! ?_;intro v' w1 d q G);have B:Qb6 w w1:=Bm (bA (Zh _ _)) q (λk z=>by cases z;exact Zj _) i!;rw[zN,zP]at d;rw[ahw f D.out]at d;have E:=Zd d;clear d q G;go_ret;exact⟨_,rfl,B,E.out⟩
structure CRs (w:Zb)(n0 M q:Nat)(xs:Array Zf)(s1 s2 s3 s5:Zf)(c:A_)(k:Nat)(v4:Zf)(wr:Zb):Prop where
 below:Qb6 w wr
 box:wr.heap[w.heap.size]?=some (.cells xs 26 (0,0))
 res:wr.heap[w.heap.size+1]?=some (.cells Qz6 26 (0,0))
 qx:wr.heap[q]?=some (.cells #[s1,s2,s3,v4,s5] 26 (0,0))
 base:Own wr n0 s1 c.base
 Af:Ih wr n0 s2 c.Af 69
 hooks:Own wr n0 s3 c.hooks
 now:Own wr n0 s5 c.now
 row:En M wr M v4 (c.Aa.take k)
 z:M<=wr.heap.size
def arq (h:RC S w v1 v2 v3 v4 v5 c)(hS:Ql6 S w)(ig:c.base.length<=1000)(bi:c.Af.length<=1000)(be:c.hooks.length<=1000)(Xm:c.Aa.length<=1000)(UO:c.now.length<=1000)(xB:∀i,i<c.Aa.length->(Aj c.Aa i).Ap.length<=1000/\(Aj c.Aa i).over.length<=1000):
  Calls Lp 11 #[.agg #[v1,v2,v3,v4,v5]] w (ahR w c):=by
 obtain⟨a1,c1,a2,c2,a3,c3,a4,c4,a5,c5,rfl,rfl,rfl,rfl,rfl,l1,m1,l2,m2,l3,m3,l4,m4,l5,m5⟩:=h.vs;have IX:=DJ;go_enter Lp.func33,n33;go_wp2;obtain⟨C,Hv⟩:=Qnm ((w.alloc (.cells (Qe6 c a1 c1 a2 c2 a3 c3 a4 c4 a5 c5) 26)).alloc (.cells Qz6 26));have Z:Qb6 w C:=by rw[Hv];exact bA (bA (Zh _ _))
 have F1:C.heap[w.heap.size]?=some (.cells (Qe6 c a1 c1 a2 c2 a3 c3 a4 c4 a5 c5) 26 (0,0)):=by rw[Hv];exact Bf (Bp _ _) _
 have O9:C.heap[w.heap.size+1]?=some (.cells Qz6 26 (0,0)):=by rw[Hv];exact Jq _ _ _
 rw[<-Hv];clear Hv;have bc:w+1<C.heap.size:=(Za.1 O9).1;refine Code.wp_mono (Q:=λe a' V=>e=.normal/\∃(q:Nat) (H J G F:Option Addr) (d1 d2 d3 I:Nat) (x5 x6 x7 x8 x9 jX Qj ai MH Lx Ly K0 K1:Zf),a'= {tmps:= #[.agg #[.slice a1 c.base.length c1,.slice a2 c.Af.length c2,.slice a3 c.hooks.length c3,.slice a4 c.Aa.length c4,.slice a5 c.now.length c5],.pointer w,.pointer (w+1:Nat),.pointer q,Ze,x5,x6,x7,x8,x9,jX,Qj,ai,MH,Lx,Ly,K0,K1,Ze,Ze,Ze,Ze,Ze,Ze,Ze,Ze,Ze,Ze,Ze,Ze,Ze,Ze,Ze,Ze,Ze,Ze,Ze],defers:=[]}/\w+1<q/\Qb6 C V/\V.heap[q]?=some (.cells #[.slice H c.base.length d1,.slice J c.Af.length d2,.slice G c.hooks.length d3,(),.slice F c.now.length I] 26 (0,0))/\Own V C (.slice H c.base.length d1) c.base/\Ih V C (.slice J c.Af.length d2) c.Af 69/\Own V C (.slice G c.hooks.length d3) c.hooks/\Own V C (.slice F c.now.length I) c.now/\Dis (.slice H c.base.length d1) (.slice G c.hooks.length d3)/\Dis (.slice H c.base.length d1) (.slice F c.now.length I)/\Dis (.slice G c.hooks.length d3) (.slice F c.now.length I)) ?rest ?first
 case first=>
  have z0:=λp=>Al p (ch (i:=0) F1 (v:=.slice a1 c.base.length c1) rfl);have z1:=λp=>Al p (ch (i:=1) F1 (v:=.slice a2 c.Af.length c2) rfl);have z2:=λp=>Al p (ch (i:=2) F1 (v:=.slice a3 c.hooks.length c3) rfl);have z4:=λp=>Al p (ch (i:=4) F1 (v:=.slice a5 c.now.length c5) rfl);refine G6 (S:=λW=>∃p,W=calm C p) [0,1,3,4,6,7,9,10] 7 #[true,true,false,true,true,false,true,true,false,true,true,false,false,false,false] k! (λ_ _ _ _ _ h=>nomatch h.1) k! (AL (Zh _ _).drew) ?_;refine A4 _ _ k! ?_;simp only[Z6,zd,ZG,ZD,ZC]
  repeat (first|go_big_quiet_step (fail)|quiet_step (fail))
  refine Z4 ?_;clear z0 z1 z2 z4;change Cy _ _ _ _ _ _ _ _ _;obtain⟨V,hV⟩:=Qnm C.drew;have b:Qb6 C V:=by rw[hV];exact(Zh _ _).drew
  rw[<-hV];clear hV;have l:=Yz;have r:=Yz;have y:=Yz;have s:=Yz;have t:=Yz;refine AK [2,13] k! i! (Ix ?gA2 ?gB2)
  case' gB2=>
   refine EX (v:=.pointer V) (w':=V.alloc (.cells Qz6 26)) rfl rfl g! ?_;obtain⟨o,m⟩:=Qnm (V.alloc (.cells Qz6 26));have a:Qb6 V o:=by rw[m];exact bA (Zh _ _)
   have l:o.heap[V.heap.size]?=some (.cells Qz6 26 (0,0)):=by rw[m];exact Bp _ _
   have E:=b.size;obtain⟨q,B⟩:=Qnm V.heap.size;rw[<-B]at l E
   try (have r:=Fu r a)
   try (have y:=Fu y a)
   try (have s:=Fu s a)
   try (have t:=Fu t a)
   have b:=b.trans (a.mono b.size);rw[<-m, <-B];refine⟨AL b,?_⟩;clear a B m;obtain⟨V,R⟩:∃Y,Y=o:=⟨_,rfl⟩;subst R;refine AK [2] k! i! (BF ?_)
  all_goals
   refine DK (f:=27) (args:= #[.slice a1 c.base.length c1]) rfl rfl g! ((WO (h.later (Z.trans (b.mono Z.size))).base ig).mono ?_);rintro e V ⟨u,rfl,a,z⟩;have r:=ad1 z b.size;obtain⟨H,d1,rfl,_,_⟩:=JS z;clear z
   try (have l:=(a.block _ (Za.1 l).1).trans l)
   try (have y:=Fu y a)
   try (have s:=Fu s a)
   try (have t:=Fu t a)
   have b:=b.trans (a.mono b.size);refine .inl ⟨_,rfl,AL b,?_⟩;clear a
  all_goals first
   |(have kL:=Za.1 l;clear kL;refine AK [5] k! i! (BF ?_))
   |(refine AK [5,13] k! i! (Ix ?gA5 ?gB5)
     case' gB5=>
      refine EX (v:=.pointer V) (w':=V.alloc (.cells Qz6 26)) rfl rfl g! ?_;obtain⟨o,m⟩:=Qnm (V.alloc (.cells Qz6 26));have a:Qb6 V o:=by rw[m];exact bA (Zh _ _)
      have l:o.heap[V.heap.size]?=some (.cells Qz6 26 (0,0)):=by rw[m];exact Bp _ _
      have E:=b.size;obtain⟨q,B⟩:=Qnm V.heap.size;rw[<-B]at l E
      try (have r:=Fu r a)
      try (have y:=Fu y a)
      try (have s:=Fu s a)
      try (have t:=Fu t a)
      have b:=b.trans (a.mono b.size);rw[<-m, <-B];refine⟨AL b,?_⟩;clear a B m;obtain⟨V,R⟩:∃Y,Y=o:=⟨_,rfl⟩;subst R;refine AK [5] k! i! (BF ?_))
  all_goals
   refine DK (f:=12) (args:= #[.slice a2 c.Af.length c2]) rfl rfl g! ((aro (h.later (Z.trans (b.mono Z.size))).Af bi).mono ?_);rintro e V ⟨u,rfl,a,z⟩;have y:=ad1 z b.size;obtain⟨J,d2,rfl,_,_⟩:=JS z;clear z
   try (have l:=(a.block _ (Za.1 l).1).trans l)
   try (have r:=Fu r a)
   try (have s:=Fu s a)
   try (have t:=Fu t a)
   have b:=b.trans (a.mono b.size);refine .inl ⟨_,rfl,AL b,?_⟩;clear a
  all_goals first
   |(have kL:=Za.1 l;clear kL;refine AK [8] k! i! (BF ?_))
   |(refine AK [8,13] k! i! (Ix ?gA8 ?gB8)
     case' gB8=>
      refine EX (v:=.pointer V) (w':=V.alloc (.cells Qz6 26)) rfl rfl g! ?_;obtain⟨o,m⟩:=Qnm (V.alloc (.cells Qz6 26));have a:Qb6 V o:=by rw[m];exact bA (Zh _ _)
      have l:o.heap[V.heap.size]?=some (.cells Qz6 26 (0,0)):=by rw[m];exact Bp _ _
      have E:=b.size;obtain⟨q,B⟩:=Qnm V.heap.size;rw[<-B]at l E
      try (have r:=Fu r a)
      try (have y:=Fu y a)
      try (have s:=Fu s a)
      try (have t:=Fu t a)
      have b:=b.trans (a.mono b.size);rw[<-m, <-B];refine⟨AL b,?_⟩;clear a B m;obtain⟨V,R⟩:∃Y,Y=o:=⟨_,rfl⟩;subst R;refine AK [8] k! i! (BF ?_))
  all_goals
   refine DK (f:=27) (args:= #[.slice a3 c.hooks.length c3]) rfl rfl g! ((WO (h.later (Z.trans (b.mono Z.size))).hooks be).mono ?_);rintro e V ⟨u,rfl,a,z⟩;have s:=ad1 z b.size;obtain⟨G,d3,rfl,_,_⟩:=JS z;have P:=afi r z;clear z
   try (have l:=(a.block _ (Za.1 l).1).trans l)
   try (have r:=Fu r a)
   try (have y:=Fu y a)
   try (have t:=Fu t a)
   have b:=b.trans (a.mono b.size);refine .inl ⟨_,rfl,AL b,?_⟩;clear a
  all_goals first
   |(have kL:=Za.1 l;clear kL;refine AK [11] k! i! (BF ?_))
   |(refine AK [11,13] k! i! (Ix ?gA11 ?gB11)
     case' gB11=>
      refine EX (v:=.pointer V) (w':=V.alloc (.cells Qz6 26)) rfl rfl g! ?_;obtain⟨o,m⟩:=Qnm (V.alloc (.cells Qz6 26));have a:Qb6 V o:=by rw[m];exact bA (Zh _ _)
      have l:o.heap[V.heap.size]?=some (.cells Qz6 26 (0,0)):=by rw[m];exact Bp _ _
      have E:=b.size;obtain⟨q,B⟩:=Qnm V.heap.size;rw[<-B]at l E
      try (have r:=Fu r a)
      try (have y:=Fu y a)
      try (have s:=Fu s a)
      try (have t:=Fu t a)
      have b:=b.trans (a.mono b.size);rw[<-m, <-B];refine⟨AL b,?_⟩;clear a B m;obtain⟨V,R⟩:∃Y,Y=o:=⟨_,rfl⟩;subst R;refine AK [11] k! i! (BF ?_))
  all_goals
   refine DK (f:=27) (args:= #[.slice a5 c.now.length c5]) rfl rfl g! ((WO (h.later (Z.trans (b.mono Z.size))).now UO).mono ?_);rintro e V ⟨u,rfl,a,z⟩;have t:=ad1 z b.size;obtain⟨F,I,rfl,_,_⟩:=JS z;have O:=afi r z;have N:=afi s z;clear z
   try (have l:=(a.block _ (Za.1 l).1).trans l)
   try (have r:=Fu r a)
   try (have y:=Fu y a)
   try (have s:=Fu s a)
   have b:=b.trans (a.mono b.size);refine .inl ⟨_,rfl,AL b,?_⟩;clear a
  all_goals first
   |(have kL:=Za.1 l;clear kL;refine AK [12] k! i! (BF ?_)
     refine EX (v:=.agg #[.slice H c.base.length d1,.slice J c.Af.length d2,.slice G c.hooks.length d3,(),.slice F c.now.length I]) (w':=V) rfl rfl g! ?_;refine⟨AL b,?_⟩)
   |(refine AK [12,13] k! i! (Ix ?gA12 ?gB12)
     case' gB12=>
      refine EX (v:=.pointer V) (w':=V.alloc (.cells Qz6 26)) rfl rfl g! ?_;obtain⟨o,m⟩:=Qnm (V.alloc (.cells Qz6 26));have a:Qb6 V o:=by rw[m];exact bA (Zh _ _)
      have l:o.heap[V.heap.size]?=some (.cells Qz6 26 (0,0)):=by rw[m];exact Bp _ _
      have E:=b.size;obtain⟨q,B⟩:=Qnm V.heap.size;rw[<-B]at l E
      try (have r:=Fu r a)
      try (have y:=Fu y a)
      try (have s:=Fu s a)
      try (have t:=Fu t a)
      have b:=b.trans (a.mono b.size);rw[<-m, <-B];refine⟨AL b,?_⟩;clear a B m;obtain⟨V,R⟩:∃Y,Y=o:=⟨_,rfl⟩;subst R;refine AK [12] k! i! (BF ?_);refine EX (v:=.agg #[.slice H c.base.length d1,.slice J c.Af.length d2,.slice G c.hooks.length d3,(),.slice F c.now.length I]) (w':=V) rfl rfl g! ?_;refine⟨AL b,?_⟩
     case' gA12=>
      refine EX (v:=.agg #[.slice H c.base.length d1,.slice J c.Af.length d2,.slice G c.hooks.length d3,(),.slice F c.now.length I]) (w':=V) rfl rfl g! ?_;refine⟨AL b,?_⟩;refine AK [13] k! i! (BF ?_);refine EX (v:=.pointer V) (w':=V.alloc (.cells Qz6 26)) rfl rfl g! ?_;obtain⟨o,m⟩:=Qnm (V.alloc (.cells Qz6 26));have a:Qb6 V o:=by rw[m];exact bA (Zh _ _)
      have l:o.heap[V.heap.size]?=some (.cells Qz6 26 (0,0)):=by rw[m];exact Bp _ _
      have E:=b.size;obtain⟨q,B⟩:=Qnm V.heap.size;rw[<-B]at l E
      try (have r:=Fu r a)
      try (have y:=Fu y a)
      try (have s:=Fu s a)
      try (have t:=Fu t a)
      have b:=b.trans (a.mono b.size);rw[<-m, <-B];refine⟨AL b,?_⟩;clear a B m;obtain⟨V,R⟩:∃Y,Y=o:=⟨_,rfl⟩;subst R)
  all_goals
   refine AK [14] k! i! (BF ?_);obtain⟨g0,g1,g2,g3,g4⟩:=Qc5 l;obtain⟨f0,f1,f2,f3,f4⟩:=Qf5 l;obtain⟨o,m⟩:=Qnm (((((V.setCell q (.slice H c.base.length d1)).setCell ⟨q,1,none⟩ (.slice J c.Af.length d2)).setCell ⟨q,2,none⟩ (.slice G c.hooks.length d3)).setCell ⟨q,3,none⟩ ()).setCell ⟨q,4,none⟩ (.slice F c.now.length I));refine Rj (w':=o) rfl rfl (by rw[m];go_simp) ?_;have am:Qb6 C o:=by rw[m];exact bS (bS (bS (bS (bS b E) E) E) E) E
   have hT:Ak (λx=>x=q) V o:=by rw[m];exact(Ak.refl (λx=>x=q) V).DT.DT.DT.DT.DT
   refine⟨AL am,rfl,?_⟩;exact⟨rfl,q,H,J,G,F,d1,d2,d3,I,_,_,_,_,_,_,_,_,_,_,_,_,_,rfl,o!,am,by rw[m];exact Ba (Ba (Ba (Ba (Ba l _) _) _) _) _,acv r hT l d!,acv y hT l d!,acv s hT l d!,acv t hT l d!,P,O,N⟩
 rintro e a' V ⟨rfl,q,H,J,G,F,d1,d2,d3,I,x5,x6,x7,x8,x9,jX,Qj,ai,MH,Lx,Ly,K0,K1,rfl,E,b,l,r,y,s,t,P,O,N⟩;obtain⟨M,hM⟩:=Qnm V.heap.size;have dl:C<=M:=by rw[hM];exact b.size
 have L1:=aeO r;have L2:=aeO y;have L3:=aeO s;have U:=aeO t;rw[<-hM]at L1 L2 L3 U;have HD:=Zd (ZY L1 (ZY L2 (ZY L3 (ZY U (ZY P (ZY O N))))));clear L1 L2 L3 U P O N;have bv:CRs w C M q #[.slice a1 c.base.length c1,.slice a2 c.Af.length c2,.slice a3 c.hooks.length c3,.slice a4 c.Aa.length c4,.slice a5 c.now.length c5] (.slice H c.base.length d1) (.slice J c.Af.length d2) (.slice G c.hooks.length d3) (.slice F c.now.length I) c 0 () V:=
  ⟨Z.trans (b.mono Z.size),(b.block _ (Za.1 F1).1).trans F1,(b.block _ bc).trans O9,l,r,y,s,t,⟨[],zq _ _ _ _,λi x hx=>by cases hx⟩,ZcS hM⟩
 clear hM b l r y s t F1 O9 Z;dsimp only;go_wp2;go_loopg [4] c.Aa.length (λg i wr=>∃(k:Nat) (v4:Zf),k<=c.Aa.length/\g=c.Aa.length - k/\i=.int .i64 k/\CRs w C M q #[.slice a1 c.base.length c1,.slice a2 c.Af.length c2,.slice a3 c.hooks.length c3,.slice a4 c.Aa.length c4,.slice a5 c.now.length c5] (.slice H c.base.length d1) (.slice J c.Af.length d2) (.slice G c.hooks.length d3) (.slice F c.now.length I) c k v4 wr)
 case atStart=>exact⟨0,_,Zp _,rfl,rfl,bv⟩
 obtain⟨k,v4,hk,rfl,rfl,n⟩:=hrel;obtain⟨sl,NK⟩:=Qnm (c.Aa.take k);have ac:sl.length=k:=by rw[NK];simp;omega
 have Ci:=n.row;rw[<-NK]at Ci;obtain⟨va,vc,rfl,_⟩:=Ci.val;rw[ac]at n Ci;by_cases Az:k<c.Aa.length
 .obtain⟨b4,o4,s2,s3,rfl,UQ,x0,x1,x2,x3,x4,hp,ho⟩:=h.Aa.at_ (i:=k) Az
  have Ga:∀j u,w.cell? ⟨b4,j,none⟩=some u->wr.cell? ⟨b4,j,none⟩=some u:=λj u z=>(n.below.cell (p:=⟨b4,j,none⟩) (hS b4 UQ)).trans z;replace x0:=Ga _ _ x0;replace x1:=Ga _ _ x1;replace x2:=Ga _ _ x2;replace x3:=Ga _ _ x3;replace x4:=Ga _ _ x4;clear Ga;replace hp:=hp.later n.below;replace ho:=ho.later n.below;obtain⟨Oq,Qm⟩:=xB k Az;obtain⟨sm,Qh⟩:=Qnm (Aj c.Aa k);have ck:=Zd (show c.Aa.take (k+1)=sl++ [sm] by rw[NK,Qh,ZbH,Db Az];rfl);rw[<-Qh]at x0 x1 x4 hp ho Oq Qm;clear Qh NK;obtain⟨low,D,Ap,over,left⟩:=sm;dsimp only at x0 x1 x4 hp ho Oq Qm;obtain⟨a6,c6,rfl,l6,m6⟩:=hp.val;obtain⟨a7,c7,rfl,l7,m7⟩:=ho.val;obtain⟨K,Ig⟩:∃K:Nat->Prop,K=λx=>x≠q/\w+1<x:=⟨_,rfl⟩;have LP:∀x,w.heap.size+1<x->x≠q->K x:=λx hx l=>by rw[Ig];exact⟨l,hx⟩
  have qF:¬K w:=by rw[Ig];intro x;omega
  have l_:¬K (w+1):=by rw[Ig];intro x;omega
  have Tg:¬K q:=by rw[Ig];exact λx=>x.1 rfl
  have Qn:¬K b4:=by rw[Ig];intro x;have:=hS b4 UQ;omega
  clear Ig;have z0:=λp:Tw K wr=>p.cell (ch (i:=3) n.box (v:=.slice (some ⟨b4,o4,none⟩) c.Aa.length c4) rfl) qF;have z1:=λp:Tw K wr=>p.cell (ch (i:=3) n.qx (v:=.slice va k vc) rfl) Tg;have y0:=λp:Tw K wr=>p.cell x0 Qn;have y1:=λp:Tw K wr=>p.cell x1 Qn;have y2:=λp:Tw K wr=>p.cell x2 Qn;have y3:=λp:Tw K wr=>p.cell x3 Qn;have y4:=λp:Tw K wr=>p.cell x4 Qn;have TB:(k:Int)<(c.Aa.length:Int):=o!
  have du:(0:Int)<=(k:Int):=o!
  have kD:q<wr:=(Za.1 n.qx).1;have kx:=ch (i:=3) n.box (v:=.slice (some ⟨b4,o4,none⟩) c.Aa.length c4) rfl;have bG:=n.below.size;have DR:w+1<wr.heap.size:=(Za.1 n.res).1;have Rb:M<=wr.heap.size:=n.z;go_wp2;clear kx;refine B0 (S:=λW=>∃p:Tw K wr,W=p.v) [11] [(false,7),(false,8),(false,9),(false,10),(false,11)] [0,1,2,3,4,5,6] k! (λ_ _ d _ _ h=>by cases d<;>exact h) k! (A5 (Ak.later (Zh _ _).drew)) ?_;refine A4 _ _ k! ?_;simp only[Z6,zd,ZG,ZD,ZC]
  repeat (first|go_big_quiet_step (fail)|quiet_step (fail))
  refine Z4 ?_;clear z0 z1 y0 y1 y2 y3 y4 x0 x1 x2 x3 x4;change Dl _ _ _ _ _ _ _;have Uh:YH wr wr wr.drew:=(Zh _ _).drew;refine Dd (f:=28) (args:= #[.agg #[.int .i64 low,.int .i64 D,.slice a6 Ap.length c6,.slice a7 over.length c7,.int .i64 left]]) rfl rfl g! ((aoP (hp.later Uh) (ho.later Uh) Oq Qm).mono ?_);rintro e w1 ⟨u2,u3,rfl,Bg,Hb,Lb⟩;have cu:Qb6 wr w1:=Uh.trans (Bg.mono (Zj _));have Kd:Ak K wr w1:=Ak.later cu;refine⟨_,rfl,.inr (A5 Kd),?_⟩;have Hb:SP (TT wr w1) w1 u2 Ap:=Hb;have Lb:SI (TT wr w1) w1 u3 over:=Own.tt Lb;obtain⟨p6,t6,rfl,_⟩:=Hb.val;obtain⟨p7,t7,rfl,_⟩:=Lb.val;obtain⟨uT,uU⟩:=Qnm (w1.alloc (.cells #[.int .i64 low,.int .i64 D,.slice p6 Ap.length t6,.slice p7 over.length t7,.int .i64 left] 50));have Vn:Qb6 w1 uT:=by rw[uU];exact bA (Zh _ _)
  have Jp:=cu.trans (Vn.mono cu.size);have WQ:Ak K wr uT:=Ak.later Jp;refine JZ (v:=.slice w1 1 1) (w':=uT) rfl rfl (by rw[uU];go_simp) (.inr (A5 WQ)) ?_;obtain⟨vals,AX,DF⟩:=Ci.later Jp;rw[ac]at AX;obtain⟨i0,hi,eL,k9,ci⟩:=zp eI;have bV:=Cz Tryz.underlying24;refine PW rfl rfl ?_;refine Zak _ _ _ 24 rfl M 50 i0 (.agg #[.int .i64 0,.int .i64 0,(),(),.int .i64 0]) 5 72 bV (Dz hi) eL k9 ci rfl d! _ k vals rfl AX w1 1 1 [.int .i64 low,.int .i64 D,.slice p6 Ap.length t6,.slice p7 over.length t7,.int .i64 left] rfl rfl (by rw[uU];exact Hc _ _ _) (by intro u z;simp at z;rcases z with rfl|rfl|rfl|rfl|rfl<;>rfl) u! o! (by have:=Jp.size;omega) ?_;intro v' w2 Cm AG Gc;have Em:∀g,(Zy va k vc).ownBlock=some g->M<=g/\∃cs,wr.heap[g]?=some (.cells cs 50 (0,0)):=Ci.own;have Js:Ak (λx=>(Zy va k vc).ownBlock=some x) uT w2:=Ak.grown AG λg L=>L;have D3:Ak K wr w2:=WQ.trans (Ak.grown AG λg L=>by
   obtain⟨h1,cs,h2⟩:=Em g L;exact LP g o! (λe=>by subst e;rw[n.qx]at h2;cases h2))
  refine⟨.inr (A5 D3),?_⟩;obtain⟨g',Ey,rfl⟩:=Zay Cm;have M9:=(D3.block q kD Tg).trans n.qx;have f3:=cf (i:=3) M9;have e3:=ch (i:=3) M9 (v:=.slice va k vc) rfl;refine Dw (v:=.pointer (some ⟨q,3,none⟩)) rfl rfl g! (.inr (A5 D3)) ?_;refine K8 (w':=w2.setCell ⟨q,3,none⟩ (.slice g' (k+1) Ey)) rfl rfl g! (.inl rfl) ?_;have bM:CRs w C M q #[.slice a1 c.base.length c1,.slice a2 c.Af.length c2,.slice a3 c.hooks.length c3,.slice (some ⟨b4,o4,none⟩) c.Aa.length c4,.slice a5 c.now.length c5] (.slice H c.base.length d1) (.slice J c.Af.length d2) (.slice G c.hooks.length d3) (.slice F c.now.length I) c (k+1) (.slice g' (k+1) Ey) (w2.setCell ⟨q,3,none⟩ (.slice g' (k+1) Ey)):=by
   have Th:Ak (λx=>x=q) w2 (w2.setCell ⟨q,3,none⟩ (.slice g' (k+1) Ey)):=(Ak.refl (λx=>x=q) w2).DT;have ap:∀x,TT M w2 x->¬x=q:=λx hx e=>TT.not (e▸hx) M9 ⟨d!,d!,d!⟩;have ba:∀ {A:Zb} (hA:∀g cs,wr.heap[g]?=some (Zbi cs 50 (0,0))->A.heap[g]?=some (Zbi cs 50 (0,0))) x,TT M A x->¬(Zy va k vc).ownBlock=some x:=λhA x hx e=>by
    obtain⟨_,cs,h2⟩:=Em x e;exact TT.not hx (hA x cs h2) ⟨d!,d!,d!⟩
   have T:Ak (λx=>(Zy va k vc).ownBlock=some x) wr w2:=((Ak.later Jp).mono λ_ x=>x).trans Js;have mW:∀g,(Zy va k vc).ownBlock=some g->∃cs,wr.heap[g]?=some (.cells cs 50 (0,0)):=λg L=>(Em g L).2;have rK:=ba (A:=uT) (λg cs h=>(Jp.block g (Za.1 h).1).trans h);refine⟨?_,?_,?_,Ba M9 _,acv (adY n.base T mW d!) Th M9 d!,acv (adY n.Af T mW d!) Th M9 d!,acv (adY n.hooks T mW d!) Th M9 d!,acv (adY n.now T mW d!) Th M9 d!,?_,by have:=T.size;simp;omega⟩
   .exact bS ((n.below.trans (Jp.mono n.below.size)).trans (Js.below (λg L=>by have:=(Em g L).1;omega) (by have:=Jp.size;omega))) o!
   .exact(AZ o! _).trans ((D3.block _ o! qF).trans n.box)
   .exact(AZ o! _).trans ((D3.block _ DR l_).trans n.res)
   rw[ck.out];refine En.CN (A:=w2) ?_ Th ap (λg L e=>by
    cases L;subst e;rcases Cm.2 with⟨e,_⟩|⟨g,cap,cur,e,_,h3,_⟩
    .cases e
    cases e;rw[M9]at h3;cases h3)
   rw[show k+1=sl.length+1 by rw[ac]]at*;have xG:Rs (TT M uT) uT [.int .i64 low,.int .i64 D,.slice p6 Ap.length t6,.slice p7 over.length t7,.int .i64 left] ⟨low,D,Ap,over,left⟩:=⟨_,_,rfl,Ug (M6 Hb Vn) Rb,LQ (Ei Lb Vn) Rb⟩;exact En.snoc (λi x hi=>xR (DF i x hi) Js rK) (by have:=AX.1;rw[this,ac]) rfl (xR xG Js rK) Cm
  have ct:=Zd bM;clear bM n D3 Js WQ Kd Jp Vn uU Bg cu Hb Lb AX Cm DF AG Gc Em Ci f3 e3 M9 hp ho;unfold Dl
  go_simp
  go_wp2;go_roundg (c.Aa.length - (k+1))
  case rel=>exact⟨k+1,_,Az,rfl,v!,ct.out⟩
  omega
 have T5:k=c.Aa.length:=o!
 rw[T5,ZcU]at NK;subst NK;subst T5;have kx:=ch (i:=3) n.box (v:=.slice a4 c.Aa.length c4) rfl;obtain⟨s0,s1,s2,s3,s4⟩:=Qc5 n.qx;obtain⟨f0,f1,f2,f3,f4⟩:=Qf5 n.res;obtain⟨r0,r1,r2,r3,r4⟩:=Qc5 n.res;have kD:q<wr:=(Za.1 n.qx).1;have bG:=n.below.size;have DR:w+1<wr.heap.size:=(Za.1 n.res).1;have HC:=Zd n;have HR:=Zd Ci;clear n Ci;go_wp2;refine ZN (v:=.agg #[.slice H c.base.length d1,.slice J c.Af.length d2,.slice G c.hooks.length d3,.slice va c.Aa.length vc,.slice F c.now.length I]) (by rw[A8 rfl];go_simp) rfl ?_;have an:∀X,Qb6 w X->Ak (λx=>x=w.heap.size+1) wr X->ahR w c (.returned (.agg #[.slice H c.base.length d1,.slice J c.Af.length d2,.slice G c.hooks.length d3,.slice va c.Aa.length vc,.slice F c.now.length I])) X:=λX Ov Pc=>by
  have hn:∀x,TT M wr x->¬x=w+1:=λx hx e=>by have:=hx.1;omega
  have mM:w<=C.heap.size:=o!
  have L:∀g,(Zy va c.Aa.length vc).ownBlock=some g->¬g=w+1:=λg L e=>by have:=(HR.out.own g L).1;omega
  obtain⟨L1,L2,L3,U,P,O,N⟩:=HD.out;exact⟨_,_,_,_,_,M,rfl,Ov,ad1 (acv HC.out.base Pc HC.out.res d!) mM,ad1 (acv HC.out.Af Pc HC.out.res d!) mM,ad1 (acv HC.out.hooks Pc HC.out.res d!) mM,ad1 (acv HC.out.now Pc HC.out.res d!) mM,HR.out.CN Pc hn L,o!,L1,L2,L3,U,P,O,N⟩
 have Lc:=HC.out.below;refine an _ ?_ ?_
 .repeat (with_reducible first|exact Lc|(refine bS ?_ o!))
 repeat (with_reducible first|exact Ak.refl _ _|(refine Ak.DT ?_))
def CSp.rc {u3:Zf}(h:CSp n M w u1 u2 u3 u4 u5 c):RC (Cb n w) w u1 u2 u3 u4 u5 c:=
 ⟨h.base.si,Sl.imp (h.Af.tt (.inr (.inr rfl))) (λb a=>a.new) λ_ _ x=>x,h.hooks.si,(h.row.ss (Zj _)).imp (λb a=>⟨Zr h.le a.1,a.2⟩) λ_ _ ⟨v2,v3,e,f,d⟩=>⟨v2,v3,e,Sl.imp f (λb a=>⟨Zr h.le a.1,a.2⟩) λ_ _ x=>x,Sl.imp d (λb a=>⟨Zr h.le a.1,a.2⟩) λ_ _ x=>x⟩,h.now.si⟩
def aio (S:Nat->Prop)(w:Zb)(cs:List Zf)(x:A_):Prop:=∃v1 v2 v3 v4 v5,cs=[v1,v2,v3,v4,v5]/\RC S w v1 v2 v3 v4 v5 x
def akp (S:Nat->Prop)(w:Zb)(b:Nat)(lv:Zf)(d:Nat)(c:A_)(e:Ending)(w':Zb):Prop:=
 ∃(f a:A_) (q g:Nat),e=.returned (.slice q 4 4)/\B3 b w w'/\BK w' b lv g/\g<=d+2000/\H6 f/\adi a/\w<=q/\Sl (λx=>S x\/Cb w w' x) (aio λx=>S x\/Cb w w' x) 5 w' (.slice q 4 4) [c,f,a,f]
def ahA (b:l.Pairwise (· < ·))(a:∀x∈l,0<=x/\x<3):l.length<=3:=(show∀l∈Lj,l.length<=3 by decide) l (EM b a)
def afN (h:BN c=0):∀i,i<c.Aa.length->(Aj c.Aa i).over.length<=3:=λi hi=>by
 have d:=(Bj (Bj h).2).2;have e:=(JQ (Bj (Bj h).2).1).2;have a:=afv (Bj d).1 (Aj c.Aa i) (Z3 (Db hi));exact ahA a.1 λx b=>by have:=a.2 x b;omega
def H6.small (h:H6 c):adi c:=
 ⟨by have:=h.Fp;omega,by have:=h.PN;have:=h.Fp;omega,by have:=h.hooks;have:=h.Fp;omega,by have:=h.few;omega,by have:=h.now.1;have:=h.few;omega,λi hi=>⟨by have:=(h.seam i hi).few;omega,by have:=afN h.begin i hi;omega⟩⟩
def ajw {l:List Ay}{s:Ay}:Aj (l.set k s) j=if j=k/\k<l.length then s else Aj l j:=by
 unfold Aj;by_cases e:j=k
 .subst e
  by_cases a:j<l.length
  .simp[Y6,a]
  simp[Y6,a]
 rw[if_neg (λx=>e x.1),Y6,ZS (λx=>e x.symm),Y6]
def adi.put {s:Ay}(h:adi c)(b:s.Ap.length<=20/\s.over.length<=20):adi {c with Aa:=c.Aa.set i s}:=
 ⟨h.base,h.Af,h.hooks,by rw[ZcC];exact h.Aa,h.now,λj a=>by
  rw[ZcC]at a;rw[ajw];split
  .exact b
  exact h.part j a⟩
def CSp.CN {u3:Zf}(h:CSp n M A u1 u2 u3 u4 u5 c)(b:Ak T A B)(a:∀x,n<=x->¬T x):CSp n M B u1 u2 u3 u4 u5 c:=
 ⟨CO b a h.base,CO b a h.Af,CO b a h.hooks,CO b a h.now,h.row.CN b (λx d=>a x (Zr h.le d.1)) (λg e=>a g (Zr h.le (h.row.own g e).1)),h.le,h.l1,h.l2,h.l3,h.l5,h.d13,h.d15,h.d35⟩
def CSp.later {u3:Zf}(h:CSp n M A u1 u2 u3 u4 u5 c)(a:Qb6 A B):CSp n M B u1 u2 u3 u4 u5 c:=h.CN (T:=λ_=>False) (Ak.later a) λ_ _ x=>x
def CSp.box {u3:Zf}(h:CSp n M A u1 u2 u3 u4 u5 c)(b:Ak (λx=>x=q) A B)(a:A.heap[q]?=some (.cells cs 26 (0,0))):CSp n M B u1 u2 u3 u4 u5 c:=
 ⟨acv h.base b a d!,acv h.Af b a d!,acv h.hooks b a d!,acv h.now b a d!,h.row.CN b (λx f e=>TT.not (e▸f) a ⟨d!,d!,d!⟩) (λg i e=>by
  obtain⟨_,j,d⟩:=h.row.own g i;subst e;rw[a]at d;cases d),h.le,h.l1,h.l2,h.l3,h.l5,h.d13,h.d15,h.d35⟩
def adl {V:Zb}{d A:Nat}{F E D C B p n m l k z y v t s:Zf}{f co:A_}(H:B3 b w V)(I:BK V b lv A)(M:A<=d+2000)(N:H6 f)(L:adi co)
 (K:RC S V F E D C B c) (G:RC (Cb w V) V p n m l k f) (J:RC (Cb w V) V z y v t s co):
  akp S w b lv d c (.returned (.slice V 4 4)) (V.alloc (.cells #[F,E,D,C,B,p,n,m,l,k,z,y,v,t,s,p,n,m,l,k] 26)):=by
 have g:∀o,YH V V (V.alloc o):=λo=>bA (Zh _ _);have q:=H.size;have r:∀o x,Cb w V x->Cb w (V.alloc o) x:=λo x e=>⟨e.1,by rw[ZB];have:=e.2;omega⟩;refine⟨f,co,V,A,rfl,H.below (g _),I.later (g _),M,N,L,q,_,_,rfl,Zj _,d!,λi x e=>?_⟩
 match i,e with
 |0,e=>
  cases e;exact⟨V,0,[F,E,D,C,B],rfl,.inr ⟨q,by rw[ZB];omega⟩,rfl,(λj u a=>by
   match j,a with
   |0,a=>cases a;exact cn _ _ _ rfl
   |1,a=>cases a;exact cn _ _ _ rfl
   |2,a=>cases a;exact cn _ _ _ rfl
   |3,a=>cases a;exact cn _ _ _ rfl
   |4,a=>cases a;exact cn _ _ _ rfl),_,_,_,_,_,rfl,(K.later (g _)).imp λx e=>.inl e⟩
 |1,e=>
  cases e;exact⟨V,0,[p,n,m,l,k],rfl,.inr ⟨q,by rw[ZB];omega⟩,rfl,(λj u a=>by
   match j,a with
   |0,a=>cases a;exact cn _ _ _ rfl
   |1,a=>cases a;exact cn _ _ _ rfl
   |2,a=>cases a;exact cn _ _ _ rfl
   |3,a=>cases a;exact cn _ _ _ rfl
   |4,a=>cases a;exact cn _ _ _ rfl),_,_,_,_,_,rfl,(G.later (g _)).imp λx e=>.inr (r _ x e)⟩
 |2,e=>
  cases e;exact⟨V,0,[z,y,v,t,s],rfl,.inr ⟨q,by rw[ZB];omega⟩,rfl,(λj u a=>by
   match j,a with
   |0,a=>cases a;exact cn _ _ _ rfl
   |1,a=>cases a;exact cn _ _ _ rfl
   |2,a=>cases a;exact cn _ _ _ rfl
   |3,a=>cases a;exact cn _ _ _ rfl
   |4,a=>cases a;exact cn _ _ _ rfl),_,_,_,_,_,rfl,(J.later (g _)).imp λx e=>.inr (r _ x e)⟩
 |3,e=>
  cases e;exact⟨V,0,[p,n,m,l,k],rfl,.inr ⟨q,by rw[ZB];omega⟩,rfl,(λj u a=>by
   match j,a with
   |0,a=>cases a;exact cn _ _ _ rfl
   |1,a=>cases a;exact cn _ _ _ rfl
   |2,a=>cases a;exact cn _ _ _ rfl
   |3,a=>cases a;exact cn _ _ _ rfl
   |4,a=>cases a;exact cn _ _ _ rfl),_,_,_,_,_,rfl,(G.later (g _)).imp λx e=>.inr (r _ x e)⟩
def c28 {d:Nat}(h:RC S w v1 v2 v3 v4 v5 c)(hS:∀x,S x->x<w.heap.size/\x≠b)(hn:SI Sn w lv nums)(E8:∀x,Sn x->x<w.heap.size/\x≠b)(hL:BK w b lv d)(hd:d+5000<4611686018427387904)(Qh:adi c):
  Calls Lp 7 #[.agg #[v1,v2,v3,v4,v5],.pointer b] w (akp S w b lv d c):=by
 obtain⟨a1,c1,a2,c2,a3,c3,a4,c4,a5,c5,rfl,rfl,rfl,rfl,rfl,l1,m1,l2,m2,l3,m3,l4,m4,l5,m5⟩:=h.vs;have IX:=DJ;have GK:b<w:=hL.lt;obtain⟨W1,NL⟩:=Qnm (w.alloc (.cells (Qe6 c a1 c1 a2 c2 a3 c3 a4 c4 a5 c5) 26));have Bg:Qb6 w W1:=by rw[NL];exact bA (Zh _ _)
 have lD:W1.heap[w.heap.size]?=some (.cells (Qe6 c a1 c1 a2 c2 a3 c3 a4 c4 a5 c5) 26 (0,0)):=by rw[NL];exact Bp _ _
 have DR:W1=w.heap.size+1:=by rw[NL,ZB]
 have ow:=Zd (c44 (s:=3) (hn.later Bg) (λx a=>⟨by have:=(E8 x a).1;omega,(E8 x a).2⟩) (hL.later Bg) o! d!);go_enter Lp.func28,n28;go_wp2;rw[<-NL];clear NL;refine ow.out.mono ?_;rintro e W2 ⟨j,u1,u2,u3,u4,u5,d2,rfl,M7,s8,yv,hM,_⟩;obtain⟨p1,e1,p2,e2,p3,e3,p4,e4,p5,e5,rfl,rfl,rfl,rfl,rfl,_⟩:=yv.vs;obtain⟨X2,Ia⟩:=Qnm (W2.alloc (.cells (Qe6 j p1 e1 p2 e2 p3 e3 p4 e4 p5 e5) 26));have lG:Qb6 W2 X2:=by rw[Ia];exact bA (Zh _ _)
 have tn:X2=W2.heap.size+1:=by rw[Ia,ZB]
 have ka:X2.heap[W2.heap.size]?=some (.cells (Qe6 j p1 e1 p2 e2 p3 e3 p4 e4 p5 e5) 26 (0,0)):=by rw[Ia];exact Bp _ _
 have Ot:=M7.Cn;have EB:=Ot.size;have jt:=yv.later lG;have n7:=Ot.below lG;have no:=n7.at_ lD o!;have t:=hM.small;have o9:=Zd (arq jt (λx a=>by have:=a.2;omega) (by have:=t.base;omega) (by have:=t.Af;omega) (by have:=t.hooks;omega) (by have:=t.Aa;omega) (by have:=t.now;omega) λi hi=>⟨by have:=(t.part i hi).1;omega,by have:=(t.part i hi).2;omega⟩);obtain⟨m,hm⟩:=Qnm W2.heap.size;rw[<-hm]at ka;have se:W2<=m/\m<=W2.heap.size:=o!
 go_wp2;rw[<-Ia, <-hm];clear Ia hm;refine o9.out.mono ?_;rintro e W3 ⟨q1,q2,q3,q4,q5,M,rfl,Bv,Z⟩;obtain⟨r1,f1,rfl,_⟩:=JS Z.base;obtain⟨r2,f2,rfl,_⟩:=JS Z.Af;obtain⟨r3,f3,rfl,_⟩:=JS Z.hooks;obtain⟨r4,f4,rfl,_⟩:=Z.row.val;obtain⟨r5,f5,rfl,_⟩:=JS Z.now;obtain⟨X3,iz⟩:=Qnm (W3.alloc (.cells (Qe6 j r1 f1 r2 f2 r3 f3 r4 f4 r5 f5) 26));have nm:Qb6 W3 X3:=by rw[iz];exact bA (Zh _ _)
 have td:X3=W3.heap.size+1:=by rw[iz,ZB]
 have q9:X3.heap[W3.heap.size]?=some (.cells (Qe6 j r1 f1 r2 f2 r3 f3 r4 f4 r5 f5) 26 (0,0)):=by rw[iz];exact Bp _ _
 have ru:=Bv.size;have fu:=Bv.trans (nm.mono ru);have ne:=n7.below fu;have hC:=Z.later nm;have mz:=(fu.block _ o!).trans ka;have my:=(fu.block _ o!).trans no;have mx:=jt.later fu;have jn:=((hn.later Bg).Cn ne (λx a=>⟨by have:=(E8 x a).1;omega,(E8 x a).2⟩));have rg:=(M7.E4.later lG).later fu;obtain⟨o,ho⟩:=Qnm W3.heap.size;rw[<-ho]at q9;have iG:=Zd (c29 (n:=2) jn (λx a=>⟨by have:=(E8 x a).1;omega,(E8 x a).2⟩) rg o! d!);have nF:W3<=o/\o<=W3.heap.size:=o!
 go_wp2;rw[<-iz, <-ho];clear iz ho;refine iG.out.mono ?_;rintro e y ⟨r,d4,rfl,hr,S5,dl,sr⟩;have Ox:r<=2:=hr;have fC:Ak (λx=>x=b) X3 y:=S5.CN rfl;have Q:=hC.CN fC (λx a e=>o!);have fJ:=S5.at_ q9 o!;have fI:=S5.at_ mz o!;have an:=S5.at_ my o!;have du:=mx.Ar (S5.same λx a=>by have:=a.1;omega);have Y:B3 b w y:=by
  have hh:B3 b W1 y:=ne.trans S5;exact⟨hh.os.trans Bg.os,hh.tape.trans Bg.tape,hh.output.trans Bg.output,Zr Bg.size hh.size,λk hk F=>(hh.block k o! F).trans (Bg.block k hk)⟩
 have rE:=Y.size;have U:=h.Ar (Y.same λx a=>(hS x a).2);have ut:=S5.size;have x1:w<m:=o!
 have x2:m<o:=o!
 have x3:o<y:=o!
 clear ow o9 iG lD no ka mz my q9 jt mx Z hC yv M7;obtain rfl|rfl|rfl:r=0\/r=1\/r=2:=o!
 .have rC:=Zd (WO U.now (by have:=Qh.now;omega))
  have pp:=ch (i:=4) an rfl;go_wp2;refine rC.out.mono ?_;rintro e W5 ⟨u,rfl,Cj,mw⟩;obtain⟨t5,s5,rfl,_⟩:=JS mw;have p9:=Cj.size;have fi:=(Cj.block _ x3).trans fJ;obtain⟨B,ci⟩:=Qnm (W5.setCell ⟨o,4,none⟩ (.slice t5 c.now.length s5));have A:Ak (λx=>x=o) W5 B:=by rw[ci];exact(Ak.refl (λx=>x=o) W5).DT
  have am:B.heap[o]?=some (.cells #[.slice r1 j.base.length f1,.slice r2 j.Af.length f2,.slice r3 j.hooks.length f3,.slice r4 j.Aa.length f4,.slice t5 c.now.length s5] 26 (0,0)):=by rw[ci];exact Ba fi _
  have rx:=(Cj.block _ o!).trans an;have rB:=(Cj.block _ o!).trans fI;obtain⟨i6,be,iX,bc,iS⟩:=Qc5 rx;obtain⟨ip,io,im,ii,gt⟩:=Qc5 rB;obtain⟨gn,ba,gj,ap,fK⟩:=Qc5 fi;have tb:=cf (i:=4) fi;have n1:¬w.heap.size=o:=o!
  have n2:¬m=o:=o!
  clear pp;have V:B3 b w B:=by
   have O:=Y.below Cj;exact⟨A.os.trans O.os,A.tape.trans O.tape,A.output.trans O.output,Zr O.size A.size,λk hk F=>(A.block k (by have:=O.size;omega) o!).trans (O.block k hk F)⟩
  have lL:=A.size;have ac:BK B b lv d4:=by
   obtain⟨st,B_⟩:=dl.later Cj;exact⟨st,(A.block b o! o!).trans B_⟩
  have g1:=(U.later Cj).Ar (A.same λx a=>show¬x=o by have:=hS x a;omega);have g2:=((du.later Cj).Ar (A.same λx a=>show¬x=o by have:=a.2;omega)).imp (T:=Cb w B) λx a=>⟨by have:=a.1;omega,by have:=a.2;omega⟩;have g3:=(((Q.later Cj).box A fi).rc).imp (T:=Cb w B) λx a=>⟨by have:=a.1;omega,a.2⟩;have g4:SI (Cb w B) B (.slice t5 c.now.length s5) c.now:=Sl.imp (Own.si (acv mw A fi d!)) (λx a=>⟨by have:=a.1;omega,a.2⟩) λ_ _ x=>x;have H:=adl (d:=d) V ac o! hM (co:= {j with now:=c.now}) ⟨t.base,t.Af,t.hooks,t.Aa,Qh.now,t.part⟩ g1 g2 ⟨g3.base,g3.Af,g3.hooks,g3.Aa,g4⟩;clear g1 g2 g3 g4 V ac;have mj:B=W5.heap.size:=by rw[ci];simp
  rw[mj]at H;clear mj;go_wp2;rw[<-ci];clear ci;go_ret;exact H
 .have lI:=adl (d:=d) Y dl o! hM t U (du.imp (T:=Cb w y) λx a=>⟨by have:=a.1;omega,by have:=a.2;omega⟩) (Q.rc.imp (T:=Cb w y) λx a=>⟨by have:=a.1;omega,a.2⟩)
  obtain⟨i6,be,iX,bc,iS⟩:=Qc5 an;obtain⟨ip,io,im,ii,gt⟩:=Qc5 fI;obtain⟨gn,ba,gj,ap,fK⟩:=Qc5 fJ;by_cases h0:c.Aa.length=0
  .have hh:¬0<(c.Aa.length:Int):=by omega
   clear h0;go_wp2;go_ret;exact lI
  have hh:0<(c.Aa.length:Int):=o!
  go_wp2;obtain⟨g,eg⟩:∃g,r4=some ⟨g,0,none⟩:=by
   obtain⟨vals,h1,_⟩:=Q.row;rcases h1.2 with⟨e,h2⟩|⟨g,cap,cur,e,_⟩
   .have:=hM.few
    omega
   cases e;exact⟨g,rfl⟩
  subst eg;obtain⟨R,o4,v2,v3,ea,UQ,x0,x1,i8,i7,x4,hp,rH⟩:=U.Aa.at_ (i:=0) o!;subst ea;obtain⟨a6,c6,rfl,l6,m6⟩:=hp.val;obtain⟨a7,c7,rfl,l7,m7⟩:=rH.val;have fm:=Qh.part 0 o!;obtain⟨sm,ai⟩:=Qnm (Aj c.Aa 0);have vb:=Zd ai;rw[<-ai]at x0 x1 i8 i7 x4 hp rH fm l6 l7;rw[Nat.zero_mul,Nat.add_zero]at x0 x1 i8 i7 x4;clear ai;obtain⟨low,z,Ap,E,left⟩:=sm;dsimp only at x0 x1 i8 i7 x4 hp rH fm l6 l7;obtain⟨K,Ig⟩:∃K:Nat->Prop,K=λx=>x=b\/y<=x:=⟨_,rfl⟩;have fh:K b:=by rw[Ig];exact .inl rfl
  have LP:∀x,y.heap.size<=x->K x:=λx a=>by rw[Ig];exact .inr a
  have qF:∀x,x<y.heap.size->x≠b->¬K x:=λx h1 h2=>by rw[Ig];exact λe=>e.elim h2 o!
  clear Ig;have mi:=hS R UQ;have z0:=λp:Tw K y=>p.cell ap (qF _ (by show o<_;omega) (by show o≠b;omega));have z1:=λp:Tw K y=>p.cell bc (qF _ (by show w.heap.size<_;omega) (by show w≠b;omega));have z2:=λp:Tw K y=>p.cell x0 (qF _ (by show R<_;omega) (by show R≠b;omega));have z3:=λp:Tw K y=>p.cell x1 (qF _ (by show R<_;omega) (by show R≠b;omega));have z4:=λp:Tw K y=>p.cell i8 (qF _ (by show R<_;omega) (by show R≠b;omega));have z5:=λp:Tw K y=>p.cell i7 (qF _ (by show R<_;omega) (by show R≠b;omega));have z6:=λp:Tw K y=>p.cell x4 (qF _ (by show R<_;omega) (by show R≠b;omega));have Qu:IntKind.i64.wrap ((j.Aa.length:Int) - 1)=(j.Aa.length:Int) - 1:=by rw[zE];have:=hM.few;omega
  refine B0 (S:=λW=>∃p:Tw K y,W=p.v) [14] [(false,5),(false,6),(false,7),(false,12),(false,13),(false,14)] [0,1,2,3,4,8,9,10,11] k! (λ_ _ d _ _ h=>by cases d<;>exact h) k! (A5 (Ak.later (Zh _ _).drew)) ?_;refine A4 _ _ k! ?_;simp only[Z6,zd,ZG,ZD,ZC]
  repeat (first|go_big_quiet_step (fail)|quiet_step (fail))
  refine Z4 ?_;clear z0 z1 z2 z3 z4 z5 z6;change Dl _ _ _ _ _ _ _;have Uh:YH y y y.drew:=(Zh _ _).drew;have ck:Ak K y y.drew:=Ak.later Uh;refine Dw (v:=.int .i64 j.Aa.length) rfl rfl g! (.inr (A5 ck)) ?_;refine Dw (v:=.int .i64 ((j.Aa.length:Int) - 1)) rfl rfl g! (.inr (A5 ck)) ?_;refine Dd (f:=8) (args:= #[.pointer b,.int .i64 ((j.Aa.length:Int) - 1)]) rfl rfl g! ((c29 ((jn.Cn S5 (λx a=>⟨by have:=(E8 x a).1;omega,(E8 x a).2⟩)).later Uh) (λx a=>⟨by have:=(E8 x a).1;simp;omega,(E8 x a).2⟩) (dl.later Uh) o! (by have:=hM.few;omega)).mono ?_);rintro e W5 ⟨C,d5,rfl,pt,O,xZ,re⟩;have J:B3 b y W5:=by
   exact⟨O.os,O.tape,O.output,O.size,λk hk F=>O.block k hk F⟩
  have mt:Ak K y W5:=J.CN fh;refine⟨_,rfl,.inr (A5 mt),?_⟩;have lE:C<j.Aa.length:=by have:=hM.few;omega
  have p9:=J.size;refine Dd (f:=28) (args:= #[.agg #[.int .i64 low,.int .i64 z,.slice a6 Ap.length c6,.slice a7 E.length c7,.int .i64 left]]) rfl rfl g! ((aoP (hp.Ar (J.same λx a=>(hS x a).2)) (rH.Ar (J.same λx a=>(hS x a).2)) (by have:=fm.1;omega) (by have:=fm.2;omega)).mono ?_);rintro e B ⟨u2,u3,rfl,DM,Hb,Lb⟩;have A:Ak K y B:=mt.trans (Ak.later DM);refine⟨_,rfl,.inr (A5 A),?_⟩;have Lb:SI (TT W5 B) B u3 E:=Own.tt Lb;obtain⟨p6,t6,rfl,_⟩:=Hb.val;obtain⟨p7,t7,rfl,_⟩:=Lb.val;have lL:=DM.size;have I:=(Q.CN (J.CN (K:=λx=>x=b) rfl) (λx a e=>o!)).later DM;have am:=(DM.block _ o!).trans (J.at_ fJ o!);have lm:=(DM.block _ o!).trans (J.at_ fI o!);have li:=(DM.block _ o!).trans (J.at_ an o!);have V:=J.below DM;have kw:=du.Ar (V.same λx a=>by have:=a.1;omega);have kv:=U.Ar (V.same λx a=>(hS x a).2);have ac:=xZ.later DM;have D:B3 b w B:=Y.trans V;obtain⟨cur,q,P⟩:∃cur,B.heap[g]?=some (.cells cur 50 (0,0))/\∀k,k<5->∃v,cur[C*5+k]?=some v:=by
   obtain⟨vals,h1,_⟩:=I.row;rcases h1.2 with⟨e,_⟩|⟨g',cap,cur,e,g3,g4,g5,g6,g7,_⟩
   .cases e
   cases e;exact⟨cur,g4,λk hk=>⟨_,Zx (by rw[g7];omega)⟩⟩
  obtain⟨w0,bv⟩:=P 0 d!;obtain⟨w1,lX⟩:=P 1 d!;obtain⟨w2,nj⟩:=P 2 d!;obtain⟨w3,ma⟩:=P 3 d!;obtain⟨w4,xX⟩:=P 4 d!;have q0:=ch q bv;have q1:=ch q lX;have q2:=ch q nj;have q3:=ch q ma;have q4:=ch q xX;have bi:=cf (i:=C*5+0) q;have i9:=cf (i:=C*5+1) q;have pm:=cf (i:=C*5+2) q;have pi:=cf (i:=C*5+3) q;have pd:=cf (i:=C*5+4) q;rw[Nat.add_zero]at q0 bi;obtain⟨N,G⟩:=Qnm (((((B.setCell ⟨g,C*5,none⟩ (.int .i64 low)).setCell ⟨g,C*5+1,none⟩ (.int .i64 z)).setCell ⟨g,C*5+2,none⟩ (.slice p6 Ap.length t6)).setCell ⟨g,C*5+3,none⟩ (.slice p7 E.length t7)).setCell ⟨g,C*5+4,none⟩ (.int .i64 left));have rr:(C:Int)<(j.Aa.length:Int):=o!
  have rq:(0:Int)<=(C:Int):=o!
  refine Dw (v:=.pointer (some ⟨g,C*5,none⟩)) rfl rfl g! (.inr (A5 A)) ?_;refine K8 (w':=N) rfl rfl (by rw[G];go_simp) (.inl rfl) ?_;have l:Ak (λx=>x=g) B N:=by rw[G];exact(Ak.refl (λx=>x=g) B).DT.DT.DT.DT.DT
  have pu:=(I.row.own g rfl).1;have us:=I.le;have bV:∀x,x<X2.heap.size->¬x=g:=λx a e=>o!
  have jp:¬o=g:=λe=>by subst e;rw[am]at q;cases q
  have un:g<y:=by
   obtain⟨_,cs,h⟩:=Q.row.own g rfl;exact(Za.1 h).1
  have mv:Rs (TT M B) B [.int .i64 low,.int .i64 z,.slice p6 Ap.length t6,.slice p7 E.length t7,.int .i64 left] ⟨low,z,Ap,E,left⟩:=⟨_,_,rfl,Sl.imp Hb (λx a=>⟨by have:=a.1;omega,a.2⟩) (λ_ _ x=>x),Sl.imp Lb (λx a=>⟨by have:=a.1;omega,a.2⟩) λ_ _ x=>x⟩;have L:=En.put (s:=⟨low,z,Ap,E,left⟩) I.row lE mv;dsimp only at L;rw[<-G]at L;have X:N=B.heap.size:=by rw[G];simp
  have fd:B3 b w N:=by
   exact⟨l.os.trans D.os,l.tape.trans D.tape,l.output.trans D.output,Zr D.size l.size,λk hk F=>(l.block k (by have:=D.size;omega) o!).trans (D.block k hk F)⟩
  have ct:BK N b lv d5:=by
   obtain⟨st,B_⟩:=ac;exact⟨st,(l.block b o! o!).trans B_⟩
  have U3:∀ {v:Zf} {e:Zs} {k n:Nat} {xs:List Zf} {base:Nat},B.ownsRow base e k v n xs->e≠50->N.ownsRow base e k v n xs:=λh he=>acv h l q he;have g1:=kv.Ar (l.same λx a=>show¬x=g by have:=hS x a;omega);have g2:=(kw.Ar (l.same λx a=>show¬x=g by have:=a.2;omega)).imp (T:=Cb w N) λx a=>⟨by have:=a.1;omega,by have:=a.2;omega⟩;have g3:RC (Cb w N) N (.slice r1 j.base.length f1) (.slice r2 j.Af.length f2) (.slice r3 j.hooks.length f3) (.slice g j.Aa.length f4) (.slice r5 j.now.length f5) {j with Aa:=j.Aa.set C ⟨low,z,Ap,E,left⟩}:=
   ⟨Sl.imp (Own.si (U3 I.base d!)) (λx a=>⟨by have:=a.1;omega,a.2⟩) (λ_ _ x=>x),Sl.imp (Ih.tt (U3 I.Af d!) (.inr (.inr rfl))) (λx a=>⟨by have:=a.1;omega,a.lt⟩) (λ_ _ x=>x),Sl.imp (Own.si (U3 I.hooks d!)) (λx a=>⟨by have:=a.1;omega,a.2⟩) (λ_ _ x=>x),(L.ss (Zj _)).imp (λx a=>⟨by have:=a.1;omega,a.2⟩) (λ_ _ ⟨v2,v3,e,h2,h3⟩=>⟨v2,v3,e,Sl.imp h2 (λx a=>⟨by have:=a.1;omega,a.2⟩) λ_ _ x=>x,Sl.imp h3 (λx a=>⟨by have:=a.1;omega,a.2⟩) λ_ _ x=>x⟩),Sl.imp (Own.si (U3 I.now d!)) (λx a=>⟨by have:=a.1;omega,a.2⟩) (λ_ _ x=>x)⟩
  have H:=adl (d:=d) fd ct o! hM (co:= {j with Aa:=j.Aa.set C ⟨low,z,Ap,E,left⟩}) (t.put fm) g1 g2 g3;rw[X]at H;have fH:=(l.block o o! jp).trans am;have fy:=(l.block m o! (bV m o!)).trans lm;have fw:=(l.block w o! (bV _ o!)).trans li;obtain⟨i6,be,iX,bc,iS⟩:=Qc5 fw;obtain⟨ip,io,im,ii,gt⟩:=Qc5 fy;obtain⟨gn,ba,gj,ap,fK⟩:=Qc5 fH;have lJ:=Zd H;have lK:=Zd X;clear G H g1 g2 g3 U3 L mv l fH fy fw q0 q1 q2 q3 q4 bi i9 pm pi pd bv lX nj ma xX X ct fd;unfold Dl
  go_simp
  go_wp2;rw[lK.out];go_ret;exact lJ.out
 have lI:=adl (d:=d) Y dl o! hM t U (du.imp (T:=Cb w y) λx a=>⟨by have:=a.1;omega,by have:=a.2;omega⟩) (Q.rc.imp (T:=Cb w y) λx a=>⟨by have:=a.1;omega,a.2⟩);obtain⟨i6,be,iX,bc,iS⟩:=Qc5 an;obtain⟨ip,io,im,ii,gt⟩:=Qc5 fI;obtain⟨gn,ba,gj,ap,fK⟩:=Qc5 fJ;by_cases h0:c.Af.length=0
 .have hh:¬0<(c.Af.length:Int):=by omega
  clear h0;go_wp2;go_ret;exact lI
 have hh:0<(c.Af.length:Int):=o!
 go_wp2;have ml:j.Af.length=j.base.length:=hM.PN;have vd:=Zd ml;have t9:1<=j.Af.length/\j.Af.length<=3:=by have:=hM.Fp;omega
 clear ml;obtain⟨g,eg⟩:∃g,r2=some ⟨g,0,none⟩:=by
  rcases Q.Af.2 with⟨e,h2⟩|⟨g,cap,cur,e,_⟩
  .omega
  cases e;exact⟨g,rfl⟩
 subst eg;obtain⟨R,o4,ea,UQ,x0,x1⟩:=U.Af.at_ (i:=0) o!;subst ea;obtain⟨sm,ai⟩:=Qnm (BV c.Af 0);rw[<-ai]at x0 x1;rw[Nat.zero_mul,Nat.add_zero]at x0 x1;clear ai;obtain⟨low,z⟩:=sm;dsimp only at x0 x1;obtain⟨K,Ig⟩:∃K:Nat->Prop,K=λx=>x=b\/y<=x:=⟨_,rfl⟩;have fh:K b:=by rw[Ig];exact .inl rfl
 have LP:∀x,y.heap.size<=x->K x:=λx a=>by rw[Ig];exact .inr a
 have qF:∀x,x<y.heap.size->x≠b->¬K x:=λx h1 h2=>by rw[Ig];exact λe=>e.elim h2 o!
 clear Ig;have mi:=hS R UQ;have z0:=λp:Tw K y=>p.cell ba (qF _ (by show o<_;omega) (by show o≠b;omega));have z1:=λp:Tw K y=>p.cell be (qF _ (by show w.heap.size<_;omega) (by show w≠b;omega));have z2:=λp:Tw K y=>p.cell x0 (qF _ (by show R<_;omega) (by show R≠b;omega));have z3:=λp:Tw K y=>p.cell x1 (qF _ (by show R<_;omega) (by show R≠b;omega));have Qu:IntKind.i64.wrap ((j.Af.length:Int) - 1)=(j.Af.length:Int) - 1:=by rw[zE];omega
 refine B0 (S:=λW=>∃p:Tw K y,W=p.v) [13] [(false,5),(false,6),(false,7),(false,12),(false,13)] [0,1,2,3,4,8,9,10,11] k! (λ_ _ d _ _ h=>by cases d<;>exact h) k! (A5 (Ak.later (Zh _ _).drew)) ?_;refine A4 _ _ k! ?_;simp only[Z6,zd,ZG,ZD,ZC]
 repeat (first|go_big_quiet_step (fail)|quiet_step (fail))
 refine Z4 ?_;clear z0 z1 z2 z3;change Dl _ _ _ _ _ _ _;have Uh:YH y y y.drew:=(Zh _ _).drew;have ck:Ak K y y.drew:=Ak.later Uh;refine Dw (v:=.int .i64 j.Af.length) rfl rfl g! (.inr (A5 ck)) ?_;refine Dw (v:=.int .i64 ((j.Af.length:Int) - 1)) rfl rfl g! (.inr (A5 ck)) ?_;refine Dd (f:=8) (args:= #[.pointer b,.int .i64 ((j.Af.length:Int) - 1)]) rfl rfl g! ((c29 ((jn.Cn S5 (λx a=>⟨by have:=(E8 x a).1;omega,(E8 x a).2⟩)).later Uh) (λx a=>⟨by have:=(E8 x a).1;simp;omega,(E8 x a).2⟩) (dl.later Uh) o! o!).mono ?_);rintro e B ⟨C,d5,rfl,pt,O,ac,re⟩;have V:B3 b y B:=by
  exact⟨O.os,O.tape,O.output,O.size,λk hk F=>O.block k hk F⟩
 have A:Ak K y B:=V.CN fh;refine⟨_,rfl,.inr (A5 A),?_⟩;have lE:C<j.Af.length:=o!
 have lL:=V.size;have I:=Q.CN (V.CN (K:=λx=>x=b) rfl) (λx a e=>o!);have am:=V.at_ fJ o!;have lm:=V.at_ fI o!;have li:=V.at_ an o!;have kw:=du.Ar (V.same λx a=>by have:=a.1;omega);have kv:=U.Ar (V.same λx a=>(hS x a).2);have D:B3 b w B:=Y.trans V;obtain⟨cur,q,P⟩:∃cur,B.heap[g]?=some (.cells cur 69 (0,0))/\∀k,k<2->∃v,cur[C*2+k]?=some v:=by
  rcases I.Af.2 with⟨e,_⟩|⟨g',cap,cur,e,g3,g4,g5,g6,g7,_⟩
  .cases e
  cases e;exact⟨cur,g4,λk hk=>⟨_,Zx (by rw[g7];omega)⟩⟩
 obtain⟨w0,bv⟩:=P 0 d!;obtain⟨w1,lX⟩:=P 1 d!;have q0:=ch q bv;have q1:=ch q lX;have bi:=cf (i:=C*2+0) q;have i9:=cf (i:=C*2+1) q;rw[Nat.add_zero]at q0 bi;obtain⟨N,G⟩:=Qnm ((B.setCell ⟨g,C*2,none⟩ (.int .i64 low)).setCell ⟨g,C*2+1,none⟩ (.int .i64 z));have rr:(C:Int)<(j.Af.length:Int):=o!
 have rq:(0:Int)<=(C:Int):=o!
 refine Dw (v:=.pointer (some ⟨g,C*2,none⟩)) rfl rfl g! (.inr (A5 A)) ?_;refine K8 (w':=N) rfl rfl (by rw[G];go_simp) (.inl rfl) ?_;have l:Ak (λx=>x=g) B N:=by rw[G];exact(Ak.refl (λx=>x=g) B).DT.DT
 have pu:=(J3 I.Af g rfl).1;have sq:=I.l2 g rfl;have bV:∀x,x<X2.heap.size->¬x=g:=λx a e=>o!
 have jp:¬o=g:=λe=>by subst e;rw[am]at q;cases q
 have L:=Ih.set I.Af lE (low,z);dsimp only at L;rw[<-G]at L;have X:N=B.heap.size:=by rw[G];simp
 have fd:B3 b w N:=by
  exact⟨l.os.trans D.os,l.tape.trans D.tape,l.output.trans D.output,Zr D.size l.size,λk hk F=>(l.block k (by have:=D.size;omega) o!).trans (D.block k hk F)⟩
 have ct:BK N b lv d5:=by
  obtain⟨st,B_⟩:=ac;exact⟨st,(l.block b o! o!).trans B_⟩
 have U3:∀ {v:Zf} {e:Zs} {k n:Nat} {xs:List Zf} {base:Nat},B.ownsRow base e k v n xs->e≠69->N.ownsRow base e k v n xs:=λh he=>acv h l q he;have mh:=I.row.CN l (λx a e=>by have:=a.1;omega) (λx a e=>by have:=(I.row.own x a).1;omega);have so:=I.le;have g1:=kv.Ar (l.same λx a=>show¬x=g by have:=hS x a;omega);have g2:=(kw.Ar (l.same λx a=>show¬x=g by have:=a.2;omega)).imp (T:=Cb w N) λx a=>⟨by have:=a.1;omega,by have:=a.2;omega⟩;have g3:RC (Cb w N) N (.slice r1 j.base.length f1) (.slice g j.Af.length f2) (.slice r3 j.hooks.length f3) (.slice r4 j.Aa.length f4) (.slice r5 j.now.length f5) {j with Af:=j.Af.set C (low,z)}:=
  ⟨Sl.imp (Own.si (U3 I.base d!)) (λx a=>⟨by have:=a.1;omega,a.2⟩) (λ_ _ x=>x),Sl.imp (Ih.tt L (.inr (.inr rfl))) (λx a=>⟨by have:=a.1;omega,a.lt⟩) (λ_ _ x=>x),Sl.imp (Own.si (U3 I.hooks d!)) (λx a=>⟨by have:=a.1;omega,a.2⟩) (λ_ _ x=>x),(mh.ss (Zj _)).imp (λx a=>⟨by have:=a.1;omega,a.2⟩) (λ_ _ ⟨v2,v3,e,h2,h3⟩=>⟨v2,v3,e,Sl.imp h2 (λx a=>⟨by have:=a.1;omega,a.2⟩) λ_ _ x=>x,Sl.imp h3 (λx a=>⟨by have:=a.1;omega,a.2⟩) λ_ _ x=>x⟩),Sl.imp (Own.si (U3 I.now d!)) (λx a=>⟨by have:=a.1;omega,a.2⟩) (λ_ _ x=>x)⟩
 have H:=adl (d:=d) fd ct o! hM (co:= {j with Af:=j.Af.set C (low,z)}) ⟨t.base,by rw[ZcC];exact t.Af,t.hooks,t.Aa,t.now,t.part⟩ g1 g2 g3;rw[X]at H;have fH:=(l.block o o! jp).trans am;have fy:=(l.block m o! (bV m o!)).trans lm;have fw:=(l.block w o! (bV _ o!)).trans li;obtain⟨i6,be,iX,bc,iS⟩:=Qc5 fw;obtain⟨ip,io,im,ii,gt⟩:=Qc5 fy;obtain⟨gn,ba,gj,ap,fK⟩:=Qc5 fH;have lJ:=Zd H;have lK:=Zd X;clear G H g1 g2 g3 U3 L mh l fH fy fw q0 q1 bi i9 bv lX X ct fd;unfold Dl
 go_simp
 go_wp2;rw[lK.out];go_ret;exact lJ.out
def ajD {l:List A_}{x:A_}(h:Sl S (aio S) 5 w (.slice q n cc) l)(b:l[k]?=some x):
  S q/\∃v1 v2 v3 v4 v5,w.cell? ⟨q,k*5,none⟩=some v1/\w.cell? ⟨q,k*5+1,none⟩=some v2/\w.cell? ⟨q,k*5+2,none⟩=some v3/\w.cell? ⟨q,k*5+3,none⟩=some v4/\w.cell? ⟨q,k*5+4,none⟩=some v5/\RC S w v1 v2 v3 v4 v5 x:=by
 obtain⟨p,m,e,_,_,f⟩:=h;cases e;obtain⟨o,i,cs,g,c,j,a,v1,v2,v3,v4,v5,rfl,d⟩:=f k x b;cases g;rw[zN]at a;exact⟨c,v1,v2,v3,v4,v5,by simpa using a 0 v1 rfl,a 1 v2 rfl,a 2 v3 rfl,a 3 v4 rfl,a 4 v5 rfl,d⟩
def ajE {a:Option Addr}{c:Nat}{l:List (List (Int×Int))}(h:SSP S w (.slice a n c) l)(d:k<=n):SSP S w (.slice a k c) (l.take k):=by
 obtain⟨o,m,g,j,f,e⟩:=h;cases g;refine⟨_,_,by rw[ZcV,Nat.min_eq_left d],by rw[ZcV];omega,f,λi x b=>?_⟩;rw[List.getElem?_take]at b;split at b
 .exact e i x b
 cases b
def am8:(Tryz.prog.info? 23).map (λi=>(i.zero,i.size,i.bytes))=some (some (.slice none 0 0),1,24):=k!
def aby (base:Nat)(w:Zb)(v:Zf)(a:List (List (Int×Int))):Prop:=
 ∃vals,w.ownsRow base 23 1 v a.length vals/\∀(i:Nat) (x:List (Int×Int)),a[i]?=some x->∃u,vals[i]?=some u/\SP (TT base w) w u x
def aby.snoc {base:Nat}{a:List (List (Int×Int))}(d:A.ownsRow base 23 1 v a.length vals)(n:∀(i:Nat) (x:List (Int×Int)),a[i]?=some x->∃u,vals[i]?=some u/\SP (TT base A) A u x)
 (j:SP (TT base A) A u s) (p:(A.alloc (.cells #[u] 23)).grownBy w1 v.ownBlock) (r:w1.ownsRow base 23 1 v' (a.length+1) (vals++ [u])):aby base w1 v' (a++ [s]):=by
 have c:Ak (λk=>v.ownBlock=some k) A w1:=(Ak.later (bA (Zh _ _))).trans (Ak.grown p λk m=>m);have b:∀x,TT base A x->¬v.ownBlock=some x:=λx b e=>by
  obtain⟨_,cs,h⟩:=J3 d x e;exact b.not h ⟨d!,d!,d!⟩
 have f:vals.length=a.length:=by have:=d.1;omega
 refine⟨vals++ [u],by rw[ZA];exact r,λi x hi=>?_⟩;by_cases q:i<a.length
 .rw[zl q]at hi
  obtain⟨y,g,l⟩:=n i x hi;exact⟨y,by rw[zl (show i<vals.length by omega)];exact g,mL l c b⟩
 have o:=(Zm.1 hi).1;rw[ZA,zb,zR]at o;obtain rfl:i=a.length:=o!
 rw[Y1]at hi;cases hi;exact⟨u,by rw[<-f,Y1],mL j c b⟩
def aby.ssp {base:Nat}{e:List (List (Int×Int))}(h:aby base w v e):SSP (λx=>x<w.heap.size) w v e:=by
 obtain⟨vals,m,g⟩:=h;obtain⟨a,c,t,s,r,q⟩:=U7 m;refine⟨a,c,t,s,r,λi x d=>?_⟩;obtain⟨u,k,l⟩:=g i x d;obtain⟨b,o,p,n⟩:=q i u k;refine⟨b,0,[u],o,p.2,rfl,λj y f=>?_,u,rfl,Sl.imp l (λx d=>d.lt) λ_ _ x=>x⟩;cases j with
 |zero=>cases f;exact n
 |succ j=>cases f
def ary {ls:List (List (Int×Int))}(h:RC (λx=>x<w.heap.size) w v1 v2 v3 v4 v5 c)(hs:SSP (λx=>x<w.heap.size) w v6 ls)(hn:SI (λx=>x<w.heap.size) w v7 nums)(hG:Jr w):Calls Lp 3 #[.agg #[v1,v2,v3,v4,v5],v6,v7] w (Two w (.bool true)):=by
 obtain⟨a1,c1,a2,c2,a3,c3,a4,c4,a5,c5,rfl,rfl,rfl,rfl,rfl,l1,m1,l2,m2,l3,m3,l4,m4,l5,m5⟩:=h.vs;obtain⟨a6,c6,rfl,l6,m6⟩:=hs.val;obtain⟨la,lc,rfl,_⟩:=hn.val;have IX:=DJ;obtain⟨X,hX⟩:=Qnm (w.alloc (.cells (Qe6 c a1 c1 a2 c2 a3 c3 a4 c4 a5 c5) 26));have Ov:Qb6 w X:=by rw[hX];exact bA (Zh _ _)
 have KV:X=w.heap.size+1:=by rw[hX,ZB]
 have un:X.heap[w.heap.size]?=some (.cells (Qe6 c a1 c1 a2 c2 a3 c3 a4 c4 a5 c5) 26 (0,0)):=by rw[hX];exact Bp _ _
 have B9:=Zd (c25 (h.later Ov) (λx (g:x<w)=>o!));go_enter Lp.func4,n4;go_wp2;rw[<-hX];clear hX;refine B9.out.mono ?_;rintro e W1 ⟨ip,rfl,oX,Bg⟩;have J:=bU Ov Bg;have kG:=hG.later J;have DR:=Bg.size;have l_:=(Bg.block _ o!).trans un;by_cases gt:ip=true\/20<ls.length
 .cases ip with
  |true=>
   go_wp2_with (go_at_call 5;refine(c26 _ kG).mono ?_;rintro e V ⟨Ui,rfl|⟨x,rfl,Ss⟩⟩)
   .go_ret
    exact⟨bU J Ui,.inl rfl⟩
   .exact⟨rfl,bU J Ui,.inr ⟨_,rfl,Ss⟩⟩
  |false=>
   have Fd:20<(ls.length:Int):=by
    rcases gt with e|e
    .cases e
    omega
   go_wp2_with (go_at_call 5;refine(c26 _ kG).mono ?_;rintro e V ⟨Ui,rfl|⟨x,rfl,Ss⟩⟩)
   .go_ret
    exact⟨bU J Ui,.inl rfl⟩
   exact⟨rfl,bU J Ui,.inr ⟨_,rfl,Ss⟩⟩
 have fw:ip=false:=by cases ip;rfl;exact absurd (.inl rfl) gt
 have Fd:¬20<(ls.length:Int):=λe=>gt (.inr o!);have Qh:=oX fw;subst fw;clear gt oX B9 un;have MM:=aeG hs J;go_wp2;go_loopg [7] ls.length (λgg i wr=>∃k:Nat,k<=ls.length/\gg=ls.length - k/\i=.int .i64 k/\(∀j,j<k->(lz ls j).length<=20)/\wr=W1)
 case atStart=>exact⟨0,Zp _,rfl,rfl,λj hj=>absurd hj o!,rfl⟩
 obtain⟨k,hk,rfl,rfl,hq,Qu⟩:=hrel;have Qu:=Qu.symm;subst Qu;by_cases Az:k<ls.length
 .obtain⟨b6,o6,u,ea,Xj,lH,hu⟩:=MM.at_ Az
  subst ea;obtain⟨x,g⟩:=Qnm (lz ls k);rw[<-g]at hu;obtain⟨ua,uc,rfl,_⟩:=hu.val;have TB:(k:Int)<(ls.length:Int):=o!
  have HX:=Zd g;clear g;by_cases P4:20<(x.length:Int)
  .go_wp2_with (go_at_call 5;refine(c26 _ kG).mono ?_;rintro e V ⟨Ui,rfl|⟨x,rfl,Ss⟩⟩)
   .go_ret
    exact⟨bU J Ui,.inl rfl⟩
   exact⟨rfl,bU J Ui,.inr ⟨_,rfl,Ss⟩⟩
  have HQ:=Zd (show∀j,j<k+1->(lz ls j).length<=20 from λj hj=>by
   by_cases e:j=k
   .rw[e, <-HX.out];omega
   exact hq j o!)
  clear hq;go_wp2;go_roundg (ls.length - (k+1))
  case rel=>exact⟨k+1,Az,rfl,v!,HQ.out,rfl⟩
  omega
 have DB:k=ls.length:=o!
 rw[DB]at hq;have HQ:=Zd hq;clear hq;obtain⟨k0,k1,k2,k3,k4⟩:=Qc5 l_;obtain⟨W2,MX⟩:=Qnm (W1.alloc (.cells #[.slice la nums.length lc,.int .i64 0,.int .u64 1] 64));have Bb:Qb6 W1 W2:=by rw[MX];exact bA (Zh _ _)
 have EB:W2=W1.heap.size+1:=by rw[MX,ZB]
 have rV:BK W2 W1 (.slice la nums.length lc) 0:=⟨1,by rw[MX];exact Bp _ _⟩;obtain⟨b,hb⟩:=Qnm W1.heap.size;rw[<-hb]at rV;have EC:W1<=b/\b<=W1.heap.size:=o!
 go_wp2;refine(c27 _ ⟨_,_,_,rfl⟩ _).mono ?_;rintro e ym ⟨rfl,hw⟩;rw[<-MX]at hw;have hw:=hw.symm;subst hw;rw[<-hb];clear hb MX;have F:=bU J Bb;have B8:=Zd (c28 (h.later F) (λx (g:x<w)=>⟨by have:=F.size;omega,o!⟩) (hn.later F) (λx (g:x<w)=>⟨by have:=F.size;omega,o!⟩) rV d! Qh);have DP:=(Bb.block _ o!).trans l_;clear k0 k1 k2 k3 k4;obtain⟨k0,k1,k2,k3,k4⟩:=Qc5 DP;go_wp2;refine B8.out.mono ?_;rintro e U ⟨D,ac,q,d3,rfl,H4,ma,On,hM,pu,JA,vd⟩;have Rb:=H4.size;have BL:∀x,(x<w.heap.size\/Cb W2 U x)->x<U.heap.size/\x≠b:=λx g=>by
  rcases g with g|g
  .have:=F.size;exact⟨o!,o!⟩
  have:=g.1;have:=g.2;exact⟨o!,o!⟩
 have yx:=hM.small;have mx:=hM.small;have Fk:∀x,(x<w.heap.size\/Cb W2 U x)->x<U:=λx g=>(BL x g).1;have pm:=Zd (show∀W,B3 b U W->Sl (λx=>x<U.heap.size/\x≠b) (aio λx=>x<U.heap.size/\x≠b) 5 W (.slice q 4 4) [c,D,ac,D] from λW hU=>by
  refine Sl.imp (Sl.Ar vd (hU.same λx g=>(BL x g).2) (R:=aio λx=>x<w.heap.size\/Cb W2 U x) ?_) BL ?_
  .rintro cs x ⟨y1,y2,y3,y4,y5,rfl,hR⟩
   exact⟨y1,y2,y3,y4,y5,rfl,hR.Ar (hU.same λx g=>(BL x g).2)⟩
  rintro cs x ⟨y1,y2,y3,y4,y5,rfl,hR⟩;exact⟨y1,y2,y3,y4,y5,rfl,hR.imp BL⟩)
 have rx:=(hn.later F).Cn H4 (λx (g:x<w)=>⟨by have:=F.size;omega,o!⟩);have M2:w<=U.heap.size:=by have:=F.size;omega
 have GK:w<b:=o!
 have mw:∀x,x<w.heap.size->x<U.heap.size/\x≠b:=λx g=>⟨o!,o!⟩;have o9:=Zd (show∀W,B3 b U W->SI (λx=>x<w.heap.size) W (.slice la nums.length lc) nums from λW hU=>rx.Cn hU mw);have AC:=Zd (show∀W,B3 b U W->Qb6 w W/\SSP (λx=>x<w.heap.size) W (.slice a6 ls.length c6) ls from λW hU=>have hB:=B3.aj4 F (H4.trans hU) o!;⟨hB,aeG hs hB⟩);have ws:∀W,B3 b U W->Qb6 w W:=λW hU=>B3.aj4 F (H4.trans hU) o!;have HB:=Zd ws;have P3:b<U:=ma.lt;have iX:=Zd mw;clear k0 k1 k2 k3 k4 rx mw ws vd B8;have HM:=Zd hM;go_wp2;refine(abW (o9.out U (B3.refl _ _)) iX.out ⟨B3.refl _ _,ma⟩ o! d!).mono ?_;rintro e W4 ⟨r,d4,rfl,hr,S5,ld,Of⟩;have iK:r<=3:=hr;have tn:=ld.E4;have L4:=S5.size;obtain⟨i0,hi,Fl,k9,An⟩:=zp am8;have wn:=Cz Tryz.underlying27;clear ld;go_wp2;go_loopg [10,11] (r+1) (λgg ov i wr=>∃(C:Int) (d:Nat) (P:List (List (Int×Int))),gg=(C+1).toNat/\i=.int .i64 C/\-1<=C/\C+(P.length:Int)=(r:Int)/\aby W4 wr ov P/\(∀s∈P,Fs D.base.length s=0)/\B3 b W4 wr/\BK wr b (.slice la nums.length lc) d/\d<=3000+200*P.length)
 case atStart=>exact⟨r,d4,[],o!,rfl,o!,i!,⟨[],zq _ _ _ _,λi x g=>by cases g⟩,(λl hl=>by cases hl),B3.refl _ _,tn,o!⟩
 obtain⟨C,d,P,kv,rfl,NE,ka,H,re,hU,hL,hd⟩:=hrel;have kv:=kv.symm;subst kv;have HP:=Zd re;clear re;have ap:=S5.trans hU;have LF:=hU.size;have AN:=Zd ka;by_cases Az:0<=C
 .obtain⟨vals,Ci,DF⟩:=H
  have HV:=Zd DF;clear DF;obtain⟨sa,sc,rfl,_⟩:=JS Ci;obtain⟨C7,p1,p2,p3,p4,p5,x0,x1,x2,x3,x4,lG⟩:=ajD (k:=1) (pm.out _ ap) rfl;rw[Nat.one_mul]at x0 x1 x2 x3 x4;obtain⟨PP,Ju,PJ,IS,PC,IR,PB,IO,PA,IN,rfl,rfl,rfl,rfl,rfl,_⟩:=lG.vs;have lK:P.length<=3:=o!
  have hw:IntKind.i64.wrap (C - 1)=C - 1:=by rw[zE];omega
  have NO:C>=0:=Az;have BY:=Zd (aqk lG (λx g=>⟨by have:=g.1;omega,g.2⟩) (o9.out _ ap) (λx g=>⟨by have:=(iX.out x g).1;omega,(iX.out x g).2⟩) hL o! HM.out);clear ka;go_wp2;refine BY.out.mono ?_;rintro e W5 ⟨ta,am,s,d5,rfl,mt,NX,rg,ER⟩;have cN:=mt.Cn;have xZ:=mt.E4;have p9:=cN.size;have Iz:=Zd ER;have gn:=D2 Ci cN (by omega:b<W4);have In:=Zd (show∀(i:Nat) (x:List (Int×Int)),P[i]?=some x->∃u,vals[i]?=some u/\SP (TT W4 W5) W5 u x from λi x g=>by
   obtain⟨u,e,h⟩:=HV.out i x g;exact⟨u,e,mL (T:=λx=>x=b) h (cN.CN (K:=λx=>x=b) rfl) λx g e=>by have:=g.1;omega⟩)
  have bc:SP (TT W4 W5) W5 (.slice ta s.length am) s:=Ug rg o!;dsimp only;clear x0 x1 x2 x3 x4 lG BY C7 Ci rg hL ER mt;go_wp2_with (at_builtin;refine Yc _ rfl _ _ 27 rfl W4 23 i0 () 1 24 wn (Dz hi) Fl k9 An rfl d! _ P.length vals rfl (Ya gn _) W5 1 1 [.slice ta s.length am] rfl rfl (cell_one_new _ _ _) (by simp[YT]) u! o! j! ?_;intro v9 w9 ba r_ nm);have bv:aby W4 w9 v9 (P++ [s]):=aby.snoc gn In.out bc r_ ba;have Em:=J3 gn;have pY:B3 b W4 w9:=((hU.trans cN).below (bA (Zh _ _))).grown r_ λx g=>by have:=(Em x g).1;omega
  have td:BK w9 b (.slice la nums.length lc) d5:=(xZ.later (bA (Zh _ _))).of (r_.block b (xZ.later (bA (Zh _ _))).lt (λe=>by have:=(Em b e.symm).1;omega));have Qs:=Zd (ZY bv (ZY pY td));clear bv pY td gn r_ ba nm Em xZ bc;go_roundg ((C - 1)+1).toNat
  case rel=>exact⟨C - 1,d5,P++ [s],rfl,rfl,o!,by have:=AN.out;rw[ZA];simp;omega,Qs.out.1,(λx g=>by
   rcases Zab.1 g with h|h
   .exact HP.out x h
   rw[Yh.1 h];exact Iz.out),Qs.out.2.1,Qs.out.2.2,by rw[ZA];simp;omega⟩
  omega
 have DA:C= -1:=o!
 subst DA;have lK:1<=P.length/\P.length<=4:=o!
 have be:=H.ssp;obtain⟨oa,oc,rfl,ol,_⟩:=Sl.val be;obtain⟨Z,hZ⟩:=Qnm wr;subst hZ;have wd:=HB.out _ ap;have jp:=(AC.out _ ap).2;have vG:=Zd (pm.out _ ap);have Mk:w<=Z.heap.size:=wd.size;have pi:=Zd (show∀l∈P,l.length<=20 from λl hl=>by
  have:=(Ha (HP.out l hl)).1;have:=yx.base;omega)
 clear H ka;obtain⟨an,rC⟩:=Qnm (min 2 P.length);have vF:an<=P.length/\an<=2:=o!
 have GS:min (2:Int) (P.length:Int)=(an:Int):=o!
 go_wp2;rw[<-rC];obtain⟨y6,h6⟩:=Qnm (Zy a6 ls.length c6);rw[<-h6]at jp⊢;obtain⟨y9,h9⟩:=Qnm (Zy oa an oc);have sr:SSP (λx=>x<Z.heap.size) Z y9 (P.take an):=by rw[h9];exact ajE be vF.1
 rw[<-h9];obtain⟨io,h8⟩:=Qnm (Zy oa P.length oc);rw[<-h8]at be⊢;clear h6 h8 h9;obtain⟨Y,hY⟩:=Qnm (Z.alloc (.cells #[y6,io,y9,y6] 27));have O:Qb6 Z Y:=by rw[hY];exact bA (Zh _ _)
 have t9:Y.heap[Z.heap.size]?=some (.cells #[y6,io,y9,y6] 27 (0,0)):=by rw[hY];exact Bp _ _
 obtain⟨qs,jt⟩:=Qnm Z.heap.size;rw[<-jt]at t9;rw[<-hY, <-jt];clear hY jt;have JT:=O.size;have my:Qb6 w Y:=bU wd O;have us:Jr Y:=hG.later my;have tb:∀k,k<4->∃v L,(#[y6,io,y9,y6]:Array Zf)[k]?=some v/\SSP (λx=>x<Y.heap.size) Y v L/\L.length<=20/\∀l∈L,l.length<=20:=by
  have h1:SSP (λx=>x<Y.heap.size) Y y6 ls:=ad0 jp (λx (g:x<w)=>o!) O;have h2:SSP (λx=>x<Y.heap.size) Y io P:=ad0 be (λx g=>g) O;have h3:SSP (λx=>x<Y.heap.size) Y y9 (P.take an):=ad0 sr (λx g=>g) O;have T2:ls.length<=20:=o!
  have T6:∀l∈ls,l.length<=20:=λl hl=>by
   obtain⟨j,hj,e⟩:=List.mem_iff_getElem.1 hl;have h:=Oj hj;rw[zf hj]at h;rw[<-e,ZW h];exact HQ.out j hj
  intro k hk;obtain rfl|rfl|rfl|rfl:k=0\/k=1\/k=2\/k=3:=o!
  .exact⟨_,_,rfl,h1,T2,T6⟩
  .exact⟨_,_,rfl,h2,o!,pi.out⟩
  .exact⟨_,_,rfl,h3,by rw[ZcV];omega,λl hl=>pi.out l (List.mem_of_mem_take hl)⟩
  exact⟨_,_,rfl,h1,T2,T6⟩
 have mh:Sl (λx=>x<Y.heap.size) (aio λx=>x<Y.heap.size) 5 Y (.slice q 4 4) [c,D,ac,D]:=by
  refine Sl.imp (Sl.Ar vG.out (CE.Ec O) (R:=aio λx=>x<U.heap.size/\x≠b) ?_) (T:=λx=>x<Y.heap.size) (λx g=>by have:=g.1;show x<Y;omega) ?_
  .rintro cs x ⟨y1,y2,y3,y4,y5,rfl,hR⟩
   exact⟨y1,y2,y3,y4,y5,rfl,hR.Ar (CE.Ec O)⟩
  rintro cs x ⟨y1,y2,y3,y4,y5,rfl,hR⟩;exact⟨y1,y2,y3,y4,y5,rfl,hR.imp λx g=>by have:=g.1;show x<Y;omega⟩
 obtain⟨cl,dL⟩:=Qnm ([c,D,ac,D]);have ww:∀k,k<4->∃x,cl[k]?=some x/\adi x:=by
  intro k hk;rw[dL];obtain rfl|rfl|rfl|rfl:k=0\/k=1\/k=2\/k=3:=o!
  .exact⟨_,rfl,Qh⟩
  .exact⟨_,rfl,mx⟩
  .exact⟨_,rfl,pu⟩
  exact⟨_,rfl,mx⟩
 rw[<-dL]at mh;have IF:=Zd mh;have yg:=Zd tb;have It:=Zd ww;clear dL mh tb ww jp be sr vG pm o9 HB iX hM pu Qh BL Fk hs hn h yx mx pi HP HQ hL ma tn hU H4 S5 ap MM O HM AC rC vF GS AN lK;go_loopg [14] 4 (λgg i wr=>∃k:Nat,k<=4/\gg=4 - k/\i=.int .i64 k/\Qb6 Y wr)
 case atStart=>exact⟨0,d!,rfl,rfl,Zh _ _⟩
 obtain⟨k,hk,rfl,rfl,E⟩:=hrel;by_cases Az:k<4
 .obtain⟨x,g,n⟩:=It.out k Az
  obtain⟨So,L,C3,lm,ON,s8⟩:=yg.out k Az;obtain⟨_,p1,p2,p3,p4,p5,x0,x1,x2,x3,x4,lE⟩:=ajD IF.out g;obtain⟨fi,e1,fd,e2,du,e3,dl,e4,ct,e5,rfl,rfl,rfl,rfl,rfl,_⟩:=lE.vs;have lH:=ch t9 C3;obtain⟨ua,uc,rfl,_⟩:=Sl.val lm;obtain⟨V,hV⟩:=Qnm wr;subst hV;have LE:=E.size;have rU:∀y,y<Y.heap.size->y<V.heap.size:=λy t=>o!
  have a:∀ {p:Addr} {v:Zf},Y.cell? p=some v->V.cell? p=some v:=λh=>(E.cell (ZH _ _ h)).trans h;have lI:RC (λy=>y<V.heap.size) V (.slice fi x.base.length e1) (.slice fd x.Af.length e2) (.slice du x.hooks.length e3) (.slice dl x.Aa.length e4) (.slice ct x.now.length e5) x:=(lE.later E).imp rU;have pt:SSP (λy=>y<V.heap.size) V (.slice ua L.length uc) L:=ad0 lm (λx g=>g) E;replace x0:=a x0;replace x1:=a x1;replace x2:=a x2;replace x3:=a x3;replace x4:=a x4;replace lH:=a lH;clear a rU lE lm;have pd:=Zd (show∀W,Qb6 V W->RC (λy=>y<W.heap.size) W (.slice fi x.base.length e1) (.slice fd x.Af.length e2) (.slice du x.hooks.length e3) (.slice dl x.Aa.length e4) (.slice ct x.now.length e5) x from λW z=>(lI.later z).imp λy (t:y<V.heap.size)=>by have:=z.size;show y<W;omega);have iS:=Zd (show∀W,Qb6 V W->SSP (λy=>y<W.heap.size) W (.slice ua L.length uc) L from λW z=>ad0 pt (λx g=>g) z);have B7:=Zd (λW (z:Qb6 V W)=>aoQ (lI.later z) (λy (t:y<V)=>by have:=z.size;omega) (by have:=n.base;omega) (by have:=n.Af;omega) (by have:=n.hooks;omega) (by have:=n.Aa;omega) (by have:=n.now;omega) λi hi=>⟨by have:=(n.part i hi).1;omega,by have:=(n.part i hi).2;omega⟩);have BE:=Zd (λW (z:Qb6 V W)=>c39 (pd.out W z) (iS.out W z) (λy t=>t) (by have:=n.base;omega) (by have:=n.Af;omega) (by have:=n.hooks;omega) (by have:=n.Aa;omega) (by have:=n.now;omega) (λi hi=>⟨by have:=(n.part i hi).1;omega,by have:=(n.part i hi).2;omega⟩) o!);have Im:=Zd n;have GP:=Zd s8;have TB:(k:Int)<4:=o!
  have Rg:(0:Int)<=(k:Int):=o!
  have z0:=λp=>Al p x0;have z1:=λp=>Al p x1;have z2:=λp=>Al p x2;have z3:=λp=>Al p x3;have z4:=λp=>Al p x4;have z5:=λp=>Al p lH;clear lI pt n s8;go_wp2;refine aci (S:=λW=>∃p,W=calm V p) 9 [] (.one 8 .leaf) [0,1,2,3,4,5,6,7] k! (λ_ _ d _ _ h=>by cases d<;>exact h) k! (AL (Zh _ _).drew) ?_;refine A4 _ _ k! ?_;simp only[Z6,zd,ZG,ZD,ZC]
  repeat (first|go_big_quiet_step (fail)|quiet_step (fail))
  refine Z4 ?_;clear z0 z1 z2 z3 z4 z5;change acs _ _ _ _ _ _ _ _;have Uh:YH V V V.drew:=(Zh _ _).drew;refine acL (f:=10) (args:= #[.agg (Qe6 x fi e1 fd e2 du e3 dl e4 ct e5),.slice ua L.length uc]) rfl rfl g! ((BE.out _ Uh).mono ?_);rintro e V1 ⟨Bg,ow,rfl⟩;have ci:=bU Uh Bg;refine .inl ⟨_,rfl,.inr (AL ci),?_⟩;unfold acs
  go_simp
  have GO:=bU E ci;clear Uh Bg BE;by_cases GK:ow=true
  .subst GK
   go_wp2;go_roundg (4 - (k+1))
   case rel=>exact⟨k+1,Az,rfl,v!,GO⟩
   omega
  have fw:ow=false:=by cases ow;rfl;exact absurd rfl GK
  subst fw;clear GK;have a:∀ {p:Addr} {v:Zf},V.cell? p=some v->V1.cell? p=some v:=λh=>(ci.cell (ZH _ _ h)).trans h;have g0:=a x0;have g1:=a x1;have g2:=a x2;have g3:=a x3;have g4:=a x4;clear a;go_wp2;refine(B7.out _ ci).mono ?_;rintro e W5 ⟨y1,y2,y3,y4,y5,rfl,Cj,se⟩;have lJ:=se.rc;obtain⟨jn,n1,i9,n2,i8,n3,i7,n4,i6,n5,rfl,rfl,rfl,rfl,rfl,_⟩:=lJ.vs;clear se g0 g1 g2 g3 g4;obtain⟨Q,Ia⟩:=Qnm (W5.alloc (.cells (Qe6 x jn n1 i9 n2 i8 n3 i7 n4 i6 n5) 26));have fy:Qb6 W5 Q:=by rw[Ia];exact bA (Zh _ _)
  have fK:Q.heap[W5.heap.size]?=some (.cells (Qe6 x jn n1 i9 n2 i8 n3 i7 n4 i6 n5) 26 (0,0)):=by rw[Ia];exact Bp _ _
  obtain⟨bx,li⟩:=Qnm W5.heap.size;rw[<-li]at fK;have yq:Qb6 V Q:=bU ci (bU Cj fy);have WS:bx<Q:=(Za.1 fK).1;have AI:=Zd (show∀W,Qb6 Q W->RC (λy=>y<W.heap.size) W (.slice jn x.base.length n1) (.slice i9 x.Af.length n2) (.slice i8 x.hooks.length n3) (.slice i7 x.Aa.length n4) (.slice i6 x.now.length n5) x from λW z=>((lJ.later fy).later z).imp λy t=>by have:=t.2;have:=fy.size;have:=z.size;show y<W;omega);have a:∀ {p:Addr} {v:Zf},V.cell? p=some v->Q.cell? p=some v:=λh=>(yq.cell (ZH _ _ h)).trans h;have o:=Zd (ZY (a x0) (ZY (a x1) (ZY (a x2) (ZY (a x3) (ZY (a x4) (a lH))))));clear a lJ B7;go_wp2;rw[<-Ia, <-li];clear Ia li fy Cj;go_loopg [16,17] L.length (λgg Id i wr=>∃(m:Nat),m<=L.length/\gg=L.length - m/\i=.int .i64 m/\aby Q wr Id (L.take m)/\Qb6 Q wr)
  case atStart=>exact⟨0,Zp _,rfl,rfl,⟨[],zq _ _ _ _,λi x g=>by cases g⟩,Zh _ _⟩
  obtain⟨m,hm,rfl,rfl,H,M⟩:=hrel;obtain⟨A,hA⟩:=Qnm wr;subst hA;have fJ:=bU yq M;have a:∀ {p:Addr} {v:Zf},Q.cell? p=some v->A.cell? p=some v:=λh=>(M.cell (ZH _ _ h)).trans h;by_cases N:m<L.length
  .obtain⟨b7,o7,u,ea,U3,fI,G⟩:=(iS.out A fJ).at_ N
   cases ea;have GE:(lz L m).length<=20:=GP.out _ (Z3 (Oj N));obtain⟨s,hs⟩:=Qnm (lz L m);rw[<-hs]at G GE;have At:=Zd (show L.take (m+1)=L.take m++ [s] by rw[ZbH,Oj N,hs];rfl);clear hs;obtain⟨va,vc,rfl,_⟩:=G.val;have kw:=a o.out.2.2.2.2.2;have Do:(m:Int)<(L.length:Int):=o!
   have GC:(0:Int)<=(m:Int):=o!
   have A9:=Zd (aoO G o!);obtain⟨P,hP⟩:=Qnm (L.take m);have sq:P.length=m:=by rw[hP,ZcV];omega
   rw[<-hP]at H At;clear hP;obtain⟨vals,Ci,DF⟩:=H;have HV:=Zd DF;have Sq:=Zd sq;obtain⟨sa,sc,rfl,_⟩:=JS Ci;have lK:P.length<=20:=o!
   clear DF G a sq;go_wp2;refine A9.out.mono ?_;rintro e A1 ⟨u1,rfl,fH,lL⟩;obtain⟨ta,am,rfl,_⟩:=lL.val;have DR:=fH.size;have CA:=M.size;have gj:=Tn fH Ci;have Is:=Zd (show∀(i:Nat) (x:List (Int×Int)),P[i]?=some x->∃u,vals[i]?=some u/\SP (TT Q A1) A1 u x from λi x g=>by
    obtain⟨u,e,h⟩:=HV.out i x g;exact⟨u,e,mL (T:=λ_=>False) h (Ak.later fH) λ_ _ x=>x⟩)
   have bc:SP (TT Q A1) A1 (.slice ta s.length am) s:=Ug lL o!;clear lL Ci A9 kw fI;go_wp2_with (at_builtin;refine Yc _ rfl _ _ 27 rfl Q 23 i0 () 1 24 wn (Dz hi) Fl k9 An rfl d! _ P.length vals rfl (Ya gj _) A1 1 1 [.slice ta s.length am] rfl rfl (cell_one_new _ _ _) (by simp[YT]) u! o! j! ?_;intro v9 w9 ba r_ nm);have bv:aby Q w9 v9 (P++ [s]):=aby.snoc gj Is.out bc r_ ba;have Jx:Qb6 Q w9:=Bm ((M.trans (fH.mono CA)).alloc o! _) r_ (λy t=>(Zcm gj y t).1) j!;have Qs:=Zd (ZY bv Jx);clear bv Jx gj r_ ba nm bc;go_roundg (L.length - (m+1))
   case rel=>exact⟨m+1,N,rfl,v!,by rw[At.out];exact Qs.out.1,Qs.out.2⟩
   omega
  have rB:m=L.length:=o!
  subst rB;rw[ZcU]at H;have fm:=H.ssp;obtain⟨ta,am,rfl,_⟩:=Sl.val fm;have DO:=(M.block _ WS).trans fK;have OS:Jr A:=us.later (bU E fJ);have If:=Zd (show∀W,Qb6 A W->SSP (λy=>y<W.heap.size) W (.slice ta L.length am) L from λW z=>ad0 fm (λx g=>g) z);have ml:=ar4 (AI.out A M) fm (λy t=>t) (λi hi=>by have:=(Im.out.part i hi).2;omega);have mj:=λW (z:Qb6 V W)=>c42 (pd.out W z) (iS.out W z) (λy t=>t);obtain⟨ai,rr⟩:∃r,r=adP x L:=⟨_,rfl⟩;obtain⟨n7,ru⟩:∃r,r=adN x L:=⟨_,rfl⟩;obtain⟨no,rq⟩:∃r,r=adO x L:=⟨_,rfl⟩;rw[<-rr, <-ru, <-rq]at ml mj;have AT:=Zd ml;have AS:=Zd mj;obtain⟨g0,g1,g2,g3,g4⟩:=Qc5 DO;have kw:=a o.out.2.2.2.2.2;clear ml mj rr ru rq H fm;go_wp2;refine AT.out.mono ?_;rintro e Y3 ⟨bV,⟨Q0,rfl,mv⟩|⟨RW,rfl,Ss⟩⟩
  rotate_left
  .exact⟨rfl,bU my (bU E (bU fJ bV)),.inr ⟨_,rfl,Ss⟩⟩
  obtain⟨sa,sc,rfl,_⟩:=mv.val;have Pi:=bV.size;have xi:=bU fJ bV;have so:=SL.imp (T:=λy=>y<Y3.heap.size) mv λy t=>t.2;have B:∀ {p:Addr} {v:Zf},Q.cell? p=some v->Y3.cell? p=some v:=λh=>(bV.cell (ZH _ _ (a h))).trans (a h);have z0:=λp=>Al p (B o.out.1);have z1:=λp=>Al p (B o.out.2.1);have z2:=λp=>Al p (B o.out.2.2.1);have z3:=λp=>Al p (B o.out.2.2.2.1);have z4:=λp=>Al p (B o.out.2.2.2.2.1);have z5:=λp=>Al p (B o.out.2.2.2.2.2);clear g0 g1 g2 g3 g4 AT kw;go_wp2;refine aci (S:=λW=>∃p,W=calm Y3 p) 16 [] (.one 8 (.free 9 (.free 10 (.free 11 (.free 12 (.one 13 (.one 14 (.one 15 .leaf)))))))) [0,1,2,3,4,5,6,7] k! (λ_ _ d _ _ h=>by cases d<;>exact h) k! (AL (Zh _ _).drew) ?_;refine A4 _ _ k! ?_;simp only[Z6,zd,ZG,ZD,ZC]
  repeat (first|go_big_quiet_step (fail)|quiet_step (fail))
  refine Z4 ?_;clear z0 z1 z2 z3 z4 z5;change acs _ _ _ _ _ _ _ _;have mz:YH Y3 Y3 Y3.drew:=(Zh _ _).drew;refine acL (f:=14) (args:= #[.agg (Qe6 x fi e1 fd e2 du e3 dl e4 ct e5),.slice ua L.length uc]) rfl rfl g! ((AS.out _ (bU xi mz)).mono ?_);rintro e Y4 ⟨vE,im,ii,rfl,vb⟩;have bi:Qb6 Y3 Y4:=bU mz vE;have I:∃p,Y4=calm Y3 p:=AL bi;refine .inl ⟨_,rfl,.inr I,?_⟩;refine acX (v:=.tuple #[.slice im ai.length ii,.int .i64 n7,.int .i64 no]) I rfl rfl (λw _=>g!) ?_;refine acX (v:=.slice im ai.length ii) I rfl rfl (λw _=>g!) ?_;refine acX (v:=.int .i64 n7) I rfl rfl (λw _=>g!) ?_;refine acX (v:=.int .i64 no) I rfl rfl (λw _=>g!) ?_;refine acK (v:=.slice im ai.length ii) (w':=Y4) rfl rfl g! (.inr I) ?_;refine acK (v:=.int .i64 n7) (w':=Y4) rfl rfl g! (.inr I) ?_;refine acK (v:=.int .i64 no) (w':=Y4) rfl rfl g! (.inr I) ?_;unfold acs
  go_simp
  have Re:=bi.size;have vD:=bU xi bi;have vz:=bU bV bi;have ne:=bU M vz;have ut:=SL.imp (T:=λy=>y<Y4.heap.size) vb λy t=>t.2;have vy:=SL.imp (T:=λy=>y<Y4.heap.size) (so.later bi) λy t=>by have t:y<Y3:=t;show y<Y4;omega
  have B4:=Zd (λW (z:Qb6 Y4 W)=>c36 (AI.out W (bU ne z)) (pd.out W (bU vD z)) (λy t=>t) (λy t=>t));have B2:=Zd (λW (z:Qb6 Y4 W)=>show Calls Lp 15 #[.slice sa ai.length sc,.slice im ai.length ii] W λe w'=>e=.returned (.bool true)/\Qb6 W w' from by
   have:=c37 (vy.later z) (ut.later z) (λy t=>Zl t z.size) (λy t=>Zl t z.size);rwa[show O' ai ai=true from decide_eq_true rfl]at this)
  have B:∀ {p:Addr} {v:Zf},Q.cell? p=some v->Y4.cell? p=some v:=λh=>(ne.cell (ZH _ _ h)).trans h;have GT:=(ne.block _ WS).trans fK;have z0:=λp=>Al p (B o.out.1);have z1:=λp=>Al p (B o.out.2.1);have z2:=λp=>Al p (B o.out.2.2.1);have z3:=λp=>Al p (B o.out.2.2.2.1);have z4:=λp=>Al p (B o.out.2.2.2.2.1);have z5:=λp=>Al p (B o.out.2.2.2.2.2);obtain⟨s0,s1,s2,s3,s4⟩:=Qz5 GT;clear I mz vE AS vb ut vy so mv;go_wp2;refine Av k! k! ?_
  repeat (first|go_big_quiet_step ((first|(go_at_call 16;exact AV (B4.out _ (AE _ _)))|(go_at_call 15;exact AV (B2.out _ (AE _ _)))))|quiet_step ((first|(go_at_call 16;exact AV (B4.out _ (AE _ _)))|(go_at_call 15;exact AV (B2.out _ (AE _ _))))))
  refine Z4 ?_;rintro _ ⟨p,rfl⟩;have yw:=AE Y4 p;obtain⟨Y5,rE⟩:=Qnm (calm Y4 p);rw[<-rE]at yw⊢;clear rE z0 z1 z2 z3 z4 z5 s0 s1 s2 s3 s4;have GB:=bU vz yw;have Hd:=bU vD yw;go_wp2;go_loopg [24] L.length (λgg i wr=>∃m:Nat,m<=L.length/\gg=L.length - m/\i=.int .i64 m/\Qb6 Y5 wr)
  case atStart=>exact⟨0,Zp _,rfl,rfl,Zh _ _⟩
  obtain⟨m,hm,rfl,rfl,Jp⟩:=hrel;obtain⟨ck,EQ⟩:=Qnm wr;subst EQ;have vx:=bU GB Jp;have yr:=bU Hd Jp;by_cases N:m<L.length
  .obtain⟨b7,o7,u,ea,U3,fI,G⟩:=(iS.out ck yr).at_ N
   cases ea;obtain⟨b8,o8,u8,ea,OF,vw,fu⟩:=(If.out ck vx).at_ N;cases ea;obtain⟨s,hs⟩:=Qnm (lz L m);rw[<-hs]at G fu;clear hs;obtain⟨va,vc,rfl,_⟩:=G.val;obtain⟨HI,Hi,rfl,_⟩:=fu.val;have Do:(m:Int)<(L.length:Int):=o!
   have GC:(0:Int)<=(m:Int):=o!
   have GA:=bU M vx;have pp:=Zd (λW (z:Qb6 ck W)=>show Calls Lp 17 #[.slice HI s.length Hi,.slice va s.length vc] W λe w'=>e=.returned (.bool true)/\Qb6 W w' from by
    have:=c43 (fu.later z) (G.later z) (λy t=>Zl t z.size) (λy t=>Zl t z.size);rwa[aef]at this)
   have z0:=λp=>Al p ((GA.cell (ZH _ _ o.out.2.2.2.2.2)).trans o.out.2.2.2.2.2);have z1:=λp=>Al p fI;have z2:=λp=>Al p vw;clear G fu fI vw;go_wp2;refine Av k! k! ?_
   repeat (first|go_big_quiet_step ((go_at_call 17;exact AV (pp.out _ (AE _ _))))|quiet_step ((go_at_call 17;exact AV (pp.out _ (AE _ _)))))
   refine Z4 ?_;rintro _ ⟨p,rfl⟩;have yw:=AE ck p;obtain⟨RT,vi⟩:=Qnm (calm ck p);rw[<-vi]at yw⊢;clear vi z0 z1 z2 pp;have Fr:=bU Jp yw;go_wp2;go_roundg (L.length - (m+1))
   case rel=>exact⟨m+1,N,rfl,v!,Fr⟩
   omega
  have Fm:=bU E yr;have rB:m=L.length:=o!
  go_wp2;go_roundg (4 - (k+1))
  case rel=>exact⟨k+1,Az,rfl,v!,Fm⟩
  omega
 have Lc:=bU my E;have D0:=us.later E;go_wp2_with (go_at_call 5;refine(c26 _ D0).mono ?_;rintro e V ⟨Ui,rfl|⟨x,rfl,Ss⟩⟩)
 .go_ret
  exact⟨bU Lc Ui,.inl rfl⟩
 exact⟨rfl,bU Lc Ui,.inr ⟨_,rfl,Ss⟩⟩
end Go.Proofs.Fit
namespace Go.Proofs.YtopmdkbmbldbbaaGreatDoor
open Go Go.Conc Go.RowKit Go.Proofs.Fit
set_option maxRecDepth 100000
def ajK:(Rows.seamSeasonsRow.inPlace==Tryz.prog.inPlace 3)=true:=k!
def aga:(Rows.seamSeasonsRow.unfollowed==Tryz.prog.unfollowed 3)=true:=k!
def aiU:(Rows.seamSeasonsRow.recurses==Tryz.prog.recurses 3)=true:=k!
def amc:(Rows.seamSeasonsRow.named==Tryz.prog.varsNamed 3)=true:=k!
def amd:joinedFacts Zc 3 Tryz.f3 Rows.seamSeasonsSpec Rows.seamSeasonsRow=true:=
 kQ k! k! k! k! k! ajK aga aiU amc k! k! k! k! k! k! k! k! k! rfl rfl rfl rfl rfl rfl k! k! k!
def akh (os:Os)(a:os.Started)(H:Type)(enc:Zs×Zf->H):ReturnsInLeavingWide {} Tryz.checked os 3 .any (λw args=>(Rows.seamSeasonsSpec.pre enc Zc Tryz.f3 [] false w args/\laidMetH Zc PT w)/\sizedMet enc Zc Tryz.f3 (ZbV Rows.seamSeasonsSpec) false w args)
   (Rows.seamSeasonsSpec.post enc Zc Tryz.f3 false true false false):=
 eO (s:=Rows.seamSeasonsSpec) a rfl rfl Tryz.func3 rfl rfl k! k! rfl k! (λf h=>by
    match f,h with
    | [_,_,_],_=>rfl)
   (ChangeSpec.witness_shaped (enc:=enc) (C:=Tryz.checked) (os:=os) (X:=λw _=>laidMetH Zc PT w) false (Vg os) #[.agg #[(),(),(),(),()],(),()] 8 rfl (World.shaped_of_RefB k! k!) k! k! k! (Ub os _))
   (λW base args f r b j _ d=>aj6 rfl b j d λw q p o n m l k c t e h i g d=>ary h i g d)
def arT:Rows.SeamSeasonsSaid:=
 OpenClaim.holds_of_wide_leaving 3 Tryz.f3 rfl rfl rfl rfl rfl rfl rfl ⟨rfl,rfl,rfl,rfl,rfl⟩ rfl rfl rfl rfl rfl k! Tryz.func3 amd
  (of_decide_eq_true k!) (by unfold Func.isWrapper;rw[if_neg (by decide+kernel)];exact⟨rfl,rfl⟩) (λc a H b _=>akh c a H b)
def aox:true=Rows.seamSeasonsRow.goesBy Tryz.pinned.checked.prog:=k!
theorem seasons_holds:Rows.SeamSeasonsCardSaid:=
 kM [.handle] (true,"f5bc8d1ac3b99de9e1e8858c41b1847b3a35b289d2f569d80110d9c41ae2ed4e") arT k! (OpenClaim.laidByTextAt_later rfl rfl qd abD) rfl ⟨rfl,rfl⟩ uI
  (λf fn c d=>by
   obtain rfl:f=3:=ZW ((show Tryz.prog.funcNamed "galloon/galloonlaw02.SeamSeasons" =some 3 by kernel_rfl).symm.trans c)|>.symm;obtain rfl:fn=Tryz.f3:=(ZW (Tryz.func3.symm.trans d)).symm;exact⟨abE,λj t a=>by
    have b:t∈ [26,27,22]:=by simpa using zY a
    have e:([26,27,22].all λu=> !Tryz.prog.wantsStandIn u)=true:=k!
    exact(show Tryz.prog.wantsStandIn t=false by simpa using Zdm.1 e t b)⟩)
  aox
#print axioms seasons_holds
end Go.Proofs.YtopmdkbmbldbbaaGreatDoor
