/- SeamSettings: for every costume, every number and every list of numbers, on every schedule and without a data race, the law returns true, and the arguments read afterwards as they read before. Conditions: those of the given row alone (the variable errors.errorType starts as the program's text lays it; the card ties that to the text). -/
import Derived.Test.YtadefjklgcgoiaaGreatDoorQ08
import Derived.Test.YtadefjklgcgoiaaGreatDoorQ11
import Derived.Lib.MinMax
set_option maxRecDepth 100000
set_option maxHeartbeats 6400000
noncomputable section
set_option linter.all false
open And renaming intro->ZY
open Array renaming getElem?_eq_some_iff->Za,replicate_succ->ZaN,replicate_zero->ZaM,toList_setIfInBounds->ZcM,replicate->Yu,getElem?_eq_getElem->Zx,mem_of_getElem?->zY
open Bool renaming and_eq_true->ZF
open Function renaming comp_def->ZdQ
open Go renaming Value->Zf,World->Zb,callFunc->Zz,TypeId->Zs,Program->Zo,FuncId->ZaQ,Operand->Zbv,below_drewN->Y5,undef->Ze,loadVar->Zdd,wpQuiet_nil->Z4,callsIn_wide->Zcx,info_parts->zp,ownsRow_succ->Zay,run_underlying->Y9,bodyPost_ret->ZN,YieldsIf->ZbF,wpOp_mono->Zcc,wp_region_any->Zd5,execOp->Zby,wpList_append_own->Yc,storeCells->ZbX,resolve->Zbh,wp_append_own->Zak
open Go.Act renaming put->Zck
open Go.Addr renaming add->Zcu
open Go.Builtin renaming append_->Zao,firstCells->Zu,lenOf->ZcX
open Go.Calls renaming quiet_of_same->Zb5
open Go.Code renaming region->zU
open Go.DataW renaming TrodAll->Za9
open Go.Fence renaming wide->ZbC
open Go.Instr renaming index->ZdN,makeSlice->Zdp
open Go.IntKind renaming wrap_i64->zE
open Go.Lib renaming hid->Zd
open Go.Obj renaming cells->Zbi
open Go.OpenSpec renaming ofChange->ZbV
open Go.Oper renaming semAt_some->Zdk,wp->ZbA,upon_value->Zdi,upon_enter->Zdj,upon_skip->ZcQ
open Go.Proofs.Tryz renaming prog->Zc,underlying22->YE,underlying35->zW,underlying23->Zdg
open Go.Region renaming Mode->YO,ready->zs,free->Za3,noSelect->YF,wanted->Yf
open Go.Result renaming andThen->zu,andThen_ok->Zaw
open Go.RowKit renaming Below->YH
open Go.RowKit.Below renaming refl->Zh
open Go.Sem renaming run_bind->zg
open Go.Value renaming okWide->Zbk,oneCell'->YT,int->ZL,slice->Zy
open Go.World renaming size_alloc->ZB,ownsRow_nil->zq,block_lt_of_cell?->ZH,ownsRow_made->YC
open Go.World.ownsRow renaming lt->Zcm
open List renaming getElem?_eq_getElem->zf,mem_of_getElem?->Z3,mem_singleton->Yh,ext_getElem?->YA,getElem?_eq_none->ZP,range->Yr,getD_eq_getElem?_getD->Y6,pairwise_iff_getElem->ZdK,getElem_of_mem->Zas,all_eq_true->Zdm,getElem?_set_self->Ys,getElem?_set_ne->ZS,length_append->ZA,getElem?_append_left->zl,getElem?_eq_some_iff->Zm,length_cons->zb,length_nil->zR,getElem?_concat_length->Y1,size_toArray->Zbm,push_toArray->Zbn,append_toArray->Za4,nil_append->zP,cons_append->Za1,filter_cons->ZbB,length_filter_le->Zac,drop_eq_getElem_cons->ZO,length_set->ZcC,length_take->ZcV,take_add_one->ZbH,drop_eq_nil_iff->Z7,getElem?_map->YL,take_of_length_le->Zb3,getElem?_append_right->Zbr,map_toArray->Zcr,append_nil->ZaA,map_append->Zai,getElem?_take_of_lt->Z2,take_zero->ZdB,length_take_le->ZbW,filterMap_cons->Z6,filterMap_nil->zd,getElem?_toArray->ZG,getElem?_cons_succ->ZD,getElem?_cons_zero->ZC,flatMap_append->Zbe,filter_append->ZcW,take_length->ZcU,eq_nil_of_length_eq_zero->YM
open Nat renaming zero_le->Zp,not_lt_zero->ZbY,zero_add->zN,reduceAdd->ZaF,reduceSub->Zcw,pow_le_pow_right->YX,le_trans->Zr,le_refl->Zj,lt_of_lt_of_le->Zl,two_pow_pos->Zdz,le_of_eq->ZcS
open Option renaming bind_eq_some_iff->ZX
open Option.some renaming inj->ZW
open True renaming intro->Yz
namespace Go.Proofs.Fit
open Go
@[simp] def Lp.func17:=l! Tryz.func3
@[simp] def Lp.func25:=l! Tryz.func4
@[simp] def Lp.call25:=c! Lp.func25
@[simp] def Lp.call27:=c! Lp.func27
@[simp] def Lp.func28:=l! Tryz.func7
@[simp] def Lp.call28:=c! Lp.func28
@[simp] def Lp.func36:=l! Tryz.func15
@[simp] def Lp.call36:=c! Lp.func36
@[simp] def Lp.func43:=l! Tryz.func38
@[simp] def Lp.call43:=c! Lp.func43
@[simp] def Lp.func50:=l! Tryz.func32
@[simp] def Lp.call50:=c! Lp.func50
@[simp] def Lp.func72:=l! Tryz.func10
@[simp] def Lp.call72:=c! Lp.func72
@[simp] def Lp.func74:=l! Tryz.func11
@[simp] def Lp.call74:=c! Lp.func74
@[simp] def Lp.func75:=l! Tryz.func12
@[simp] def Lp.call75:=c! Lp.func75
@[simp] def Lp.func76:=l! Tryz.func13
@[simp] def Lp.call76:=c! Lp.func76
@[simp] def Lp.func93:=l! Tryz.func70
@[simp] def Lp.call93:=c! Lp.func93
@[simp] def Lp.func94:=l! Tryz.func72
@[simp] def Lp.call94:=c! Lp.func94
@[simp] def Lp.func95:=l! Tryz.func73
@[simp] def Lp.call95:=c! Lp.func95
@[simp] def Lp.func97:=l! Tryz.func39
@[simp] def Lp.call97:=c! Lp.func97
@[simp] def Lp.func107:=l! Tryz.func67
@[simp] def Lp.call107:=c! Lp.func107
@[simp] def Lp.func115:=l! Tryz.func37
@[simp] def Lp.call115:=c! Lp.func115
@[simp] def Lp.func116:=l! Tryz.func66
@[simp] def Lp.call116:=c! Lp.func116
@[simp] def Lp.func117:=l! Tryz.func68
@[simp] def Lp.call117:=c! Lp.func117
@[simp] def Lp.func118:=l! Tryz.func69
@[simp] def Lp.call118:=c! Lp.func118
@[simp] def Lp.func128:=l! Tryz.func31
@[simp] def Lp.call128:=c! Lp.func128
@[simp] def Lp.func131:=l! Tryz.func71
@[simp] def Lp.call131:=c! Lp.func131
@[simp] def Lp.func133:=l! Tryz.func33
@[simp] def Lp.call133:=c! Lp.func133
@[simp] def Lp.func135:=l! Tryz.func36
@[simp] def Lp.call135:=c! Lp.func135
@[simp] def Lp.func160:=l! Tryz.func91
@[simp] def Lp.call160:=c! Lp.func160
end Go.Proofs.Fit
namespace Go.Proofs.Fit
open Go Go.Conc Go.FA Go.RowKit
variable {W w A B w1 w':Zb}
variable {n k b i g cap cc j q rb c2 acs M:Nat}
variable {v v1 v2 v3 v4 v5 v' u u2 u1 u4 u5 v6 lv:Zf}
def aeD {a:Addr}{c:Nat}(h:W.cell? (a.add k)=some v):VR (Qk W) (.slice (some a) n c) (.slice (some a) n c):=by
 obtain⟨_,_,_,b⟩:=Sp h;rw[CF]at b;exact .slice n c ⟨pA b,rfl,rfl⟩
end Go.Proofs.Fit
namespace Go.Proofs.Fit
open Go
def n17:Tryz.f3.ntmps=120:=rfl
def n25:Tryz.f4.ntmps=57:=rfl
def n28:Tryz.f7.ntmps=63:=rfl
def n36:Tryz.f15.ntmps=64:=rfl
def n43:Tryz.f38.ntmps=26:=rfl
def n50:Tryz.f32.ntmps=50:=rfl
def n72:Tryz.f10.ntmps=16:=rfl
def n74:Tryz.f11.ntmps=12:=rfl
def n75:Tryz.f12.ntmps=63:=rfl
def n76:Tryz.f13.ntmps=63:=rfl
def n93:Tryz.f70.ntmps=42:=rfl
def n94:Tryz.f72.ntmps=26:=rfl
def n95:Tryz.f73.ntmps=72:=rfl
def n97:Tryz.f39.ntmps=60:=rfl
def amh:Tryz.f67.ntmps=10:=rfl
def ami:Tryz.f37.ntmps=58:=rfl
def amj:Tryz.f66.ntmps=94:=rfl
def amk:Tryz.f68.ntmps=84:=rfl
def aml:Tryz.f69.ntmps=60:=rfl
def aq4:Tryz.f31.ntmps=23:=rfl
def ajG:Tryz.f71.ntmps=44:=rfl
def amm:Tryz.f33.ntmps=31:=rfl
def amn:Tryz.f36.ntmps=15:=rfl
def amo:Tryz.f91.ntmps=57:=rfl
end Go.Proofs.Fit
namespace Go.Proofs.Fit
open Go Go.RowKit
variable {H α:Type}
variable {W w A B w1 w':Zb}
variable {t e ty:Zs}
def adi {enc:Zs×Zf->H}{P:Zo}{base:Nat}{c:Nat->Bool}{d:Bool}{f0 e:Field}(ht:P.underlying t=some (.struct #[f0,e]))(s:P.cellsOf t=2)(z:P.underlying f0.type=some (.int .i64))(x:P.underlying e.type=some (.int .i64))(C:P.cellsOf f0.type=1)(B:P.cellsOf e.type=1)(p:f0.offset=0)(o:e.offset=1):
  Reads enc P w base c d t Rp:=by
 intro n A y q;obtain⟨l,m,_,_,j,r,k⟩:=DataW.trod_struct ht q;have g:=k 0 f0 rfl;have f:=k 1 e rfl;rw[C,p]at g;rw[B,o]at f;have D:l.length=2:=r;rw[zf o!]at g f;obtain⟨a,i⟩:=kJ z _ _ _ g;obtain⟨b,h⟩:=kJ x _ _ _ f;rw[s]at j
 match A,j with
 | [u,v],_=>
  unfold Ri at i h;simp at i h;exact⟨(a,b),by unfold Rp;rw[i,h]⟩
end Go.Proofs.Fit
namespace Go.Proofs.Fit
open Go Go.Conc Go.FA Go.ChangeShapes Go.WideShapes Go.RowKit
set_option maxRecDepth 100000
def Nr (w:Zb)(v:Zf):Prop:=(∃n c,v=.slice none n c)\/(∃a,v=.slice (some a) 0 0)\/∃a n c k u,v=.slice (some a) n c/\w.cell? (a.add k)=some u
variable {W w A B w1 w':Zb}
variable {v v1 v2 v3 v4 v5 v' u u2 u1 u4 u5 v6 lv:Zf}
def Nr.aa0 (h:Nr W v):VR (Qk W) v v:=by
 rcases h with⟨n,c,rfl⟩|⟨a,rfl⟩|⟨a,n,c,k,u,rfl,h⟩
 .exact .slice (a:=none) n c trivial
 .exact .void _ _
 exact aeD h
section
variable {H:Type}{enc:Zs×Zf->H}{P:Zo}{w:Zb}{base:Nat}{held:Bool}{α:Type}
variable {t e ty:Zs}
variable {n k b i g cap cc j q rb c2 acs M:Nat}
def reads_held {R:Zb->List Zf->α->Prop}(ht:P.underlying t=some (.slice e))(r:P.cellsOf e=k)(hp:0<k)(h:Reads enc P w base (λ_=>true) held e R):
  Reads enc P w base (λ_=>true) held t (λw cs (l:List α)=>∃v,cs=[v]/\Sl (Lv w) R k w v l/\Nr w v):=by
 intro n cs y j;obtain⟨l,v,rfl,q⟩:=bW ht r hp h n cs y j;refine⟨l,v,rfl,q,?_⟩;rcases DataW.trod_slice ht j with⟨e,_⟩|⟨a,b,cap,f,g,o,_,e,_,_,p,_,m,c,x,_⟩
 .cases e;exact .inl ⟨_,_,rfl⟩
 cases e;by_cases u:cap=0
 .obtain rfl:b=0:=by omega
  subst u;exact .inr (.inl ⟨_,rfl⟩)
 have go:∀i:Nat,(∃y,(w.cells? base (a.add (i*P.cellsOf e)) (P.cellsOf e)).bind (DataW.trod enc P w base (λ_=>true) held o e)=some y)->Nr w (.slice (some a) b cap):=λi ⟨y,h⟩=>by
  obtain⟨C,d,_⟩:=ZX.1 h;obtain⟨A,s⟩:=bR d;have:=s 0 _ (zf o!);rw[Addr.add_zero']at this;exact .inr (.inr ⟨a,b,cap,_,_,rfl,this⟩)
 by_cases z:b=0
 .obtain⟨B,d⟩:=x rfl
  exact go (b+0) ⟨_,(d 0 o!).trans (zf o!)⟩
 exact go 0 ⟨_,(c 0 o!).trans (zf o!)⟩
end
def RsH (w:Zb)(cs:List Zf)(s:Ay):Prop:=∃v2 v3,cs=[.int .i64 s.low,.int .i64 s.high,v2,v3,.int .i64 s.left]/\SP (Lv w) w v2 s.Ap/\SI (Lv w) w v3 s.over/\Nr w v2/\Nr w v3
section
variable {H:Type}{enc:Zs×Zf->H}{w:Zb}{base:Nat}{held:Bool}
def ahK:Tryz.prog.cellsOf 3=1:=k!
def af8:Tryz.prog.cellsOf 22=1:=k!
def ajH:Tryz.prog.cellsOf 23=1:=k!
def ajI:Tryz.prog.cellsOf 24=1:=k!
def ajJ:Tryz.prog.cellsOf 46=1:=k!
def ain:Tryz.prog.cellsOf 48=5:=k!
def ajK:Tryz.prog.cellsOf 26=5:=k!
def adf:Reads enc Zc w base (λ_=>true) held 3 Ri:=kJ k!
def abS:Reads enc Zc w base (λ_=>true) held 22 (λw cs (l:List Int)=>∃v,cs=[v]/\SI (Lv w) w v l/\Nr w v):=
 reads_held (t:=22) (e:=3) k! ahK d! adf
def adL:Reads enc Zc w base (λ_=>true) held 46 (λw cs (l:List (Int×Int))=>∃v,cs=[v]/\SP (Lv w) w v l/\Nr w v):=
 reads_held (t:=46) (e:=88) k! k! d! (adi Tryz.underlying88 k! k! k! k! k! rfl rfl)
def adM:Reads enc Zc w base (λ_=>true) held 23 (λw cs (l:List (Int×Int))=>∃v,cs=[v]/\SP (Lv w) w v l/\Nr w v):=
 reads_held (t:=23) (e:=40) k! k! d! (adi Tryz.underlying40 k! k! k! k! k! rfl rfl)
def aeF:Reads enc Zc w base (λ_=>true) held 48 RsH:=by
 intro n b y s;obtain⟨a,m,_,_,l,t,c⟩:=DataW.trod_struct Tryz.underlying48 s;have D:a.length=5:=t;have k:DataW.trod enc Zc w base (λ_=>true) held m 3 ((b.drop 0).take (Tryz.prog.cellsOf 3))=a[0]? :=c 0 _ rfl;have j:DataW.trod enc Zc w base (λ_=>true) held m 3 ((b.drop 1).take (Tryz.prog.cellsOf 3))=a[1]? :=c 1 _ rfl;have i:DataW.trod enc Zc w base (λ_=>true) held m 46 ((b.drop 2).take (Tryz.prog.cellsOf 46))=a[2]? :=c 2 _ rfl;have h:DataW.trod enc Zc w base (λ_=>true) held m 22 ((b.drop 3).take (Tryz.prog.cellsOf 22))=a[3]? :=c 3 _ rfl;have g:DataW.trod enc Zc w base (λ_=>true) held m 3 ((b.drop 4).take (Tryz.prog.cellsOf 3))=a[4]? :=c 4 _ rfl;rw[ahK,zf o!]at k;rw[ahK,zf o!]at j;rw[ajJ,zf o!]at i;rw[af8,zf o!]at h;rw[ahK,zf o!]at g;rw[ain]at l;obtain⟨C,f⟩:=adf _ _ _ k;obtain⟨B,e⟩:=adf _ _ _ j;obtain⟨A,v⟩:=adL _ _ _ i;obtain⟨z,u⟩:=abS _ _ _ h;obtain⟨x,d⟩:=adf _ _ _ g
 match b,l with
 | [u0,u1,u2,u3,u4],_=>
  unfold Ri at f e d;obtain⟨v2,p,r,d2⟩:=v;obtain⟨v3,o,q,d3⟩:=u;simp at f e p o d;exact⟨⟨C,B,A,z,x⟩,v2,v3,by rw[f,e,d,p,o],r,q,d2,d3⟩
def adN:Reads enc Zc w base (λ_=>true) held 24 (λw cs (l:List Ay)=>∃v,cs=[v]/\Sl (Lv w) RsH 5 w v l/\Nr w v):=
 reads_held (t:=24) (e:=48) k! ain d! aeF
structure InC (w:Zb)(v1 v2 v3 v4 v5:Zf)(c:A_):Prop where
 base:SI (Lv w) w v1 c.base/\Nr w v1
 Af:SP (Lv w) w v2 c.Af/\Nr w v2
 hooks:SI (Lv w) w v3 c.hooks/\Nr w v3
 Aa:Sl (Lv w) RsH 5 w v4 c.Aa/\Nr w v4
 now:SI (Lv w) w v5 c.now/\Nr w v5
def adt:Reads enc Zc w base (λ_=>true) held 26 (λw cs (c:A_)=>∃v1 v2 v3 v4 v5,cs=[v1,v2,v3,v4,v5]/\InC w v1 v2 v3 v4 v5 c):=by
 intro n cs y r;obtain⟨a,m,_,_,i,s,b⟩:=DataW.trod_struct Tryz.underlying26 r;have F:a.length=5:=s;have h:DataW.trod enc Zc w base (λ_=>true) held m 22 ((cs.drop 0).take (Tryz.prog.cellsOf 22))=a[0]? :=b 0 _ rfl;have g:DataW.trod enc Zc w base (λ_=>true) held m 23 ((cs.drop 1).take (Tryz.prog.cellsOf 23))=a[1]? :=b 1 _ rfl;have f:DataW.trod enc Zc w base (λ_=>true) held m 22 ((cs.drop 2).take (Tryz.prog.cellsOf 22))=a[2]? :=b 2 _ rfl;have e:DataW.trod enc Zc w base (λ_=>true) held m 24 ((cs.drop 3).take (Tryz.prog.cellsOf 24))=a[3]? :=b 3 _ rfl;have d:DataW.trod enc Zc w base (λ_=>true) held m 22 ((cs.drop 4).take (Tryz.prog.cellsOf 22))=a[4]? :=b 4 _ rfl;rw[af8,zf o!]at h;rw[ajH,zf o!]at g;rw[af8,zf o!]at f;rw[ajI,zf o!]at e;rw[af8,zf o!]at d;rw[ajK]at i;obtain⟨E,q,p,z⟩:=abS _ _ _ h;obtain⟨D,v1,o,x⟩:=adM _ _ _ g;obtain⟨C,v2,l,v⟩:=abS _ _ _ f;obtain⟨B,v3,k,u⟩:=adN _ _ _ e;obtain⟨A,v4,j,t⟩:=abS _ _ _ d
 match cs,i with
 | [u0,u1,u2,u3,u4],_=>
  simp at p o l k j;exact⟨⟨E,D,C,B,A⟩,q,v1,v2,v3,v4,by rw[p,o,l,k,j],z,x,v,u,t⟩
end
variable {H α:Type}
variable {n k b i g cap cc j q rb c2 acs M:Nat}
def Sl.left {t:Tape}{R R':Zb->List Zf->α->Prop}{l:List α}(h:Sl (Lv W) R k W v l)(m:∀cs x,R W cs x->(∀u∈cs,VR (Qk W) u u)/\R' (tp (BD W) t) cs x):Sl (Lv (tp (BD W) t)) R' k (tp (BD W) t) v l:=by
 obtain⟨a,c,r,q,p,n⟩:=h;refine⟨a,c,r,q,p,λi x g=>?_⟩;obtain⟨b,o,cs,A,z,y,w,s⟩:=n i x g;obtain⟨f,e⟩:=m _ _ s;refine⟨b,o,cs,A,?_,y,λj u d=>?_,e⟩
 .show b<(BD W).heap.size
  rw[ej];exact z
 exact SJ (w j u d) (f u (Z3 d))
variable {l nums:List Int}
def adj {t:Tape}(h:SI (Lv W) W v l):SI (Lv (tp (BD W) t)) (tp (BD W) t) v l:=Sl.left h λc x a=>by
 unfold Ri at a;subst a;exact⟨λu b=>by obtain rfl:=Yh.1 b;exact .int _ _,rfl⟩
def afT {t:Tape}{l:List (Int×Int)}(h:SP (Lv W) W v l):SP (Lv (tp (BD W) t)) (tp (BD W) t) v l:=Sl.left h λc x a=>by
 unfold Rp at a;subst a;exact⟨λu b=>by simp at b;rcases b with rfl|rfl<;>exact .int _ _,rfl⟩
def aj8 {t:Tape}{l:List Ay}(h:Sl (Lv W) RsH 5 W v l):SS (Lv (tp (BD W) t)) (tp (BD W) t) v l:=Sl.left h λe x d=>by
 obtain⟨v2,v3,rfl,c,b,d2,d3⟩:=d;refine⟨λu a=>?_,v2,v3,rfl,afT c,adj b⟩;simp at a;rcases a with rfl|rfl|rfl|rfl|rfl
 .exact .int _ _
 .exact .int _ _
 .exact d2.aa0
 .exact d3.aa0
 exact .int _ _
variable {c:A_}
def InC.left (t:Tape)(h:InC W v1 v2 v3 v4 v5 c):RC (Lv (tp (BD W) t)) (tp (BD W) t) v1 v2 v3 v4 v5 c:=
 ⟨adj h.base.1,afT h.Af.1,adj h.hooks.1,aj8 h.Aa.1,adj h.now.1⟩
def InC.aa0 {W:Zb}{v1 v2 v3 v4 v5:Zf}{c:A_}(h:InC W v1 v2 v3 v4 v5 c):VR (Qk W) (.agg #[v1,v2,v3,v4,v5]) (.agg #[v1,v2,v3,v4,v5]):=by
 refine .P6 ⟨rfl,λi x y b a=>?_⟩
 match i,b,a with
 |0,b,a=>cases b;cases a;exact h.base.2.aa0
 |1,b,a=>cases b;cases a;exact h.Af.2.aa0
 |2,b,a=>cases b;cases a;exact h.hooks.2.aa0
 |3,b,a=>cases b;cases a;exact h.Aa.2.aa0
 |4,b,a=>cases b;cases a;exact h.now.2.aa0
section
variable {H:Type}{enc:Zs×Zf->H}{W:Zb}
variable {ps:List MemPlace}
def aeG {base:Nat}{d:DataW H}(ok:Zbk Zc W .any base 26 v)(h:DataW.Trod enc Zc W 0 (λ_=>true) true 26 v d ps):∃v1 v2 v3 v4 v5 c,v=.agg #[v1,v2,v3,v4,v5]/\InC W v1 v2 v3 v4 v5 c:=by
 obtain⟨a,rfl,_⟩:=okWide_struct Tryz.underlying26 ok;obtain⟨n,b⟩:=h;obtain⟨c,v1,v2,v3,v4,v5,e,f⟩:=adt n _ _ b;refine⟨v1,v2,v3,v4,v5,c,?_,f⟩;have:a.toList=[v1,v2,v3,v4,v5]:=e;rw[<-Array.toList_inj.1 (show a.toList= #[v1,v2,v3,v4,v5].toList from this)]
def afX {base:Nat}{d:DataW H}(ok:Zbk Zc W .any base 22 v)(h:DataW.Trod enc Zc W 0 (λ_=>true) true 22 v d ps):∃l,SI (Lv W) W v l/\Nr W v:=by
 obtain⟨a,n,c,rfl⟩:=okWide_slice (t:=22) YE ok;obtain⟨n,f⟩:=h;obtain⟨l,u,e,b⟩:=abS n _ _ f;cases e;exact⟨l,b⟩
end
set_option maxRecDepth 100000
variable {args x cs:Array Zf}
variable {ps:List MemPlace}
def trodAll_three {enc:Zs×Zf->H}{j i g:Zs}{C:List (DataW H)}(h:Za9 enc Zc W 0 (λ_=>true) true [j,i,g] args.toList C ps):
  ∃x y z d1 d2 d3 e d c,args= #[x,y,z]/\DataW.Trod enc Zc W 0 (λ_=>true) true j x d1 e/\DataW.Trod enc Zc W 0 (λ_=>true) true i y d2 d/\DataW.Trod enc Zc W 0 (λ_=>true) true g z d3 c:=by
 obtain⟨x,m,d1,B,e,F,w,_,_,s,r⟩:=trodAll_cons h;obtain⟨y,k,d2,A,d,E,v,_,_,q,p⟩:=trodAll_cons r;obtain⟨z,b,d3,f,c,D,u,_,_,o,n⟩:=trodAll_cons p;have t:b=[]:=by
  cases b with
  |nil=>rfl
  |cons a l=>cases f<;>exact(show False from n).elim
 subst t u v;exact⟨x,y,z,d1,d2,d3,e,d,c,by rw[<-Array.toList_inj.1 (show args.toList= #[x,y,z].toList from w)],s,q,o⟩
def afl {ρ:Ren}{x y z:Zf}(e:VR ρ x x)(d:VR ρ y y)(c:VR ρ z z):BS ρ #[x,y,z] #[x,y,z]:=⟨rfl,λi u v b a=>by
 match i,b,a with
 |0,b,a=>cases b;cases a;exact e
 |1,b,a=>cases b;cases a;exact d
 |2,b,a=>cases b;cases a;exact c⟩
set_option maxRecDepth 100000
variable {f:ZaQ}
def ag8 {fn:Func}{base:Nat}{enc:Zs×Zf->H}{q:List (DataW H)}(hp:fn.params= #[26,3,22])
 (a:∀(j:Nat) t v,fn.params[j]?=some t->args[j]?=some v->Zbk Zc W .any base t v) (l:Za9 enc Zc W 0 (λ_=>true) true fn.params.toList args.toList q ps) (n:Jr (BD W))
 (b:∀(w:Zb) (v1 v2 v3 v4 v5 i:Zf) (c:A_) (g:Int) (nums:List Int),RC (λx=>x<w.heap.size) w v1 v2 v3 v4 v5 c->SI (λx=>x<w.heap.size) w i nums->Jr w->Calls Lp f #[.agg #[v1,v2,v3,v4,v5],.int .i64 g,i] w (Two w (.bool true))):
  BS (Qk W) args args/\∀t,Calls Lp f args (tp (BD W) t) (Wr (tp (BD W) t)):=by
 rw[hp]at a l;obtain⟨x,y,z,d1,d2,d3,u,s,r,rfl,p,A,o⟩:=trodAll_three l;obtain⟨v1,v2,v3,v4,v5,c,rfl,k⟩:=aeG (a 0 26 x rfl rfl) p;obtain⟨g,rfl⟩:=okWide_int Tryz.underlying3 (a 1 3 y rfl rfl);obtain⟨nums,m,d⟩:=afX (a 2 22 z rfl rfl) o;exact⟨afl k.aa0 (.int _ _) d.aa0,λt=>(b _ _ _ _ _ _ _ _ _ _ (k.left t) (adj m) n).mono λe w' h=>h⟩
end Go.Proofs.Fit
namespace Go.Proofs.Fit
open Go Go.RowKit
def g80 (w:Zb)(x y:Zbv)(xs a:Array Zf):(eqGuard .neq 40 x y (.agg xs) (.agg a)).run Lp w=.ok () w:=run_eqGuard_agg w _ _ _ _ _ _ k!
def q80 (w:Zb)(a b c d:Int):(binOp .neq 40 (.agg #[.int .i64 a,.int .i64 b]) (.agg #[.int .i64 c,.int .i64 d])).run Lp w=.ok (.bool ((a,b) !=(c,d))) w:=by
 rw[run_neq_struct,run_equalIn_agg (ht:=k!) (hp:=k!)];simp[go_sem];by_cases f:a=c<;>by_cases e:b=d<;>simp[f,e]
def adw (a b:List (Int×Int)):Bool:=decide (a=b)
def afm {a b:List (Int×Int)}(hl:a.length=b.length)(h:∀j,j<a.length->BV a j=BV b j):a=b:=by
 apply YA;intro i;by_cases c:i<a.length
 .rw[EE c,EE o!,h i c]
 rw[ZP o!,ZP o!]
variable {S T:Nat->Prop}
variable {W w A B w1 w':Zb}
variable {v v1 v2 v3 v4 v5 v' u u2 u1 u4 u5 v6 lv:Zf}
def c43 {a b:List (Int×Int)}(z:SP S w v a)(y:SP T w v' b)(B:Ql6 S w)(A:∀b,T b->b<w.heap.size):
  Calls Lp 38 #[v,v'] w λe w'=>e=.returned (.bool (adw a b))/\Qb6 w w':=by
 obtain⟨Z,X,rfl,Q,O⟩:=z.val;obtain⟨Y,W,rfl,P,N⟩:=y.val;have IX:=DJ;by_cases d:a.length=b.length
 .have s:=Zd d
  clear d;have l:((a.length:Int) !=b.length)=false:=by simp[s.out]
  go_enter Lp.func43,n43;go_wp2;go_loopg [5] a.length (λg i wr=>∃k:Nat,k<=a.length/\g=a.length - k/\i=.int .i64 k/\(∀j,j<k->BV a j=BV b j)/\Qb6 w wr)
  case atStart=>exact⟨0,Zp _,rfl,rfl,λj m=>absurd m (ZbY _),Zh _ _⟩
  obtain⟨k,V,rfl,rfl,F,c⟩:=hrel;have n:=Zd F;clear F;by_cases M:k<a.length
  .have r:k<b.length:=by have:=s.out;omega
   obtain⟨h,x,rfl,D,J,G⟩:=z.at_ M;obtain⟨f,u,rfl,E,I,o⟩:=y.at_ r;rw[<-c.cell (p:=⟨h,x+k*2,none⟩) (B h D)]at J;rw[<-c.cell (p:=⟨h,x+k*2+1,none⟩) (B h D)]at G;rw[<-c.cell (p:=⟨f,u+k*2,none⟩) (A f E)]at I;rw[<-c.cell (p:=⟨f,u+k*2+1,none⟩) (A f E)]at o;have U:(k:Int)<(a.length:Int):=o!
   have R:(k:Int)<(b.length:Int):=o!
   have L:=q80;have K:=g80;go_wp2;go_quiet (fail);go_wp2
   .have q:(((BV a k).fst,(BV a k).snd) !=((BV b k).fst,(BV b k).snd))=true:=by assumption
    go_ret;refine⟨?_,Y5 c _⟩;have:adw a b=false:=by
     unfold adw;refine decide_eq_false λe=>?_;rw[e]at q;simp at q
    rw[this];rfl
   have q:(((BV a k).fst,(BV a k).snd) !=((BV b k).fst,(BV b k).snd))=false:=a!
   have H:BV a k=BV b k:=by simp at q;exact Prod.ext q.1 q.2
   go_roundg (a.length - (k+1))
   case rel=>exact⟨k+1,o!,rfl,v!,λj m=>by
    by_cases e:j=k
    .rw[e];exact H
    exact n.out j o!,Y5 c _⟩
   omega
  have C:adw a b=true:=decide_eq_true (afm s.out λj m=>n.out j o!);have t:=Zd C;clear C n;go_wp2;go_ret;exact⟨by rw[t.out];rfl,c⟩
 have l:((a.length:Int) !=b.length)=true:=j!
 have t:=Zd (show adw a b=false from decide_eq_false λe=>d (by rw[e]));clear d;go_enter Lp.func43,n43;go_wp2;go_ret;exact⟨by rw[t.out];rfl,Zh _ _⟩
def aiJ (l:List Int)(a:List Bool):List Bool:=l.foldl (λo x=>o.set x.toNat true) a
def yn (n:Nat):Nat->List (List Int)->List Bool->List Bool
 |_,[],a=>a
 |i,s::r,a=>yn n (i+1) r (if i=n\/a.getD i false=true then aiJ s a else a)
def iV (n:Nat)(l:List (List Int)):Nat->List Bool->List Bool
 |0,a=>a
 |k+1,a=>iV n l k (yn n 0 l a)
def abl (l:List Ay):List (List Int):=l.map (·.over)
def aiK (o:List (List Int))(n:Nat):List Bool:=iV n o o.length (List.replicate o.length false)
def aca (l:List Ay)(n:Nat):List Bool:=aiK (abl l) n
def rh (ab:Nat->Nat)(i:Nat):List (List Int)->Nat->Nat
 | []=>ab
 |s::r=>rh (HJ ab i s) (i+1) r
def iW (ab:Nat->Nat)(l:List (List Int)):Nat->Nat->Nat
 |0=>ab
 |n+1=>iW (rh ab 0 l) l n
def ri (l:List (List Int)):Nat->Nat:=iW (λ_=>0) l l.length
def adO:∀(l:List Ay) (ab:Nat->Nat) (i:Nat),K6 ab i l=rh ab i (abl l)
 | [],_,_=>rfl
 |s::r,ab,i=>adO r (HJ ab i s.over) (i+1)
def adx (l:List Ay):∀(n:Nat) (ab:Nat->Nat),G5 ab l n=iW ab (abl l) n
 |0,_=>rfl
 |n+1,ab=>by
  show G5 (K6 ab 0 l) l n=iW (rh ab 0 (abl l)) (abl l) n;rw[adx l n,adO]
def ag9 (l:List Ay):Ax l=ri (abl l):=by
 unfold Ax ri;rw[adx,show(abl l).length=l.length by simp[abl]]
def WU (o:List (List Int)):Bool:=(Yr o.length).all λn=>(Yr o.length).all λk=>(aiK o n).getD k false==hasB (ri o n) k
def Lj:List (List Int):=[[],[0],[1],[2],[0,1],[0,2],[1,2],[0,1,2]]
def acD:∀a∈Lj,WU [a.filter (· <1)]=true:=by decide+kernel
def acE:∀a∈Lj,∀b∈Lj,WU [a.filter (· <2),b.filter (· <2)]=true:=by decide+kernel
def acF:∀a∈Lj,∀b∈Lj,∀c∈Lj,WU [a,b,c]=true:=by decide+kernel
variable {l nums:List Int}
def EM (f:l.Pairwise (· < ·))(e:∀x∈l,0<=x/\x<3):l∈Lj:=by
 have g:∀x:Int,0<=x/\x<3->x=0\/x=1\/x=2:=λx h=>o!
 match l,f,e with
 | [],_,_=>simp[Lj]
 | [a],_,e=>
  rcases g a (e a i!) with rfl|rfl|rfl<;>simp[Lj]
 | [a,b],f,e=>
  have i:a<b:=by simpa using f
  rcases g a (e a i!) with rfl|rfl|rfl<;>rcases g b (e b i!) with rfl|rfl|rfl<;>first|(exfalso;omega)|simp[Lj]
 | [a,b,c],f,e=>
  have i:a<b/\b<c:=by
   simp at f;exact⟨f.1.1,f.2⟩
  have j:=e a i!;have m:=e c i!;obtain rfl:a=0:=o!
  obtain rfl:c=2:=o!
  obtain rfl:b=1:=o!
  simp[Lj]
 |a::b::c::d::r,f,e=>
  exfalso;simp only[List.pairwise_cons]at f;have i:=f.1 b i!;have o:=f.2.1 c i!;have n:=f.2.2.1 d i!;have j:=e a i!;have k:=e d i!;omega
def filter_lt {n:Int}(a:∀x∈l,0<=x/\x<n):l.filter (· <n)=l:=List.filter_eq_self.2 λx h=>by simpa using(a x h).2
def vU {o:List (List Int)}(g:o.length<=3)(e:∀l∈o,l.Pairwise (· < ·))(d:∀l∈o,∀x∈l,0<=x/\x<o.length):WU o=true:=by
 match o,g,e,d with
 | [],_,_,_=>rfl
 | [a],_,e,d=>
  have f:=d a i!;have:=acD a (EM (e a i!) λx h=>by have:=f x h;simp at this;omega);rwa[filter_lt (λx h=>by have:=f x h;simpa using this)]at this
 | [a,b],_,e,d=>
  have f:=d a i!;have i:=d b i!;have:=acE a (EM (e a i!) λx h=>by have:=f x h;simp at this;omega) b (EM (e b i!) λx h=>by have:=i x h;simp at this;omega);rwa[filter_lt (λx h=>by have:=f x h;simpa using this),filter_lt (λx h=>by have:=i x h;simpa using this)]at this
 | [a,b,c],_,e,d=>
  exact acF a (EM (e a i!) λx h=>by have:=d a i! x h;simpa using this) b (EM (e b i!) λx h=>by have:=d b i! x h;simpa using this)
   c (EM (e c i!) λx h=>by have:=d c i! x h;simpa using this)
 |_::_::_::_::_,g,_,_=>simp at g
variable {n k b i g cap cc j q rb c2 acs M:Nat}
def aga {number:Nat}(h:CY (Ed n number l) 0 l=0):l.Pairwise (· < ·)/\∀x∈l,0<=x/\x<n:=by
 have a:∀k (a:k<l.length),(0<=l[k]/\l[k]<n)/\(0<k->nth l (k - 1)<l[k]):=λk a=>by
  have:=Gs h k l[k] (zf a);unfold Ed at this;split at this
  .cases this
  next g=>
  split at this
  .cases this
  next f=>
  refine⟨?_,λs=>?_⟩
  .have:=G' (n:=l[k]) (lo:=0) (hi:=(n:Int) - 1) (by cases e:AD l[k] 0 ((n:Int) - 1);rfl;exact absurd (.inl e) g)
   omega
  exact Int.lt_of_not_ge λb=>f ⟨o!,by rw[zN];exact b⟩
 refine⟨?_,λx o=>?_⟩
 .have step:∀i (hi:i+1<l.length),l[i]<l[i+1]:=λi hi=>by
   have:=(a (i+1) hi).2 (Nat.succ_pos _);simpa[nth,Y6,show i<l.length by omega]using this
  have c:∀d i (hi:i+d+1<l.length),l[i]<l[i+d+1]:=by
   intro d
   induction d with
   |zero=>intro i hi;exact step i hi
   |succ d m=>
    intro i hi;have g:=m i o!;have f:=step (i+d+1) o!;have e:l[i+(d+1)+1]=l[i+d+1+1]:=rfl;rw[e];omega
  rw[ZdK];intro i j hi r p;have:=c (j - i - 1) i o!;have e:l[i+(j - i - 1)+1]' o!=l[j]:=by congr 1;omega
  rwa[e]at this
 obtain⟨k,q,rfl⟩:=Zas o;exact(a k q).1
def afn {l:List Ay}(d:l.length<=3)(h:∀s∈l,s.over.Pairwise (· < ·)/\∀x∈s.over,0<=x/\x<l.length)(f:n<l.length)(e:k<l.length):(aca l n).getD k false=hasB (Ax l n) k:=by
 have c:(abl l).length=l.length:=by simp[abl]
 have:=vU (o:=abl l) o! (λo b=>by obtain⟨s,a,rfl⟩:=List.mem_map.1 b;exact(h s a).1)
  (λo b=>by obtain⟨s,a,rfl⟩:=List.mem_map.1 b;rw[c];exact(h s a).2)
 unfold WU at this;rw[Zdm]at this;have:=this n (by rw[List.mem_range];omega);rw[Zdm]at this;have:=this k (by rw[List.mem_range];omega);rw[ag9];exact eq_of_beq this
def Qr (n:Nat)(m:Nat->Int):List Int:=(Yr n).map m
def EI (n:Nat)(m:Nat->Int):(Qr n m).length=n:=by simp[Qr]
variable {m:Nat->Int}
def rj (h:i<n):nth (Qr n m) i=m i:=by simp[Qr,nth,h]
def lC (l:List Int):l=Qr l.length (λj=>nth l j):=by
 apply YA;intro i;by_cases h:i<l.length
 .rw[Bn h];simp[Qr,h]
 rw[ZP o!,ZP (by rw[EI];omega)]
def rm (h:i<n)(k b:Int):(Qr n m).set i (m i+b*k)=Qr n (K7 m k ((i:Int),b)):=by
 apply YA;intro j;by_cases c:j<n
 .by_cases a:i=j
  .subst a
   rw[Ys (by rw[EI];exact h)];simp[Qr,c,K7]
  rw[ZS a];simp[Qr,c,K7];omega
 rw[ZP (by simp[EI];omega),ZP (by rw[EI];omega)]
structure MG (w:Zb)(xs:Array Zf)(v:Zf)(n:Nat)(m:Nat->Int)(wr:Zb):Prop where
 below:Qb6 w wr
 box:wr.heap[w.heap.size]?=some (.cells xs 26 (0,0))
 own:Own wr (w+1) v (Qr n m)
def MG.later {wr:Zb}{xs:Array Zf}(h:MG w xs v n m wr)(a:Qb6 wr W):MG w xs v n m W:=
 ⟨h.below.trans (a.mono h.below.size),(a.block _ (Za.1 h.box).1).trans h.box,h.own.later a⟩
def MG.row {wr:Zb}{xs:Array Zf}(h:MG w xs (.slice g n cap) n m wr)(hi:i<n):w+1<=g/\∃a,wr.heap[g]?=some (.cells a 3 (0,0))/\a[i]?=some (.int .i64 (m i)):=by
 obtain⟨l,o,a,e,d,c,k,j,b,f⟩:=h.own.val (by rw[EI];omega);rw[EI]at e;cases e;refine⟨d,a,c,?_⟩;rw[b i (by rw[EI];exact hi),rj hi]
def MG.set {wr:Zb}{xs:Array Zf}(h:MG w xs (.slice g n cap) n m wr)(hi:i<n)(k b:Int):MG w xs (.slice g n cap) n (K7 m k ((i:Int),b)) (wr.setCell ⟨g,i,none⟩ (.int .i64 (m i+b*k))):=by
 obtain⟨p,q,c,e,o,l,j,f,d,a⟩:=h.own.val (by rw[EI];omega);rw[EI]at e;cases e;refine⟨bS h.below o!,(AZ o! _).trans h.box,?_⟩;rw[<-rm hi];exact a i _ (by rw[EI];exact hi)
def bU (h:Qb6 w A)(k:Qb6 A B):Qb6 w B:=h.trans (k.mono h.size)
def fH:Nat->Nat->List (List Int)
 |0,_=> [[]]
 |m+1,n=>((Yr n).drop m).flatMap λlast=>(fH m last).map (· ++ [(last:Int)])
variable {t e ty:Zs}
def abK {fn:Func}{p u:Tmp}(h:fn.results= #[.cell p ty,.tmp u])(tmps:Array Zf)(P:Zo)(w:Zb):
  (results fn tmps).run P w=((asAddr (tmps.getD p Ze)).run P w).andThen λa w₁=>((Zdd ty a).run P w₁).andThen λv w₂=>.ok (.tuple #[v,tmps.getD u Ze]) w₂:=by
 simp only[results,h];simp[zg,zu]
def g64 (w:Zb)(x y:Zbv)(xs a:Array Zf):(eqGuard .neq 88 x y (.agg xs) (.agg a)).run Lp w=.ok () w:=run_eqGuard_agg w _ _ _ _ _ _ k!
def q64 (w:Zb)(a b:Int):(binOp .neq 88 (.agg #[.int .i64 a,.int .i64 b]) (.agg #[.int .i64 a,.int .i64 b])).run Lp w=.ok (.bool false) w:=by
 rw[run_neq_struct,run_equalIn_agg (ht:=k!) (hp:=k!)];simp[go_sem]
def ady:Ke l l=true:=decide_eq_true rfl
def aeH {l:List (Int×Int)}:adw l l=true:=decide_eq_true rfl
variable {s:Ay}
def c97 {u3:Zf}(hp:SP S w v2 s.Ap)(x:SI S w v3 s.over)(v:SP T w u2 s.Ap)(o:SI T w u3 s.over)(l:Ql6 S w)(j:∀b,T b->b<w.heap.size):
  Calls Lp 39 #[.agg #[.int .i64 s.low,.int .i64 s.high,v2,v3,.int .i64 s.left],.agg #[.int .i64 s.low,.int .i64 s.high,u2,u3,.int .i64 s.left]] w λe w'=>e=.returned (.bool true)/\Qb6 w w':=by
 obtain⟨B,z,rfl,l1,m1⟩:=hp.val;obtain⟨A,c2,rfl,l2,m2⟩:=x.val;obtain⟨V,P,rfl,l3,m3⟩:=v.val;obtain⟨U,O,rfl,l4,m4⟩:=o.val;have IX:=DJ;have n:YH w w ((w.alloc (.cells #[.int .i64 s.low,.int .i64 s.high,.slice B s.Ap.length z,.slice A s.over.length c2,.int .i64 s.left] 48)).alloc (.cells #[.int .i64 s.low,.int .i64 s.high,.slice V s.Ap.length P,.slice U s.over.length O,.int .i64 s.left] 48)):=bA (bA (Zh _ _));have y:=Zd (λW (a:Qb6 w W)=>c46 (w:=W) (x.later a) (o.later a) (A3 l a) (A3 j a));rw[ady]at y;go_enter Lp.func97,n97;go_wp2_with (go_at_call 24;refine(y.out _ n).mono ?_;rintro e w1 ⟨rfl,c⟩;have E:=n.trans (c.mono n.size);obtain⟨Y,Z⟩:=bw c;obtain⟨X,G⟩:=E7 c);have u:=(c.block w j!).trans (Bf (Bp w (.cells #[.int .i64 s.low,.int .i64 s.high,.slice B s.Ap.length z,.slice A s.over.length c2,.int .i64 s.left] 48)) _);have t:=(c.block (w+1) i!).trans (Jq w _ _);have L:=ch (i:=2) u rfl;have J:=ch (i:=2) t rfl;clear u t c X G;go_loopg [5] s.Ap.length (λg i wr=>∃k:Nat,k<=s.Ap.length/\g=s.Ap.length - k/\i=.int .i64 k/\Qb6 w1 wr)
 case atStart=>exact⟨0,Zp _,rfl,rfl,Zh _ _⟩
 obtain⟨k,hk,rfl,rfl,a⟩:=hrel;have d:=E.trans (a.mono E.size);have K:=(a.cell (p:=⟨w,2,none⟩) Y).trans L;have I:=(a.cell (p:=⟨w+1,2,none⟩) Z).trans J;by_cases F:k<s.Ap.length
 .obtain⟨h,r,rfl,C,N,H⟩:=hp.at_ F
  obtain⟨f,q,rfl,D,M,m⟩:=v.at_ F;rw[<-d.cell (p:=⟨h,r+k*2,none⟩) (l h C)]at N;rw[<-d.cell (p:=⟨h,r+k*2+1,none⟩) (l h C)]at H;rw[<-d.cell (p:=⟨f,q+k*2,none⟩) (j f D)]at M;rw[<-d.cell (p:=⟨f,q+k*2+1,none⟩) (j f D)]at m;have i1:(k:Int)<(s.Ap.length:Int):=o!
  have R:=q64;have Q:=g64;go_wp2;go_quiet (fail);go_wp2;go_roundg (s.Ap.length - (k+1))
  case rel=>exact⟨k+1,o!,rfl,v!,Y5 a _⟩
  omega
 go_wp2;go_ret;exact⟨rfl,d⟩
def ams {u3:Zf}(hp:SP S w v2 s.Ap)(f:SI S w v3 s.over)(d:SP T w u2 s.Ap)(c:SI T w u3 s.over)(h:Ql6 S w)(g:∀b,T b->b<w.heap.size):
  ∀W,Qb6 w W->Calls Lp 39 #[.agg #[.int .i64 s.low,.int .i64 s.high,v2,v3,.int .i64 s.left],.agg #[.int .i64 s.low,.int .i64 s.high,u2,u3,.int .i64 s.left]] W λe w'=>e=.returned (.bool true)/\Qb6 W w':=
 λ_ a=>c97 (hp.later a) (f.later a) (d.later a) (c.later a) (A3 h a) (A3 g a)
variable {c:A_}
def c36 {u3:Zf}(h:RC S w v1 v2 v3 v4 v5 c)(g:RC T w u1 u2 u3 u4 u5 c)(l:Ql6 S w)(j:∀b,T b->b<w.heap.size):
  Calls Lp 15 #[.agg #[v1,v2,v3,v4,v5],.agg #[u1,u2,u3,u4,u5]] w λe w'=>e=.returned (.bool true)/\Qb6 w w':=by
 obtain⟨a1,c1,R,c2,Q,J,P,I,O,H,rfl,rfl,rfl,rfl,rfl,l1,m1,l2,m2,l3,m3,l4,m4,l5,m5⟩:=h.vs;obtain⟨b1,d1,N,d2,M,d3,L,d4,K,G,rfl,rfl,rfl,rfl,rfl,k1,n1,k2,n2,k3,n3,k4,n4,k5,n5⟩:=g.vs;have IX:=DJ;have Bg:YH w w ((w.alloc (.cells (Qe6 c a1 c1 R c2 Q J P I O H) 26)).alloc (.cells (Qe6 c b1 d1 N d2 M d3 L d4 K G) 26)):=bA (bA (Zh _ _));have r0:=λ{i:Nat} {v:Zf}=>ch (i:=i) (v:=v) (Bf (Bp w (.cells (Qe6 c a1 c1 R c2 Q J P I O H) 26)) (.cells (Qe6 c b1 d1 N d2 M d3 L d4 K G) 26));have U:=λ{i:Nat} {v:Zf}=>ch (i:=i) (v:=v) (Jq w (.cells (Qe6 c a1 c1 R c2 Q J P I O H) 26) (.cells (Qe6 c b1 d1 N d2 M d3 L d4 K G) 26));have HR:Hid (∀(W:Zb),YH ((w.alloc (.cells (Qe6 c a1 c1 R c2 Q J P I O H) 26)).alloc (.cells (Qe6 c b1 d1 N d2 M d3 L d4 K G) 26)).heap.size ((w.alloc (.cells (Qe6 c a1 c1 R c2 Q J P I O H) 26)).alloc (.cells (Qe6 c b1 d1 N d2 M d3 L d4 K G) 26)) W->
   W.cell? ⟨w,1,none⟩=some (.slice R c.Af.length c2)/\W.cell? ⟨w,2,none⟩=some (.slice Q c.hooks.length J)/\W.cell? ⟨w,3,none⟩=some (.slice P c.Aa.length I)/\W.cell? ⟨w,4,none⟩=some (.slice O c.now.length H)/\
   W.cell? ⟨w+1,1,none⟩=some (.slice N c.Af.length d2)/\W.cell? ⟨w+1,2,none⟩=some (.slice M c.hooks.length d3)/\W.cell? ⟨w+1,3,none⟩=some (.slice L c.Aa.length d4)/\W.cell? ⟨w+1,4,none⟩=some (.slice K c.now.length G)):=Zd λW a=>by
  obtain⟨u,_⟩:=E7 a;exact⟨(u _ _ j!).trans (r0 rfl),(u _ _ j!).trans (r0 rfl),(u _ _ j!).trans (r0 rfl),(u _ _ j!).trans (r0 rfl),(u _ _ i!).trans (U rfl),(u _ _ i!).trans (U rfl),(u _ _ i!).trans (U rfl),(u _ _ i!).trans (U rfl)⟩
 clear r0 U;have HA:=Zd (λW (a:Qb6 w W)=>c46 (w:=W) (h.base.later a) (g.base.later a) (A3 l a) (A3 j a));have HE:=Zd (λW (a:Qb6 w W)=>c43 (w:=W) (h.Af.later a) (g.Af.later a) (A3 l a) (A3 j a));have HH:=Zd (λW (a:Qb6 w W)=>c46 (w:=W) (h.hooks.later a) (g.hooks.later a) (A3 l a) (A3 j a));have am:=Zd (λW (a:Qb6 w W)=>c46 (w:=W) (h.now.later a) (g.now.later a) (A3 l a) (A3 j a));rw[ady]at HA HH am;rw[aeH]at HE;go_enter Lp.func36,n36;go_wp2_with (go_at_call 24;refine(HA.out _ Bg).mono ?_;rintro e w1 ⟨rfl,Bb⟩;have oT:=Bg.trans (Bb.mono Bg.size);obtain⟨C,B,q,A,z,y,o,x⟩:=HR.out _ Bb);have ac:=Bb;clear Bb;refine(HE.out _ oT).mono ?_;rintro e w2 ⟨rfl,f⟩;have E:=ac.trans (f.mono ac.size);have aT:=oT.trans (f.mono oT.size);clear f C B q A z y o x;obtain⟨C,B,q,A,z,y,o,x⟩:=HR.out _ E;dsimp only;go_wp2_with (fail);refine(HH.out _ aT).mono ?_;rintro e w3 ⟨rfl,f⟩;have D:=E.trans (f.mono E.size);have xa:=aT.trans (f.mono aT.size);clear f C B q A z y o x;obtain⟨C,B,q,A,z,y,o,x⟩:=HR.out _ D;dsimp only;go_wp2_with (fail);refine(am.out _ xa).mono ?_;rintro e w4 ⟨rfl,f⟩;have iu:=D.trans (f.mono D.size);have ai:=xa.trans (f.mono xa.size);clear f C B q A z y o x;obtain⟨C,B,q,A,z,y,o,x⟩:=HR.out _ iu;dsimp only;go_wp2_with (fail);clear C B A z y x;go_loopg [5] c.Aa.length (λg i wr=>∃k:Nat,k<=c.Aa.length/\g=c.Aa.length - k/\i=.int .i64 k/\Qb6 w4 wr)
 case atStart=>exact⟨0,Zp _,rfl,rfl,Zh _ _⟩
 obtain⟨k,hk,rfl,rfl,a⟩:=hrel;have d:=ai.trans (a.mono ai.size);have an:=iu.trans (a.mono iu.size);clear q o;obtain⟨_,_,q,_,_,_,o,_⟩:=HR.out _ an;by_cases Az:k<c.Aa.length
 .obtain⟨n,o1,s2,s3,rfl,Z,h0,h1,h2,h3,h4,hp,ho⟩:=h.Aa.at_ Az
  obtain⟨m,o2,t2,t3,rfl,V,t,s,j2,j3,r,lR,rH⟩:=g.Aa.at_ Az;have F:=Zd (ams hp ho lR rH l j);obtain⟨sm,Qh⟩:=Qnm (Aj c.Aa k);rw[<-Qh]at h0 h1 h4 t s r F;clear Qh;have i1:(k:Int)<(c.Aa.length:Int):=o!
  have X:=λp=>Al p q;have Y:=λp=>Al p o;have h0:=λp=>Al p ((d.cell (p:=⟨n,o1+k*5,none⟩) (l n Z)).trans h0);have h1:=λp=>Al p ((d.cell (p:=⟨n,o1+k*5+1,none⟩) (l n Z)).trans h1);have h2:=λp=>Al p ((d.cell (p:=⟨n,o1+k*5+2,none⟩) (l n Z)).trans h2);have h3:=λp=>Al p ((d.cell (p:=⟨n,o1+k*5+3,none⟩) (l n Z)).trans h3);have h4:=λp=>Al p ((d.cell (p:=⟨n,o1+k*5+4,none⟩) (l n Z)).trans h4);have t:=λp=>Al p ((d.cell (p:=⟨m,o2+k*5,none⟩) (j m V)).trans t);have s:=λp=>Al p ((d.cell (p:=⟨m,o2+k*5+1,none⟩) (j m V)).trans s);have j2:=λp=>Al p ((d.cell (p:=⟨m,o2+k*5+2,none⟩) (j m V)).trans j2);have j3:=λp=>Al p ((d.cell (p:=⟨m,o2+k*5+3,none⟩) (j m V)).trans j3);have r:=λp=>Al p ((d.cell (p:=⟨m,o2+k*5+4,none⟩) (j m V)).trans r);have HB:=Zd (λp=>d.trans ((AE wr p).mono d.size));have HQ:=Zd (λp=>a.trans ((AE wr p).mono a.size));go_wp2;refine Av k! k! ?_
  repeat (first|go_big_quiet_step ((go_at_call 39;exact AV (F.out _ (HB.out _))))|quiet_step ((go_at_call 39;exact AV (F.out _ (HB.out _)))))
  refine Z4 ?_;rintro _ ⟨p,rfl⟩;clear X Y h0 h1 h2 h3 h4 t s j2 j3 r;have yw:=HQ.out p;go_wp2;go_roundg (c.Aa.length - (k+1))
  case rel=>exact⟨k+1,o!,rfl,v!,yw⟩
  omega
 go_wp2;go_ret;exact⟨rfl,d⟩
attribute [local go_sem] Zdk
def Ev (c:A_)(l:List Int):Bool:=(JU c (DS c l)).isNone
def LU (c:A_):List (List Int):=(EH c).filter (Ev c)
def WV (h:l∈EH c):Tc c l:=Lf _ _ h
variable {xs vals news:List Zf}
def Tn {base:Nat}(a:Qb6 A B)(h:A.ownsRow base e k v n xs):B.ownsRow base e k v n xs:=CO (T:=λ_=>False) (Ak.later a) (λ_ _ x=>x) h
def AQ.snoc {base m g' f ln:Nat}{o:Option Addr}{a:List (List Int)}{x:List Int}(r:AQ w base a A)(N:w<base)(J:A.heap[w.heap.size]?=some (.cells #[v] 35 (0,0)))(B:A.ownsRow base 22 1 v a.length vals)
 (K:∀(i:Nat) (x:List Int),a[i]?=some x->∃u,vals[i]?=some u/\SI (J1 3 base A) A u x) (q:SI (J1 3 m A) A (.slice o ln cc) x) (O:base<=m) (s:(A.alloc (.cells #[.slice o ln cc] 22)).grownBy w1 v.ownBlock)
 (M:w1.ownsRow base 22 1 (.slice g' (a.length+1) f) (a.length+1) (vals++ [.slice o ln cc])):
  AQ w base (a++ [x]) (w1.setCell w (.slice g' (a.length+1) f))/\Ak (λk=>k=w.heap.size\/base<=k) A (w1.setCell w (.slice g' (a.length+1) f)):=by
 have z:∀k,v.ownBlock=some k->base<=k:=λk c=>(B.lt k c).1;have D:=r.size;have I:w1.heap[w.heap.size]?=some (.cells #[v] 35 (0,0)):=(s.block _ j! (λe=>by have:=z _ e.symm;omega)).trans (Bf J _);have S:A<w1.heap.size:=by have:=s.size;simp at this;omega
 have t:Ak (λk=>v.ownBlock=some k) A w1:=(Ak.later (bA (Zh _ _))).trans (Ak.grown s λk c=>c);have p:∀(T:Nat->Prop),T w.heap.size->Ak T w1 (w1.setCell w (.slice g' (a.length+1) f)):=λT h=>(Ak.refl _ _).set h;refine⟨⟨?_,?_,_,vals++ [.slice o ln cc],Ba I _,?_,λi y l=>?_⟩,(t.mono λk c=>.inr (z k c)).trans (p _ (.inl rfl))⟩
 .exact(r.below.trans (t.below (λk c=>by have:=z k c;omega) r.below.size)).trans ((p (λk=>k=w.heap.size) rfl).below (λk c=>o!) o!)
 .have:=(p (λk=>k=w.heap.size) rfl).size
  omega
 .rw[ZA]
  exact CO (p (λk=>k=w.heap.size) rfl) (λb Q P=>o!) M
 have j:∀u,SI (J1 3 base A) A u y->SI (J1 3 base (w1.setCell w (.slice g' (a.length+1) f))) (w1.setCell w (.slice g' (a.length+1) f)) u y:=λu h=>by
  refine Dx (T:=λk=>v.ownBlock=some k\/k=w) ((t.mono λk c=>.inl c).trans (p _ (.inr rfl))) (λb d h=>?_) h;rcases h with h|h
  .obtain⟨R,n⟩:=d.2
   rcases B.2 with⟨e,_⟩|⟨g,cap,G,e,_,F,_⟩
   .rw[e]at h;cases h
   rw[e]at h;cases h;rw[F]at n;cases n
  have:=d.1.1;omega
 by_cases L:i<a.length
 .rw[zl L]at l
  obtain⟨u,q,E⟩:=K i y l;exact⟨u,by rw[zl (Zm.1 q).1];exact q,j u E⟩
 have H:=(Zm.1 l).1;rw[ZA,zb,zR]at H;obtain rfl:i=a.length:=o!
 rw[Y1]at l;cases l;have C:vals.length=a.length:=by have:=B.1;omega
 refine⟨.slice o ln cc,by rw[<-C,Y1],j _ (Sl.imp q (λb d=>⟨⟨?_,d.1.2⟩,d.2⟩) (λ_ _ x=>x))⟩;have:=d.1.1;omega
def aiM (h:RC S w v1 v2 v3 v4 v5 c)(hS:Ql6 S w)(R:Fq c):
  CallsIn ZbC 0 Lp 31 #[.agg (AW v1 v2 v3 v4 v5 (Ax c.Aa))] w λe w'=>∃v,e=.returned v/\Qb6 w w'/\SL (Cb w w') w' v (LU c):=by
 obtain⟨D,q,C,c2,z,p,s,m,r,j,rfl,rfl,rfl,rfl,rfl,_⟩:=h.vs;have bv:=R.few;have ai:=Zd R.uy;have pT:=S3 R.over;obtain⟨ab,DU⟩:=Qnm (Ax c.Aa);have mG:=Zd DU;rw[<-DU]at pT⊢;clear DU;have bi:(AW (.slice D c.base.length q) (.slice C c.Af.length c2) (.slice z c.hooks.length p) (.slice s c.Aa.length m) (.slice r c.now.length j) ab).size=8:=rfl;obtain⟨W1,NL⟩:=Qnm (w.alloc (.cells (AW (.slice D c.base.length q) (.slice C c.Af.length c2) (.slice z c.hooks.length p) (.slice s c.Aa.length m) (.slice r c.now.length j) ab) 74));refine callsIn_of_wp_marks Lp.func128 rfl trivial ?_ rfl;show Code.wpIn _ _ _ _ _ {tmps:= #[.agg (AW (.slice D c.base.length q) (.slice C c.Af.length c2) (.slice z c.hooks.length p) (.slice s c.Aa.length m) (.slice r c.now.length j) ab)]++_,defers:=[]} _;unfold AW;simp only[aq4,Zbm,zb,zR,ZaF,Zcw,ZaN,ZaM,Zbn,Za4,zP,Za1]
 gi_wp2
 refine⟨trivial,rfl,(Zcx (n:=0).2 (ahC (AW (.slice D c.base.length q) (.slice C c.Af.length c2) (.slice z c.hooks.length p) (.slice s c.Aa.length m) (.slice r c.now.length j) ab) rfl (by simp[AW,YT]) _)).mono ?_⟩;rintro e V ⟨rfl,N⟩;change V=((w.alloc (.cells (AW (.slice D c.base.length q) (.slice C c.Af.length c2) (.slice z c.hooks.length p) (.slice s c.Aa.length m) (.slice r c.now.length j) ab) 74)).alloc (.cells #[()] 35)).alloc (.cells (AW (.slice D c.base.length q) (.slice C c.Af.length c2) (.slice z c.hooks.length p) (.slice s c.Aa.length m) (.slice r c.now.length j) ab) 74) at N;rw[<-NL]at N;have DR:W1=w.heap.size+1:=by rw[NL];simp
 have an:V=w.heap.size+3:=by rw[N];simp;omega
 have X:Qb6 w W1:=by rw[NL];exact bA (Zh _ _)
 have P:Qb6 W1 V:=by rw[N];exact bA (bA (Zh _ _))
 have lD:W1.heap[w.heap.size]?=some (.cells (AW (.slice D c.base.length q) (.slice C c.Af.length c2) (.slice z c.hooks.length p) (.slice s c.Aa.length m) (.slice r c.now.length j) ab) 74 (0,0)):=by rw[NL];exact Bp _ _
 have Ia:V.heap[W1.heap.size]?=some (.cells #[()] 35 (0,0)):=by rw[N];exact Bf (Bp _ _) _
 have iz:V.heap[w.heap.size+1+1]?=some (.cells (AW (.slice D c.base.length q) (.slice C c.Af.length c2) (.slice z c.hooks.length p) (.slice s c.Aa.length m) (.slice r c.now.length j) ab) 74 (0,0)):=by rw[N, <-DR,show W1.heap.size+1=(W1.alloc (.cells #[()] 35)).heap.size by simp];exact Bp _ _
 have Ui:Qb6 w V:=X.trans (P.mono X.size);have HS:=Zd (show∀W,Qb6 w W->RC S W (.slice D c.base.length q) (.slice C c.Af.length c2) (.slice z c.hooks.length p) (.slice s c.Aa.length m) (.slice r c.now.length j) c from λW hB=>h.later hB);have eZ:=qv iz (HS.out V Ui) (λb g=>by have:=hS b g;omega) o! (λi hi=>by have:=R.step i hi;omega);clear N;simp only[ZB];obtain⟨K,hK⟩:∃K:Nat->Prop,K=λk=>S k\/k=w+1+1:=⟨_,rfl⟩;have ju:∀k,K k->k<w.heap.size\/k=w+1+1:=λk h=>by
  rw[hK]at h;rcases h with h|rfl
  .exact .inl (hS k h)
  exact .inr rfl
 rw[<-hK]at eZ;clear hK;have hN:(EH c).length<=125:=by
  have:=H7 c.Aa (λi hi=>by have:=R.step i hi;omega);have J:5^c.Aa.length<=5^3:=YX d! o!;exact Zr this J
 obtain⟨i0,hi,Fl,k9,EB⟩:=zp Hw;have hu:=Cz zW;have HZ:=Zd (show w+1<=W1.heap.size/\W1<=w.heap.size+1/\w+3<=V.heap.size/\V<=w.heap.size+3 by omega);have F:=Zd DR;clear NL DR an
 gi_wp2
 have kL:=HZ.out;refine Vm (gf:=77) (lb:= #[.pointer (w+1+1:Nat)]) rfl (Go.Proofs.enters_of Lp.func153 k! rfl) eZ (Zj _) (λk Z=>⟨by have:=ju k Z;omega,rfl⟩) (λa A=>AQ W1 (V+6) (a.filter (Ev c)) A) (λA hA hs=>?_) (λa A B h O=>h.CN (n:=V) o! rfl O)
  (λu=> {tmps:= #[.agg #[.slice D c.base.length q,.slice C c.Af.length c2,.slice z c.hooks.length p,.slice s c.Aa.length m,.slice r c.now.length j,.int .u8 (ab 0),.int .u8 (ab 1),.int .u8 (ab 2)],.pointer w,(),.pointer (w+1:Nat),u,Ze,Ze,.agg #[.slice D c.base.length q,.slice C c.Af.length c2,.slice z c.hooks.length p,.slice s c.Aa.length m,.slice r c.now.length j,.int .u8 (ab 0),.int .u8 (ab 1),.int .u8 (ab 2)],.func (.func 77) #[] #[.pointer (w+1+1:Nat)],u,Ze,Ze,Ze,Ze,Ze,Ze,Ze,Ze,Ze,Ze,Ze,Ze,Ze],defers:=[]}) ?assign ?body ?done
 .exact⟨P.trans (hA.mono P.size),o!,_,[],(hA.block _ o!).trans Ia,zq _ _ _ _,λi x hx=>by cases hx⟩
 case assign=>
  rintro l u W' K ⟨ad,n,cc,rfl⟩ hK
  gi_wp2
  exact hK
 case body=>
  intro l a x u A0 A ba O hz E iA;have f:=ba.CN (n:=V) o! rfl O;obtain⟨v,vals,L,Q,DF⟩:=f.box;obtain⟨ad,cc,rfl,lu,mu⟩:=iA.val;have ap:V+6<=A.heap.size:=f.size;have Y:x∈EH c:=E.subset i!;have be:=E.length_le;rw[ZA,zb,zR]at be;obtain⟨MF,_⟩:=WV Y;have G:Qb6 w A:=X.trans (f.below.mono X.size);have I:A.heap[w.heap.size]?=some (.cells #[.slice D c.base.length q,.slice C c.Af.length c2,.slice z c.hooks.length p,.slice s c.Aa.length m,.slice r c.now.length j,.int .u8 (ab 0),.int .u8 (ab 1),.int .u8 (ab 2)] 74 (0,0)):=(f.below.block w o!).trans lD;have kL:=HZ.out;have HI:=Zd f;have M:x.length<=c.now.length:=by have:=ai.out;omega
  have M_:=c90 ((HS.out A G).imp (T:=λb=>b<A.heap.size) λb g=>by have:=hS b g;have:=G.size;show b<_;omega) (Sl.imp iA (T:=λb=>b<A.heap.size) (λb g=>g.1.2) λ_ _ x=>x) M (by have:=ai.out;omega) (ab:=ab) pT (by rw[mG.out];exact MT R o!) λb g=>g;have H:=Zd (show Ev c x=(JU c (Cx ab c.now x)).isNone by rw[mG.out];rfl);obtain⟨t,ht⟩:=Qnm (Cx ab c.now x);rw[<-ht]at M_ H;clear ht;obtain⟨o,ho⟩:=Qnm (JU c t);rw[<-ho]at M_ H;clear ho;have vw:=Zd ((Zcx (n:=0)).2 M_);have b8:=Zd (ZY MF M);clear M_ E Y MF M;have g0:=ch (i:=0) I rfl;have g1:=ch (i:=1) I rfl;have g2:=ch (i:=2) I rfl;have g3:=ch (i:=3) I rfl;have g4:=ch (i:=4) I rfl;have g5:=ch (i:=5) I rfl;have g6:=ch (i:=6) I rfl;have g7:=ch (i:=7) I rfl;cases o with
  |some i=>
   dsimp only[uv]at vw
   gi_wp2
   refine⟨trivial,rfl,vw.out.mono ?_⟩;rintro e w2 ⟨rfl,d⟩
   gi_wp2
   have Tq:a.filter (Ev c)++ [x].filter (Ev c)=a.filter (Ev c):=by rw[ZbB,H.out];simp
   rw[Tq];refine⟨?_,Ak.later d⟩;obtain⟨v,vals,b1,b2,b3⟩:=f.box;exact⟨f.below.trans (d.mono f.below.size),by have:=d.size;omega,v,vals,(d.block _ (Za.1 b1).1).trans b1,Tn d b2,λi y hy=>by
    obtain⟨u,U,J⟩:=b3 i y hy;exact⟨u,U,Dx (T:=λ_=>False) (Ak.later d) (λ_ _ h=>h) J⟩⟩
  |none=>
   dsimp only[uv]at vw
   gi_wp2
   refine⟨trivial,rfl,vw.out.mono ?_⟩;rintro e w2 ⟨rfl,d⟩;have mJ:AQ W1 (V+6) (a.filter (Ev c)) w2:=by
    obtain⟨v,vals,b1,b2,b3⟩:=f.box;exact⟨f.below.trans (d.mono f.below.size),by have:=d.size;omega,v,vals,(d.block _ (Za.1 b1).1).trans b1,Tn d b2,λi y hy=>by
     obtain⟨u,U,J⟩:=b3 i y hy;exact⟨u,U,Dx (T:=λ_=>False) (Ak.later d) (λ_ _ h=>h) J⟩⟩
   have Hb:SI (J1 3 A0 w2) w2 (.slice ad x.length cc) x:=Dx (T:=λ_=>False) (Ak.later d) (λ_ _ h=>h) iA;clear L Q DF;obtain⟨v,vals,L,Q,DF⟩:=mJ.box;have kb:=ch (i:=0) L (v:=v) rfl;have fb:=cf (i:=0) L;rw[F.out]at kb fb;have G9:=Zac (Ev c) a;have Tq:a.filter (Ev c)++ [x].filter (Ev c)=a.filter (Ev c)++ [x]:=by rw[ZbB,H.out];simp
   gi_wp2_with (gi_at_builtin;refine wpListIn_append_own _ rfl _ _ 35 rfl (V+6) 22 i0 () 1 24 hu (Dz hi) Fl k9 EB rfl d! _ _ _ rfl (Q.alloc _) w2 1 1 [.slice ad x.length cc] rfl rfl (cell_one_new _ _ _) (by simp[YT]) u! o! (by have:=d.size;simp;omega) ?_;intro v' w3 Bi AG Gc;obtain⟨g',Ey,rfl⟩:=Zay Bi;have S4:(w2.alloc (.cells #[.slice ad x.length cc] 22)).grownBy w3 v.ownBlock:=AG;have Em:∀k,v.ownBlock=some k->V.heap.size+6<=k:=λk Z=>(Q.lt k Z).1;have PZ:w3.heap[W1.heap.size]?=some (.cells #[v] 35 (0,0)):=(S4.block _ (by have:=d.size;simp;omega) (λe=>by have:=Em _ e.symm;omega)).trans (Bf L _);have am:=ch (i:=0) PZ (v:=v) rfl;have bc:=cf (i:=0) PZ;rw[F.out]at am bc)
   obtain⟨q1,q2⟩:=AQ.snoc mJ o! L Q DF Hb (by have:=ap;omega) S4 Bi;rw[F.out]at q1 q2;exact⟨q1,(Ak.later d).trans (q2.mono λk Z=>⟨by unfold Kp;omega,λh=>by have:=ju k h;omega⟩)⟩
 intro A f hD;obtain⟨v,vals,L,Q,DF⟩:=f.box;have kb:=ch (i:=0) L (v:=v) rfl;rw[F.out]at kb
 gi_wp2
 have O:Ak (λk=>k=V.heap.size) A (A.putObj V (.deferred none)):=(Ak.refl _ _).put rfl;have ac:=X.trans (f.below.mono X.size);have G:YH w w (A.putObj V (.deferred none)):=ac.trans (O.below (λk Z=>o!) ac.size);have Ox:=CO O (λb U J=>o!) Q;have gI:∀(i:Nat) (x:List Int),(LU c)[i]?=some x->∃u,vals[i]?=some u/\SI (Cb w (A.putObj V (.deferred none))) (A.putObj V (.deferred none)) u x:=λi x hx=>by
  obtain⟨u,U,J⟩:=DF i x hx;exact⟨u,U,Sl.imp (Dx O (λb g h=>by have:=g.1.1;omega) J) (λb g=>⟨by have:=g.1.1;omega,g.1.2⟩) (λ_ _ x=>x)⟩
 refine⟨i!,.inl ⟨_,_,rfl,run_takeDeferred hD,?_⟩⟩;exact⟨_,results_tmp rfl _ _ _,_,rfl,G,WM (ls:=LU c) Ox o! gI⟩
def bV {C:Zb}(h:Qb6 A B)(k:Qb6 B C):Qb6 A C:=h.trans (k.mono h.size)
def SL.imp {l:List (List Int)}(h:SL S w v l)(a:∀b,S b->T b):SL T w v l:=Sl.imp h a λ_ _ ⟨u,e,c⟩=>⟨u,e,Sl.imp c a λ_ _ x=>x⟩
def c72 (h:RC S w v1 v2 v3 v4 v5 c)(l:Ql6 S w)(m:BN c=0):
  Calls Lp 10 #[.agg #[v1,v2,v3,v4,v5]] w λe w'=>∃a cc,e=.returned (.tuple #[.slice a (LU c).length cc,.int .i64 0])/\Qb6 w w'/\SL (Cb w w') w' (.slice a (LU c).length cc) (LU c):=by
 obtain⟨C,t,B,c2,A,s,z,r,u,q,rfl,rfl,rfl,rfl,rfl,_⟩:=h.vs;have f:=EG m;have i:YH w w (w.alloc (.cells (Qe6 c C t B c2 A s z r u q) 26)):=bA (Zh _ _);have p:=Zd (λW d=>Wt (w:=W) (h.later d) (A3 l d) m);have j:=Zd (λW (d:Qb6 w W)=>(Zcx (n:=0)).1 (aiM (w:=W) (h.later d) (A3 l d) f));unfold AW at j;go_enter Lp.func72,n72;go_wp2_with (first|(go_at_call 30;refine(p.out _ i).mono ?_;rintro e w1 ⟨rfl,E⟩;have g:=i.trans (E.mono i.size))|(go_at_call 31;refine(j.out _ (bA g)).mono ?_;rintro e w2 ⟨v,rfl,D,f⟩;obtain⟨x,y,rfl,_⟩:=f.val));have F:=g.size;go_ret2;exact⟨_,_,rfl,bV (bA g) D,f.imp λb k=>⟨by have o:=k.1;rw[ZB]at o;omega,k.2⟩⟩
def LR (base:Nat)(w:Zb)(v:Zf)(P:List (List Int)):Prop:=∃vals,w.ownsRow base 22 1 v P.length vals/\∀(i:Nat) (x:List Int),P[i]?=some x->∃u,vals[i]?=some u/\SI (J1 3 base w) w u x
variable {P:List (List Int)}
def LR.sl {base:Nat}(h:LR base w v P):SL (Cb base w) w v P:=by
 obtain⟨vals,g,f⟩:=h;refine WM g (Zj _) λi x a=>?_;obtain⟨u,e,d⟩:=f i x a;exact⟨u,e,Sl.imp d (λb c=>c.1) λ_ _ x=>x⟩
def Own.typ {base:Nat}(h:Own w base v l):SI (J1 3 base w) w v l:=
 Lg (R:=Ri) d! h λi x a=>by
  rw[Nat.mul_one];obtain⟨b,e⟩:=Zm.1 a;rw[ZO (by simpa using b)];simp[Ri,e]
def abn (g:Nat)(c:A_)(r:Int×Int)(l:List Int):Int×Int:=(min r.1 (measure c l g),max r.2 (measure c l g))
def abU (c:A_)(g:Nat):Int×Int:=(LU c).foldl (abn g c) (measure c c.now g,measure c c.now g)
def agb (m:Nat->Int)(c:g<3)(w:Zb):(ZdN 82 (.agg #[.int .i64 (m 0),.int .i64 (m 1),.int .i64 (m 2)]) (.int .i64 (g:Int))).run Lp w=.ok (.int .i64 (m g)) w:=by
 have a:Lp.underlying 82=some (.array 3 3):=Cz Tryz.underlying82;have b:∀w,(sizeOf 3).run Lp w=.ok 1 w:=λw=>k!
 have:g=0\/g=1\/g=2:=o!
 rcases this with rfl|rfl|rfl<;>simp[ZdN,Y9 a,asIntOf,b,go_sem]
def c75 (h:RC S w v1 v2 v3 v4 v5 c)(hS:Ql6 S w)(Jz:BN c=0)(hg:g<c.base.length):
  Calls Lp 12 #[.agg #[v1,v2,v3,v4,v5],.int .i64 g] w λe w'=>e=.returned (.tuple #[.agg #[.int .i64 (abU c g).1,.int .i64 (abU c g).2],.int .i64 0])/\Qb6 w w':=by
 obtain⟨a1,c1,a2,c2,a3,c3,a4,c4,a5,c5,rfl,rfl,rfl,rfl,rfl,_⟩:=h.vs;have IX:=DJ;have r:=EG Jz;have n8:=r.Fp;have p:=Zd (ZY r.uy (Fb r.now));obtain⟨W2,Z⟩:=Qnm ((w.alloc (.cells (Qe6 c a1 c1 a2 c2 a3 c3 a4 c4 a5 c5) 26)).alloc (.cells #[.int .i64 0,.int .i64 0] 40));have Bg:Qb6 w W2:=by rw[Z];exact bA (bA (Zh _ _))
 have lD:W2.heap[w.heap.size]?=some (.cells (Qe6 c a1 c1 a2 c2 a3 c3 a4 c4 a5 c5) 26 (0,0)):=by rw[Z];exact Bf (Bp _ _) _
 have Ks:W2.heap[w.heap.size+1]?=some (.cells #[.int .i64 0,.int .i64 0] 40 (0,0)):=by rw[Z];exact Jq _ _ _
 obtain⟨k0,k1,k2,k3,k4⟩:=Qc5 lD;have ez:=Zd (λW B=>Wt (w:=W) (h.later B) (A3 hS B) Jz);have kz:=Zd (λW (B:Qb6 w W) v6 l hl I hb=>ah4 (w:=W) (v6:=v6) (l:=l) (S:=λx=>x<W.heap.size) ((h.later B).imp λx q=>Zl (hS x q) B.size) r hl I hb (λx q=>q) (Ax c.Aa 0) (Ax c.Aa 1) (Ax c.Aa 2));have lE:=Zd (λW (B:Qb6 w W)=>(Zcx (n:=0)).1 (aiM (w:=W) (h.later B) (A3 hS B) r));unfold AW at lE;have Q:=Zd (λW=>bp (g:Int) 0 ((c.base.length:Int) - 1) W);rw[F4 o!]at Q;obtain⟨H,DU⟩:=Qnm (Ax c.Aa);rw[<-DU]at ez kz lE;clear DU;have ck:IntKind.i64.wrap ((c.base.length:Int) - 1)=(c.base.length:Int) - 1:=by rw[zE];omega
 go_enter Lp.func75,n75;go_wp2;rw[<-Z];clear Z;refine(ez.out _ Bg).mono ?_;rintro e w1 ⟨rfl,Bb⟩;have Bv:=bV Bg Bb;have R:=(Bb.block _ (Za.1 Ks).1).trans Ks;clear k0 k1 k2 k3 k4;obtain⟨V,hV⟩:=Qnm (w1.alloc (.cells #[.slice a1 c.base.length c1,.slice a2 c.Af.length c2,.slice a3 c.hooks.length c3,.slice a4 c.Aa.length c4,.slice a5 c.now.length c5,.int .u8 (H 0),.int .u8 (H 1),.int .u8 (H 2)] 74));have F:V.heap[w1.heap.size]?=some (.cells #[.slice a1 c.base.length c1,.slice a2 c.Af.length c2,.slice a3 c.hooks.length c3,.slice a4 c.Aa.length c4,.slice a5 c.now.length c5,.int .u8 (H 0),.int .u8 (H 1),.int .u8 (H 2)] 74 (0,0)):=by rw[hV];exact Bp _ _
 have G:Qb6 w1 V:=by rw[hV];exact bA (Zh _ _)
 have Ui:=bV Bv G;have O:=(G.block _ (Za.1 R).1).trans R;dsimp only;go_wp2_with (go_at_call 34;refine(Q.out _).mono ?_;rintro e W ⟨rfl,hw⟩;obtain rfl:=hw.symm);rw[<-hV];clear hV;refine(kz.out V Ui _ _ (Sl.imp (h.now.later Ui) (T:=λx=>x<V.heap.size) (λx q=>Zl (hS x q) Ui.size) λ_ _ x=>x) (by have:=p.out.1;omega) (λi b=>by have:=(p.out.2).2 i b;have:=r.step i (by have:=p.out.1;omega);omega)).mono ?_;rintro e A ⟨rfl,De⟩;have Cj:=bV Ui De;have y:=(De.block _ (Za.1 F).1).trans F;have U:=(De.block _ (Za.1 O).1).trans O;dsimp only;have E:=λW=>agb (measure c c.now) (by omega:g<3) W;obtain⟨t,D⟩:∃m,m=measure c c.now g:=⟨_,rfl⟩;rw[<-D]at E;have ac:=Zd D;clear D;have y0:=ch (i:=0) y rfl;have y1:=ch (i:=1) y rfl;have y2:=ch (i:=2) y rfl;have y3:=ch (i:=3) y rfl;have y4:=ch (i:=4) y rfl;have y5:=ch (i:=5) y rfl;have y6:=ch (i:=6) y rfl;have y7:=ch (i:=7) y rfl;obtain⟨W4,ED⟩:=Qnm (A.alloc (.cells #[.int .i64 t,.int .i64 t] 40));have DM:Qb6 A W4:=by rw[ED];exact bA (Zh _ _)
 have J:W4.heap[A.heap.size]?=some (.cells #[.int .i64 t,.int .i64 t] 40 (0,0)):=by rw[ED];exact Bp _ _
 have d:=(DM.block _ (Za.1 y).1).trans y;have N:=(DM.block _ (Za.1 U).1).trans U;have X:=bV Cj DM;have z0:=ch (i:=0) d rfl;have z1:=ch (i:=1) d rfl;have z2:=ch (i:=2) d rfl;have z3:=ch (i:=3) d rfl;have z4:=ch (i:=4) d rfl;have z5:=ch (i:=5) d rfl;have z6:=ch (i:=6) d rfl;have z7:=ch (i:=7) d rfl;rw[ED]at z0 z1 z2 z3 z4 z5 z6 z7;go_wp2;rw[<-ED];have DR:=Bg.size;have EB:=Bb.size;have Rb:=G.size;have ci:=De.size;have b9:=DM.size;have ct:=(Za.1 F).1;have dl:=(Za.1 Ks).1;have an:=(Za.1 J).1;refine(lE.out _ X).mono ?_;rintro e W5 ⟨lv,rfl,Y,yV⟩;obtain⟨la,lc,rfl,_⟩:=yV.val;have ai:=Zd (show∀W,Ak (λx=>x=A.heap.size) W5 W->SL (Cb W4 W5) W (.slice la (LU c).length lc) (LU c) from λW hT=>yV.Ar (hT.same λx q e=>by have:=q.1;omega));have am:=Zd (λi (b:i<(LU c).length)=>WV (show BM (LU c) i∈EH c from(List.mem_filter.1 (Z3 (BJ b))).1));have M:=(Y.block _ (Za.1 d).1).trans d;have L:=(Y.block _ (Za.1 N).1).trans N;have be:=(Y.block _ an).trans J;have K:=bV X Y;have b8:=Y.size;have HR:=Zd (show abU c g=(LU c).foldl (abn g c) (t,t) by unfold abU;rw[<-ac.out]);have hN:(LU c).length<=125:=by
  have h1:=Zac (Ev c) (EH c);have h0:=H7 c.Aa (λi b=>by have:=r.step i b;omega);have h2:5^c.Aa.length<=5^3:=YX d! r.few.2;exact Zr h1 (Zr h0 h2)
 obtain⟨C,hC⟩:=Qnm (LU c);rw[<-hC]at ai am HR hN⊢;clear hC yV z0 z1 z2 z3 z4 z5 z6 z7 y0 y1 y2 y3 y4 y5 y6 y7 ED;have Gv: -108<=t/\t<=108:=by rw[ac.out];exact Md r (by have:=p.out.1;omega) (λi b=>by have:=(p.out.2).2 i b;have:=r.step i (by have:=p.out.1;omega);omega) g
 dsimp only;go_wp2;go_loopg [43] C.length (λgg i wx=>∃(k:Nat) (j b:Int),k<=C.length/\gg=C.length - k/\i=.int .i64 k/\(C.drop k).foldl (abn g c) (j,b)=abU c g/\Ak (λx=>x=A.heap.size) W5 wx/\wx.heap[A.heap.size]?=some (.cells #[.int .i64 j,.int .i64 b] 40 (0,0)))
 case atStart=>exact⟨0,t,t,Zp _,rfl,rfl,HR.out.symm,Ak.refl _ _,be⟩
 obtain⟨k,j,b,hk,rfl,rfl,CP,o,hQ⟩:=hrel;have HF:=Zd CP;clear CP;have P:=K.trans (o.below (λx q=>by subst q;omega) K.size);have f:=(o.block _ (Za.1 M).1 o!).trans M;have bv:=o.size;by_cases Az:k<C.length
 .have iT:=Zd (eW (g:=abn g c) (a:=(j,b)) Az)
  obtain⟨b6,o6,u,ee,Xj,lH,hu⟩:=(ai.out _ o).at_ Az;subst ee;have HL:=Zd (am.out k Az);obtain⟨l,hl⟩:=Qnm (BM C k);rw[<-hl]at hu iT HL;clear hl;obtain⟨ua,uc,rfl,_⟩:=hu.val;have HC:=Zd (kz.out wr P (.slice ua l.length uc) l (Sl.imp hu (λx q=>by have:=q.2;show x<wr;omega) λ_ _ x=>x) (by have:=HL.out.1;omega) (λi b=>by have:=HL.out.2 i b;have:=r.step i (by have:=HL.out.1;omega);omega));have E:=λW=>agb (measure c l) (by omega:g<3) W;obtain⟨n,I⟩:∃m,m=measure c l g:=⟨_,rfl⟩;have bi:=Zd (show abn g c (j,b) l=(min j n,max b n) by rw[I];rfl);rw[<-I]at E;clear I hu;have TB:(k:Int)<(C.length:Int):=o!
  have y0:=ch (i:=0) f rfl;have y1:=ch (i:=1) f rfl;have y2:=ch (i:=2) f rfl;have y3:=ch (i:=3) f rfl;have y4:=ch (i:=4) f rfl;have y5:=ch (i:=5) f rfl;have y6:=ch (i:=6) f rfl;have y7:=ch (i:=7) f rfl;go_wp2_with (go_at_call 35;refine HC.out.mono ?_;rintro e W6 ⟨rfl,Jn⟩;have s:=(Jn.block _ (Za.1 hQ).1).trans hQ;have q0:=ch (i:=0) s (v:=.int .i64 j) rfl;have q1:=ch (i:=1) s (v:=.int .i64 b) rfl;have f0:=cf (i:=0) s;have f1:=cf (i:=1) s);have bc:=Ba (i:=1) (Ba (i:=0) s (.int .i64 (min j n))) (.int .i64 (max b n));have ba:Ak (λx=>x=A.heap.size) W5 ((W6.setCell A (.int .i64 (min j n))).setCell ⟨A,1,none⟩ (.int .i64 (max b n))):=((o.uJ Jn).set rfl).set rfl;go_roundg (C.length - (k+1))
  case rel=>exact⟨k+1,min j n,max b n,Az,rfl,v!,by rw[<-HF.out,iT.out,bi.out],ba,bc⟩
  omega
 have ap:k=C.length:=o!
 have RV:(j,b)=abU c g:=by rw[<-HF.out,ap,List.drop_length];rfl
 have HE:=Zd RV;clear RV;have z:=(o.block _ (Za.1 L).1 o!).trans L;have q0:=ch (i:=0) hQ (v:=.int .i64 j) rfl;have q1:=ch (i:=1) hQ (v:=.int .i64 b) rfl;have f0:=cf (i:=0) z;have f1:=cf (i:=1) z;have r0:=ch (i:=0) z (v:=.int .i64 0) rfl;have r1:=ch (i:=1) z (v:=.int .i64 0) rfl;go_wp2;refine ZN (v:=.tuple #[.agg #[.int .i64 j,.int .i64 b],.int .i64 0]) (by rw[abK rfl];go_simp) rfl ?_;refine⟨by rw[<-HE.out],?_⟩
 repeat (with_reducible first|exact P|(refine bS ?_ o!))
def adk:∀(l:List (Int×Int)) (i:Nat) (p:Int×Int),i<l.length->((l.flatMap λp=> [ZL .i64 p.1,.int .i64 p.2]).set (i*2) (.int .i64 p.1)).set (i*2+1) (.int .i64 p.2)=(l.set i p).flatMap λp=> [ZL .i64 p.1,.int .i64 p.2]
 | [],_,_,h=>h!
 |q::r,0,p,_=>rfl
 |q::r,i+1,p,h=>by
  have:=adk r i p (by simpa using h);rw[List.set_cons_succ,List.flatMap_cons,List.flatMap_cons, <-this,show(i+1)*2=i*2+1+1 by omega]
  rfl
def Ih.set {base:Nat}{l:List (Int×Int)}(h:Ih w base (.slice g n cap) l e)(hi:i<l.length)(p:Int×Int):
  Ih ((w.setCell ⟨g,i*2,none⟩ (.int .i64 p.1)).setCell ⟨g,i*2+1,none⟩ (.int .i64 p.2)) base (.slice g n cap) (l.set i p) e:=by
 obtain⟨o,m⟩:=h;rcases m with⟨a,_⟩|⟨r,s,q,a,k,j,f,d,c,b⟩
 .cases a
 cases a;refine⟨?_,.inr ⟨g,cap,_,by rw[ZcC],k,Ba (Ba j _) _,by simpa using f,d,by simpa using c,?_⟩⟩
 .rw[<-adk l i p hi]
  simpa using o
 rw[<-adk l i p hi];simp only[ZcM,ZcC,List.take_set];rw[b]
def agh (c:A_):List (List Int)->List (Int×Int)
 | []=> []
 |l::r=>(Yr c.base.length).map λg=>r.foldl (abn g c) (measure c l g,measure c l g)
def afa {r:List (List Int)}(a:g<c.base.length):BV (agh c (l::r)) g=r.foldl (abn g c) (measure c l g,measure c l g):=by
 simp[BV,agh,Y6,a]
def ad7 {c:A_}{g:Nat}:∀(r:List (List Int)) (a b:Int×Int) (x:List Int),x∈r->r.foldl (abn g c) (min a.1 (measure c x g),max a.2 (measure c x g))=r.foldl (abn g c) a
 | [],_,_,_,h=>h!
 |y::r,a,b,x,h=>by
  show r.foldl (abn g c) (abn g c _ y)=r.foldl (abn g c) (abn g c a y);rcases List.mem_cons.1 h with rfl|h
  .congr 1
   simp only[abn,Prod.mk.injEq];omega
  rw[<-ad7 r (abn g c a y) b x h]
  congr 1
  simp only[abn,Prod.mk.injEq];omega
def adl {ab:Nat->Nat}{l:List Int}:∀(n k s:Nat),l.length - k=n->JR ab l k (l.drop k) s=s
 |0,k,s,h=>eD o!
 |n+1,k,s,h=>by
  rw[bz o!,if_pos rfl];exact adl n (k+1) s o!
def adP (c:A_):DS c c.now=0:=adl _ 0 0 rfl
variable {y lo hi:Int}
def aeI {n:Int}(h:lo<=n/\n<=hi):n∈IU lo hi:=by
 unfold IU;rw[List.mem_map];exact⟨(n - lo).toNat,by rw[List.mem_range];omega,o!⟩
def adQ:∀(s:List Ay) (l:List Int),l.length=s.length->(∀i,i<l.length->(Aj s i).low<=nth l i/\nth l i<=(Aj s i).high)->l∈EZ s
 | [],l,h,_=>by
  obtain rfl:l=[]:=List.length_eq_zero_iff.1 h;simp[EZ]
 |s::r,[],h,_=>h!
 |s::r,x::t,h,a=>by
  unfold EZ;rw[List.mem_flatMap];exact⟨x,aeI (a 0 (Nat.succ_pos _)),List.mem_map.2 ⟨t,adQ r t (by simpa using h) λi hi=>a (i+1) (Nat.succ_lt_succ hi),rfl⟩⟩
def afb (a:Fq c):c.now∈LU c:=by
 refine List.mem_filter.2 ⟨adQ _ _ a.uy (Fb a.now).2,?_⟩;unfold Ev;rw[adP]
 rfl
def aeJ (b:Fq c)(f:g<c.base.length):BV (agh c (LU c)) g=abU c g:=by
 have a:=afb b;unfold abU;cases h:LU c with
 |nil=>rw[h]at a;cases a
 |cons x r=>
  rw[afa f,List.foldl_cons];rw[h]at a;rcases List.mem_cons.1 a with e|d
  .rw[e]
   congr 1
   simp only[abn,Prod.mk.injEq];omega
  rw[<-ad7 r (measure c x g,measure c x g) (0,0) c.now d]
  congr 1
  simp only[abn,Prod.mk.injEq];omega
def adm (b:Fq c):LU c≠ []:=λh=>by
 have a:=afb b;rw[h]at a;cases a
variable {H α:Type}
def take_set {N O:List α}{x:α}(c:j<N.length)(b:j<O.length)(h:N[j]?=some x):(N.take j++O.drop j).set j x=N.take (j+1)++O.drop (j+1):=by
 have a:(N.take j).length=j:=by rw[ZcV];omega
 rw[List.set_append_right _ _ o!,a,Nat.sub_self,ZO b,List.set_cons_zero,ZbH,h];simp
inductive HT
 |leaf
 |one (i:Nat) (r:HT)
 |free (i:Nat) (r:HT)
 |fork (i:Nat) (x:HT) (j:Nat) (y:HT)
def HT.len:HT->Nat
 | .leaf=>0
 | .one _ r=>r.len+1
 | .free _ r=>r.len+1
 | .fork _ x _ _=>x.len+1
section
variable {P:Zo}{ops:Array Oper}{Q:Exit->Act->Zb->Prop}{md:YO}{S:Zb->Prop}{T:Nat->Zb->Prop}
def abx (P:Zo)(b:Array Oper)(Q:Exit->Act->Zb->Prop)(S:Zb->Prop)(T:Nat->Zb->Prop):HT->Act->Zb->Prop
 | .leaf,a,w=>Q .normal a w
 | .one i r,a,w=>wpOp P b Q i (λa' w'=>T i w'/\abx P b Q S T r a' w') a w
 | .free i r,a,w=>S w/\∃o v,b[i]?=some o/\ZbF P b S o v a/\abx P b Q S T r (a.put o.dst v) w
 | .fork i x j y,a,w=>wpOp P b Q i (λa' w'=>T i w'/\abx P b Q S T x a' w') a w/\wpOp P b Q j (λa' w'=>T j w'/\abx P b Q S T y a' w') a w
def htB (b:YO)(a:Array Oper)(n:Nat)(lates:List Nat):HT->Array Bool->Bool
 | .leaf,listed=>(zs b a listed).isEmpty
 | .one i r,listed=>decide (zs b a listed=[i])&&htB b a n lates r (listed.setIfInBounds i true)
 | .free i r,listed=>(zs b a listed).contains i&&Za3 b a listed i&&pQ b a n lates i&&htB b a n lates r (listed.setIfInBounds i true)
 | .fork i x j y,listed=>decide (zs b a listed=[i,j])&&decide (x.len=y.len)&&htB b a n lates x (listed.setIfInBounds i true)&&htB b a n lates y (listed.setIfInBounds j true)
def ac7 {n:Nat}{lates:List Nat}(q:YF ops=true)(l:∀c a d v w,Q (.panic c) (Zck a d v) w->Q (.panic c) a w):
  ∀(t:HT) (listed:Array Bool) (a:Act) (w:Zb),Dn md ops listed->htB md ops n lates t listed=true->abx P ops Q S (FG lates S) t a w->Cy P md ops Q (FG lates S) t.len listed a w
 | .leaf,_,_,_,_,b,h=>⟨by simpa[htB]using b,h⟩
 | .one i r,listed,a,w,e,b,h=>by
  simp only[htB,ZF,decide_eq_true_eq]at b;refine⟨λm=>(by rw[b.1]at m;cases m),λj u=>?_⟩;have s:=u;rw[b.1]at u;have:j=i:=by simpa using u
  subst this;exact Zcc (λp w' x=>⟨x.1,ac7 q l r _ p w' (e.step s) b.2 x.2⟩) h
 | .free i r,listed,a,w,e,b,h=>by
  simp only[htB,ZF]at b;obtain⟨F,o,v,E,D,h⟩:=h;have A:i∈zs md ops listed:=by simpa using b.1.1.1
  exact Me (S:=S) (n:=n) (f:=r.len) E q (λc a w x=>l c a o.dst v w x) (λw x=>.inr x) (iw b.1.2) listed a w e b.1.1.2 A D F (ac7 q l r _ _ w (e.step A) b.2 h)
 | .fork i x j y,listed,a,w,e,b,h=>by
  simp only[htB,ZF,decide_eq_true_eq]at b;obtain⟨⟨⟨B,I⟩,H⟩,G⟩:=b;refine⟨λm=>(by rw[B]at m;cases m),λk g=>?_⟩;have C:=g;rw[B]at g;rcases List.mem_cons.1 g with rfl|g
  .exact Zcc (λp w' z=>⟨z.1,ac7 q l x _ p w' (e.step C) H z.2⟩) h.1
  have:k=j:=by simpa using g
  subst this;exact Zcc (λp w' z=>⟨z.1,by have:=ac7 q l y _ p w' (e.step C) G z.2;rwa[<-I]at this⟩) h.2
variable {a:Act}
def abq {id:Nat}{l:List Oper}(n:Nat)(lates:List Nat)(t:HT)(ls:List Nat)(i:P.follows .mixedOrders=true)(g:∀c a d v w,Q (.panic c) (Zck a d v) w->Q (.panic c) a w)
 (b:(YF l.toArray&&decide (t.len+ls.length=l.toArray.size)&&lsB .any l.toArray n lates (htB .any l.toArray n lates t) ls (Yu l.toArray.size false))=true) (j:S w.drew)
 (h:MQ P l.toArray S (λa'=>abx P l.toArray Q S (FG lates S) t a' w.drew) ls a):(zU id l.toArray true).wp P Q a w:=by
 simp only[ZF,decide_eq_true_eq]at b;refine Zd5 i (JV (T:=FG lates S) _ _ _ _ ?_);have e:Dn .any l.toArray (Yu l.toArray.size false):=λk ok _ f=>by
  rw[show(Yu l.toArray.size false).getD k false=false by unfold Array.getD;split<;>simp]at f;cases f
 have:=Vd b.1.1 g j (λlisted a m p o=>ac7 b.1.1 g t listed a w.drew m p o) ls _ a e b.2 h;rw[b.1.2]at this;exact this
variable {r:HT}
variable {o:Oper}
def ad8 (b:ops[i]?=some o)(c:o.guard=none)(h:o.wp P a w (λa' w'=>T i w'/\abx P ops Q S T r a' w') Q):abx P ops Q S T (.one i r) a w:=by
 unfold abx wpOp;simp only[b];rw[if_pos (by simp[Yf,c])];exact .inl h
def abo (c:ops[i]?=some o)(d:o.guard=none)(b:(Zby a.eval o).run P w=.ok (.value v) w')(e:T i w')
 (h:abx P ops Q S T r (a.put o.dst v) w'):abx P ops Q S T (.one i r) a w:=by
 refine ad8 c d ?_;unfold ZbA;rw[b,Zdi];exact⟨e,h⟩
variable {f:ZaQ}
variable {args x cs:Array Zf}
def abI (c:ops[i]?=some o)(d:o.guard=none)(b:(Zby a.eval o).run P w=.ok (.enter f args) w)
 (g:Calls P f args w λe w'=>(∃v,e=.returned v/\T i w'/\abx P ops Q S T r (a.put o.dst v) w')\/∃x,e=.panicked x/\Q (.panic x) a w'):abx P ops Q S T (.one i r) a w:=by
 refine ad8 c d ?_;unfold ZbA;rw[b,Zdj];refine g.mono λe w' h=>?_;rcases h with⟨v,rfl,h⟩|⟨x,rfl,h⟩
 .exact h
 exact h
def adR (c:ops[i]?=some o)(d:o.guard=none)(b:(Zby a.eval o).run P w=.ok .skip w')(e:T i w')
 (h:abx P ops Q S T r (a.put o.dst Ze) w'):abx P ops Q S T (.one i r) a w:=by
 refine ad8 c d ?_;unfold ZbA;rw[b,ZcQ];exact⟨e,h⟩
def aby (e:S w)(c:ops[i]?=some o)(d:o.guard=none)(b:∀w,S w->(Zby a.eval o).run P w=.ok (.value v) w)
 (h:abx P ops Q S T r (a.put o.dst v) w):abx P ops Q S T (.free i r) a w:=
 ⟨e,o,v,c,.inl ⟨by simp[Yf,d],b⟩,h⟩
def adg {x y:HT}(c:abx P ops Q S T (.one i x) a w)(b:abx P ops Q S T (.one j y) a w):abx P ops Q S T (.fork i x j y) a w:=⟨c,b⟩
end
def rB (ab:Nat->Nat):Nat->List Bool->Nat->Nat
 |_,[],s=>s
 |i,b::r,s=>rB ab (i+1) r (if b=true then s|||Iv (ab i) i else s)
def vD (o:List (List Int))(D:List Bool)(l:List Int):Bool:=((Yr o.length).all λi=> !(D.getD i false)||l.contains (i:Int))&&l.all λx=>(o.getD x.toNat []).all λy=>l.contains y
def aj3 (n m i:Nat):List (List Int):=(fH m n).drop i++((Yr (n+1)).drop (m+1)).flatMap λk=>fH k n
def WX (o:List (List Int))(D:List Bool):Bool:=(aj3 o.length 0 0).find? (vD o D)==some (AB (rB (ri o) 0 D 0))
def P3:List Bool:=[true,false]
def Hd (b:Bool):b∈P3:=by cases b<;>simp[P3]
def acN:∀a∈Lj,∀d∈P3,WX [a.filter (· <1)] [d]=true:=by decide+kernel
def acO:∀a∈Lj,∀b∈Lj,∀d∈P3,∀e∈P3,WX [a.filter (· <2),b.filter (· <2)] [d,e]=true:=by decide+kernel
def acP:∀a∈Lj,∀b∈Lj,∀c∈Lj,∀d∈P3,∀e∈P3,∀f∈P3,WX [a,b,c] [d,e,f]=true:=by decide+kernel
def least {o:List (List Int)}{D:List Bool}(j:1<=o.length)(k:o.length<=3)(n:D.length=o.length)(i:∀l∈o,l.Pairwise (· < ·))(g:∀l∈o,∀x∈l,0<=x/\x<o.length):WX o D=true:=by
 match o,D,j,k,n,i,g with
 | [a],[d],_,_,_,i,g=>
  have j:=g a i!;have:=acN a (EM (i a i!) λx h=>by have:=j x h;simp at this;omega) d (Hd d);rwa[filter_lt (λx h=>by have:=j x h;simpa using this)]at this
 | [a,b],[d,e],_,_,_,i,g=>
  have j:=g a i!;have m:=g b i!;have:=acO a (EM (i a i!) λx h=>by have:=j x h;simp at this;omega) b (EM (i b i!) λx h=>by have:=m x h;simp at this;omega) d (Hd d) e (Hd e);rwa[filter_lt (λx h=>by have:=j x h;simpa using this),filter_lt (λx h=>by have:=m x h;simpa using this)]at this
 | [a,b,c],[d,e,f],_,_,_,i,g=>
  exact acP a (EM (i a i!) λx h=>by have:=g a i! x h;simpa using this) b (EM (i b i!) λx h=>by have:=g b i! x h;simpa using this)
   c (EM (i c i!) λx h=>by have:=g c i! x h;simpa using this) d (Hd d) e (Hd e) f (Hd f)
 |_::_::_::_::_,_,_,k,_,_,_=>simp at k
def ac2 (c:A_)(p:List Int):List (List Int):=(EZ (c.Aa.drop p.length)).map (p++ ·)
def adn (c:A_):ac2 c []=EH c:=by simp[ac2,EH]
def agi {p:List Int}(h:p.length=c.Aa.length):ac2 c p=[p]:=by
 unfold ac2;rw[Z7.2 o!];simp[EZ]
def afq {p:List Int}(h:p.length<c.Aa.length):ac2 c p=(IU (Aj c.Aa p.length).low (Aj c.Aa p.length).high).flatMap λn=>ac2 c (p++ [n]):=by
 have a:c.Aa.drop p.length=Aj c.Aa p.length::c.Aa.drop (p.length+1):=by
  rw[ZO h]
  congr 1
  have:=Db h;rw[zf h]at this;exact ZW this
 unfold ac2;rw[a];show((IU _ _).flatMap λn=>(EZ (c.Aa.drop (p.length+1))).map (n:: ·)).map (p++ ·)=_;rw[List.map_flatMap]
 congr 1
 funext n
 rw[List.map_map,ZA];simp[ZdQ]
def aeM (h:q<(hi+1 - lo).toNat):(IU lo hi).take (q+1)=(IU lo hi).take q++ [lo+(q:Int)]:=by
 unfold IU;rw[ZbH,YL,List.getElem?_range h]
 rfl
def aeO (h:(hi+1 - lo).toNat<=q):(IU lo hi).take q=IU lo hi:=Zb3 (by rw[eY];exact h)
def acL (a:Fq c)(p:List Int):(ac2 c p).length<=125:=by
 unfold ac2;rw[List.length_map];have d:=H7 (c.Aa.drop p.length) (λi hi=>by
  rw[List.length_drop]at hi;have:=a.step (p.length+i) o!;have e:Aj (c.Aa.drop p.length) i=Aj c.Aa (p.length+i):=by simp[Aj]
  rw[e];omega)
 have b:5^(c.Aa.drop p.length).length<=5^3:=YX d! (by rw[List.length_drop];have:=a.few;omega);exact Zr d b
def LR2 (rb base:Nat)(w:Zb)(v:Zf)(P:List (List Int)):Prop:=∃vals,w.ownsRow rb 22 1 v P.length vals/\∀(i:Nat) (x:List Int),P[i]?=some x->∃u,vals[i]?=some u/\SI (J1 3 base w) w u x
def LR2.nil (rb base:Nat)(w:Zb):LR2 rb base w () []:=⟨[],zq _ _ _ _,λi x h=>h!⟩
def LR2.later {base:Nat}(h:LR2 rb base A v P)(a:Qb6 A B):LR2 rb base B v P:=by
 obtain⟨vals,e,d⟩:=h;refine⟨vals,Tn a e,λi x hi=>?_⟩;obtain⟨u,c,b⟩:=d i x hi;exact⟨u,c,Dx (T:=λ_=>False) (Ak.later a) (λ_ _ x=>x) b⟩
def LR2.aa5 {base:Nat}(h:LR2 rb base w v P)(c:base<=rb):LR base w v P:=by
 obtain⟨vals,b,i⟩:=h;exact⟨vals,⟨b.1,b.2.imp id λ⟨g,cap,a,e,f,d⟩=>⟨g,cap,a,e,Zr c f,d⟩⟩,i⟩
def LR2.mono {a base:Nat}(h:LR2 rb base w v P)(d:a<=rb):LR2 a base w v P:=by
 obtain⟨vals,c,j⟩:=h;exact⟨vals,⟨c.1,c.2.imp id λ⟨g,cap,b,e,i,f⟩=>⟨g,cap,b,e,Zr d i,f⟩⟩,j⟩
def LR2.val {base:Nat}(h:LR2 rb base w v P):∃a c,v=.slice a P.length c/\P.length<=c/\c<=maxLen:=by
 obtain⟨vals,i,k⟩:=h;rcases i.2 with⟨e,b⟩|⟨g,cap,j,e,_,_,f,d,_⟩
 .exact⟨none,0,by rw[e,b],o!,Zp _⟩
 exact⟨_,cap,e,f,d⟩
def LR2.lt {rb base:Nat}{w:Zb}{v:Zf}{P:List (List Int)}(h:LR2 rb base w v P):∀k,v.ownBlock=some k->rb<=k:=by
 obtain⟨vals,b,_⟩:=h;exact λk a=>(b.lt k a).1
def LR2.app {base:Nat}{Q:List (List Int)}(l:A.ownsRow rb 22 1 v P.length vals)(w:∀(i:Nat) (x:List Int),P[i]?=some x->∃u,vals[i]?=some u/\SI (J1 3 base A) A u x)
 (s:∀(i:Nat) (x:List Int),Q[i]?=some x->∃u,news[i]?=some u/\SI (J1 3 base A) A u x) (r:A.grownBy w1 v.ownBlock) (B:w1.ownsRow rb 22 1 v' (P.length+Q.length) (vals++news)):LR2 rb base w1 v' (P++Q):=by
 have t:Ak (λk=>v.ownBlock=some k) A w1:=Ak.grown r λk n=>n;have a:∀u y,SI (J1 3 base A) A u y->SI (J1 3 base w1) w1 u y:=λu y h=>by
  refine Dx t (λb p h=>?_) h;obtain⟨C,c⟩:=p.2;rcases l.2 with⟨e,_⟩|⟨g,cap,q,e,_,o,_⟩
  .rw[e]at h;cases h
  rw[e]at h;cases h;rw[o]at c;cases c
 have m:vals.length=P.length:=by have:=l.1;omega
 refine⟨vals++news,by rw[ZA];exact B,λi y d=>?_⟩;by_cases z:i<P.length
 .rw[zl z]at d
  obtain⟨u,f,j⟩:=w i y d;exact⟨u,by rw[zl o!];exact f,a _ _ j⟩
 rw[Zbr o!]at d;obtain⟨u,f,j⟩:=s _ y d;exact⟨u,by rw[Zbr o!,m];exact f,a _ _ j⟩
def B3.aj4 (h:Qb6 w A)(c:B3 b A B)(d:w<=b):Qb6 w B:=h.trans ((c.CN (K:=λx=>x=b) rfl).below (λx a=>by have:x=b:=a;omega) h.size)
def adv (n lo hi:Int)(w:Zb):Calls Lp 36 #[.int .i64 n,.int .i64 lo,.int .i64 hi] w λe w'=>e=.returned (.bool (!AD n lo hi))/\w'=w:=by
 go_enter Lp.func135,amn;go_wp2
 all_goals go_ret
 all_goals refine⟨?_,rfl⟩
 all_goals simp_all[AD]
 have c:¬n<lo:=o!
 by_cases b:n<=hi
 .have a:¬hi<n:=by omega
  simp[b,c,a]
 have a:hi<n:=o!
 simp[b,a]
def aja (n a:Int)(w:Zb):Calls Lp 67 #[.int .i64 n,.int .i64 a] w λe w'=>e=.returned (.int .i64 (Di n a))/\w'=w:=by
 go_enter Lp.func107,amh;go_wp2
 all_goals go_ret
 all_goals simp_all[Di]
 all_goals omega
variable {p:Int×Int}
def afc (h:AD p.1 lo hi=true):CV p lo hi=1:=if_pos (.inl h)
def afd (h:AD p.2 lo hi=true):CV p lo hi=1:=if_pos (.inr h)
def afe (b:AD p.1 lo hi=false)(a:AD p.2 lo hi=false)(h:p.2<p.1):CV p lo hi=5:=by
 unfold CV;rw[if_neg (by rw[b,a];simp),if_pos h]
def adE (b:AD p.1 lo hi=false)(a:AD p.2 lo hi=false)(h:¬p.2<p.1):CV p lo hi=0:=by
 unfold CV;rw[if_neg (by rw[b,a];simp),if_neg h]
def amA (h:RC S w v1 v2 v3 v4 v5 c)(E:Ql6 S w):Calls Lp 66 #[.agg #[v1,v2,v3,v4,v5]] w λe w'=>e=.returned (.int .i64 (Dq c))/\Qb6 w w':=by
 obtain⟨N,I,M,c2,L,H,K,G,J,F,rfl,rfl,rfl,rfl,rfl,l1,m1,l2,m2,l3,m3,l4,m4,l5,m5⟩:=h.vs;have IX:=DJ;go_enter Lp.func116,amj;have z:YH w w (w.alloc (.cells (Qe6 c N I M c2 L H K G J F) 26)):=(Zh _ _).alloc (Zj _) _;have X:=Bp w (.cells (Qe6 c N I M c2 L H K G J F) 26);go_wp2_with (go_at_call 67;refine(aja _ _ _).mono ?_;rintro e w' ⟨rfl,rfl⟩)
 .have D:(Di c.base.length 3 !=0)=true:=by assumption
  go_ret;exact⟨Bw (by rw[Dq,K4 (Gr D)]),z⟩
 rename (Di _ _ !=0)=false=>D
 have l:=Zd D;clear D;go_loopg [4] c.base.length (λg i wr=>∃k:Nat,k<=c.base.length/\g=c.base.length - k/\i=.int .i64 k/\Bc (Fo 1 60) (c.base.drop k)=Bc (Fo 1 60) c.base/\wr=(w.alloc (.cells (Qe6 c N I M c2 L H K G J F) 26)))
 case atStart=>exact⟨0,Zp _,rfl,rfl,rfl,rfl⟩
 obtain⟨k,U,rfl,rfl,m,rfl⟩:=hrel;have a:=Zd m;clear m;by_cases n:k<c.base.length
 .obtain⟨b,o,rfl,u,R⟩:=h.base.at_ n
  have Z:=z.cell (p:=⟨b,o+k,none⟩) (E b u);rw[R]at Z;have d:=Zd (E_ (f:=Fo 1 60) (Bn n));go_wp2_with (go_at_call 36;refine(adv _ _ _ _).mono ?_;rintro e w' ⟨rfl,rfl⟩)
  .have r:AD (nth c.base k) 1 60=true:=by assumption
   go_ret;have T:Bc (Fo 1 60) c.base=1:=by rw[<-a.out,d.out,Ws r];rfl
   exact⟨Bw (by rw[Dq,BR (FE l.out),T];rfl),z⟩
  have r:AD (nth c.base k) 1 60=false:=a!
  go_roundg (c.base.length - (k+1))
  case rel=>exact⟨k+1,o!,rfl,v!,by rw[<-a.out,d.out,SK r];rfl,rfl⟩
  omega
 have s:=Zd (show Bc (Fo 1 60) c.base=0 by rw[<-a.out];exact FZ o!);clear a;go_wp2
 .have C:((c.Af.length:Int) !=c.base.length)=true:=by assumption
  go_ret;exact⟨Bw (by rw[Dq,BR (FE l.out),BR s.out,if_pos (xp C)]),z⟩
 rename (_ !=_)=false=>C
 have y:=Zd C;clear C;go_loopg [5] c.Af.length (λg i wr=>∃k:Nat,k<=c.Af.length/\g=c.Af.length - k/\i=.int .i64 k/\Bc (λp=>CV p (-9) 9) (c.Af.drop k)=Bc (λp=>CV p (-9) 9) c.Af/\Qb6 w wr/\wr.heap[w.heap.size]?=some (.cells (Qe6 c N I M c2 L H K G J F) 26 (0,0)))
 case atStart=>exact⟨0,Zp _,rfl,rfl,rfl,z,X⟩
 obtain⟨k,U,rfl,rfl,m,j,O⟩:=hrel;have a:=Zd m;clear m;have k0:=ch (i:=0) O rfl;have k1:=ch (i:=1) O rfl;have k2:=ch (i:=2) O rfl;by_cases n:k<c.Af.length
 .obtain⟨b,o,rfl,u,Q,W⟩:=h.Af.at_ n
  rw[<-j.cell (p:=⟨b,o+k*2,none⟩) (E b u)]at Q;rw[<-j.cell (p:=⟨b,o+k*2+1,none⟩) (E b u)]at W;have d:=Zd (E_ (f:=λp=>CV p (-9) 9) (EE n));go_wp2_with (go_at_call 36;refine(adv _ _ _ _).mono ?_;rintro e w' ⟨rfl,rfl⟩)
  .have t:AD (BV c.Af k).1 (-9) 9=true:=by assumption
   go_ret;have A:Bc (λp=>CV p (-9) 9) c.Af=1:=by rw[<-a.out,d.out,afc t];rfl
   exact⟨Bw (by rw[Dq,BR (FE l.out),BR s.out,if_neg (λx=>x (U2 y.out)),A];rfl),j⟩
  .have t:AD (BV c.Af k).2 (-9) 9=true:=by assumption
   go_ret;have A:Bc (λp=>CV p (-9) 9) c.Af=1:=by rw[<-a.out,d.out,afd t];rfl
   exact⟨Bw (by rw[Dq,BR (FE l.out),BR s.out,if_neg (λx=>x (U2 y.out)),A];rfl),j⟩
  rename AD (BV c.Af k).2 _ _=false=>q
  rename¬AD (BV c.Af k).1 _ _=true=>t
  have v:=Zd (Bool.eq_false_iff.2 t);have B:=Zd q;clear t q;go_quiet (fail)
  all_goals go_wp2
  .have P:(BV c.Af k).2<(BV c.Af k).1:=by assumption
   go_ret;have A:Bc (λp=>CV p (-9) 9) c.Af=5:=by rw[<-a.out,d.out,afe v.out B.out P];rfl
   exact⟨Bw (by rw[Dq,BR (FE l.out),BR s.out,if_neg (λx=>x (U2 y.out)),A];rfl),Y5 j _⟩
  have P:¬(BV c.Af k).2<(BV c.Af k).1:=o!
  go_roundg (c.Af.length - (k+1))
  case rel=>exact⟨k+1,o!,rfl,v!,by rw[<-a.out,d.out,adE v.out B.out P];rfl,Y5 j _,by simpa using O⟩
  omega
 have v:=Zd (show Bc (λp=>CV p (-9) 9) c.Af=0 by rw[<-a.out];exact FZ o!);clear a;go_wp2
 .have q:((c.hooks.length:Int) !=c.base.length)=true:=by assumption
  go_ret;exact⟨Bw (by rw[Dq,BR (FE l.out),BR s.out,if_neg (λx=>x (U2 y.out)),BR v.out,if_pos (xp q)]),j⟩
 rename (_ !=_)=false=>q
 have B:=Zd q;clear q;go_loopg [6] c.hooks.length (λg i V=>∃k:Nat,k<=c.hooks.length/\g=c.hooks.length - k/\i=.int .i64 k/\Bc (Fo 0 5) (c.hooks.drop k)=Bc (Fo 0 5) c.hooks/\V=wr)
 case atStart=>exact⟨0,Zp _,rfl,rfl,rfl,rfl⟩
 obtain⟨k,U,rfl,rfl,m,rfl⟩:=hrel;have a:=Zd m;clear m;by_cases n:k<c.hooks.length
 .obtain⟨b,o,rfl,u,R⟩:=h.hooks.at_ n
  rw[<-j.cell (p:=⟨b,o+k,none⟩) (E b u)]at R;have d:=Zd (E_ (f:=Fo 0 5) (Bn n));go_wp2_with (go_at_call 36;refine(adv _ _ _ _).mono ?_;rintro e w' ⟨rfl,rfl⟩)
  .have r:AD (nth c.hooks k) 0 5=true:=by assumption
   go_ret;have T:Bc (Fo 0 5) c.hooks=1:=by rw[<-a.out,d.out,Ws r];rfl
   exact⟨Bw (by rw[Dq,BR (FE l.out),BR s.out,if_neg (λx=>x (U2 y.out)),BR v.out,if_neg (λx=>x (U2 B.out)),T]),j⟩
  have r:AD (nth c.hooks k) 0 5=false:=a!
  go_roundg (c.hooks.length - (k+1))
  case rel=>exact⟨k+1,o!,rfl,v!,by rw[<-a.out,d.out,SK r];rfl,rfl⟩
  omega
 have Y:=Zd (show Bc (Fo 0 5) c.hooks=0 by rw[<-a.out];exact FZ o!);clear a;go_wp2;go_ret;exact⟨Bw (by rw[Dq,BR (FE l.out),BR s.out,if_neg (λx=>x (U2 y.out)),BR v.out,if_neg (λx=>x (U2 B.out)),Y.out]),j⟩
def acv (g:Nat)(l:List (Int×Int)):Int:=PM (Di l.length 2) (CY (Fa g l) 0 l)
def amB {a:List (Int×Int)}(hp:SP S w v a)(R:g<=maxLen)(A:Ql6 S w):Calls Lp 91 #[.int .i64 g,v] w λe w'=>e=.returned (.int .i64 (acv g a))/\Qb6 w w':=by
 obtain⟨U,T,rfl,P,O⟩:=hp.val;have W:=DJ;have E:=Zd (show acv g a=PM (Di a.length 2) (CY (Fa g a) 0 a) from rfl);go_enter Lp.func160,amo;go_wp2_with (go_at_call 67;refine(aja _ _ _).mono ?_;rintro e w' ⟨rfl,u⟩;have u:=u.symm;subst u)
 .have s:(Di a.length 2 !=0)=true:=by assumption
  go_ret;exact⟨Bw (by rw[E.out,K4 (Gr s)]),Zh _ _⟩
 rename (Di _ _ !=0)=false=>s
 have q:=Zd (show acv g a=CY (Fa g a) 0 a by rw[E.out,BR (FE s)]);have V:=Zd s;clear s E;go_loopg [6] a.length (λM i wr=>∃k:Nat,k<=a.length/\M=a.length - k/\i=.int .i64 k/\CY (Fa g a) k (a.drop k)=CY (Fa g a) 0 a/\Qb6 w wr)
 case atStart=>exact⟨0,Zp _,rfl,rfl,rfl,Zh _ _⟩
 obtain⟨k,Q,rfl,rfl,J,d⟩:=hrel;have l:=Zd J;clear J;by_cases K:k<a.length
 .obtain⟨o,y,rfl,B,D,C⟩:=hp.at_ K
  obtain⟨N,L,e,_,I,_⟩:=hp.at_ (i:=0) o!;cases e;rw[<-d.cell (p:=⟨o,y+k*2,none⟩) (A o B)]at D;rw[<-d.cell (p:=⟨o,y+k*2+1,none⟩) (A o B)]at C;rw[<-d.cell (p:=⟨o,y+0*2,none⟩) (A o B)]at I;have m:=Zd (K5 (f:=Fa g a) (EE K));obtain⟨x,z⟩:=Qnm (BV a k);rw[<-z]at D C m;have X:=Zd z;clear z;obtain⟨b,c⟩:=x;dsimp only at D C;rw[Nat.zero_mul,Nat.add_zero]at I;go_wp2_with (go_at_call 36;refine(adv _ _ _ _).mono ?_;rintro e w' ⟨rfl,rfl⟩)
  .have h:AD b 0 ((g:Int) - 1)=true:=by assumption
   have j:Fa g a k (b,c)=3:=by unfold Fa;rw[if_pos h]
   go_ret;exact⟨Bw (by rw[q.out, <-l.out,m.out,j];rfl),d⟩
  .have h:AD b 0 ((g:Int) - 1)=false:=by assumption
   have n:AD c (-4) 4=true:=a!
   have j:Fa g a k (b,c)=1:=by unfold Fa;rw[if_neg (by rw[h];decide),if_pos (.inr n)]
   go_ret;exact⟨Bw (by rw[q.out, <-l.out,m.out,j];rfl),d⟩
  .have h:AD b 0 ((g:Int) - 1)=false:=by assumption
   have n:(c==0)=true:=a!
   have j:Fa g a k (b,c)=1:=by unfold Fa;rw[if_neg (by rw[h];decide),if_pos (.inl (by simpa using n))]
   go_ret;exact⟨Bw (by rw[q.out, <-l.out,m.out,j];rfl),d⟩
  rename AD b 0 _=false=>h
  rename¬AD c _ _=true=>n
  rename (c==0)=false=>G
  have j:Fa g a k (b,c)=if 0<k/\b=(BV a 0).1 then 4 else 0:=by unfold Fa;rw[if_neg (by rw[h];decide),if_neg (λx=>x.elim (by simpa using G) n)]
  have F:=Zd j;clear j h n G;by_cases H:0<k
  .go_quiet (fail)
   go_wp2
   .have r:((BV a 0).1==b)=true:=by assumption
    go_ret;have t:Fa g a k (b,c)=4:=by rw[F.out,if_pos ⟨H,by simp at r;exact r.symm⟩]
    exact⟨Bw (by rw[q.out, <-l.out,m.out,t];rfl),Y5 d _⟩
   have r:((BV a 0).1==b)=false:=a!
   have t:Fa g a k (b,c)=0:=by rw[F.out,if_neg (λx=>by simp at r;exact r x.2.symm)]
   go_roundg (a.length - (k+1))
   case rel=>exact⟨k+1,o!,rfl,v!,by rw[<-l.out,m.out,t];rfl,Y5 d _⟩
   omega
  go_quiet (fail);go_wp2;have t:Fa g a k (b,c)=0:=by rw[F.out,if_neg (λx=>H x.1)]
  go_roundg (a.length - (k+1))
  case rel=>exact⟨k+1,o!,rfl,v!,by rw[<-l.out,m.out,t];rfl,Y5 d _⟩
  omega
 go_wp2;go_ret;exact⟨Bw (by rw[q.out, <-l.out];exact(MN o!).symm),d⟩
def afr (a b c:Int):PM (PM a b) c=PM a (PM b c):=by
 unfold PM;by_cases h:a=0
 .rw[if_pos h,if_pos h]
 rw[if_neg h,if_neg h,if_neg h]
def amC (h:RC S w v1 v2 v3 v4 v5 c)(hn:n<c.Aa.length)(K:Ql6 S w):Calls Lp 68 #[.agg #[v1,v2,v3,v4,v5],.int .i64 n] w λe w'=>e=.returned (.int .i64 (EF c n))/\Qb6 w w':=by
 obtain⟨a1,c1,a2,c2,a3,c3,a4,c4,a5,c5,rfl,rfl,rfl,rfl,rfl,l1,m1,l2,m2,l3,m3,l4,m4,l5,m5⟩:=h.vs;have IX:=DJ;obtain⟨b,o,s2,s3,rfl,hb,ER,MM,LO,Z,V,P,J⟩:=h.Aa.at_ hn;obtain⟨a6,c6,rfl,l6,m6⟩:=P.val;obtain⟨a7,c7,rfl,l7,m7⟩:=J.val;have ig:=K b hb;obtain⟨s,O⟩:=Qnm (Aj c.Aa n);have D:EF c n=PM (CV (s.low,s.high) (-2) 2) (PM (acv c.base.length s.Ap) (PM (CY (Ed c.Aa.length n s.over) 0 s.over) (Fo 0 4 s.left))):=by rw[EF,O,acv,afr]
 have C:=Zd D;rw[<-O]at ER MM LO Z V P J l6 l7;clear O D;obtain⟨a,j,BW,d,G⟩:=s;dsimp only at*;have Bg:YH w w (w.alloc (.cells (Qe6 c a1 c1 a2 c2 a3 c3 (some ⟨b,o,none⟩) c4 a5 c5) 26)):=bA (Zh _ _);have F:=Zd (λW (t:Qb6 w W)=>amB (w:=W) (g:=c.base.length) (P.later t) o! (A3 K t));go_enter Lp.func117,amk;go_wp2_with (first|(go_at_call 36;refine(adv _ _ _ _).mono ?_;rintro e w' ⟨rfl,rfl⟩)|(go_at_call 91;refine(F.out _ (bA (bA (Zh _ _)))).mono ?_;rintro e w' ⟨rfl,Bv⟩;obtain⟨De,m,Q⟩:=kp Bv;have f0:=m 0 (.slice a1 c.base.length c1) rfl;have f3:=m 3 (.slice (some ⟨b,o,none⟩) c.Aa.length c4) rfl;have g3:=Q 3 (.slice a7 d.length c7) rfl;have Y:=Q 4 (.int .i64 G) rfl;clear m Q))
 .have r:AD a (-2) 2=true:=by assumption
  go_ret;exact⟨Bw (by rw[C.out,afc (p:=(a,j)) r];rfl),bA (bA (Zh _ _))⟩
 .have r:AD j (-2) 2=true:=by assumption
  go_ret;exact⟨Bw (by rw[C.out,afd (p:=(a,j)) r];rfl),bA (bA (Zh _ _))⟩
 .have r:¬AD a (-2) 2=true:=by assumption
  have A:AD j (-2) 2=false:=a!
  have l:j<a:=a!
  go_ret;exact⟨Bw (by rw[C.out,afe (p:=(a,j)) (Bool.eq_false_iff.2 r) A l];rfl),bA (bA (Zh _ _))⟩
 .have r:¬AD a (-2) 2=true:=by assumption
  have A:AD j (-2) 2=false:=a!
  have l:a<=j:=a!
  have q:(acv c.base.length BW !=0)=true:=a!
  go_ret;exact⟨Bw (by rw[C.out,adE (p:=(a,j)) (Bool.eq_false_iff.2 r) A (by show¬j<a;omega),BR rfl,K4 (Gr q)]),De⟩
 rename¬AD a (-2) 2=true=>r
 rename AD j (-2) 2=false=>A
 rename a<=j=>l
 rename (acv _ _ !=0)=false=>q
 have I:=Zd (show EF c n=PM (CY (Ed c.Aa.length n d) 0 d) (Fo 0 4 G) by rw[C.out,adE (p:=(a,j)) (Bool.eq_false_iff.2 r) A (by show¬j<a;omega),BR rfl,BR (FE q)]);clear r A l C ER MM LO Z V F;have Q4:=Zd q;clear q;have D':=ZH w' _ Y;have Sb:w+1<w'.heap.size:=D';clear D';go_loopg [7] d.length (λg i wr=>∃k:Nat,k<=d.length/\g=d.length - k/\i=.int .i64 k/\CY (Ed c.Aa.length n d) k (d.drop k)=CY (Ed c.Aa.length n d) 0 d/\Qb6 w wr/\Qb6 w' wr)
 case atStart=>exact⟨0,Zp _,rfl,rfl,rfl,De,Zh _ _⟩
 obtain⟨k,hk,rfl,rfl,CP,u,t⟩:=hrel;have m:=Zd CP;clear CP;rw[<-t.cell (p:=w) j!]at f0;rw[<-t.cell (p:=⟨w,3,none⟩) j!]at f3;rw[<-t.cell (p:=⟨w+1,3,none⟩) j!]at g3;rw[<-t.cell (p:=⟨w+1,4,none⟩) j!]at Y;by_cases Az:k<d.length
 .obtain⟨E,L,rfl,U3,L6⟩:=J.at_ Az
  rw[<-u.cell (p:=⟨E,L+k,none⟩) (K E U3)]at L6;have R:0<k->wr.cell? ⟨E,L+(k - 1),none⟩=some (.int .i64 (nth d (k - 1))):=λh0=>by
   obtain⟨ai,ac,e,_,X⟩:=J.at_ (i:=k - 1) o!;cases e;rw[<-u.cell (p:=⟨E,L+(k - 1),none⟩) (K E U3)]at X;exact X
  have B:=Zd (K5 (f:=Ed c.Aa.length n d) (Bn Az));obtain⟨x,N⟩:=Qnm (nth d k);rw[<-N]at L6 B;have HX:=Zd N;have T:=Zd R;clear N R;cases l:AD x 0 ((c.Aa.length:Int) - 1) with
  |true=>
   go_wp2;go_quiet (first|(go_at_call 36;refine Zb5 (adv _ _ _ _)));go_wp2;go_ret;have v:Ed c.Aa.length n d k x=3:=by unfold Ed;rw[if_pos (.inl l)]
   exact⟨Bw (by rw[I.out, <-m.out,B.out,v];rfl),Y5 u _⟩
  |false=>
   go_wp2;go_quiet (first|(go_at_call 36;refine Zb5 (adv _ _ _ _)));go_wp2
   .have q:(x==(n:Int))=true:=by assumption
    go_ret;have v:Ed c.Aa.length n d k x=3:=by unfold Ed;rw[if_pos (.inr (by simpa using q))]
    exact⟨Bw (by rw[I.out, <-m.out,B.out,v];rfl),Y5 u _⟩
   rename (x==(n:Int))=false=>q
   have z:=Zd (show¬(AD x 0 ((c.Aa.length:Int) - 1)=true\/x=n) from λy=>y.elim (by rw[l];decide) (by simpa using q));clear l q;by_cases M:0<k
   .have R:=T.out M
    go_quiet (fail);go_wp2
    .have U:x<=nth d (k - 1):=by assumption
     have v:Ed c.Aa.length n d k x=5:=by unfold Ed;rw[if_neg z.out,if_pos ⟨M,U⟩]
     go_ret;exact⟨Bw (by rw[I.out, <-m.out,B.out,v];rfl),Y5 (Y5 u _) _⟩
    have U:nth d (k - 1)<x:=a!
    have v:Ed c.Aa.length n d k x=0:=by unfold Ed;rw[if_neg z.out,if_neg (λy=>by have:=y.2;omega)]
    go_roundg (d.length - (k+1))
    case rel=>exact⟨k+1,o!,rfl,v!,by rw[<-m.out,B.out,v];rfl,Y5 u _,Y5 t _⟩
    omega
   go_quiet (fail);go_wp2;have v:Ed c.Aa.length n d k x=0:=by unfold Ed;rw[if_neg z.out,if_neg (λy=>M y.1)]
   go_roundg (d.length - (k+1))
   case rel=>exact⟨k+1,o!,rfl,v!,by rw[<-m.out,B.out,v];rfl,Y5 u _,Y5 t _⟩
   omega
 have H:=Zd (show EF c n=Fo 0 4 G by rw[I.out,BR (by rw[<-m.out];exact MN o!)]);clear m;go_wp2_with (go_at_call 36;refine(adv _ _ _ _).mono ?_;rintro e w' ⟨rfl,rfl⟩)
 .have l:AD G 0 4=true:=by assumption
  go_ret;exact⟨Bw (by rw[H.out,Ws l]),u⟩
 have l:AD G 0 4=false:=a!
 go_ret;exact⟨Bw (by rw[H.out,SK l]),u⟩
def c93 (h:RC S w v1 v2 v3 v4 v5 c)(hl:SI S w v6 l)(r:Ql6 S w):Calls Lp 70 #[.agg #[v1,v2,v3,v4,v5],v6] w λe w'=>e=.returned (.int .i64 (Ct c l))/\Qb6 w w':=by
 obtain⟨P,L,O,c2,N,K,z,y,M,J,rfl,rfl,rfl,rfl,rfl,l1,m1,l2,m2,l3,m3,l4,m4,l5,Z⟩:=h.vs;obtain⟨a6,c6,rfl,l6,Y⟩:=hl.val;have IX:=DJ;have s:YH w w (w.alloc (.cells (Qe6 c P L O c2 N K z y M J) 26)):=(Zh _ _).alloc (Zj _) _;by_cases t:l.length<c.Aa.length
 .go_enter Lp.func93,n93
  go_wp2;go_ret;exact⟨Bw (by rw[Ct,if_pos t]),s⟩
 by_cases A:c.Aa.length<l.length
 .go_enter Lp.func93,n93
  go_wp2;go_ret;exact⟨Bw (by rw[Ct,if_neg t,if_pos A]),s⟩
 have a:l.length=c.Aa.length:=o!
 have x:Ct c l=Bc (λp:Int×Ay=>Fo p.2.low p.2.high p.1) (l.zip c.Aa):=by rw[Ct,if_neg t,if_neg A]
 have j:(l.zip c.Aa).length=l.length:=by simp[a]
 have B:=Zd x;have U:=Zd j;have V:=Zd a;clear x j a;go_enter Lp.func93,n93;go_wp2;go_loopg [5] l.length (λg i wr=>∃k:Nat,k<=l.length/\g=l.length - k/\i=.int .i64 k/\Bc (λp:Int×Ay=>Fo p.2.low p.2.high p.1) ((l.zip c.Aa).drop k)=Bc (λp:Int×Ay=>Fo p.2.low p.2.high p.1) (l.zip c.Aa)/\Qb6 w wr/\wr.cell? ⟨w,3,none⟩=some (.slice z c.Aa.length y))
 case atStart=>exact⟨0,Zp _,rfl,rfl,rfl,s,i!⟩
 obtain⟨k,hk,rfl,rfl,E,d,G⟩:=hrel;have m:=Zd E;clear E;by_cases F:k<l.length
 .have C:k<c.Aa.length:=by have:=V.out;omega
  obtain⟨b,o,rfl,I,H⟩:=hl.at_ F;obtain⟨n,u,X,W,rfl,D,R,T,_⟩:=h.Aa.at_ C;rw[<-d.cell (p:=⟨b,o+k,none⟩) (r b I)]at H;rw[<-d.cell (p:=⟨n,u+k*5,none⟩) (r n D)]at R;rw[<-d.cell (p:=⟨n,u+k*5+1,none⟩) (r n D)]at T;have v:=Zd (E_ (f:=λp:Int×Ay=>Fo p.2.low p.2.high p.1) (Ra F C));go_wp2;go_quiet (first|(go_at_call 36;refine Zb5 (adv _ _ _ _)))
  all_goals go_wp2
  .have q:AD (nth l k) (Aj c.Aa k).low (Aj c.Aa k).high=true:=by assumption
   go_ret;exact⟨Bw (by rw[B.out, <-m.out,v.out,Ws q];rfl),Y5 d _⟩
  have q:AD (nth l k) (Aj c.Aa k).low (Aj c.Aa k).high=false:=a!
  go_roundg (l.length - (k+1))
  case rel=>exact⟨k+1,o!,rfl,v!,by rw[<-m.out,v.out,SK q];rfl,Y5 d _,by simpa using G⟩
  omega
 have Q:=Zd (show Ct c l=0 by rw[B.out, <-m.out];exact FZ (by have:=U.out;omega));clear m;go_wp2;go_ret;exact⟨Bw Q.out.symm,d⟩
def ajT:(Tryz.prog.info? 4).map (λi=>(i.zero,i.size,i.bytes))=some (some (.bool false),1,1):=k!
def aci (st:List Bool):Array Zf:=(st.map Value.bool).toArray
def adT (n:Nat)(e:n<=1000)(w:Zb):(Zdp 129 (.int .i64 n) (.int .i64 n)).run Lp w=.ok (.slice w n n) (w.alloc (.cells (aci (List.replicate n false)) 4)):=by
 obtain⟨a,hi,b,d,c⟩:=zp ajT;have h:=run_make (P:=Lp) w 129 4 a (.bool false) (Cz Tryz.underlying129) (Dz hi) b .i64 .i64 n n o! (Int.le_refl _) (by rw[c];omega) o!;rw[h,d];simp only[Int.toNat_natCast]
 congr 3
 unfold aci;apply Array.ext
 .simp[madeCells]
 intro i g f;simp[madeCells,Value.cells,Nat.mod_one]
def agj (st:List Bool)(k:Nat):(aci st).setIfInBounds k (.bool true)=aci (st.set k true):=by
 unfold aci;simp
variable {st:List Bool}
def ac3 (h:k<st.length):(aci st)[k]?=some (.bool (st.getD k false)):=by
 unfold aci;simp[Y6,h]
def aeQ (h:k<l.length):aiJ (l.drop k) st=aiJ (l.drop (k+1)) (st.set (nth l k).toNat true):=by
 unfold aiJ;rw[ZO h,List.foldl_cons]
 congr 2
 simp[nth,h]
def aeR {o:List (List Int)}(h:i<o.length):yn n i (o.drop i) st=yn n (i+1) (o.drop (i+1)) (if i=n\/st.getD i false=true then aiJ (o.getD i []) st else st):=by
 rw[ZO h];show yn n (i+1) (o.drop (i+1)) (if i=n\/st.getD i false=true then aiJ o[i] st else st)=_;rw[show o.getD i []=o[i] by simp[Y6,h]]
structure AbW (w:Zb)(x:Array Zf)(n:Nat)(st:List Bool)(wr:Zb):Prop where
 below:Qb6 w wr
 box:wr.heap[w.heap.size]?=some (.cells x 26 (0,0))
 row:wr.heap[w.heap.size+1]?=some (.cells (aci st) 4 (0,0))
 len:st.length=n
variable {args x cs:Array Zf}
def AbW.set {wr:Zb}(h:AbW w x n st wr)(k:Nat):AbW w x n (st.set k true) (wr.setCell ⟨w+1,k,none⟩ (.bool true)):=
 ⟨bS h.below o!,(AZ o! _).trans h.box,by rw[Ba h.row _,agj],by rw[ZcC];exact h.len⟩
def ajU (h:RC S w v1 v2 v3 v4 v5 c)(Jw:JO c.Aa)(Q:Ql6 S w):
  Calls Lp 69 #[.agg #[v1,v2,v3,v4,v5],.int .i64 n] w λe w'=>e=.returned (.slice (w+1:Nat) c.Aa.length c.Aa.length)/\Qb6 w w'/\w'.heap[w.heap.size+1]?=some (.cells (aci (aca c.Aa n)) 4 (0,0))/\(aca c.Aa n).length=c.Aa.length:=by
 obtain⟨L,H,K,c2,J,G,R,F,I,E,rfl,rfl,rfl,rfl,rfl,l1,m1,l2,m2,l3,m3,l4,m4,l5,m5⟩:=h.vs;have IX:=DJ;have Jm:=Jw.few;have ai:=λW=>adT c.Aa.length o! W;have m:(abl c.Aa).length=c.Aa.length:=by simp[abl]
 have A:iV n (abl c.Aa) c.Aa.length (List.replicate c.Aa.length false)=aca c.Aa n:=by unfold aca aiK;rw[m]
 have HF:=Zd A;have HO:=Zd m;clear A m;go_enter Lp.func118,aml;go_wp2;go_loopg [6] c.Aa.length (λg i wr=>∃(r:Nat) (st:List Bool),r<=c.Aa.length/\g=c.Aa.length - r/\i=.int .i64 r/\iV n (abl c.Aa) (c.Aa.length - r) st=aca c.Aa n/\AbW w #[.slice L c.base.length H,.slice K c.Af.length c2,.slice J c.hooks.length G,.slice R c.Aa.length F,.slice I c.now.length E] c.Aa.length st wr)
 case atStart=>exact⟨0,_,Zp _,rfl,rfl,HF.out,⟨bA (bA (Zh _ _)),Bf (Bp _ _) _,by have:=Bp (w.alloc (.cells (Qe6 c L H K c2 J G R F I E) 26)) (.cells (aci (List.replicate c.Aa.length false)) 4);rwa[ZB]at this,i!⟩⟩
 obtain⟨r,st,hr,rfl,rfl,z,v⟩:=hrel;have B_:=Zd z;clear z;have X:=ch (i:=3) v.box rfl;by_cases Az:r<c.Aa.length
 .go_wp2
  go_loopg [7] c.Aa.length (λg i wx=>∃(j:Nat) (a:List Bool),j<=c.Aa.length/\g=c.Aa.length - j/\i=.int .i64 j/\yn n j ((abl c.Aa).drop j) a=yn n 0 (abl c.Aa) st/\AbW w #[.slice L c.base.length H,.slice K c.Af.length c2,.slice J c.hooks.length G,.slice R c.Aa.length F,.slice I c.now.length E] c.Aa.length a wx)
  case atStart=>exact⟨0,st,Zp _,rfl,rfl,rfl,v⟩
  obtain⟨j,a,hj,rfl,rfl,B,s⟩:=hrel;have U:=Zd B;clear B;have X:=ch (i:=3) s.box rfl;by_cases N:j<c.Aa.length
  .have t:=ch s.row (ac3 (k:=j) (by have:=s.len;omega))
   have lY:(abl c.Aa).getD j []=(Aj c.Aa j).over:=by simp[abl,Aj,Y6,N]
   have Y:=Zd (aeR (n:=n) (i:=j) (o:=abl c.Aa) (st:=a) (by have:=HO.out;omega));rcases(show j=n\/(¬j=n/\a.getD j false=true)\/¬j=n/\a.getD j false=false by
    by_cases e:j=n
    .exact .inl e
    cases e2:a.getD j false
    .exact .inr (.inr ⟨e,rfl⟩)
    exact .inr (.inl ⟨e,rfl⟩)) with hj1|⟨hj1,xK⟩|⟨hj1,xK⟩
   rotate_left 2
   .have BL:¬(j:Int)=n:=by omega
    rw[xK]at t;go_wp2;go_roundg (c.Aa.length - (j+1))
    case rel=>exact⟨j+1,a,o!,rfl,v!,by rw[<-U.out,Y.out,if_neg (λx=>x.elim hj1 (by rw[xK];decide))],s⟩
    omega
   case' inl=>
    subst hj1;go_wp2;have HC:=Zd (show j=j\/a.getD j false=true from .inl rfl)
   case' inr.inl=>
    have BL:¬(j:Int)=n:=o!
    have HC:=Zd (show j=n\/a.getD j false=true from .inr xK);rw[xK]at t;clear hj1 xK;go_wp2;clear BL
   all_goals
    obtain⟨b,o,v2,v3,ea,Z,_,_,_,T,_,_,P⟩:=h.Aa.at_ N;subst ea;obtain⟨a7,c7,rfl,l7,m7⟩:=P.val;obtain⟨d,C⟩:=Qnm ((Aj c.Aa j).over);have rU:∀k,k<d.length->0<=nth d k/\nth d k<c.Aa.length:=by rw[C];exact Jw.over j N
    have HV:=Zd C;rw[<-C]at T P l7;clear C;rw[<-s.below.cell (p:=⟨b,o+j*5+3,none⟩) (Q b Z)]at T;go_loopg [8] d.length (λg i V=>∃(k:Nat) (l:List Bool),k<=d.length/\g=d.length - k/\i=.int .i64 k/\aiJ (d.drop k) l=aiJ d a/\YH w wr V/\AbW w #[.slice L c.base.length H,.slice K c.Af.length c2,.slice J c.hooks.length G,.slice (some ⟨b,o,none⟩) c.Aa.length F,.slice I c.now.length E] c.Aa.length l V)
    case atStart=>exact⟨0,a,Zp _,rfl,rfl,rfl,Zh _ _,s⟩
    obtain⟨k,l,hk,rfl,rfl,B,U5,f⟩:=hrel;have et:=Zd B;clear B;have X:=ch (i:=3) f.box rfl;rw[<-U5.cell (p:=⟨b,o+j*5+3,none⟩) (Q b Z)]at T;by_cases q:k<d.length
    .obtain⟨b7,o7,rfl,U3,u⟩:=P.at_ q
     have y:=rU k q;obtain⟨x,O⟩:∃x:Nat,nth d k=x:=⟨_,(Int.toNat_of_nonneg y.1).symm⟩;have D:=aeQ (st:=l) q;rw[O]at u y D;rw[Int.toNat_natCast]at D;have HD:=Zd D;have HX:=Zd O;clear D O;have ac:x<c.Aa.length:=o!
     rw[<-f.below.cell (p:=⟨b7,o7+k,none⟩) (Q b7 U3)]at u;have kx:=ch f.row (ac3 (k:=x) (by have:=f.len;omega));have fx:=cf (i:=x) f.row;go_wp2;go_roundg (d.length - (k+1))
     case rel=>exact⟨k+1,l.set x true,o!,rfl,v!,by rw[<-et.out,HD.out],U5.setCell (p:=⟨w+1,x,none⟩) (Nat.le_succ _) _,f.set x⟩
     omega
    go_wp2;have M:=et.out;rw[Z7.2 (show d.length<=k by omega)]at M;have M:l=aiJ d a:=M;go_roundg (c.Aa.length - (j+1))
    case rel=>exact⟨j+1,l,o!,rfl,v!,by rw[<-U.out,Y.out,if_pos HC.out,lY, <-HV.out,M],f⟩
    omega
  go_wp2;go_roundg (c.Aa.length - (r+1))
  case rel=>exact⟨r+1,a,o!,rfl,v!,by rw[<-B_.out,show c.Aa.length - r=(c.Aa.length - (r+1))+1 by omega];show _=iV n _ _ (yn n 0 _ st);rw[<-U.out,Z7.2 (by have:=HO.out;omega)];rfl,s⟩
  omega
 go_wp2;go_ret;have hz:c.Aa.length - r=0:=o!
 have e:=B_.out;rw[hz]at e;have e':st=aca c.Aa n:=e;exact⟨rfl,v.below,by rw[<-e'];exact v.row,by rw[<-e'];exact v.len⟩
def adU (f:JP c=0):∀s∈c.Aa,s.over.Pairwise (· < ·)/\∀x∈s.over,0<=x/\x<c.Aa.length:=λs d=>by
 obtain⟨k,a,e⟩:=Zas d;have h:=Gs f k s (by rw[zf a,e]);rw[zN]at h;unfold EF at h;have b:=(Bj (Bj (Bj (Bj h).2).2).2).1;have g:Aj c.Aa k=s:=by
  have:=Db a;rw[zf a,e]at this;exact(ZW this).symm
 rw[g]at b;exact aga b
def adV (d:Di c.Aa.length 3=0)(b:JP c=0)(hi:i<c.Aa.length)(a:k<c.Aa.length):(aca c.Aa i).getD k false=hasB (Ax c.Aa i) k:=
 afn (by have:=(JQ d).2;omega) (adU b) hi a
def ahL {l:List Ay}(a:k<l.length)(h:hasB (Ax l k) k=true):H0 l=false:=ks a (by rw[h];rfl)
def ahM {l:List Ay}(h:∀k,k<l.length->hasB (Ax l k) k=false):H0 l=true:=by
 unfold H0;rw[Zdm];intro k a;rw[h k (List.mem_range.1 a)]
 rfl
def c50 (h:RC S w v1 v2 v3 v4 v5 c)(z:Ql6 S w):Calls Lp 32 #[.agg #[v1,v2,v3,v4,v5]] w λe w'=>e=.returned (.int .i64 (BN c))/\Qb6 w w':=by
 obtain⟨I,D,H,c2,G,C,F,B,E,A,rfl,rfl,rfl,rfl,rfl,l1,m1,l2,m2,l3,m3,l4,m4,l5,m5⟩:=h.vs;have IX:=DJ;obtain⟨xs,ai⟩:∃xs:Array Zf,xs= #[.slice I c.base.length D,.slice H c.Af.length c2,.slice G c.hooks.length C,.slice F c.Aa.length B,.slice E c.now.length A]:=⟨_,rfl⟩;have K:=Zd (show BN c=PM (Dq c) (PM (Di c.Aa.length 3) (PM (JP c) (if H0 c.Aa=true then Ct c c.now else 9))) from rfl);have R:=Zd (λW (b:Qb6 w W)=>amA (h.later b) (A3 z b));have Q:=Zd (λW (b:Qb6 w W) n (hn:n<c.Aa.length)=>amC (h.later b) hn (A3 z b));have T:=Zd (λW (b:Qb6 w W) n (J:JO c.Aa)=>ajU (n:=n) (h.later b) J (A3 z b));have Z:=Zd (λW (b:Qb6 w W)=>c93 (h.later b) (h.later b).now (A3 z b));go_enter Lp.func50,n50;go_wp2_with (first|(go_at_call 66;refine(R.out _ (bA (Zh _ _))).mono ?_;rintro e W1 ⟨rfl,Bg⟩;(have M:=(Bg.block _ (by rw[ZB];exact Nat.lt_succ_self _)).trans (Bp w (.cells (Qe6 c I D H c2 G C F B E A) 26)));(have U:Qb6 w W1:=(bA (Zh _ _)).trans (Bg.mono (by rw[ZB];omega)));(have x:=ch (i:=3) M rfl);(have v:=ch (i:=4) M rfl))|(go_at_call 67;refine(aja _ _ _).mono ?_;rintro e w' ⟨rfl,L⟩;have L:=L.symm;subst L))
 .have p:(Dq c !=0)=true:=by assumption
  go_ret;exact⟨Bw (by rw[K.out,K4 (Gr p)]),U⟩
 .have p:(Dq c !=0)=false:=by assumption
  have o:(Di c.Aa.length 3 !=0)=true:=a!
  go_ret;exact⟨Bw (by rw[K.out,BR (FE p),K4 (Gr o)]),U⟩
 rename (Dq c !=0)=false=>p
 rename (Di _ _ !=0)=false=>o
 have V:=Zd (SQ (FE o));have mG:=Zd (fun(h2:JP c=0) i k=>adV (c:=c) (i:=i) (k:=k) (FE o) h2);have um:=Zd (show BN c=PM (JP c) (if H0 c.Aa=true then Ct c c.now else 9) by rw[K.out,BR (FE p),BR (FE o)]);have Q1:=Zd p;have Q2:=Zd o;clear p o Bg x v K;go_loopg [5] c.Aa.length (λg i wr=>∃k:Nat,k<=c.Aa.length/\g=c.Aa.length - k/\i=.int .i64 k/\CY (λi _=>EF c i) k (c.Aa.drop k)=JP c/\Qb6 w wr/\wr.heap[w.heap.size]?=some (.cells (Qe6 c I D H c2 G C F B E A) 26 (0,0)))
 case atStart=>exact⟨0,Zp _,rfl,rfl,rfl,U,M⟩
 obtain⟨k,hk,rfl,rfl,CP,a,m⟩:=hrel;have y:=Zd CP;clear CP;obtain⟨k0,k1,k2,x,v⟩:=Qc5 m;have N:=(Za.1 m).1;by_cases t:k<c.Aa.length
 .have hd:=Zd (K5 (f:=λi _=>EF c i) (Db t))
  go_wp2_with (go_at_call 68;refine(Q.out _ a _ t).mono ?_;rintro e w2 ⟨rfl,d⟩)
  .have l:(EF c k !=0)=true:=by assumption
   have s:JP c=EF c k:=by rw[<-y.out,hd.out,if_neg (Gr l)]
   go_ret;exact⟨Bw (by rw[um.out,s,K4 (Gr l)]),a.trans (d.mono a.size)⟩
  have l:(EF c k !=0)=false:=a!
  go_roundg (c.Aa.length - (k+1))
  case rel=>exact⟨k+1,o!,rfl,v!,by rw[<-y.out,hd.out,if_pos (FE l)],a.trans (d.mono a.size),(d.block _ N).trans m⟩
  omega
 have s:JP c=0:=by rw[<-y.out];exact MN o!
 have J:=V.out s;have HA:=Zd (mG.out s);have xq:=Zd (show BN c=(if H0 c.Aa=true then Ct c c.now else 9) by rw[um.out,BR s]);have HK:=Zd J;clear y s J;go_wp2;go_loopg [7] c.Aa.length (λg i wx=>∃k:Nat,k<=c.Aa.length/\g=c.Aa.length - k/\i=.int .i64 k/\(∀j,j<k->hasB (Ax c.Aa j) j=false)/\Qb6 w wx/\wx.heap[w.heap.size]?=some (.cells (Qe6 c I D H c2 G C F B E A) 26 (0,0)))
 case atStart=>exact⟨0,Zp _,rfl,rfl,λj P=>absurd P (ZbY _),a,m⟩
 obtain⟨k,hk,rfl,rfl,tE,a,m⟩:=hrel;have O:=Zd tE;clear tE k0 k1 k2 x v;obtain⟨k0,k1,k2,x,v⟩:=Qc5 m;have N:=(Za.1 m).1;by_cases t:k<c.Aa.length
 .have q:=HA.out k k t t
  obtain⟨bb,r⟩:=Qnm (hasB (Ax c.Aa k) k);rw[<-r]at q;have u:=Zd r;have X:=Zd q;clear r q;go_wp2_with (go_at_call 69;refine(T.out _ a k HK.out).mono ?_;rintro e w2 ⟨rfl,d,Ci,ac⟩;have kx:=ch Ci (ac3 (k:=k) o!);rw[X.out]at kx)
  .have l:bb=true:=by assumption
   go_ret;exact⟨Bw (by rw[xq.out,if_neg (by rw[ahL t (u.out.symm.trans l)];decide)]),a.trans (d.mono a.size)⟩
  have l:bb=false:=a!
  go_roundg (c.Aa.length - (k+1))
  case rel=>exact⟨k+1,o!,rfl,v!,λj P=>by
   by_cases e:j=k
   .rw[e];exact u.out.symm.trans l
   exact O.out j o!,a.trans (d.mono a.size),(d.block _ N).trans m⟩
  omega
 have Y:=Zd (show BN c=Ct c c.now by rw[xq.out,if_pos (ahM λj P=>O.out j o!)]);clear O;go_wp2_with (go_at_call 70;refine(Z.out _ a).mono ?_;rintro e w2 ⟨rfl,d⟩);go_ret;exact⟨Bw Y.out.symm,a.trans (d.mono a.size)⟩
def amF (h:RC S w v1 v2 v3 v4 v5 c)(F:Fq c)(hl:SI S w v6 l)(hn:l.length<=c.Aa.length)(hb:∀i,i<l.length->-2<=nth l i/\nth l i<=2)(I:Ql6 S w):
  Calls Lp 37 #[.agg #[v1,v2,v3,v4,v5],v6] w λe w'=>∃u,e=.returned u/\Qb6 w w'/\SI (Cb w w') w' u (Cc c l):=by
 obtain⟨a1,s,C,c2,B,z,E,f,A,t,rfl,rfl,rfl,rfl,rfl,l1,m1,l2,m2,l3,m3,l4,m4,l5,m5⟩:=h.vs;obtain⟨a6,c6,rfl,l6,m6⟩:=hl.val;have IX:=DJ;obtain⟨tN,lZ⟩:=F.Fp;have HM:=Zd (show measure c l=Iw (λj=>nth c.base j) (l.zip c.Aa) from rfl);have Bg:YH w w (w.alloc (.cells (Qe6 c a1 s C c2 B z E f A t) 26)):=bA (Zh _ _);have ai:=MP F;have be:=Zd (lC c.base);obtain⟨i0,hi,Fl,DR,EB⟩:=zp KY;have hu:=Cz YE;obtain⟨a,rfl⟩:∃a,a1=some a:=by
  obtain⟨b,o,e,_⟩:=h.base.at_ (i:=0) o!;exact⟨_,e⟩
 obtain⟨news,Qa,hR,hc⟩:=Sl.row h.base d! a rfl;have h1:=row_one d! Qa hR pJ;have HC:=Zd hc;have uz:=kY (R:=Ri) Qa hR;clear hc hR;have yd:(((w.alloc (.cells #[.slice (some a) c.base.length s,.slice C c.Af.length c2,.slice B c.hooks.length z,.slice E c.Aa.length f,.slice A c.now.length t] 26)).alloc (.cells #[] 3)).ownsRow (w+1) 3 1 (.slice (w+1:Nat) 0 0) 0 []):=by
  have:=YC (base:=w+1) (e:=3) (size:=1) (w.alloc (.cells #[.slice (some a) c.base.length s,.slice C c.Af.length c2,.slice B c.hooks.length z,.slice E c.Aa.length f,.slice A c.now.length t] 26)) #[] 0 (by rw[ZB];exact Zj _) (Zp _) rfl;rwa[ZB]at this
 have HX:=Zd (show((w.alloc (.cells #[.slice (some a) c.base.length s,.slice C c.Af.length c2,.slice B c.hooks.length z,.slice E c.Aa.length f,.slice A c.now.length t] 26)).alloc (.cells #[] 3)).heap[w.heap.size]?=some (.cells #[.slice (some a) c.base.length s,.slice C c.Af.length c2,.slice B c.hooks.length z,.slice E c.Aa.length f,.slice A c.now.length t] 26 (0,0)) from Bf (Bp _ _) _);go_enter Lp.func115,ami;go_wp2_with (at_builtin;refine Yc _ rfl _ _ 22 rfl (w+1) 3 i0 (.int .i64 0) 1 8 hu (Dz hi) Fl DR EB rfl d! _ 0 [] rfl yd a c.base.length s news rfl Qa (λj u hj=>ca (ca (HC.out j u hj) _) _) h1 u! o! i! ?_;intro v' w1 T AG Q);have De:Qb6 w w1:=Bm (bA (bA (Zh _ _))) AG (λk hk=>by cases hk;exact Nat.le_succ _) j!;rw[zN,zP,uz]at T;obtain⟨g,cap,ba,rfl,H,_⟩:=Own.val (l:=c.base) T o!;have an:MG w #[.slice (some a) c.base.length s,.slice C c.Af.length c2,.slice B c.hooks.length z,.slice E c.Aa.length f,.slice A c.now.length t] (.slice g c.base.length cap) c.base.length (λj=>nth c.base j) w1:=by
  refine⟨De,?_,?_⟩
  .exact(AG.block w j! (λe=>by have:=ZW (show some w.heap.size=some (w.heap.size+1) from e);omega)).trans HX.out
  rw[<-be.out];exact T
 clear T AG Q H;go_loopg [6] l.length (λgg i wr=>∃(k:Nat) (m:Nat->Int),k<=l.length/\gg=l.length - k/\i=.int .i64 k/\Iw m ((l.zip c.Aa).drop k)=measure c l/\(∀j,-(60+16*k)<=m j/\m j<=60+16*k)/\MG w #[.slice (some a) c.base.length s,.slice C c.Af.length c2,.slice B c.hooks.length z,.slice E c.Aa.length f,.slice A c.now.length t] (.slice g c.base.length cap) c.base.length m wr)
 case atStart=>exact⟨0,_,Zp _,rfl,rfl,rfl,λj=>by have:=ai j;omega,an⟩
 obtain⟨k,m,hk,rfl,rfl,K,ac,J⟩:=hrel;have hf:=Zd K;clear K;by_cases Az:k<l.length
 .have P:k<c.Aa.length:=by omega
  have W:=hb k Az;have Z:=Zd (SR (m:=m) Az P);obtain⟨b6,o6,rfl,Xj,xu⟩:=hl.at_ Az;obtain⟨b,o,s2,s3,rfl,UQ,ER,MM,LO,et,mi,Y,ho⟩:=h.Aa.at_ (i:=k) P;obtain⟨a7,c7,rfl,l7,m7⟩:=Y.val;clear ER MM et mi;have Xa:=F.pull k P;have X:=F.Ap k P;have Jm:=F.few;obtain⟨n,Q⟩:=Qnm (nth l k);rw[<-Q]at xu W Z;clear Q;obtain⟨d,lP⟩:=Qnm ((Aj c.Aa k).Ap);rw[<-lP]at LO Y l7 Xa X Z;clear lP;have TB:(k:Int)<(l.length:Int):=o!
  have ck:(k:Int)<(c.Aa.length:Int):=o!
  have bc:=(J.below.cell (p:=⟨b,o+k*5+2,none⟩) (I b UQ)).trans LO;have ap:=ch (i:=3) J.box (v:=.slice (some ⟨b,o,none⟩) c.Aa.length f) rfl;go_wp2;clear bc ap;go_loopg [8] d.length (λgg i wx=>∃(j:Nat) (r:Nat->Int),j<=d.length/\gg=d.length - j/\i=.int .i64 j/\CZ r n (d.drop j)=CZ m n d/\(∀i,-(60+16*(k:Int)+8*j)<=r i/\r i<=60+16*(k:Int)+8*j)/\MG w #[.slice (some a) c.base.length s,.slice C c.Af.length c2,.slice B c.hooks.length z,.slice (some ⟨b,o,none⟩) c.Aa.length f,.slice A c.now.length t] (.slice g c.base.length cap) c.base.length r wx)
  case atStart=>exact⟨0,m,Zp _,rfl,rfl,rfl,λi=>by have:=ac i;omega,J⟩
  obtain⟨j,r,hj,rfl,rfl,K,eA,D⟩:=hrel;have MK:=Zd K;clear K;have ct:=(D.below.cell (p:=⟨b,o+k*5+2,none⟩) (I b UQ)).trans LO;have g3:=ch (i:=3) D.box (v:=.slice (some ⟨b,o,none⟩) c.Aa.length f) rfl;by_cases G4:j<d.length
  .obtain⟨O,o7,rfl,U3,V,U⟩:=Y.at_ G4
   rw[<-D.below.cell (p:=⟨O,o7+j*2,none⟩) (I O U3)]at V;rw[<-D.below.cell (p:=⟨O,o7+j*2+1,none⟩) (I O U3)]at U;have dl:=(D.below.cell (p:=⟨b6,o6+k,none⟩) (I b6 Xj)).trans xu;have G:=Zd (PO (m:=r) (n:=n) G4);obtain⟨Oo,MF,M,L⟩:=Xa j G4;obtain⟨q,hq⟩:=Qnm (BV d j);rw[<-hq]at V U G Oo MF M L;clear hq;obtain⟨x',y⟩:=q;obtain⟨x,rfl⟩:∃x:Nat,x'=x:=⟨x'.toNat,by simp only at Oo;omega⟩;dsimp only at V U Oo MF M L;have xy:x<c.base.length:=o!
   have bi:(x:Int)<(c.base.length:Int):=o!
   have ci:(0:Int)<=(x:Int):=o!
   have du:(0:Int)<=(k:Int):=o!
   have LZ:(j:Int)<(d.length:Int):=o!
   have b9:(0:Int)<=(j:Int):=o!
   have bv:=prod_bound ⟨M,L⟩ W;have b8:=eA x;obtain⟨H,ba,Xg,Ox⟩:=D.row xy;have r0:wr.cell? ⟨g,x,none⟩=some (.int .i64 (r x)):=ch Xg Ox;have rf:=cf (i:=x) Xg;go_wp2;go_still_tail 26,k!;change wpList _ _ _ _ _ wr.drew;have am:=(D.later (Zh _ _).drew).set xy n y;go_wp2;go_roundg (d.length - (j+1))
   case rel=>exact⟨j+1,K7 r n ((x:Int),y),o!,rfl,v!,by rw[<-MK.out,G.out],λi=>by have:=MO (N:=60+16*(k:Int)+8*j) (p:=((x:Int),y)) eA ⟨M,L⟩ W i;omega,am⟩
   omega
  have e2:r=CZ m n d:=by rw[<-MK.out,Z7.2 o!];rfl
  subst e2;go_wp2;go_roundg (l.length - (k+1))
  case rel=>exact⟨k+1,_,o!,rfl,v!,by rw[<-hf.out,Z.out],λi=>by have:=eA i;have:(j:Int)<=2:=o!;omega,D⟩
  omega
 have e1:m=measure c l:=by rw[<-hf.out,Z7.2 j!];rfl
 subst e1;have hs:=J.own.si;rw[show Qr c.base.length (measure c l)=Cc c l from rfl]at hs;have Lc:=J.below;go_wp2;go_ret;exact⟨_,rfl,Lc,Sl.imp hs (λx (hx:Cb (w+1) wr x)=>⟨by have:=hx.1;omega,hx.2⟩) (λ_ _ x=>x)⟩
structure ace (c:A_):Prop where
 base:c.base.length<=20
 Af:c.Af.length<=20
 hooks:c.hooks.length<=20
 Aa:c.Aa.length<=20
 now:c.now.length<=20
 part:∀i,i<c.Aa.length->(Aj c.Aa i).Ap.length<=20/\(Aj c.Aa i).over.length<=20
def adY (w:Zb)(c:A_)(e:Ending)(w':Zb):Prop:=∃b,e=.returned (.bool b)/\(b=false->ace c)/\Qb6 w w'
def adY.yes (h:Qb6 w w'):adY w c (.returned (.bool true)) w':=⟨true,rfl,(λx=>x!),h⟩
def c25 (h:RC S w v1 v2 v3 v4 v5 c)(n:Ql6 S w):
  Calls Lp 4 #[.agg #[v1,v2,v3,v4,v5]] w (adY w c):=by
 obtain⟨A,u,z,c2,y,t,x,s,v,r,rfl,rfl,rfl,rfl,rfl,l1,V,l2,U,l3,T,Z,R,Y,Q⟩:=h.vs;have IX:=DJ;obtain⟨W1,a⟩:=Qnm (w.alloc (.cells (Qe6 c A u z c2 y t x s v r) 26));have f:Qb6 w W1:=by rw[a];exact bA (Zh _ _)
 have C:W1.heap[w.heap.size]?=some (.cells (Qe6 c A u z c2 y t x s v r) 26 (0,0)):=by rw[a];exact Bp _ _
 obtain⟨G,k1,F,E,D⟩:=Qc5 C;by_cases q:20<c.base.length\/20<c.Af.length\/20<c.hooks.length\/20<c.Aa.length\/20<c.now.length
 .go_enter Lp.func25,n25
  clear G k1 F E D;go_wp2
  all_goals first
   |(exfalso;omega)
   |skip
  all_goals
   go_ret;exact adY.yes (bA (Zh _ _))
 have g1:¬20<(c.base.length:Int):=o!
 have g2:¬20<(c.Af.length:Int):=o!
 have g3:¬20<(c.hooks.length:Int):=o!
 have g4:¬20<(c.Aa.length:Int):=o!
 have g5:¬20<(c.now.length:Int):=o!
 have M:=Zd q;clear q;go_enter Lp.func25,n25;have K:=f;rw[a]at K;go_wp2;go_loopg [3] c.Aa.length (λg i wr=>∃k:Nat,k<=c.Aa.length/\g=c.Aa.length - k/\i=.int .i64 k/\(∀j,j<k->(Aj c.Aa j).Ap.length<=20/\(Aj c.Aa j).over.length<=20)/\wr=W1)
 case atStart=>exact⟨0,Zp _,rfl,rfl,λj l=>absurd l (ZbY _),a.symm⟩
 obtain⟨k,hk,rfl,rfl,d,rfl⟩:=hrel;have B:=Zd d;clear d;by_cases N:k<c.Aa.length
 .obtain⟨b,o,v2,v3,rfl,m,_,_,J,L,_,H,I⟩:=h.Aa.at_ N
  obtain⟨a6,c6,rfl,X,P⟩:=H.val;obtain⟨a7,c7,rfl,W,O⟩:=I.val;rw[<-f.cell (p:=⟨b,o+k*5+2,none⟩) (n b m)]at J;rw[<-f.cell (p:=⟨b,o+k*5+3,none⟩) (n b m)]at L;clear a;by_cases h6:20<(Aj c.Aa k).Ap.length\/20<(Aj c.Aa k).over.length
  .go_wp2
   all_goals first
    |(exfalso;omega)
    |skip
   all_goals
    go_ret;exact adY.yes f
  have g6:¬20<((Aj c.Aa k).Ap.length:Int):=o!
  have g7:¬20<((Aj c.Aa k).over.length:Int):=o!
  go_wp2;go_roundg (c.Aa.length - (k+1))
  case rel=>exact⟨k+1,o!,rfl,v!,λj l=>by
   by_cases e:j=k
   .rw[e];omega
   exact B.out j o!,rfl⟩
  omega
 clear a;go_wp2;go_ret;have:=M.out;exact⟨false,rfl,λ_=>⟨o!,o!,o!,o!,o!,λi hi=>B.out i o!⟩,f⟩
def adF {P:Zo}{i:TypeInfo}(ht:P.underlying t=some (.slice e))(hi:P.info? e=some i){q:Option Addr}{c:Nat}(a:n<=c):(Zao #[t,t] ty #[.slice q n c,.slice none 0 c2]).run P w=.ok (.slice q n c) w:=by
 have b:(Zu i.size 0 (.slice none 0 c2)).run P w=.ok #[] w:=by simp[run_firstCells_none]
 cases q<;>simp[Zao,ZbX,Y9 ht,sizeOf,typeInfo,hi,ZcX,a,b]
variable {o:Oper}
variable {a:Act}
variable {K:Act->Zb->Prop}
variable {Q:Exit->Act->Zb->Prop}
def ad9 {P:Zo}{i:TypeInfo}(ht:P.underlying t=some (.slice e))(hi:P.info? e=some i)(s x:Zbv)(f:o.op=.call {callee:=.builtin .append,args:= #[s,x],argTypes:= #[t,t]}){q:Option Addr}{c:Nat}(d:a.eval s=.slice q n c)(b:a.eval x=.slice none 0 c2)(g:n<=c)(h:K (a.put o.dst (.slice q n c)) w):o.wp P a w K Q:=by
 unfold ZbA Zby;simp only[f,Zbh,invoke,builtin,zg,Sem.run_pure,Zaw,Zcr,List.map_cons,List.map_nil,d,b,adF ht hi g];exact h
def ac4 {base:Nat}{r:List Int}(s x:Zbv)(t:o.op=.call {callee:=.builtin .append,args:= #[s,x],argTypes:= #[22,22]})(p:a.eval s=v)(k:Own w base v l)(m:a.eval x=u)(f:SI S w u r)(y:l.length+r.length<=1000)(J:base<=w.heap.size)
 (h:∀v' w',Own w' base v' (l++r)->w.grownBy w' v.ownBlock->K (a.put o.dst v') w'):o.wp Lp a w K Q:=by
 obtain⟨B,hi,M,O,N⟩:=zp KY;obtain⟨d,c,rfl,T,P⟩:=f.val;cases d with
 |none=>
  have D:r=[]:=by
   cases r with
   |nil=>rfl
   |cons x r=>
    obtain⟨V,U,i,_,_,G⟩:=f;cases i;obtain⟨b,o,cs,e,_⟩:=G 0 x rfl;cases e
  subst D;obtain⟨q,n,c2,rfl,C⟩:∃q n c2,v=.slice q n c2/\n<=c2:=by
   rcases k.2 with⟨e,_⟩|⟨g,cap,L,e,_,_,F,_⟩
   .exact⟨_,_,_,e,Zp _⟩
   exact⟨_,_,_,e,F⟩
  exact ad9 (Cz YE) (Dz hi) s x t p m C (h _ w (by rw[ZaA];exact k) ⟨rfl,rfl,rfl,Zj _,λ_ _ _=>rfl⟩)
 |some d=>
  obtain⟨news,j,z,E⟩:=Sl.row f d! d rfl;have i:=row_one d! j z pJ;have A:=kY (R:=Ri) j z;refine Zak _ s x 22 t base 3 B (.int .i64 0) 1 8 (Cz YE) (Dz hi) M O N rfl d! v l.length (l.map (ZL .i64)) p k d r.length c news m j E i u! o! J ?_;intro v' w' I H _;refine h v' w' ?_ H;unfold Own;rw[ZA,Zai, <-A];exact I
def aeS {base:Nat}(h:w.ownsRow base e 1 (.slice g n cap) n xs):∀j u,xs[j]?=some u->w.cell? ((g:Addr).add j)=some u:=by
 intro j u a;rcases h.2 with⟨e,_⟩|⟨o,p,i,e,_,d,m,_,l,f⟩
 .cases e
 cases e;have k:=h.1;have c:j<n:=by have:=(Zm.1 a).1;omega
 rw[<-f,Z2 o!,Array.getElem?_toList]at a;have b:(g:Addr).add j=⟨g,j,none⟩:=by
  unfold Zcu;split<;>simp_all
 rw[b];exact ch d a
def acQ {rb2 base:Nat}{R:List (List Int)}(s x:Zbv)(m:o.op=.call {callee:=.builtin .append,args:= #[s,x],argTypes:= #[35,35]})(c:a.eval s=v)(G:LR2 rb base w v P)(k:a.eval x=u)(C:LR2 rb2 base w u R)(p:P.length+R.length<=10000)(J:rb<=w.heap.size)
 (h:∀v' w',LR2 rb base w' v' (P++R)->w.grownBy w' v.ownBlock->K (a.put o.dst v') w'):o.wp Lp a w K Q:=by
 obtain⟨A,hi,M,O,N⟩:=zp Hw;obtain⟨news,d,z⟩:=C;obtain⟨vals,b,t⟩:=G;rcases d.2 with⟨rfl,L⟩|⟨g,cap,i,rfl,_⟩
 .have E:R=[]:=List.length_eq_zero_iff.1 L
  subst E;obtain⟨q,n,c2,rfl,D⟩:∃q n c2,v=.slice q n c2/\n<=c2:=by
   rcases b.2 with⟨e,_⟩|⟨g,cap,i,e,_,_,H,_⟩
   .exact⟨_,_,_,e,Zp _⟩
   exact⟨_,_,_,e,H⟩
  exact ad9 (Cz zW) (Dz hi) s x m c k D (h _ w (by rw[ZaA];exact⟨vals,b,t⟩) ⟨rfl,rfl,rfl,Zj _,λ_ _ _=>rfl⟩)
 refine Zak _ s x 35 m rb 22 A () 1 24 (Cz zW) (Dz hi) M O N rfl d! v P.length vals c b g R.length cap news k (by have:=d.1;omega) (aeS d) ?_ u! o! J ?_
 .intro y B
  obtain⟨j,F,rfl⟩:=List.mem_iff_getElem.1 B;have f:j<R.length:=by have:=d.1;omega
  obtain⟨u,l,c⟩:=z j _ (BJ f);rw[zf F]at l;cases l;obtain⟨_,_,e,_⟩:=c.val;rw[e]
  rfl
 intro v' w' I r _;exact h v' w' (LR2.app b t z r I) r
def amH (hv:Fq c):∀(m:Nat) {S:Nat->Prop} {w:Zb} {base:Nat} {v1 v2 v3 v4 v5 v6:Zf} {p:List Int},RC S w v1 v2 v3 v4 v5 c->SI (J1 3 base w) w v6 p->base<=w.heap.size->p.length+m=c.Aa.length->(∀b,S b->b<w.heap.size)->
  Calls Lp 71 #[.agg #[v1,v2,v3,v4,v5],v6] w λe w'=>∃v,e=.returned v/\Qb6 w w'/\LR2 w base w' v (ac2 c p):=by
 intro m
 induction m with
 |zero=>
  intro S w base v1 v2 v3 v4 v5 v6 p h hp a hm hS;obtain⟨a1,U,Z,c2,Y,Q,a4,O,X,N,rfl,rfl,rfl,rfl,rfl,l1,m1,l2,m2,l3,m3,l4,m4,l5,m5⟩:=h.vs;obtain⟨pa,pc,rfl,g9,mp⟩:=hp.val;have HG:=Zd (agi (c:=c) (p:=p) o!);have hq:((p.length:Int)==(c.Aa.length:Int))=true:=j!
  have HP:=Zd hp;have HB:=Zd a;clear hm hp a;go_enter Lp.func131,ajG;go_wp2;go_ret;refine⟨_,rfl,bA (bA (Zh _ _)),?_⟩;rw[HG.out];have fJ:YH w w ((w.alloc (.cells (Qe6 c a1 U Z c2 Y Q a4 O X N) 26)).alloc (.cells #[.slice pa p.length pc] 22)):=bA (bA (Zh _ _));refine⟨[.slice pa p.length pc],⟨rfl,.inr ⟨w+1,1,#[.slice pa p.length pc],i!,o!,?_,Zj _,d!,rfl,rfl⟩⟩,?_⟩
  .have:=Bp (w.alloc (.cells (Qe6 c a1 U Z c2 Y Q a4 O X N) 26)) (.cells #[.slice pa p.length pc] 22)
   rwa[ZB]at this
  .intro i x hx
   match i,hx with
   |0,hx=>cases hx;exact⟨_,rfl,Dx (T:=λ_=>False) (Ak.later fJ) (λ_ _ x=>x) HP.out⟩
 |succ m ih=>
  intro S w base v1 v2 v3 v4 v5 v6 p h hp a hm hS;obtain⟨a1,U,Z,c2,Y,Q,a4,O,X,N,rfl,rfl,rfl,rfl,rfl,l1,m1,l2,m2,l3,m3,l4,m4,l5,m5⟩:=h.vs;obtain⟨pa,pc,rfl,g9,mp⟩:=hp.val;have IX:=DJ;have Jm:=hv.few;have Az:p.length<c.Aa.length:=o!
  have TB:(p.length:Int)<(c.Aa.length:Int):=o!
  have ip:((p.length:Int)==(c.Aa.length:Int))=false:=j!
  have B_:=hv.step p.length Az;have dl:=Zd (afq (c:=c) Az);obtain⟨K,o4,s2,s3,rfl,UQ,ER,MM,_⟩:=h.Aa.at_ (i:=p.length) Az;obtain⟨lo,mK⟩:=Qnm ((Aj c.Aa p.length).low);obtain⟨hi,ai⟩:=Qnm ((Aj c.Aa p.length).high);rw[<-mK, <-ai]at dl B_;rw[<-mK]at ER;rw[<-ai]at MM;clear mK ai;obtain⟨M,hM⟩:=Qnm ((hi+1 - lo).toNat);have HM:=Zd hM;have iX:M<=5:=o!
  have bv:∀q:Nat,q<M↔lo+(q:Int)<=hi:=λq=>o!
  clear hM;have mO:YH w w (w.alloc (.cells (Qe6 c a1 U Z c2 Y Q (some ⟨K,o4,none⟩) O X N) 26)):=bA (Zh _ _);have gt:=(mO.cell (p:=⟨K,o4+p.length*5,none⟩) (hS K UQ)).trans ER;have im:=Zd (show p.length+1+m=c.Aa.length by omega);have HB:=Zd a;have HP:=Zd hp;have HH:=Zd h;have iS:p.length<=2:=o!
  clear hm hp a;go_enter Lp.func131,ajG;go_wp2;clear gt;go_loopg [5,6] M (λgg lv n wr=>∃q:Nat,q<=M/\gg=M - q/\n=.int .i64 (lo+q)/\LR2 (w+1) base wr lv (((IU lo hi).take q).flatMap λn=>ac2 c (p++ [n]))/\Qb6 w wr/\wr.heap[w.heap.size]?=some (.cells (Qe6 c a1 U Z c2 Y Q (some ⟨K,o4,none⟩) O X N) 26 (0,0)))
  case atStart=>exact⟨0,Zp _,rfl,i!,by rw[ZdB];exact LR2.nil _ _ _,bA (Zh _ _),Bp _ _⟩
  obtain⟨q,hq,rfl,rfl,hL,I,hX⟩:=hrel;obtain⟨V,hV⟩:=Qnm wr;subst hV;have k3:=ch (i:=3) hX (v:=.slice (some ⟨K,o4,none⟩) c.Aa.length O) rfl;have gn:=(I.cell (p:=⟨K,o4+p.length*5+1,none⟩) (hS K UQ)).trans MM;by_cases ac:q<M
  .have fi:lo+(q:Int)<=hi:=(bv q).1 ac
   have ii:=Zd (aeM (lo:=lo) (hi:=hi) (q:=q) (by rw[<-HM.out];exact ac));have fw:(((IU lo hi).take q).flatMap λn=>ac2 c (p++ [n])).length<=625:=by
    have h1:=cr (f:=λn=>ac2 c (p++ [n])) (k:=125) ((IU lo hi).take q) (λx _=>acL hv _);have h2:=ZbW q (IU lo hi);omega
   obtain⟨P,hP⟩:=Qnm (((IU lo hi).take q).flatMap λn=>ac2 c (p++ [n]));have io:=Zd hP;rw[<-hP]at hL fw;clear hP;obtain⟨la,lc,rfl,l7,m7⟩:=hL.val;have z0:=λu=>Al u (ch (i:=0) hX (v:=.slice a1 c.base.length U) rfl);have z1:=λu=>Al u (ch (i:=1) hX (v:=.slice Z c.Af.length c2) rfl);have z2:=λu=>Al u (ch (i:=2) hX (v:=.slice Y c.hooks.length Q) rfl);have z3:=λu=>Al u k3;have z4:=λu=>Al u (ch (i:=4) hX (v:=.slice X c.now.length N) rfl);have bi:∀W,Qb6 V W->SI (J1 3 base W) W (.slice pa p.length pc) p:=λW hW=>Dx (T:=λ_=>False) (Ak.later (bU I hW)) (λ_ _ x=>x) HP.out;have be:=Zd bi;have HL:=Zd hL;clear bi hL;go_wp2;refine abq (S:=λW=>∃p,W=calm V p) 11 [9,10] (.fork 2 (.fork 4 (.one 6 (.one 7 (.one 8 (.one 9 (.one 10 .leaf))))) 6 (.one 4 (.one 7 (.one 8 (.one 9 (.one 10 .leaf)))))) 6 (.one 2 (.one 4 (.one 7 (.one 8 (.one 9 (.one 10 .leaf))))))) [0,1,3,5] k! (λ_ _ d _ _ h=>by cases d<;>exact h) k! (AL (Zh _ _).drew) ?_;refine A4 _ _ k! ?_;simp only[Z6,zd,ZG,ZD,ZC]
   repeat (first|go_big_quiet_step (fail)|quiet_step (fail))
   refine Z4 ?_;clear z0 z1 z2 z3 z4;change abx _ _ _ _ _ _ _ _;have Uh:YH V V V.drew:=(Zh _ _).drew;refine adg ?hA ?hB
   case' hA=>
    obtain⟨A,G⟩:=Qnm (V.drew.alloc (.cells #[] 3));have o:Qb6 V A:=by rw[G];exact bA Uh
    have hO:Own A V (.slice V 0 0) []:=by rw[G];exact YC V.drew #[] 0 (Zj _) (Zp _) rfl
    refine abo (v:=.slice V 0 0) (w':=A) rfl rfl (by rw[G];go_simp) (.inr (AL o)) ?_;refine adg ?oT ?aT
   case' oT=>
    refine ad8 rfl rfl ?_;refine ac4 (l:=[]) (r:=p) _ _ rfl g! hO g! (be.out A o) j! o.size ?_;intro v7 B am j;have z:Qb6 V B:=Bm o j (λk H=>by cases H;exact Zj _) o.size;refine⟨.inr (AL z),?_⟩;obtain⟨C,hC⟩:=Qnm (B.alloc (.cells #[.int .i64 (lo+(q:Int))] 3));have s:Qb6 V C:=by rw[hC];exact bA z
    refine abo (v:=.slice B 1 1) (w':=C) rfl rfl (by rw[hC];go_simp) (.inr (AL s)) ?_;have L:Own C V v7 p:=by rw[hC];exact am.later (bA (Zh _ _))
    have J:SI (λy=>y<C.heap.size) C (.slice B 1 1) [lo+(q:Int)]:=by rw[hC];exact M1 [lo+(q:Int)] (Bp B (.cells #[.int .i64 (lo+(q:Int))] 3)) i! (by show 1<=maxLen;decide)
    generalize B=ct at*
   case' aT=>
    obtain⟨B,g⟩:=Qnm (A.alloc (.cells #[.int .i64 (lo+(q:Int))] 3));have z:Qb6 V B:=by rw[g];exact bA o
    refine abo (v:=.slice A 1 1) (w':=B) rfl rfl (by rw[g];go_simp) (.inr (AL z)) ?_;have hO:Own B V (.slice V 0 0) []:=by rw[g];exact hO.later (bA (Zh _ _))
    refine ad8 rfl rfl ?_;refine ac4 (l:=[]) (r:=p) _ _ rfl g! hO g! (be.out B z) j! z.size ?_;intro v7 C L j;have s:Qb6 V C:=Bm z j (λk H=>by cases H;exact Zj _) z.size;refine⟨.inr (AL s),?_⟩;have fK:V<A.heap.size:=by rw[G];simp
    have ap:SI (λy=>y=A.heap.size) B (.slice A 1 1) [lo+(q:Int)]:=by rw[g];exact M1 [lo+(q:Int)] (Bp A (.cells #[.int .i64 (lo+(q:Int))] 3)) rfl (by show 1<=maxLen;decide)
    have gj:A<B.heap.size:=by rw[g];simp
    have J:SI (λy=>y<C.heap.size) C (.slice A 1 1) [lo+(q:Int)]:=Sl.imp (ap.Ar λb a _=>j.block b (by have a:b=_:=a;omega) (λe=>by have a:b=_:=a;have e:=ZW e;dsimp only at e;omega)) (λb a=>by have a:b=_:=a;have:=j.size;show b<_;omega) λ_ _ x=>x;generalize A=ct at*
   case' hB=>
    obtain⟨A,G⟩:=Qnm (V.drew.alloc (.cells #[.int .i64 (lo+(q:Int))] 3));have o:Qb6 V A:=by rw[G];exact bA Uh
    refine abo (v:=.slice V 1 1) (w':=A) rfl rfl (by rw[G];go_simp) (.inr (AL o)) ?_;obtain⟨B,g⟩:=Qnm (A.alloc (.cells #[] 3));have z:Qb6 V B:=by rw[g];exact bA o
    have hO:Own B A (.slice A 0 0) []:=by rw[g];exact YC A #[] 0 (Zj _) (Zp _) rfl
    refine abo (v:=.slice A 0 0) (w':=B) rfl rfl (by rw[g];go_simp) (.inr (AL z)) ?_;refine ad8 rfl rfl ?_;have fK:V<A.heap.size:=by rw[G];simp
    have gj:A<B.heap.size:=by rw[g];simp
    refine ac4 (l:=[]) (r:=p) _ _ rfl g! hO g! (be.out B z) j! o! ?_;intro v7 C am j;have s:Qb6 V C:=Bm z j (λk H=>by have e:=ZW H;dsimp only at e;omega) z.size;refine⟨.inr (AL s),?_⟩;have L:Own C V v7 p:=Own.mono am o!;have ap:SI (λy=>y=V.heap.size) B (.slice V 1 1) [lo+(q:Int)]:=by rw[g];exact M1 [lo+(q:Int)] (Bf (by rw[G];exact Bp V.drew (.cells #[.int .i64 (lo+(q:Int))] 3)) _) rfl (by show 1<=maxLen;decide)
    have J:SI (λy=>y<C.heap.size) C (.slice V 1 1) [lo+(q:Int)]:=Sl.imp (ap.Ar λb a _=>j.block b (by have a:b=_:=a;omega) (λe=>by have a:b=_:=a;have e:=ZW e;dsimp only at e;omega)) (λb a=>by have a:b=_:=a;have:=j.size;show b<_;omega) λ_ _ x=>x;obtain⟨ct,fd⟩:=Qnm V.heap.size;rw[<-fd]at J⊢
   all_goals
    clear k3 gn;have fu:=(Za.1 hX).1;refine ad8 rfl rfl ?_;refine ac4 (l:=p) (r:=[lo+(q:Int)]) _ _ rfl g! L g! J j! s.size ?_;intro v8 D fy fm;have an:Qb6 V D:=Bm s fm (λk H=>(Zcm L k H).1) s.size;refine⟨.inr (AL an),?_⟩;have bc:=bU I an;refine abI (f:=71) (args:= #[.agg (Qe6 c a1 U Z c2 Y Q (some ⟨K,o4,none⟩) O X N),v8]) rfl rfl g! ((ih (base:=base) (HH.out.later bc) (Sl.imp (Own.typ fy) (λb a=>⟨⟨by have:=a.1.1;have:=I.size;have:=HB.out;omega,a.1.2⟩,a.2⟩) λ_ _ x=>x) (by have:=HB.out;have:=bc.size;omega) (by rw[ZA];exact im.out) (A3 hS bc)).mono ?_);rintro e E ⟨v9,rfl,fI,b9⟩;have t:=bU an fI;refine .inl ⟨_,rfl,.inr (AL t),?_⟩;refine ad8 rfl rfl ?_;refine acQ (P:=P) (R:=ac2 c (p++ [lo+(q:Int)])) _ _ rfl g! (HL.out.later t) g! b9 (by have:=acL hv (p++ [lo+(q:Int)]);omega) (by have:=t.size;omega) ?_;intro du F ck ba;refine⟨.inl rfl,?_⟩;refine abo (v:=du) (w':=F) rfl rfl g! (.inl rfl) ?_;unfold abx
    go_simp
    have ci:Qb6 w F:=Bm (bU I t) ba (λk H=>by have:=HL.out.lt k H;omega) (bU I t).size;have b8:F.heap[w.heap.size]?=some (.cells (Qe6 c a1 U Z c2 Y Q (some ⟨K,o4,none⟩) O X N) 26 (0,0)):=(ba.block _ (by have:=t.size;omega) (λe=>by have:=HL.out.lt _ e.symm;omega)).trans ((t.block _ fu).trans hX);have Qs:=Zd (ZY ck (ZY ci b8));clear ck ci b8 ba b9;go_wp2;go_roundg (M - (q+1))
    case rel=>exact⟨q+1,ac,rfl,v!,by rw[ii.out,Zbe, <-io.out];simpa using Qs.out.1,Qs.out.2.1,Qs.out.2.2⟩
    omega
  have ed:q=M:=o!
  subst ed;have fi:¬lo+(q:Int)<=hi:=λx=>by have:=(bv q).2 x;omega
  rw[aeO (by rw[<-HM.out];exact Zj _), <-dl.out]at hL;have HL:=Zd hL;clear hL;go_wp2;go_ret;exact⟨_,rfl,I,HL.out.mono (Nat.le_succ _)⟩
def ade {ab:Nat->Nat}{now:List Int}:∀(l:List Int) (a s k:Nat),k<l.length->JR ab now a (l.take (k+1)) s=if nth l k=nth now (a+k) then JR ab now a (l.take k) s else JR ab now a (l.take k) s|||Iv (ab (a+k)) (a+k)
 |x::r,a,s,0,_=>rfl
 |x::r,a,s,k+1,h=>by
  have b:k<r.length:=by simpa using h
  have:=ade (ab:=ab) (now:=now) r (a+1) (if x=nth now a then s else s|||Iv (ab a) a) k b;rw[show a+1+k=a+(k+1) by omega]at this;exact this
def ahP (s t i j:Nat):hasB (s|||Iv t i) j=(hasB s j||(hasB t j||decide (i=j))):=by
 unfold hasB Iv;rw[Nat.testBit_or,Nat.testBit_or,Nat.one_shiftLeft,Nat.testBit_two_pow]
def ad0 {s n:Nat}(h:s<2^n):∀k,n<=k->FF s k=FF s n
 |0,b=>by rw[Nat.le_zero.1 b]
 |k+1,b=>by
  by_cases e:n=k+1
  .rw[e]
  rw[eF,if_neg,ad0 h k o!];intro a;have:=Nat.testBit_lt_two_pow (Zl h (YX d! (show n<=k by omega)));unfold hasB at a;rw[this]at a;cases a
def adz (a:Fq c)(hl:l.length<=c.Aa.length):DS c l<2^c.Aa.length:=
 JW (LH a.over) l 0 0 o! (Zdz _)
def afs (a:Fq c)(hl:l.length<=c.Aa.length):FF (DS c l) c.Aa.length=AB (DS c l):=
 (ad0 (adz a hl) 3 a.few.2).symm
def aft (a:Fq c)(hl:l.length<=c.Aa.length)(k:Nat):(FF (DS c l) k).length<=c.Aa.length:=by
 by_cases e:k<=c.Aa.length
 .exact Zr (Jo _ _) e
 rw[ad0 (adz a hl) k o!];exact Jo _ _
def agl (st:List Bool)(k:Nat)(b:Bool):(aci st).setIfInBounds k (.bool b)=aci (st.set k b):=by
 unfold aci;simp
def AbW.put {wr:Zb}(h:AbW w x n st wr)(k:Nat)(b:Bool):AbW w x n (st.set k b) (wr.setCell ⟨w+1,k,none⟩ (.bool b)):=
 ⟨bS h.below o!,(AZ o! _).trans h.box,by rw[Ba h.row _,agl],by rw[ZcC];exact h.len⟩
def AbW.later {wr:Zb}(h:AbW w x n st wr)(a:Qb6 wr W):AbW w x n st W:=
 ⟨h.below.trans (a.mono h.below.size),(a.block _ (Za.1 h.box).1).trans h.box,(a.block _ (Za.1 h.row).1).trans h.row,h.len⟩
def adZ (st:List Bool)(k j:Nat)(b:Bool)(a:k<st.length):(st.set k b).getD j false=if k=j then b else st.getD j false:=by
 simp only[Y6,List.getElem?_set];by_cases e:k=j
 .subst e
  rw[if_pos rfl,if_pos rfl,if_pos a]
  rfl
 rw[if_neg e,if_neg e]
def c95 (h:RC S w v1 v2 v3 v4 v5 c)(hl:SI S w v6 l)(ai:Ca c l=0)(hS:Ql6 S w):
  Calls Lp 73 #[.agg #[v1,v2,v3,v4,v5],v6] w λe w'=>∃v,e=.returned v/\Qb6 w w'/\SI (Cb w w') w' v (AB (DS c l)):=by
 obtain⟨X,R,V,c2,U,Q,M,K,a5,J,rfl,rfl,rfl,rfl,rfl,l1,m1,l2,m2,l3,m3,l4,m4,l5,m5⟩:=h.vs;obtain⟨a6,c6,rfl,l6,m6⟩:=hl.val;obtain⟨i0,hi,Fl,DR,EB⟩:=zp KY;have hu:=Cz YE;have IX:=DJ;obtain⟨Jz,ER⟩:=Bj ai;have hv:=EG Jz;have UO:=(Fb ER).1;obtain⟨_,FD⟩:=Bj Jz;obtain⟨ap,EC⟩:=Bj FD;have ac:=(Bj EC).1;have Jm:=hv.few;have uX:c.now.length=c.Aa.length:=by
  have:=(Bj EC).2;split at this
  .exact(Fb this).1
  cases this
 have HA:=Zd (λi (hi:i<c.Aa.length) j (d:j<c.Aa.length)=>adV ap ac hi d);have fw:=λW=>adT c.Aa.length o! W;obtain⟨tp,s⟩:∃tp:Nat->Nat,tp=λk=>JR (Ax c.Aa) c.now 0 (l.take k) 0:=⟨_,rfl⟩;have fi:=Zd (show tp 0=0 by rw[s];rfl);have ed:=Zd (show∀k,k<c.Aa.length->tp (k+1)=if nth l k=nth c.now k then tp k else tp k|||Iv (Ax c.Aa k) k from λk hk=>by
  rw[s];have:=ade (ab:=Ax c.Aa) (now:=c.now) l 0 0 k o!;rwa[zN]at this)
 have fd:=Zd (show tp c.Aa.length=DS c l by
  rw[s];show JR _ _ 0 (l.take c.Aa.length) 0=JR _ _ 0 l 0;rw[Zb3 o!])
 have fJ:=Zd (show∀k,(FF (DS c l) k).length<=c.Aa.length from aft hv o!);have fm:=Zd (show FF (DS c l) c.Aa.length=AB (DS c l) from afs hv o!);have ct:=Zd (λW (hW:Qb6 w W) (n:Nat)=>ajU (n:=n) (h.later hW) hv.over (A3 hS hW));have b9:=Zd uX;have cA:=Zd UO;clear uX UO s ai Jz ER FD EC ac ap;have an:AbW w #[.slice X c.base.length R,.slice V c.Af.length c2,.slice U c.hooks.length Q,.slice M c.Aa.length K,.slice a5 c.now.length J] c.Aa.length (List.replicate c.Aa.length false) ((w.alloc (.cells (Qe6 c X R V c2 U Q M K a5 J) 26)).alloc (.cells (aci (List.replicate c.Aa.length false)) 4)):=by
  exact⟨bA (bA (Zh _ _)),Bf (Bp _ _) _,by have:=Bp (w.alloc (.cells (Qe6 c X R V c2 U Q M K a5 J) 26)) (.cells (aci (List.replicate c.Aa.length false)) 4);rwa[ZB]at this,i!⟩
 go_enter Lp.func95,n95;go_wp2;go_loopg [6] c.Aa.length (λg i wr=>∃(k:Nat) (T:List Bool),k<=c.Aa.length/\g=c.Aa.length - k/\i=.int .i64 k/\(∀j,j<c.Aa.length->T.getD j false=hasB (tp k) j)/\AbW w #[.slice X c.base.length R,.slice V c.Af.length c2,.slice U c.hooks.length Q,.slice M c.Aa.length K,.slice a5 c.now.length J] c.Aa.length T wr)
 case atStart=>exact⟨0,_,Zp _,rfl,rfl,λj d=>by rw[fi.out];simp[hasB,Y6,d],an⟩
 obtain⟨k,T,hk,rfl,rfl,aW,A⟩:=hrel;have hT:=Zd aW;clear aW an;have k3:=ch (i:=3) A.box (v:=.slice M c.Aa.length K) rfl;have k4:=ch (i:=4) A.box (v:=.slice a5 c.now.length J) rfl;by_cases Az:k<c.Aa.length
 .have y:k<c.now.length:=by have:=b9.out;omega
  have lQ:k<l.length:=by have:=cA.out;omega
  obtain⟨b5,o5,rfl,wN,H⟩:=h.now.at_ y;obtain⟨b6,o6,rfl,Xj,G⟩:=hl.at_ lQ;rw[<-A.below.cell (p:=⟨b5,o5+k,none⟩) (hS b5 wN)]at H;rw[<-A.below.cell (p:=⟨b6,o6+k,none⟩) (hS b6 Xj)]at G;have HS:=Zd (ed.out k Az);have z1:=λp=>Al p H;have z2:=λp=>Al p G;have z4:=λp=>Al p k4;go_wp2;refine Av k! k! ?_
  repeat (first|go_big_quiet_step (fail)|quiet_step (fail))
  refine Z4 ?_;rintro _ ⟨p,rfl⟩;have yw:=AE wr p;obtain⟨du,Z⟩:=Qnm (calm wr p);rw[<-Z]at yw⊢;clear Z z1 z2 z4 k3 k4 H G;have o:=A.later yw;obtain⟨k0,k1,k2,k3,k4⟩:=Qc5 o.box;have fx:=cf (i:=k) o.row;have C:=ch o.row (ac3 (k:=k) (by have:=o.len;omega));by_cases f:nth l k=nth c.now k
  .have N:=Zd (show tp (k+1)=tp k by rw[HS.out,if_pos f])
   have z:(nth l k==nth c.now k)=true:=by simpa using f
   clear f;go_wp2;go_roundg (c.Aa.length - (k+1))
   case rel=>exact⟨k+1,T,o!,rfl,v!,λj d=>by rw[N.out];exact hT.out j d,o⟩
   omega
  have N:=Zd (show tp (k+1)=tp k|||Iv (Ax c.Aa k) k by rw[HS.out,if_neg f]);have z:(nth l k==nth c.now k)=false:=by simpa using f
  clear f;obtain⟨W1,NL⟩:=Qnm (du.setCell ⟨w+1,k,none⟩ (.bool true));have O:=o.put k true;rw[<-NL]at O;have dl:=Zd (ct.out W1 O.below k);obtain⟨q,D⟩:=Qnm (W1.heap.size+1);have M9:q=W1+1:=D;go_wp2;rw[<-NL];clear NL;refine dl.out.mono ?_;rintro e W2 ⟨rfl,bK,mA,bv⟩;rw[<-D]at mA⊢;clear D;have aT:=O.later bK;have HQ:=Zd M9;have I:(T.set k true).length=c.Aa.length:=O.len;have rU:=(Za.1 mA).1;have ck:=O.row;have lX:=(Za.1 O.row).1;have fu:w+1<q:=by have:=HQ.out;omega
  clear M9 ck lX C fx k0 k1 k2 k3 k4;obtain⟨B,L⟩:=Qnm (aca c.Aa k);have uW:=Zd L;rw[<-L]at mA bv;clear L;go_wp2;go_loopg [8] c.Aa.length (λg i Y=>∃(j:Nat) (a:List Bool),j<=c.Aa.length/\g=c.Aa.length - j/\i=.int .i64 j/\(∀m,m<c.Aa.length->a.getD m false=((T.set k true).getD m false||(decide (m<j)&&B.getD m false)))/\AbW w #[.slice X c.base.length R,.slice V c.Af.length c2,.slice U c.hooks.length Q,.slice M c.Aa.length K,.slice (some ⟨b5,o5,none⟩) c.now.length J] c.Aa.length a Y/\Y.heap[q]?=some (.cells (aci B) 4 (0,0)))
  case atStart=>exact⟨0,_,Zp _,rfl,rfl,λm E=>i!,aT,mA⟩
  obtain⟨j,a,d,rfl,rfl,bc,r,ba⟩:=hrel;have D3:=Zd bc;clear bc;by_cases lp:j<c.Aa.length
  .have b8:=Zd r.len
   have mK:j<B.length:=o!
   have C:=ch r.row (ac3 (k:=j) (by have:=r.len;omega));have fx:=cf (i:=j) r.row;have ky:=ch ba (ac3 (k:=j) mK);have Bu:∀b:Bool,b=(a.getD j false||B.getD j false)->(∀m,m<c.Aa.length->(a.set j b).getD m false=((T.set k true).getD m false||(decide (m<j+1)&&B.getD m false)))/\AbW w #[.slice X c.base.length R,.slice V c.Af.length c2,.slice U c.hooks.length Q,.slice M c.Aa.length K,.slice (some ⟨b5,o5,none⟩) c.now.length J] c.Aa.length (a.set j b) (wr.setCell ⟨w+1,j,none⟩ (.bool b))/\(wr.setCell ⟨w+1,j,none⟩ (.bool b)).heap[q]?=some (.cells (aci B) 4 (0,0)):=λb hb=>by
    refine⟨λm E=>?_,r.put j b,(AZ o! _).trans ba⟩;rw[adZ _ _ _ _ (by have:=b8.out;omega)];by_cases e:j=m
    .subst e
     rw[if_pos rfl,hb,D3.out j E];simp
    rw[if_neg e,D3.out m E];rw[show decide (m<j+1)=decide (m<j) from decide_eq_decide.2 o!]
   have qO:=Zd Bu;clear Bu;cases P:a.getD j false<;>cases e2:B.getD j false
   all_goals
    rw[P]at C;rw[e2]at ky;go_wp2;go_roundg (c.Aa.length - (j+1))
    case rel=>exact⟨j+1,_,o!,rfl,v!,qO.out _ (by rw[P,e2];rfl)⟩
    omega
  have F:j=c.Aa.length:=o!
  go_wp2;go_roundg (c.Aa.length - (k+1))
  case rel=>exact⟨k+1,a,o!,rfl,v!,λm E=>by
   rw[D3.out m E,N.out,ahP,adZ _ _ _ _ (by have:=I;rw[ZcC]at this;omega),uW.out,HA.out k Az m E,show decide (m<j)=true from decide_eq_true o!,Bool.true_and];by_cases e:k=m
   .subst e;simp
   rw[if_neg e,hT.out m E];simp[e],r⟩
  omega
 have y:k=c.Aa.length:=o!
 have I:=Zd (show∀j,j<c.Aa.length->T.getD j false=hasB (DS c l) j from λj d=>by rw[hT.out j d,y,fd.out]);obtain⟨t,ht⟩:=Qnm (DS c l);have be:=Zd ht;obtain⟨W3,Hv⟩:=Qnm wr;subst Hv;have r:=A;have fI:=A.len;clear y hT ht A;go_wp2;go_loopg [9,10] c.Aa.length (λg v i Y=>∃j:Nat,j<=c.Aa.length/\g=c.Aa.length - j/\i=.int .i64 j/\Y.ownsRow W3 3 1 v (FF t j).length ((FF t j).map (ZL .i64))/\Qb6 W3 Y)
 case atStart=>exact⟨0,Zp _,rfl,rfl,zq _ _ _ _,Zh _ _⟩
 obtain⟨j,d,rfl,rfl,AX,hB⟩:=hrel;have fy:=Jo t j;have D':=hB.size;by_cases lp:j<c.Aa.length
 .have HS:=Zd (eF t j)
  have am:=r.later hB;have C:=ch am.row (ac3 (k:=j) (by have:=am.len;omega));rw[show T.getD j false=hasB t j by rw[I.out j lp,be.out]]at C;cases z:hasB t j with
  |true=>
   rw[z]at C;have P:=Zd (show FF t (j+1)=FF t j++ [(j:Int)] by rw[HS.out,if_pos z]);clear z;go_wp2_with (at_builtin;refine Yc _ rfl _ _ 22 rfl W3 3 i0 (.int .i64 0) 1 8 hu (Dz hi) Fl DR EB rfl d! _ _ _ rfl (AX.alloc _) ⟨_,0,none⟩ 1 1 [.int .i64 j] rfl rfl (by intro j u d;match j,d with|0,d=>(simp at d;subst d;simp[Zcu])) (by intro u hu;simp at hu;subst hu;rfl) u! o! j! ?_;intro v' w1 Bi AG Gc);have hg:(wr.alloc (.cells #[.int .i64 j] 3)).grownBy w1 u9.ownBlock:=AG;have Bg:Qb6 W3 w1:=Bm (bA hB) hg (λk hk=>(AX.lt k hk).1) j!;have Cm:w1.ownsRow W3 3 1 v' (FF t (j+1)).length ((FF t (j+1)).map (ZL .i64)):=by
    rw[P.out];simpa using Bi
   go_roundg (c.Aa.length - (j+1))
   case rel=>exact⟨j+1,o!,rfl,v!,Cm,Bg⟩
   case measure=>omega
  |false=>
   rw[z]at C;have P:=Zd (show FF t (j+1)=FF t j by rw[HS.out,if_neg (by rw[z];decide)]);clear z;go_wp2;go_roundg (c.Aa.length - (j+1))
   case rel=>exact⟨j+1,o!,rfl,v!,by rw[P.out];exact AX,hB⟩
   omega
 have F:j=c.Aa.length:=o!
 have bi:=eC AX;have HE:=Zd (show FF t j=AB (DS c l) by rw[F,be.out,fm.out]);have ci:=Sl.imp (T:=Cb w wr) bi (λx hx=>⟨Zr r.below.size hx.1,hx.2⟩) λ_ _ x=>x;have Lc:Qb6 w wr:=r.below.trans (hB.mono r.below.size);clear F;go_wp2;go_ret;exact⟨_,rfl,Lc,by rw[<-HE.out];exact ci⟩
def c94 (h:RC S w v1 v2 v3 v4 v5 c)(hl:SI T w v6 l)(Q:∀i,i<c.Aa.length->0<=(Aj c.Aa i).left)(P:∀x,x∈l->0<=x/\x<c.Aa.length)(R:Ql6 S w)(J:∀b,T b->b<w.heap.size):
  Calls Lp 72 #[.agg #[v1,v2,v3,v4,v5],v6] w λe w'=>e=.returned (.int .i64 ((l.find? (SU c)).getD (-1)))/\Qb6 w w':=by
 obtain⟨a1,W,a2,c2,a3,V,Z,K,Y,U,rfl,rfl,rfl,rfl,rfl,l1,m1,l2,m2,l3,m3,l4,m4,l5,m5⟩:=h.vs;obtain⟨a6,c6,rfl,l6,m6⟩:=hl.val;have IX:=DJ;obtain⟨F,hF⟩:=Qnm (l.find? (SU c));rw[<-hF];have HF:=Zd (show(l.drop 0).find? (SU c)=F from hF.symm);clear hF;go_enter Lp.func94,n94;go_wp2;go_loopg [5] l.length (λg i wr=>∃k:Nat,k<=l.length/\g=l.length - k/\i=.int .i64 k/\(l.drop k).find? (SU c)=F/\Qb6 w wr/\wr.heap[w.heap.size]?=some (.cells (Qe6 c a1 W a2 c2 a3 V Z K Y U) 26 (0,0)))
 case atStart=>exact⟨0,Zp _,rfl,rfl,HF.out,bA (Zh _ _),Bp _ _⟩
 obtain⟨k,hk,rfl,rfl,L,m,A⟩:=hrel;have u:=Zd L;clear L;by_cases C:k<l.length
 .obtain⟨b,o,rfl,I,r⟩:=hl.at_ C
  have y:=Zd (U_ (f:=SU c) C);obtain⟨Oo,MF⟩:=P _ (Rd C);obtain⟨x,G⟩:∃x:Nat,nth l k=x:=⟨(nth l k).toNat,o!⟩;rw[G]at r y MF Oo;clear G;have D:x<c.Aa.length:=o!
  obtain⟨B,E,s2,s3,rfl,G1,_,_,_,_,s,_,_⟩:=h.Aa.at_ (i:=x) D;rw[<-m.cell (p:=⟨B,E+x*5+4,none⟩) (R B G1)]at s;rw[<-m.cell (p:=⟨b,o+k,none⟩) (J b I)]at r;have t:=Zd (Q x D);have H:=ch (i:=3) A (v:=.slice (some ⟨B,E,none⟩) c.Aa.length K) rfl;have O:=λp=>Al p r;have N:=λp=>Al p s;have M:=λp=>Al p H;go_wp2;refine Av k! k! ?_
  repeat (first|go_big_quiet_step (fail)|quiet_step (fail))
  refine Z4 ?_;rintro _ ⟨p,rfl⟩;have q:=AE wr p;obtain⟨X,a⟩:=Qnm (calm wr p);rw[<-a]at q⊢;have z:=(q.block _ (Za.1 A).1).trans A;have j:=bU m q;rw[<-q.cell (p:=⟨b,o+k,none⟩) (Zl (J b I) m.size)]at r;clear a O N M H s;by_cases d:(Aj c.Aa x).left=0
  .have T6:((Aj c.Aa x).left==0)=true:=by simpa using d
   have n:=Zd (show F=some (x:Int) by rw[<-u.out,y.out,if_pos (by simp[SU,d])]);clear d;go_wp2;go_ret;exact⟨Bw (by rw[n.out];rfl),j⟩
  have T6:((Aj c.Aa x).left==0)=false:=by simpa using d
  have n:=Zd (show(l.drop (k+1)).find? (SU c)=F by rw[<-u.out,y.out,if_neg (by have:=t.out;simp[SU];omega)]);clear d;go_wp2;go_roundg (l.length - (k+1))
  case rel=>exact⟨k+1,o!,rfl,v!,n.out,j,z⟩
  omega
 have n:=Zd (show F=none by rw[<-u.out,Z7.2 o!];rfl);go_wp2;go_ret;exact⟨Bw (by rw[n.out];rfl),m⟩
def LR2.row {base:Nat}(h:LR2 rb base w v P)(hp:0<P.length):∃g cap,v=.slice (some ⟨g,0,none⟩) P.length cap/\rb<=g/\g<w.heap.size/\(∀i,i<P.length->∃u,w.cell? ⟨g,i,none⟩=some u/\SI (J1 3 base w) w u (BM P i))/\P.length<=cap/\cap<=maxLen:=by
 obtain⟨vals,m,l⟩:=h;rcases m.2 with⟨e,o⟩|⟨g,cap,n,e,k,b,j,f,p,d⟩
 .omega
 refine⟨g,cap,e,k,(Za.1 b).1,λi hi=>?_,j,f⟩;obtain⟨u,a,c⟩:=l i _ (BJ hi);refine⟨u,?_,c⟩;rw[<-d,Z2 o!,Array.getElem?_toList]at a;exact ch b a
def LR2.one {base:Nat}{x:List Int}(b:SI (J1 3 base w) w u x):LR2 w base (w.alloc (.cells #[u] 22)) (.slice w 1 1) [x]:=by
 refine⟨[u],⟨rfl,.inr ⟨w,1,#[u],rfl,Zj _,Bp _ _,Zj _,d!,rfl,rfl⟩⟩,λi y a=>?_⟩
 match i,a with
 |0,a=>cases a;exact⟨_,rfl,Dx (T:=λ_=>False) (Ak.later (bA (Zh _ _))) (λ_ _ x=>x) b⟩
def agF (b:Fq c)(hl:Tc c l):Ev c l=decide (((AB (DS c l)).find? (SU c)).getD (-1)<0):=by
 have a:=MT b (l:=l) (by have:=hl.1;omega);unfold Ev JU;cases h:(AB (DS c l)).find? (SU c) with
 |none=>rfl
 |some x=>
  have:=(a x (List.mem_of_find?_eq_some h)).1;simp;omega
def afu (a:BN c=0)(hl:Tc c l):Ca c l=0:=by
 unfold Ca;rw[a,iH hl]
 rfl
def LR.mono {base:Nat}(h:LR base w v P)(j:acs<=base):LR acs w v P:=by
 obtain⟨vals,k,l⟩:=h;refine⟨vals,⟨k.1,k.2.imp id λ⟨g,cap,d,e,c,a⟩=>⟨g,cap,d,e,Zr j c,a⟩⟩,λi x hi=>?_⟩;obtain⟨u,c,a⟩:=l i x hi;exact⟨u,c,Sl.imp a (λb f=>⟨⟨Zr j f.1.1,f.1.2⟩,f.2⟩) λ_ _ x=>x⟩
def ak1 (h:RC S w v1 v2 v3 v4 v5 c)(hS:Ql6 S w)(Jz:BN c=0):
  Calls Lp 33 #[.agg #[v1,v2,v3,v4,v5]] w λe w'=>∃a cc,e=.returned (.slice a (LU c).length cc)/\Qb6 w w'/\LR w w' (.slice a (LU c).length cc) (LU c):=by
 obtain⟨a1,c1,a2,c2,a3,c3,a4,c4,a5,c5,rfl,rfl,rfl,rfl,rfl,l1,m1,l2,m2,l3,m3,l4,m4,l5,m5⟩:=h.vs;have IX:=DJ;have J:=EG Jz;have hN:(EH c).length<=125:=by rw[<-adn];exact acL J _
 have U:0<(EH c).length:=by
  have:=Zac (Ev c) (EH c);have h2:0<(LU c).length:=List.length_pos_iff.2 (adm J);unfold LU at h2;omega
 obtain⟨W1,NL⟩:=Qnm (w.alloc (.cells (Qe6 c a1 c1 a2 c2 a3 c3 a4 c4 a5 c5) 26));have Bg:Qb6 w W1:=by rw[NL];exact bA (Zh _ _)
 have lD:W1.heap[w.heap.size]?=some (.cells (Qe6 c a1 c1 a2 c2 a3 c3 a4 c4 a5 c5) 26 (0,0)):=by rw[NL];exact Bp _ _
 have q:=Zd (amH J c.Aa.length (p:=[]) (base:=W1) (h.later Bg) (WC (S:=J1 3 W1 W1) (w:=W1)) (Zj _) i! (A3 hS Bg));rw[adn]at q;have HS:=Zd (λW (z:Qb6 w W)=>(h.later z).imp (T:=λy=>y<W.heap.size) λy hy=>Zl (hS y hy) z.size);have b8:=Zd Jz;have HV:=Zd J;have Z:=Zd (show LU c=(EH c).filter (Ev c) from rfl);have ac:=Zd (λi (hi:i<(EH c).length)=>WV (c:=c) (Z3 (BJ hi)));clear Jz J;obtain⟨L,hL⟩:=Qnm (EH c);rw[<-hL]at q Z ac hN U;clear hL;go_enter Lp.func133,amm;go_wp2;rw[<-NL];clear NL;refine q.out.mono ?_;rintro e I ⟨ci,rfl,Bb,X⟩;obtain⟨g,cap,rfl,tN,lZ,dL,L6,NP⟩:=X.row U;have bv:=Zd dL;have C:=bU Bg Bb;have Ia:=(Bb.block _ (Za.1 lD).1).trans lD;have ba:=Bb.size;clear dL X q lD;go_wp2;go_loopg [3,5] L.length (λgg ov iv wr=>∃k:Nat,k<=L.length/\gg=L.length - k/\iv=.int .i64 k/\LR2 I W1 wr ov ((L.take k).filter (Ev c))/\Qb6 I wr)
 case atStart=>exact⟨0,Zp _,rfl,rfl,by rw[ZdB];exact LR2.nil _ _ _,Zh _ _⟩
 obtain⟨k,hk,rfl,rfl,A,G⟩:=hrel;by_cases Az:k<L.length
 .obtain⟨V,hV⟩:=Qnm wr
  subst hV;have n:=ac.out k Az;have s:=Zd (show(L.take (k+1)).filter (Ev c)=(L.take k).filter (Ev c)++ [BM L k].filter (Ev c) by rw[ZbH,BJ Az,ZcW];rfl);obtain⟨u,lH,M⟩:=bv.out k Az;obtain⟨x,hx⟩:=Qnm (BM L k);rw[<-hx]at n M s;clear hx;have H:=agF HV.out n;have ai:=Zd (λW (z:Qb6 I W)=>c95 (HS.out W (bU C z)) (Sl.imp (M.later z) (λb B=>Zl B.1.2 z.size) λ_ _ x=>x) (afu b8.out n) (λb B=>B));have rU:∀y,y∈AB (DS c x)->0<=y/\y<c.Aa.length:=MT HV.out (l:=x) (by have:=n.1;omega);have xD:=λi hi=>(HV.out.left i hi).1;obtain⟨t,ht⟩:=Qnm (AB (DS c x));rw[<-ht]at ai H rU;clear ht;have am:=Zd (λW (z:Qb6 I W) v {T:Nat->Prop} (ht:SI T W v t) (hT:∀b,T b->b<W.heap.size)=>c94 (HS.out W (bU C z)) ht xD rU (λb B=>B) hT);obtain⟨r,hr⟩:=Qnm ((t.find? (SU c)).getD (-1));rw[<-hr]at am H;have ck:=Zd rU;clear hr xD rU;obtain⟨ua,uc,rfl,_⟩:=M.val;have an:((L.take k).filter (Ev c)).length<=125:=by
   have h1:=Zac (Ev c) (L.take k);have h2:=List.length_take_le' k L;omega
  obtain⟨P,Q⟩:=Qnm ((L.take k).filter (Ev c));rw[<-Q]at A s an;clear Q;obtain⟨pa,pc,rfl,_⟩:=A.val;have HP:=Zd A;have HU:=Zd M;have O:=(G.block _ (by have:=(Za.1 Ia).1;omega)).trans Ia;have o:=(G.cell (p:=⟨g,k,none⟩) lZ).trans lH;have N:(k:Int)<(L.length:Int):=o!
  have kq:(0:Int)<=(k:Int):=o!
  obtain⟨z0,z1,z2,z3,z4⟩:=Qz5 O;have z5:=λu=>Al u o;clear A M;go_wp2;refine abq (S:=λW=>∃p,W=calm V p) 9 [] (.one 6 (.one 7 (.one 8 .leaf))) [0,1,2,3,4,5] k! (λ_ _ d _ _ h=>by cases d<;>exact h) k! (AL (Zh _ _).drew) ?_;refine A4 _ _ k! ?_;simp only[Z6,zd,ZG,ZD,ZC]
  repeat (first|go_big_quiet_step (fail)|quiet_step (fail))
  refine Z4 ?_;clear z0 z1 z2 z3 z4 z5;change abx _ _ _ _ _ _ _ _;have Uh:YH V V V.drew:=(Zh _ _).drew;refine abI (f:=73) (args:= #[.agg (Qe6 c a1 c1 a2 c2 a3 c3 a4 c4 a5 c5),.slice ua x.length uc]) rfl rfl g! ((ai.out _ (bU G Uh)).mono ?_);rintro e V1 ⟨v,rfl,be,me⟩;have D:=bU Uh be;refine .inl ⟨_,rfl,.inr (AL D),?_⟩;refine abI (f:=72) (args:= #[.agg (Qe6 c a1 c1 a2 c2 a3 c3 a4 c4 a5 c5),v]) rfl rfl g! ((am.out _ (bU G D) v me (λb B=>B.2)).mono ?_);rintro e V2 ⟨rfl,bc⟩;have m:=bU D bc;refine .inl ⟨_,rfl,.inr (AL m),?_⟩;refine abo (v:=.bool (decide (r<0))) (w':=V2) rfl rfl g! (.inr (AL m)) ?_;unfold abx
  go_simp
  have Y:=bU G m;have E:=Zd (HP.out.later m);have b9:=(m.cell (p:=⟨g,k,none⟩) (ZH _ _ o)).trans o;have Hb:SI (J1 3 W1 V2) V2 (.slice ua x.length uc) x:=Dx (T:=λ_=>False) (Ak.later Y) (λ_ _ x=>x) HU.out;have bi:=Zd Hb;clear Hb o O;by_cases tE:r<0
  .have j:Ev c x=true:=by rw[H];exact decide_eq_true tE
   have F:=Zd (show(L.take (k+1)).filter (Ev c)=P++ [x] by rw[s.out,ZbB,if_pos j];rfl);clear H j;go_wp2_with (at_builtin;refine wpList_plain rfl (λK hK=>acQ (rb:=I) (rb2:=V2) (base:=W1) (P:=P) (R:=[x]) _ _ rfl rfl (E.out.later (bA (Zh _ _))) rfl (LR2.one bi.out) j! (by have:=Y.size;simp;omega) ?_);intro v' V3 ap l9;refine hK _ _ ?_);have Bv:Qb6 I V3:=Bm (bA Y) l9 (λk hk=>E.out.lt k hk) (by have:=Y.size;simp;omega);go_roundg (L.length - (k+1))
   case rel=>exact⟨k+1,Az,rfl,v!,by rw[F.out];exact ap,Bv⟩
   omega
  have j:Ev c x=false:=by rw[H];exact decide_eq_false tE
  have F:=Zd (show(L.take (k+1)).filter (Ev c)=P by rw[s.out,ZbB,if_neg (by rw[j];decide)];exact ZaA _);clear H j;go_wp2;go_roundg (L.length - (k+1))
  case rel=>exact⟨k+1,Az,rfl,v!,by rw[F.out];exact E.out,Y⟩
  omega
 have N:k=L.length:=o!
 rw[N,ZcU, <-Z.out]at A;obtain⟨pa,pc,rfl,_⟩:=A.val;have HP:=Zd A;clear A;go_wp2;go_ret;exact⟨_,_,rfl,bU C G,(HP.out.aa5 ba).mono Bg.size⟩
def ak2 (h:RC S w v1 v2 v3 v4 v5 c)(d:Ql6 S w)(i:BN c=0):
  Calls Lp 33 #[.agg #[v1,v2,v3,v4,v5]] w λe w'=>∃a cc,e=.returned (.slice a (LU c).length cc)/\Qb6 w w'/\SL (Cb w w') w' (.slice a (LU c).length cc) (LU c):=
 (ak1 h d i).mono λe w' ⟨a,cc,b,g,f⟩=>⟨a,cc,b,g,f.sl⟩
def aeV (c:A_):List (List Int):=if BN c=0 then LU c else []
def aff (w:Zb)(P:List (List Int))(e:Int)(b:Ending)(w':Zb):Prop:=∃a cc,b=.returned (.tuple #[.slice a P.length cc,.int .i64 e])/\Qb6 w w'/\SL (Cb w w') w' (.slice a P.length cc) P
def af1 {Q:List (List Int)}{x:Int}{a:Option Addr}(e:P=Q)(d:x=y)(c:Qb6 w w')(b:SL (Cb w w') w' (.slice a Q.length cc) Q):aff w P x (.returned (.tuple #[.slice a Q.length cc,.int .i64 y])) w':=by rw[e,d];exact⟨a,cc,rfl,c,b⟩
def ae5:SL S w () []:=⟨none,0,rfl,Zj _,Zp _,λi x a=>by cases a⟩
def c74 (h:RC S w v1 v2 v3 v4 v5 c)(p:Ql6 S w):Calls Lp 11 #[.agg #[v1,v2,v3,v4,v5]] w (aff w (aeV c) (BN c)):=by
 obtain⟨z,t,y,c2,x,s,v,r,u,q,rfl,rfl,rfl,rfl,rfl,N,I,M,H,L,G,K,F,J,E⟩:=h.vs;obtain⟨W1,g⟩:=Qnm (w.alloc (.cells (Qe6 c z t y c2 x s v r u q) 26));have m:Qb6 w W1:=by rw[g];exact bA (Zh _ _)
 have n:W1.heap[w.heap.size]?=some (.cells (Qe6 c z t y c2 x s v r u q) 26 (0,0)):=by rw[g];exact Bp _ _
 have l:=Zd (c50 (h.later m) (A3 p m));go_enter Lp.func74,n74;go_wp2;rw[<-g];clear g;refine l.out.mono ?_;rintro e W ⟨rfl,A⟩;have f:=bU m A;have C:=(A.block _ (Za.1 n).1).trans n;obtain⟨T,k1,R,P,O⟩:=Qc5 C;by_cases d:BN c=0
 .have i:=Zd (ak2 (h.later f) (A3 p f) d)
  have j:=Zd (show aeV c=LU c from if_pos d);have k:=Zd d;rw[d];clear d;go_wp2;refine i.out.mono ?_;rintro e V ⟨a,cc,rfl,D,B⟩;go_wp2;go_ret2;exact af1 j.out k.out (bU f D) (B.imp λb o=>⟨Zr f.size o.1,o.2⟩)
 have U:(BN c !=0)=true:=by simpa using d
 have j:=Zd (show aeV c=[] from if_neg d);clear d;go_wp2;go_ret2;exact af1 (Q:=[]) j.out rfl f ae5
def an1 (h:RC S w v1 v2 v3 v4 v5 c)(f:Ql6 S w):Calls Lp 10 #[.agg #[v1,v2,v3,v4,v5]] w (aff w (aeV c) (BN c)):=by
 by_cases b:BN c=0
 .refine(c72 h f b).mono ?_
  rintro e w' ⟨a,cc,rfl,d,i⟩;unfold aff aeV;rw[if_pos b,b];exact⟨a,cc,rfl,d,i⟩
 obtain⟨s,n,r,c2,q,m,p,l,o,k,rfl,rfl,rfl,rfl,rfl,_⟩:=h.vs;have g:YH w w (w.alloc (.cells (Qe6 c s n r c2 q m p l o k) 26)):=bA (Zh _ _);have j:=Zd (λW d=>c88 (w:=W) (h.later d) (A3 f d));have K:(BN c !=0)=true:=by simpa using b
 have t:=Zd (show aeV c=[] from if_neg b);clear b;go_enter Lp.func72,n72;go_wp2_with (go_at_call 30;refine(j.out _ g).mono ?_;rintro e w1 ⟨J,I,H,G,F,E,D,C,B,A,d1,d2,d3,d4,L,z,y,x,rfl,v,_⟩);go_ret2;refine af1 (Q:=[]) t.out rfl ?_ ae5;have u:=bV g v
 repeat (with_reducible first|exact u|refine bA ?_)
def ac6 (c:A_)(g:Int):Int×Int:=if BN c=0 then(if AD g 0 ((c.base.length:Int) - 1)=true then(0,0) else abU c g.toNat) else(0,0)
def acj (c:A_)(g:Int):Int:=if BN c=0 then(if AD g 0 ((c.base.length:Int) - 1)=true then 3 else 0) else BN c
def ahT (w:Zb)(p:Int×Int)(x:Int)(e:Ending)(w':Zb):Prop:=e=.returned (.tuple #[.agg #[.int .i64 p.1,.int .i64 p.2],.int .i64 x])/\Qb6 w w'
def adA {q:Int×Int}{x:Int}(c:p=q)(b:x=y)(a:Qb6 w w'):ahT w p x (.returned (.tuple #[.agg #[.int .i64 q.1,.int .i64 q.2],.int .i64 y])) w':=by rw[c,b];exact⟨rfl,a⟩
def afg {g:Int}(a:¬BN c=0):ac6 c g=(0,0)/\acj c g=BN c:=⟨if_neg a,if_neg a⟩
def afh {g:Int}(b:BN c=0)(a:AD g 0 ((c.base.length:Int) - 1)=true):ac6 c g=(0,0)/\acj c g=3:=by
 unfold ac6 acj;rw[if_pos b,if_pos b,if_pos a,if_pos a];exact⟨rfl,rfl⟩
def adG {g:Int}(b:BN c=0)(a:AD g 0 ((c.base.length:Int) - 1)=false):ac6 c g=abU c g.toNat/\acj c g=0:=by
 unfold ac6 acj;rw[if_pos b,if_pos b,if_neg (by rw[a];decide),if_neg (by rw[a];decide)];exact⟨rfl,rfl⟩
def an5 {g:Int}(h:RC S w v1 v2 v3 v4 v5 c)(x:Ql6 S w):Calls Lp 12 #[.agg #[v1,v2,v3,v4,v5],.int .i64 g] w (ahT w (ac6 c g) (acj c g)):=by
 have IX:=DJ;obtain⟨H,B,G,c2,F,A,E,z,D,y,rfl,rfl,rfl,rfl,rfl,l1,m1,_⟩:=h.vs;obtain⟨I,k⟩:=Qnm ((w.alloc (.cells (Qe6 c H B G c2 F A E z D y) 26)).alloc (.cells #[.int .i64 0,.int .i64 0] 40));have u:Qb6 w I:=by rw[k];exact bA (bA (Zh _ _))
 have lD:I.heap[w.heap.size]?=some (.cells (Qe6 c H B G c2 F A E z D y) 26 (0,0)):=by rw[k];exact Bf (Bp _ _) _
 have t:I.heap[w.heap.size+1]?=some (.cells #[.int .i64 0,.int .i64 0] 40 (0,0)):=by rw[k];exact Jq _ _ _
 obtain⟨O,k1,N,M,L⟩:=Qc5 lD;by_cases b:BN c=0
 .cases l:AD g 0 ((c.base.length:Int) - 1) with
  |false=>
   have hg:0<=g/\g<c.base.length:=by simp[AD]at l;omega
   obtain⟨n,rfl⟩:∃n:Nat,g=n:=⟨g.toNat,o!⟩;refine(c75 h x b o!).mono ?_;rintro e w' ⟨rfl,f⟩;exact adA (adG b l).1 (adG b l).2 f
  |true=>
   obtain⟨d,m⟩:=afh b l;have K:=Zd d;have J:=Zd m;have s:=Zd (λW f=>Wt (w:=W) (h.later f) (A3 x f) b);have o:=Zd (λW=>bp g 0 ((c.base.length:Int) - 1) W);rw[l]at o;obtain⟨C,P⟩:=Qnm (Ax c.Aa);rw[<-P]at s;clear P d m b l;have ac:IntKind.i64.wrap ((c.base.length:Int) - 1)=(c.base.length:Int) - 1:=by rw[zE];omega
   go_enter Lp.func75,n75;go_wp2;rw[<-k];clear k;refine(s.out _ u).mono ?_;rintro e w1 ⟨rfl,r⟩;have p:=bV u r;have Rb:=p.size;have j:=(r.block _ (Za.1 t).1).trans t;clear O k1 N M L;have a:(w1.alloc (.cells #[.slice H c.base.length B,.slice G c.Af.length c2,.slice F c.hooks.length A,.slice E c.Aa.length z,.slice D c.now.length y,.int .u8 (C 0),.int .u8 (C 1),.int .u8 (C 2)] 74)).heap[w.heap.size+1]?=some (.cells #[.int .i64 0,.int .i64 0] 40 (0,0)):=Bf j _;have f0:=cf (i:=0) a;have f1:=cf (i:=1) a;have r0:=ch (i:=0) a (v:=.int .i64 0) rfl;have d:=ch (i:=1) a (v:=.int .i64 0) rfl;dsimp only;go_wp2_with (go_at_call 34;refine(o.out _).mono ?_;rintro e W ⟨rfl,hw⟩;obtain rfl:=hw.symm);refine ZN (v:=.tuple #[.agg #[.int .i64 0,.int .i64 0],.int .i64 3]) (by rw[abK rfl];go_simp) rfl ?_;refine adA (q:=(0,0)) K.out J.out ?_
   repeat (with_reducible first|exact p|refine bA ?_|(refine bS ?_ o!))
 .obtain⟨d,m⟩:=afg (g:=g) b
  have K:=Zd d;have J:=Zd m;have s:=Zd (λW f=>c88 (w:=W) (h.later f) (A3 x f));have hq:(BN c !=0)=true:=by simpa using b
  clear d m b;go_enter Lp.func75,n75;go_wp2;rw[<-k];clear k;refine(s.out _ u).mono ?_;rintro e w1 ⟨q1,q2,q3,q4,q5,Z,Y,X,V,U,d1,d2,d3,d4,d5,T,R,Q,rfl,r,_⟩;have p:=bV u r;have Rb:=p.size;have j:=(r.block _ (Za.1 t).1).trans t;clear O k1 N M L;have a:(w1.alloc (.cells #[.slice q1 Z d1,.slice q2 Y d2,.slice q3 X d3,.slice q4 V d4,.slice q5 U d5,.int .u8 (T:Nat),.int .u8 (R:Nat),.int .u8 (Q:Nat)] 74)).heap[w.heap.size+1]?=some (.cells #[.int .i64 0,.int .i64 0] 40 (0,0)):=Bf j _;have f0:=cf (i:=0) a;have f1:=cf (i:=1) a;have r0:=ch (i:=0) a (v:=.int .i64 0) rfl;have d:=ch (i:=1) a (v:=.int .i64 0) rfl;dsimp only;go_wp2;refine ZN (v:=.tuple #[.agg #[.int .i64 0,.int .i64 0],.int .i64 (BN c)]) (by rw[abK rfl];go_simp) rfl ?_;refine adA (q:=(0,0)) K.out J.out ?_
  repeat (with_reducible first|exact p|refine bA ?_|(refine bS ?_ o!))
def adB (h:i<c.base.length):nth (Cc c l) i=measure c l i:=by
 have:=MU (l:=l) h;simp[nth,Y6,this]
def acf (c:A_)(l:List Int):(Cc c l).length=c.base.length:=by simp[Cc]
def afv (a:Fq c)(b:g<c.base.length):(LU c).foldl (abn g c) (measure c (BM (LU c) 0) g,measure c (BM (LU c) 0) g)=abU c g:=by
 rw[<-aeJ a b];cases h:LU c with
 |nil=>exact absurd h (adm a)
 |cons x r=>
  rw[afa b,List.foldl_cons]
  congr 1
  simp[abn,BM]
def c76 {g:Int}(h:RC S w v1 v2 v3 v4 v5 c)(hS:Ql6 S w):Calls Lp 13 #[.agg #[v1,v2,v3,v4,v5],.int .i64 g] w (ahT w (ac6 c g) (acj c g)):=by
 have IX:=DJ;obtain⟨a1,c1,a2,c2,a3,c3,a4,c4,a5,c5,rfl,rfl,rfl,rfl,rfl,l1,m1,_⟩:=h.vs;obtain⟨W2,MX⟩:=Qnm ((w.alloc (.cells (Qe6 c a1 c1 a2 c2 a3 c3 a4 c4 a5 c5) 26)).alloc (.cells #[.int .i64 0,.int .i64 0] 40));have Bg:Qb6 w W2:=by rw[MX];exact bA (bA (Zh _ _))
 have lD:W2.heap[w.heap.size]?=some (.cells (Qe6 c a1 c1 a2 c2 a3 c3 a4 c4 a5 c5) 26 (0,0)):=by rw[MX];exact Bf (Bp _ _) _
 have Ks:W2.heap[w.heap.size+1]?=some (.cells #[.int .i64 0,.int .i64 0] 40 (0,0)):=by rw[MX];exact Jq _ _ _
 have gj:=Zd (c50 (h.later Bg) (A3 hS Bg));obtain⟨k0,k1,k2,k3,k4⟩:=Qc5 lD;go_enter Lp.func76,n76;go_wp2;rw[<-MX];clear MX k0 k1 k2 k3 k4;refine gj.out.mono ?_;rintro e W3 ⟨rfl,Bv⟩;have Lc:=bU Bg Bv;have iz:=(Bv.block _ (Za.1 lD).1).trans lD;have t:=(Bv.block _ (Za.1 Ks).1).trans Ks;have Rb:=Lc.size;have f0:=cf (i:=0) t;have f1:=cf (i:=1) t;have r0:=ch (i:=0) t (v:=.int .i64 0) rfl;have r1:=ch (i:=1) t (v:=.int .i64 0) rfl;obtain⟨k0,k1,k2,k3,k4⟩:=Qc5 iz;have gt:IntKind.i64.wrap ((c.base.length:Int) - 1)=(c.base.length:Int) - 1:=by rw[zE];omega
 have H:=Zd (λW=>adv g 0 ((c.base.length:Int) - 1) W);by_cases E:BN c=0
 .rw[E]
  cases R:AD g 0 ((c.base.length:Int) - 1) with
  |true=>
   obtain⟨z,J⟩:=afh E R;have O:=Zd z;have R2:=Zd J;rw[R]at H;clear z J E R;go_wp2_with (go_at_call 36;refine(H.out _).mono ?_;rintro e W ⟨rfl,hw⟩;obtain rfl:=hw.symm);refine ZN (v:=.tuple #[.agg #[.int .i64 0,.int .i64 0],.int .i64 3]) (by rw[abK rfl];go_simp) rfl ?_;refine adA (q:=(0,0)) O.out R2.out ?_
   repeat (with_reducible first|exact Lc|refine bA ?_|(refine bS ?_ o!))
  |false=>
   have hv:=EG E;have hg:0<=g/\g<c.base.length:=by simp[AD]at R;omega
   obtain⟨n,rfl⟩:∃n:Nat,g=n:=⟨g.toNat,o!⟩;have hn:n<c.base.length:=o!
   obtain⟨z,J⟩:=adG E R;rw[Int.toNat_natCast, <-afv hv hn]at z;have O:=Zd z;have R2:=Zd J;rw[R]at H;have b8:=Zd (ak2 (h.later Lc) (A3 hS Lc) E);have bv:=Zd (λW (M:Qb6 w W) (u:Zf) (l:List Int) (hl:SI (λy=>y<W.heap.size) W u l) (Jw:Tc c l)=>amF ((h.later M).imp (T:=λy=>y<W.heap.size) λy P=>Zl (hS y P) M.size) hv hl (by have:=Jw.1;omega) (λi hi=>by have:=Jw.2 i hi;have:=hv.step i (by have:=Jw.1;omega);omega) λy P=>P);have ac:=Zd (λi (hi:i<(LU c).length)=>WV (show BM (LU c) i∈EH c from(List.mem_filter.1 (Z3 (BJ hi))).1));have U:0<(LU c).length:=List.length_pos_iff.2 (adm hv);have hN:(LU c).length<=125:=by
    have h1:=Zac (Ev c) (EH c);have h2:(EH c).length<=125:=by rw[<-adn];exact acL hv _
    exact Zr h1 h2
   obtain⟨L,hL⟩:=Qnm (LU c);rw[<-hL]at O b8 ac U hN;clear z J E R hL;go_wp2_with (first|(go_at_call 36;refine(H.out _).mono ?_;rintro e W ⟨rfl,hw⟩;obtain rfl:=hw.symm)|(go_at_call 33;refine b8.out.mono ?_;rintro e N ⟨la,lc,rfl,De,yV⟩));have ci:=bU Lc De;obtain⟨ck,ol,u0,C,oX,fy,F⟩:=yV.at_ U;subst C;have dl:=Zd yV;have Ks:=(De.block _ (Za.1 iz).1).trans iz;have io:=De.size;have du:=(Za.1 t).1;have bi:=Zd (ac.out 0 U);obtain⟨x0,Oo⟩:=Qnm (BM L 0);rw[<-Oo]at F O bi;clear Oo;obtain⟨ua,uc,rfl,_⟩:=F.val;obtain⟨z0,z1,z2,z3,z4⟩:=Qz5 Ks;have z5:=λp=>Al p (show N.cell? ⟨ck,ol,none⟩=_ from fy);have g9:(0:Int)<(L.length:Int):=o!
   have be:∀W,Qb6 N W->SI (λy=>y<W.heap.size) W (.slice ua x0.length uc) x0:=λW M=>Sl.imp (F.later M) (λy P=>Zl P.2 M.size) λ_ _ x=>x;have bc:=Zd be;clear k0 k1 k2 k3 k4 r0 r1 f0 f1 F be;refine abq (S:=λW=>∃p,W=calm N p) 9 [] (.one 4 (.one 6 (.one 7 (.one 8 .leaf)))) [0,1,2,3,5] k! (λ_ _ d _ _ h=>by cases d<;>exact h) k! (AL (Zh _ _).drew) ?_;refine A4 _ _ k! ?_;simp only[Z6,zd,ZG,ZD,ZC]
   repeat (first|go_big_quiet_step (fail)|quiet_step (fail))
   refine Z4 ?_;clear z0 z1 z2 z3 z4 z5;change abx _ _ _ _ _ _ _ _;have Uh:YH N N N.drew:=(Zh _ _).drew;refine abI (f:=37) (args:= #[.agg (Qe6 c a1 c1 a2 c2 a3 c3 a4 c4 a5 c5),.slice ua x0.length uc]) rfl rfl g! ((bv.out _ (bU ci Uh) _ _ (bc.out _ Uh) bi.out).mono ?_);rintro e D ⟨v5,rfl,Cj,o⟩;have Y:=bU Uh Cj;obtain⟨ga,gc,rfl,_⟩:=o.val;obtain⟨bg,Z,C,_,r⟩:=o.at_ (i:=n) (by rw[acf];exact hn);subst C;rw[adB hn]at r;obtain⟨K,am⟩:=Qnm (measure c x0 n);rw[<-am]at r O;rw[acf];clear am o;have Qa:(n:Int)<(c.base.length:Int):=o!
   have Vo:(0:Int)<=(n:Int):=o!
   have j:∃p,D=calm N p:=AL Y;refine .inl ⟨_,rfl,.inr j,?_⟩;refine abo (v:=.pointer (some ⟨bg,Z+n,none⟩)) (w':=D) rfl rfl g! (.inr j) ?_;refine abo (v:=.int .i64 K) (w':=D) rfl rfl g! (.inr j) ?_;refine abo (v:=.int .i64 K) (w':=D) rfl rfl g! (.inr j) ?_;unfold abx
   go_simp
   obtain⟨W6,A⟩:=Qnm (D.alloc (.cells #[.int .i64 K,.int .i64 K] 40));have fw:Qb6 D W6:=by rw[A];exact bA (Zh _ _)
   have an:W6.heap[D.heap.size]?=some (.cells #[.int .i64 K,.int .i64 K] 40 (0,0)):=by rw[A];exact Bp _ _
   have G:=bU Y fw;have ba:=bU ci G;have Vf:=(G.block _ (Za.1 Ks).1).trans Ks;have ap:=(G.block _ o!).trans ((De.block _ du).trans t);have im:=Y.size;have fu:W6=D.heap.size+1:=by rw[A,ZB]
   clear j r;go_wp2;rw[<-A];clear A;obtain⟨b,ai⟩:=Qnm D.heap.size;rw[<-ai]at an fu⊢;have ii:D<=b/\b<=D.heap.size:=o!
   clear ai;have fK:=Zd (show∀W,Ak (λx=>x=b) W6 W->SL (Cb W3 N) W (.slice (some ⟨ck,ol,none⟩) L.length lc) L from λW hT=>(dl.out.later G).Ar (hT.same λx Q e=>by have h1:=Q.2;have e:x=b:=e;omega));clear yV dl bc;go_wp2;go_loopg [8,10] L.length (λgg iS i wx=>∃(k:Nat) (lo hi:Int),k<=L.length/\gg=L.length - k/\i=.int .i64 k/\(L.drop k).foldl (abn n c) (lo,hi)=ac6 c n/\Ak (λx=>x=b) W6 wx/\wx.heap[b]?=some (.cells #[.int .i64 lo,.int .i64 hi] 40 (0,0)))
   case atStart=>exact⟨0,K,K,Zp _,rfl,rfl,O.out.symm,Ak.refl _ _,an⟩
   obtain⟨k,lo,hi,hk,rfl,rfl,CP,s,hQ⟩:=hrel;have HF:=Zd CP;clear CP;have b9:=ba.trans (s.below (λx Q=>by have Q:x=b:=Q;omega) ba.size);have fd:=(s.block _ (Za.1 Vf).1 (λe=>by have e:w=b:=e;omega)).trans Vf;have gn:=s.size;obtain⟨V,hV⟩:=Qnm wr;subst hV;by_cases Az:k<L.length
   .have iT:=Zd (eW (g:=abn n c) (a:=(lo,hi)) Az)
    obtain⟨b6,o6,u,ee,Xj,lH,hu⟩:=(fK.out _ s).at_ Az;cases ee;have ct:=Zd (ac.out k Az);obtain⟨x,Q⟩:=Qnm (BM L k);rw[<-Q]at hu iT ct;clear Q;obtain⟨va,vc,rfl,_⟩:=hu.val;have fJ:=Zd (show∀W,Qb6 V W->SI (λy=>y<W.heap.size) W (.slice va x.length vc) x from λW M=>Sl.imp (hu.later M) (λy P=>by have:=P.2;have:=M.size;show y<_;omega) λ_ _ x=>x);have TB:(k:Int)<(L.length:Int):=o!
    have ip:(0:Int)<=(k:Int):=o!
    obtain⟨z0,z1,z2,z3,z4⟩:=Qz5 fd;have z5:=λp=>Al p lH;clear hu;go_wp2;refine abq (S:=λW=>∃p,W=calm V p) 10 [] (.one 5 (.one 7 (.one 8 (.one 9 .leaf)))) [0,1,2,3,4,6] k! (λ_ _ d _ _ h=>by cases d<;>exact h) k! (AL (Zh _ _).drew) ?_;refine A4 _ _ k! ?_;simp only[Z6,zd,ZG,ZD,ZC]
    repeat (first|go_big_quiet_step (fail)|quiet_step (fail))
    refine Z4 ?_;clear z0 z1 z2 z3 z4 z5;change abx _ _ _ _ _ _ _ _;have Uh:YH V V V.drew:=(Zh _ _).drew;refine abI (f:=37) (args:= #[.agg (Qe6 c a1 c1 a2 c2 a3 c3 a4 c4 a5 c5),.slice va x.length vc]) rfl rfl g! ((bv.out _ (bU b9 Uh) _ _ (fJ.out _ Uh) ct.out).mono ?_);rintro e V5 ⟨v5,rfl,Cj,o⟩;have X:=bU Uh Cj;obtain⟨ga,gc,rfl,_⟩:=o.val;obtain⟨bg,Z,C,_,r⟩:=o.at_ (i:=n) (by rw[acf];exact hn);subst C;rw[adB hn]at r;obtain⟨m,hm⟩:=Qnm (measure c x n);have fI:=Zd (show abn n c (lo,hi) x=(min lo m,max hi m) by rw[hm];rfl);rw[<-hm]at r;rw[acf];clear hm o;have j:∃p,V5=calm V p:=AL X;refine .inl ⟨_,rfl,.inr j,?_⟩;refine abo (v:=.pointer (some ⟨bg,Z+n,none⟩)) (w':=V5) rfl rfl g! (.inr j) ?_;refine abo (v:=.int .i64 m) (w':=V5) rfl rfl g! (.inr j) ?_;refine abo (v:=.int .i64 m) (w':=V5) rfl rfl g! (.inr j) ?_;unfold abx
    go_simp
    have B:=(X.block _ (Za.1 hQ).1).trans hQ;have q0:=ch (i:=0) B (v:=.int .i64 lo) rfl;have z:=ch (i:=1) B (v:=.int .i64 hi) rfl;have f0:=cf (i:=0) B;have f1:=cf (i:=1) B;clear r j;go_wp2;have fm:=Ba (i:=1) (Ba (i:=0) B (.int .i64 (min lo m))) (.int .i64 (max hi m));have fi:Ak (λx=>x=b) W6 ((V5.setCell b (.int .i64 (min lo m))).setCell ⟨b,1,none⟩ (.int .i64 (max hi m))):=((s.uJ X).set rfl).set rfl;go_roundg (L.length - (k+1))
    case rel=>exact⟨k+1,min lo m,max hi m,Az,rfl,v!,by rw[<-HF.out,iT.out,fI.out],fi,fm⟩
    omega
   have ed:k=L.length:=o!
   have RV:(lo,hi)=ac6 c n:=by rw[<-HF.out,ed,List.drop_length];rfl
   have HE:=Zd RV;clear RV;have I:=(s.block _ (Za.1 ap).1 (λe=>by have e:w+1=b:=e;omega)).trans ap;have q0:=ch (i:=0) hQ (v:=.int .i64 lo) rfl;have z:=ch (i:=1) hQ (v:=.int .i64 hi) rfl;have f0:=cf (i:=0) I;have f1:=cf (i:=1) I;have r0:=ch (i:=0) I (v:=.int .i64 0) rfl;have r1:=ch (i:=1) I (v:=.int .i64 0) rfl;go_wp2;refine ZN (v:=.tuple #[.agg #[.int .i64 lo,.int .i64 hi],.int .i64 0]) (by rw[abK rfl];go_simp) rfl ?_;refine adA (q:=(lo,hi)) HE.out.symm R2.out ?_
   repeat (with_reducible first|exact b9|(refine bS ?_ o!))
 obtain⟨z,J⟩:=afg (g:=g) E;have O:=Zd z;have R2:=Zd J;have hq:(BN c !=0)=true:=by simpa using E
 clear z J E;go_wp2;refine ZN (v:=.tuple #[.agg #[.int .i64 0,.int .i64 0],.int .i64 (BN c)]) (by rw[abK rfl];go_simp) rfl ?_;refine adA (q:=(0,0)) O.out R2.out ?_
 repeat (with_reducible first|exact Lc|refine bA ?_|(refine bS ?_ o!))
def Dis (u v:Zf):Prop:=∀g,u.ownBlock=some g->v.ownBlock=some g->False
def ado {base:Nat}(h:A.ownsRow base e k v n xs):∀g,v.ownBlock=some g->g<A.heap.size:=λg a=>by
 obtain⟨_,cs,h⟩:=J3 h g a;exact(Za.1 h).1
def adH {base n' k':Nat}{e':Zs}{a:List Zf}(h:A.ownsRow base e k v n xs)(c:B.ownsRow A e' k' v' n' a):Dis v v':=λg b d=>by
 have i:=ado h g b;have f:=(J3 c g d).1;omega
def abv {base:Nat}(h:A.ownsRow base e k v n xs)(d:Ak (λx=>x=q) A B)(b:A.heap[q]?=some (.cells cs t (0,0)))(c:e≠t):B.ownsRow base e k v n xs:=
 Fc h d λx g a f=>by
  subst f;rw[b]at a;cases a;exact c rfl
def adh {base:Nat}(h:A.ownsRow base e k v n xs)(d:Ak (λx=>u.ownBlock=some x) A B)(a:∀g,u.ownBlock=some g->∃cs,A.heap[g]?=some (.cells cs 48 (0,0)))(c:e≠48):B.ownsRow base e k v n xs:=
 Fc h d λx i b f=>by
  obtain⟨cs,a⟩:=a x f;rw[a]at b;cases b;exact c rfl
def abN {base:Nat}(h:A.ownsRow base e k v n xs)(c:acs<=base):A.ownsRow acs e k v n xs:=by
 refine⟨h.1,?_⟩;rcases h.2 with a|⟨g,cap,b,a,f,d⟩
 .exact .inl a
 exact .inr ⟨g,cap,b,a,Zr c f,d⟩
structure CSp (n M:Nat)(w:Zb)(u1 u2 u3 u4 u5:Zf)(c:A_):Prop where
 base:Own w n u1 c.base
 Af:Ih w n u2 c.Af 40
 hooks:Own w n u3 c.hooks
 now:Own w n u5 c.now
 row:En M w M u4 c.Aa
 le:n<=M
 l1:∀g,u1.ownBlock=some g->g<M
 l2:∀g,u2.ownBlock=some g->g<M
 l3:∀g,u3.ownBlock=some g->g<M
 l5:∀g,u5.ownBlock=some g->g<M
 d13:Dis u1 u3
 d15:Dis u1 u5
 d35:Dis u3 u5
def afi (w:Zb)(c:A_)(e:Ending)(w':Zb):Prop:=∃u1 u2 u3 u4 u5 M,e=.returned (.agg #[u1,u2,u3,u4,u5])/\Qb6 w w'/\CSp w M w' u1 u2 u3 u4 u5 c
def af4 {l:List (Int×Int)}(a:news.length=l.length*2)(h:∀i x,l[i]?=some x->(news.drop (i*2)).take 2=[.int .i64 x.1,.int .i64 x.2]):news=l.flatMap λp=> [ZL .i64 p.1,.int .i64 p.2]:=by
 induction l generalizing news with
 |nil=>exact YM (by simpa using a)
 |cons p l c=>
  have b:=h 0 p rfl;rw[Nat.zero_mul,List.drop_zero]at b;rw[List.flatMap_cons, <-b, <-c (news:=news.drop 2) (by rw[List.length_drop,a,zb];omega) λi x d=>by
   rw[List.drop_drop,show 2+i*2=(i+1)*2 by omega];exact h (i+1) x (by simpa using d)]
  exact(List.take_append_drop 2 news).symm
def anE {l:List (Int×Int)}(h:Sl S Rp 2 w v l)(m:l.length<=1000):Calls Lp 29 #[v] w λe w'=>∃u,e=.returned u/\Qb6 w w'/\Ih w' w u l 40:=by
 obtain⟨a,c,rfl,L,K⟩:=h.val;obtain⟨s,hi,H,J,I⟩:=zp Wu;have t:=Cz Zdg;cases a with
 |none=>
  have y:l=[]:=by
   cases l with
   |nil=>rfl
   |cons x r=>
    obtain⟨N,M,i,_,_,C⟩:=h;cases i;obtain⟨b,o,cs,e,_⟩:=C 0 x rfl;cases e
  subst y;go_enter Lp.func40,n40;go_wp2;go_ret;exact⟨_,rfl,bA (Zh _ _),YC w #[] 0 (Zj _) (Zp _) rfl⟩
 |some p=>
  obtain⟨news,f,g,n⟩:=Sl.row h d! p rfl;have i:=row_one d! f g bC;have F:=Zd n;have D:=Zd g;clear n g;go_enter Lp.func40,n40;go_wp2_with (at_builtin;refine Yc _ rfl _ _ 23 rfl w 40 s (.agg #[.int .i64 0,.int .i64 0]) 2 16 t (Dz hi) H J I rfl d! _ 0 [] rfl (YC w #[] 0 (Zj _) (Zp _) rfl) p l.length c news rfl f (λj u A=>ca (F.out j u A) _) i u! o! i! ?_;intro v' w1 d q G);have B:Qb6 w w1:=Bm (bA (Zh _ _)) q (λk z=>by cases z;exact Zj _) i!;rw[zN,zP]at d;rw[af4 f D.out]at d;have E:=Zd d;clear d q G;go_ret;exact⟨_,rfl,B,E.out⟩
structure CRs (w:Zb)(n0 M q:Nat)(xs:Array Zf)(s1 s2 s3 s5:Zf)(c:A_)(k:Nat)(v4:Zf)(wr:Zb):Prop where
 below:Qb6 w wr
 box:wr.heap[w.heap.size]?=some (.cells xs 26 (0,0))
 res:wr.heap[w.heap.size+1]?=some (.cells Qz6 26 (0,0))
 qx:wr.heap[q]?=some (.cells #[s1,s2,s3,v4,s5] 26 (0,0))
 base:Own wr n0 s1 c.base
 Af:Ih wr n0 s2 c.Af 40
 hooks:Own wr n0 s3 c.hooks
 now:Own wr n0 s5 c.now
 row:En M wr M v4 (c.Aa.take k)
 z:M<=wr.heap.size
def anI (h:RC S w v1 v2 v3 v4 v5 c)(hS:Ql6 S w)(ig:c.base.length<=1000)(bi:c.Af.length<=1000)(be:c.hooks.length<=1000)(Xm:c.Aa.length<=1000)(UO:c.now.length<=1000)(xB:∀i,i<c.Aa.length->(Aj c.Aa i).Ap.length<=1000/\(Aj c.Aa i).over.length<=1000):
  Calls Lp 9 #[.agg #[v1,v2,v3,v4,v5]] w (afi w c):=by
 obtain⟨a1,c1,a2,c2,a3,c3,a4,c4,a5,c5,rfl,rfl,rfl,rfl,rfl,l1,m1,l2,m2,l3,m3,l4,m4,l5,m5⟩:=h.vs;have IX:=DJ;go_enter Lp.func33,n33;go_wp2;obtain⟨C,Hv⟩:=Qnm ((w.alloc (.cells (Qe6 c a1 c1 a2 c2 a3 c3 a4 c4 a5 c5) 26)).alloc (.cells Qz6 26));have Z:Qb6 w C:=by rw[Hv];exact bA (bA (Zh _ _))
 have F1:C.heap[w.heap.size]?=some (.cells (Qe6 c a1 c1 a2 c2 a3 c3 a4 c4 a5 c5) 26 (0,0)):=by rw[Hv];exact Bf (Bp _ _) _
 have O9:C.heap[w.heap.size+1]?=some (.cells Qz6 26 (0,0)):=by rw[Hv];exact Jq _ _ _
 rw[<-Hv];clear Hv;have bc:w+1<C.heap.size:=(Za.1 O9).1;refine Code.wp_mono (Q:=λe a' V=>e=.normal/\∃(q:Nat) (H J G F:Option Addr) (d1 d2 d3 I:Nat) (x5 x6 x7 x8 x9 jX Qj ai MH Lx Ly K0 K1:Zf),a'= {tmps:= #[.agg #[.slice a1 c.base.length c1,.slice a2 c.Af.length c2,.slice a3 c.hooks.length c3,.slice a4 c.Aa.length c4,.slice a5 c.now.length c5],.pointer w,.pointer (w+1:Nat),.pointer q,Ze,x5,x6,x7,x8,x9,jX,Qj,ai,MH,Lx,Ly,K0,K1,Ze,Ze,Ze,Ze,Ze,Ze,Ze,Ze,Ze,Ze,Ze,Ze,Ze,Ze,Ze,Ze,Ze,Ze,Ze],defers:=[]}/\w+1<q/\Qb6 C V/\V.heap[q]?=some (.cells #[.slice H c.base.length d1,.slice J c.Af.length d2,.slice G c.hooks.length d3,(),.slice F c.now.length I] 26 (0,0))/\Own V C (.slice H c.base.length d1) c.base/\Ih V C (.slice J c.Af.length d2) c.Af 40/\Own V C (.slice G c.hooks.length d3) c.hooks/\Own V C (.slice F c.now.length I) c.now/\Dis (.slice H c.base.length d1) (.slice G c.hooks.length d3)/\Dis (.slice H c.base.length d1) (.slice F c.now.length I)/\Dis (.slice G c.hooks.length d3) (.slice F c.now.length I)) ?rest ?first
 case first=>
  have z0:=λp=>Al p (ch (i:=0) F1 (v:=.slice a1 c.base.length c1) rfl);have z1:=λp=>Al p (ch (i:=1) F1 (v:=.slice a2 c.Af.length c2) rfl);have z2:=λp=>Al p (ch (i:=2) F1 (v:=.slice a3 c.hooks.length c3) rfl);have z4:=λp=>Al p (ch (i:=4) F1 (v:=.slice a5 c.now.length c5) rfl);refine G6 (S:=λW=>∃p,W=calm C p) [0,1,3,4,6,7,9,10] 7 #[true,true,false,true,true,false,true,true,false,true,true,false,false,false,false] k! (λ_ _ _ _ _ h=>nomatch h.1) k! (AL (Zh _ _).drew) ?_;refine A4 _ _ k! ?_;simp only[Z6,zd,ZG,ZD,ZC]
  repeat (first|go_big_quiet_step (fail)|quiet_step (fail))
  refine Z4 ?_;clear z0 z1 z2 z4;change Cy _ _ _ _ _ _ _ _ _;obtain⟨V,hV⟩:=Qnm C.drew;have b:Qb6 C V:=by rw[hV];exact(Zh _ _).drew
  rw[<-hV];clear hV;have l:=Yz;have r:=Yz;have y:=Yz;have s:=Yz;have t:=Yz;refine AK [2,13] k! i! (Ix ?gA2 ?gB2)
  case' gB2=>
   refine EX (v:=.pointer V) (w':=V.alloc (.cells Qz6 26)) rfl rfl g! ?_;obtain⟨o,m⟩:=Qnm (V.alloc (.cells Qz6 26));have a:Qb6 V o:=by rw[m];exact bA (Zh _ _)
   have l:o.heap[V.heap.size]?=some (.cells Qz6 26 (0,0)):=by rw[m];exact Bp _ _
   have E:=b.size;obtain⟨q,B⟩:=Qnm V.heap.size;rw[<-B]at l E
   try (have r:=Fu r a)
   try (have y:=Fu y a)
   try (have s:=Fu s a)
   try (have t:=Fu t a)
   have b:=b.trans (a.mono b.size);rw[<-m, <-B];refine⟨AL b,?_⟩;clear a B m;obtain⟨V,R⟩:∃Y,Y=o:=⟨_,rfl⟩;subst R;refine AK [2] k! i! (BF ?_)
  all_goals
   refine DK (f:=26) (args:= #[.slice a1 c.base.length c1]) rfl rfl g! ((WO (h.later (Z.trans (b.mono Z.size))).base ig).mono ?_);rintro e V ⟨u,rfl,a,z⟩;have r:=abN z b.size;obtain⟨H,d1,rfl,_,_⟩:=JS z;clear z
   try (have l:=(a.block _ (Za.1 l).1).trans l)
   try (have y:=Fu y a)
   try (have s:=Fu s a)
   try (have t:=Fu t a)
   have b:=b.trans (a.mono b.size);refine .inl ⟨_,rfl,AL b,?_⟩;clear a
  all_goals first
   |(have kL:=Za.1 l;clear kL;refine AK [5] k! i! (BF ?_))
   |(refine AK [5,13] k! i! (Ix ?gA5 ?gB5)
     case' gB5=>
      refine EX (v:=.pointer V) (w':=V.alloc (.cells Qz6 26)) rfl rfl g! ?_;obtain⟨o,m⟩:=Qnm (V.alloc (.cells Qz6 26));have a:Qb6 V o:=by rw[m];exact bA (Zh _ _)
      have l:o.heap[V.heap.size]?=some (.cells Qz6 26 (0,0)):=by rw[m];exact Bp _ _
      have E:=b.size;obtain⟨q,B⟩:=Qnm V.heap.size;rw[<-B]at l E
      try (have r:=Fu r a)
      try (have y:=Fu y a)
      try (have s:=Fu s a)
      try (have t:=Fu t a)
      have b:=b.trans (a.mono b.size);rw[<-m, <-B];refine⟨AL b,?_⟩;clear a B m;obtain⟨V,R⟩:∃Y,Y=o:=⟨_,rfl⟩;subst R;refine AK [5] k! i! (BF ?_))
  all_goals
   refine DK (f:=29) (args:= #[.slice a2 c.Af.length c2]) rfl rfl g! ((anE (h.later (Z.trans (b.mono Z.size))).Af bi).mono ?_);rintro e V ⟨u,rfl,a,z⟩;have y:=abN z b.size;obtain⟨J,d2,rfl,_,_⟩:=JS z;clear z
   try (have l:=(a.block _ (Za.1 l).1).trans l)
   try (have r:=Fu r a)
   try (have s:=Fu s a)
   try (have t:=Fu t a)
   have b:=b.trans (a.mono b.size);refine .inl ⟨_,rfl,AL b,?_⟩;clear a
  all_goals first
   |(have kL:=Za.1 l;clear kL;refine AK [8] k! i! (BF ?_))
   |(refine AK [8,13] k! i! (Ix ?gA8 ?gB8)
     case' gB8=>
      refine EX (v:=.pointer V) (w':=V.alloc (.cells Qz6 26)) rfl rfl g! ?_;obtain⟨o,m⟩:=Qnm (V.alloc (.cells Qz6 26));have a:Qb6 V o:=by rw[m];exact bA (Zh _ _)
      have l:o.heap[V.heap.size]?=some (.cells Qz6 26 (0,0)):=by rw[m];exact Bp _ _
      have E:=b.size;obtain⟨q,B⟩:=Qnm V.heap.size;rw[<-B]at l E
      try (have r:=Fu r a)
      try (have y:=Fu y a)
      try (have s:=Fu s a)
      try (have t:=Fu t a)
      have b:=b.trans (a.mono b.size);rw[<-m, <-B];refine⟨AL b,?_⟩;clear a B m;obtain⟨V,R⟩:∃Y,Y=o:=⟨_,rfl⟩;subst R;refine AK [8] k! i! (BF ?_))
  all_goals
   refine DK (f:=26) (args:= #[.slice a3 c.hooks.length c3]) rfl rfl g! ((WO (h.later (Z.trans (b.mono Z.size))).hooks be).mono ?_);rintro e V ⟨u,rfl,a,z⟩;have s:=abN z b.size;obtain⟨G,d3,rfl,_,_⟩:=JS z;have P:=adH r z;clear z
   try (have l:=(a.block _ (Za.1 l).1).trans l)
   try (have r:=Fu r a)
   try (have y:=Fu y a)
   try (have t:=Fu t a)
   have b:=b.trans (a.mono b.size);refine .inl ⟨_,rfl,AL b,?_⟩;clear a
  all_goals first
   |(have kL:=Za.1 l;clear kL;refine AK [11] k! i! (BF ?_))
   |(refine AK [11,13] k! i! (Ix ?gA11 ?gB11)
     case' gB11=>
      refine EX (v:=.pointer V) (w':=V.alloc (.cells Qz6 26)) rfl rfl g! ?_;obtain⟨o,m⟩:=Qnm (V.alloc (.cells Qz6 26));have a:Qb6 V o:=by rw[m];exact bA (Zh _ _)
      have l:o.heap[V.heap.size]?=some (.cells Qz6 26 (0,0)):=by rw[m];exact Bp _ _
      have E:=b.size;obtain⟨q,B⟩:=Qnm V.heap.size;rw[<-B]at l E
      try (have r:=Fu r a)
      try (have y:=Fu y a)
      try (have s:=Fu s a)
      try (have t:=Fu t a)
      have b:=b.trans (a.mono b.size);rw[<-m, <-B];refine⟨AL b,?_⟩;clear a B m;obtain⟨V,R⟩:∃Y,Y=o:=⟨_,rfl⟩;subst R;refine AK [11] k! i! (BF ?_))
  all_goals
   refine DK (f:=26) (args:= #[.slice a5 c.now.length c5]) rfl rfl g! ((WO (h.later (Z.trans (b.mono Z.size))).now UO).mono ?_);rintro e V ⟨u,rfl,a,z⟩;have t:=abN z b.size;obtain⟨F,I,rfl,_,_⟩:=JS z;have O:=adH r z;have N:=adH s z;clear z
   try (have l:=(a.block _ (Za.1 l).1).trans l)
   try (have r:=Fu r a)
   try (have y:=Fu y a)
   try (have s:=Fu s a)
   have b:=b.trans (a.mono b.size);refine .inl ⟨_,rfl,AL b,?_⟩;clear a
  all_goals first
   |(have kL:=Za.1 l;clear kL;refine AK [12] k! i! (BF ?_)
     refine EX (v:=.agg #[.slice H c.base.length d1,.slice J c.Af.length d2,.slice G c.hooks.length d3,(),.slice F c.now.length I]) (w':=V) rfl rfl g! ?_;refine⟨AL b,?_⟩)
   |(refine AK [12,13] k! i! (Ix ?gA12 ?gB12)
     case' gB12=>
      refine EX (v:=.pointer V) (w':=V.alloc (.cells Qz6 26)) rfl rfl g! ?_;obtain⟨o,m⟩:=Qnm (V.alloc (.cells Qz6 26));have a:Qb6 V o:=by rw[m];exact bA (Zh _ _)
      have l:o.heap[V.heap.size]?=some (.cells Qz6 26 (0,0)):=by rw[m];exact Bp _ _
      have E:=b.size;obtain⟨q,B⟩:=Qnm V.heap.size;rw[<-B]at l E
      try (have r:=Fu r a)
      try (have y:=Fu y a)
      try (have s:=Fu s a)
      try (have t:=Fu t a)
      have b:=b.trans (a.mono b.size);rw[<-m, <-B];refine⟨AL b,?_⟩;clear a B m;obtain⟨V,R⟩:∃Y,Y=o:=⟨_,rfl⟩;subst R;refine AK [12] k! i! (BF ?_);refine EX (v:=.agg #[.slice H c.base.length d1,.slice J c.Af.length d2,.slice G c.hooks.length d3,(),.slice F c.now.length I]) (w':=V) rfl rfl g! ?_;refine⟨AL b,?_⟩
     case' gA12=>
      refine EX (v:=.agg #[.slice H c.base.length d1,.slice J c.Af.length d2,.slice G c.hooks.length d3,(),.slice F c.now.length I]) (w':=V) rfl rfl g! ?_;refine⟨AL b,?_⟩;refine AK [13] k! i! (BF ?_);refine EX (v:=.pointer V) (w':=V.alloc (.cells Qz6 26)) rfl rfl g! ?_;obtain⟨o,m⟩:=Qnm (V.alloc (.cells Qz6 26));have a:Qb6 V o:=by rw[m];exact bA (Zh _ _)
      have l:o.heap[V.heap.size]?=some (.cells Qz6 26 (0,0)):=by rw[m];exact Bp _ _
      have E:=b.size;obtain⟨q,B⟩:=Qnm V.heap.size;rw[<-B]at l E
      try (have r:=Fu r a)
      try (have y:=Fu y a)
      try (have s:=Fu s a)
      try (have t:=Fu t a)
      have b:=b.trans (a.mono b.size);rw[<-m, <-B];refine⟨AL b,?_⟩;clear a B m;obtain⟨V,R⟩:∃Y,Y=o:=⟨_,rfl⟩;subst R)
  all_goals
   refine AK [14] k! i! (BF ?_);obtain⟨g0,g1,g2,g3,g4⟩:=Qc5 l;obtain⟨f0,f1,f2,f3,f4⟩:=Qf5 l;obtain⟨o,m⟩:=Qnm (((((V.setCell q (.slice H c.base.length d1)).setCell ⟨q,1,none⟩ (.slice J c.Af.length d2)).setCell ⟨q,2,none⟩ (.slice G c.hooks.length d3)).setCell ⟨q,3,none⟩ ()).setCell ⟨q,4,none⟩ (.slice F c.now.length I));refine Rj (w':=o) rfl rfl (by rw[m];go_simp) ?_;have am:Qb6 C o:=by rw[m];exact bS (bS (bS (bS (bS b E) E) E) E) E
   have hT:Ak (λx=>x=q) V o:=by rw[m];exact(Ak.refl (λx=>x=q) V).DT.DT.DT.DT.DT
   refine⟨AL am,rfl,?_⟩;exact⟨rfl,q,H,J,G,F,d1,d2,d3,I,_,_,_,_,_,_,_,_,_,_,_,_,_,rfl,o!,am,by rw[m];exact Ba (Ba (Ba (Ba (Ba l _) _) _) _) _,abv r hT l d!,abv y hT l d!,abv s hT l d!,abv t hT l d!,P,O,N⟩
 rintro e a' V ⟨rfl,q,H,J,G,F,d1,d2,d3,I,x5,x6,x7,x8,x9,jX,Qj,ai,MH,Lx,Ly,K0,K1,rfl,E,b,l,r,y,s,t,P,O,N⟩;obtain⟨M,hM⟩:=Qnm V.heap.size;have ct:C<=M:=by rw[hM];exact b.size
 have L1:=ado r;have L2:=ado y;have L3:=ado s;have U:=ado t;rw[<-hM]at L1 L2 L3 U;have HD:=Zd (ZY L1 (ZY L2 (ZY L3 (ZY U (ZY P (ZY O N))))));clear L1 L2 L3 U P O N;have bv:CRs w C M q #[.slice a1 c.base.length c1,.slice a2 c.Af.length c2,.slice a3 c.hooks.length c3,.slice a4 c.Aa.length c4,.slice a5 c.now.length c5] (.slice H c.base.length d1) (.slice J c.Af.length d2) (.slice G c.hooks.length d3) (.slice F c.now.length I) c 0 () V:=
  ⟨Z.trans (b.mono Z.size),(b.block _ (Za.1 F1).1).trans F1,(b.block _ bc).trans O9,l,r,y,s,t,⟨[],zq _ _ _ _,λi x hx=>by cases hx⟩,ZcS hM⟩
 clear hM b l r y s t F1 O9 Z;dsimp only;go_wp2;go_loopg [4] c.Aa.length (λg i wr=>∃(k:Nat) (v4:Zf),k<=c.Aa.length/\g=c.Aa.length - k/\i=.int .i64 k/\CRs w C M q #[.slice a1 c.base.length c1,.slice a2 c.Af.length c2,.slice a3 c.hooks.length c3,.slice a4 c.Aa.length c4,.slice a5 c.now.length c5] (.slice H c.base.length d1) (.slice J c.Af.length d2) (.slice G c.hooks.length d3) (.slice F c.now.length I) c k v4 wr)
 case atStart=>exact⟨0,_,Zp _,rfl,rfl,bv⟩
 obtain⟨k,v4,hk,rfl,rfl,n⟩:=hrel;obtain⟨sl,NK⟩:=Qnm (c.Aa.take k);have ac:sl.length=k:=by rw[NK];simp;omega
 have Ci:=n.row;rw[<-NK]at Ci;obtain⟨va,vc,rfl,_⟩:=Ci.val;rw[ac]at n Ci;by_cases Az:k<c.Aa.length
 .obtain⟨b4,o4,s2,s3,rfl,UQ,x0,x1,x2,x3,x4,hp,ho⟩:=h.Aa.at_ (i:=k) Az
  have Ga:∀j u,w.cell? ⟨b4,j,none⟩=some u->wr.cell? ⟨b4,j,none⟩=some u:=λj u z=>(n.below.cell (p:=⟨b4,j,none⟩) (hS b4 UQ)).trans z;replace x0:=Ga _ _ x0;replace x1:=Ga _ _ x1;replace x2:=Ga _ _ x2;replace x3:=Ga _ _ x3;replace x4:=Ga _ _ x4;clear Ga;replace hp:=hp.later n.below;replace ho:=ho.later n.below;obtain⟨Oq,Qm⟩:=xB k Az;obtain⟨sm,Qh⟩:=Qnm (Aj c.Aa k);have ci:=Zd (show c.Aa.take (k+1)=sl++ [sm] by rw[NK,Qh,ZbH,Db Az];rfl);rw[<-Qh]at x0 x1 x4 hp ho Oq Qm;clear Qh NK;obtain⟨low,D,Ap,over,left⟩:=sm;dsimp only at x0 x1 x4 hp ho Oq Qm;obtain⟨a6,c6,rfl,l6,m6⟩:=hp.val;obtain⟨a7,c7,rfl,l7,m7⟩:=ho.val;obtain⟨K,Ig⟩:∃K:Nat->Prop,K=λx=>x≠q/\w+1<x:=⟨_,rfl⟩;have LP:∀x,w.heap.size+1<x->x≠q->K x:=λx hx l=>by rw[Ig];exact⟨l,hx⟩
  have qF:¬K w:=by rw[Ig];intro x;omega
  have l_:¬K (w+1):=by rw[Ig];intro x;omega
  have Tg:¬K q:=by rw[Ig];exact λx=>x.1 rfl
  have Qn:¬K b4:=by rw[Ig];intro x;have:=hS b4 UQ;omega
  clear Ig;have z0:=λp:Tw K wr=>p.cell (ch (i:=3) n.box (v:=.slice (some ⟨b4,o4,none⟩) c.Aa.length c4) rfl) qF;have z1:=λp:Tw K wr=>p.cell (ch (i:=3) n.qx (v:=.slice va k vc) rfl) Tg;have y0:=λp:Tw K wr=>p.cell x0 Qn;have y1:=λp:Tw K wr=>p.cell x1 Qn;have y2:=λp:Tw K wr=>p.cell x2 Qn;have y3:=λp:Tw K wr=>p.cell x3 Qn;have y4:=λp:Tw K wr=>p.cell x4 Qn;have TB:(k:Int)<(c.Aa.length:Int):=o!
  have du:(0:Int)<=(k:Int):=o!
  have kD:q<wr:=(Za.1 n.qx).1;have kx:=ch (i:=3) n.box (v:=.slice (some ⟨b4,o4,none⟩) c.Aa.length c4) rfl;have bG:=n.below.size;have DR:w+1<wr.heap.size:=(Za.1 n.res).1;have Rb:M<=wr.heap.size:=n.z;go_wp2;clear kx;refine B0 (S:=λW=>∃p:Tw K wr,W=p.v) [11] [(false,7),(false,8),(false,9),(false,10),(false,11)] [0,1,2,3,4,5,6] k! (λ_ _ d _ _ h=>by cases d<;>exact h) k! (A5 (Ak.later (Zh _ _).drew)) ?_;refine A4 _ _ k! ?_;simp only[Z6,zd,ZG,ZD,ZC]
  repeat (first|go_big_quiet_step (fail)|quiet_step (fail))
  refine Z4 ?_;clear z0 z1 y0 y1 y2 y3 y4 x0 x1 x2 x3 x4;change Dl _ _ _ _ _ _ _;have Uh:YH wr wr wr.drew:=(Zh _ _).drew;refine Dd (f:=27) (args:= #[.agg #[.int .i64 low,.int .i64 D,.slice a6 Ap.length c6,.slice a7 over.length c7,.int .i64 left]]) rfl rfl g! ((aoP (hp.later Uh) (ho.later Uh) Oq Qm).mono ?_);rintro e w1 ⟨u2,u3,rfl,Bg,Hb,Lb⟩;have cu:Qb6 wr w1:=Uh.trans (Bg.mono (Zj _));have Kd:Ak K wr w1:=Ak.later cu;refine⟨_,rfl,.inr (A5 Kd),?_⟩;have Hb:SP (TT wr w1) w1 u2 Ap:=Hb;have Lb:SI (TT wr w1) w1 u3 over:=Own.tt Lb;obtain⟨p6,t6,rfl,_⟩:=Hb.val;obtain⟨p7,t7,rfl,_⟩:=Lb.val;obtain⟨uT,uU⟩:=Qnm (w1.alloc (.cells #[.int .i64 low,.int .i64 D,.slice p6 Ap.length t6,.slice p7 over.length t7,.int .i64 left] 48));have Vn:Qb6 w1 uT:=by rw[uU];exact bA (Zh _ _)
  have Jp:=cu.trans (Vn.mono cu.size);have WQ:Ak K wr uT:=Ak.later Jp;refine JZ (v:=.slice w1 1 1) (w':=uT) rfl rfl (by rw[uU];go_simp) (.inr (A5 WQ)) ?_;obtain⟨vals,AX,DF⟩:=Ci.later Jp;rw[ac]at AX;obtain⟨i0,hi,eL,k9,b9⟩:=zp eI;have b8:=Cz Tryz.underlying24;refine PW rfl rfl ?_;refine Zak _ _ _ 24 rfl M 48 i0 (.agg #[.int .i64 0,.int .i64 0,(),(),.int .i64 0]) 5 72 b8 (Dz hi) eL k9 b9 rfl d! _ k vals rfl AX w1 1 1 [.int .i64 low,.int .i64 D,.slice p6 Ap.length t6,.slice p7 over.length t7,.int .i64 left] rfl rfl (by rw[uU];exact Hc _ _ _) (by intro u z;simp at z;rcases z with rfl|rfl|rfl|rfl|rfl<;>rfl) u! o! (by have:=Jp.size;omega) ?_;intro v' w2 Cm AG Gc;have Em:∀g,(Zy va k vc).ownBlock=some g->M<=g/\∃cs,wr.heap[g]?=some (.cells cs 48 (0,0)):=Ci.own;have Js:Ak (λx=>(Zy va k vc).ownBlock=some x) uT w2:=Ak.grown AG λg L=>L;have D3:Ak K wr w2:=WQ.trans (Ak.grown AG λg L=>by
   obtain⟨h1,cs,h2⟩:=Em g L;exact LP g o! (λe=>by subst e;rw[n.qx]at h2;cases h2))
  refine⟨.inr (A5 D3),?_⟩;obtain⟨g',Ey,rfl⟩:=Zay Cm;have M9:=(D3.block q kD Tg).trans n.qx;have f3:=cf (i:=3) M9;have e3:=ch (i:=3) M9 (v:=.slice va k vc) rfl;refine Dw (v:=.pointer (some ⟨q,3,none⟩)) rfl rfl g! (.inr (A5 D3)) ?_;refine K8 (w':=w2.setCell ⟨q,3,none⟩ (.slice g' (k+1) Ey)) rfl rfl g! (.inl rfl) ?_;have bM:CRs w C M q #[.slice a1 c.base.length c1,.slice a2 c.Af.length c2,.slice a3 c.hooks.length c3,.slice (some ⟨b4,o4,none⟩) c.Aa.length c4,.slice a5 c.now.length c5] (.slice H c.base.length d1) (.slice J c.Af.length d2) (.slice G c.hooks.length d3) (.slice F c.now.length I) c (k+1) (.slice g' (k+1) Ey) (w2.setCell ⟨q,3,none⟩ (.slice g' (k+1) Ey)):=by
   have Th:Ak (λx=>x=q) w2 (w2.setCell ⟨q,3,none⟩ (.slice g' (k+1) Ey)):=(Ak.refl (λx=>x=q) w2).DT;have ap:∀x,TT M w2 x->¬x=q:=λx hx e=>TT.not (e▸hx) M9 ⟨d!,d!,d!⟩;have ba:∀ {A:Zb} (hA:∀g cs,wr.heap[g]?=some (Zbi cs 48 (0,0))->A.heap[g]?=some (Zbi cs 48 (0,0))) x,TT M A x->¬(Zy va k vc).ownBlock=some x:=λhA x hx e=>by
    obtain⟨_,cs,h2⟩:=Em x e;exact TT.not hx (hA x cs h2) ⟨d!,d!,d!⟩
   have T:Ak (λx=>(Zy va k vc).ownBlock=some x) wr w2:=((Ak.later Jp).mono λ_ x=>x).trans Js;have mW:∀g,(Zy va k vc).ownBlock=some g->∃cs,wr.heap[g]?=some (.cells cs 48 (0,0)):=λg L=>(Em g L).2;have rK:=ba (A:=uT) (λg cs h=>(Jp.block g (Za.1 h).1).trans h);refine⟨?_,?_,?_,Ba M9 _,abv (adh n.base T mW d!) Th M9 d!,abv (adh n.Af T mW d!) Th M9 d!,abv (adh n.hooks T mW d!) Th M9 d!,abv (adh n.now T mW d!) Th M9 d!,?_,by have:=T.size;simp;omega⟩
   .exact bS ((n.below.trans (Jp.mono n.below.size)).trans (Js.below (λg L=>by have:=(Em g L).1;omega) (by have:=Jp.size;omega))) o!
   .exact(AZ o! _).trans ((D3.block _ o! qF).trans n.box)
   .exact(AZ o! _).trans ((D3.block _ DR l_).trans n.res)
   rw[ci.out];refine En.CN (A:=w2) ?_ Th ap (λg L e=>by
    cases L;subst e;rcases Cm.2 with⟨e,_⟩|⟨g,cap,dl,e,_,h3,_⟩
    .cases e
    cases e;rw[M9]at h3;cases h3)
   rw[show k+1=sl.length+1 by rw[ac]]at*;have xG:Rs (TT M uT) uT [.int .i64 low,.int .i64 D,.slice p6 Ap.length t6,.slice p7 over.length t7,.int .i64 left] ⟨low,D,Ap,over,left⟩:=⟨_,_,rfl,Ug (M6 Hb Vn) Rb,LQ (Ei Lb Vn) Rb⟩;exact En.snoc (λi x hi=>xR (DF i x hi) Js rK) (by have:=AX.1;rw[this,ac]) rfl (xR xG Js rK) Cm
  have ck:=Zd bM;clear bM n D3 Js WQ Kd Jp Vn uU Bg cu Hb Lb AX Cm DF AG Gc Em Ci f3 e3 M9 hp ho;unfold Dl
  go_simp
  go_wp2;go_roundg (c.Aa.length - (k+1))
  case rel=>exact⟨k+1,_,Az,rfl,v!,ck.out⟩
  omega
 have T5:k=c.Aa.length:=o!
 rw[T5,ZcU]at NK;subst NK;subst T5;have kx:=ch (i:=3) n.box (v:=.slice a4 c.Aa.length c4) rfl;obtain⟨s0,s1,s2,s3,s4⟩:=Qc5 n.qx;obtain⟨f0,f1,f2,f3,f4⟩:=Qf5 n.res;obtain⟨r0,r1,r2,r3,r4⟩:=Qc5 n.res;have kD:q<wr:=(Za.1 n.qx).1;have bG:=n.below.size;have DR:w+1<wr.heap.size:=(Za.1 n.res).1;have HC:=Zd n;have HR:=Zd Ci;clear n Ci;go_wp2;refine ZN (v:=.agg #[.slice H c.base.length d1,.slice J c.Af.length d2,.slice G c.hooks.length d3,.slice va c.Aa.length vc,.slice F c.now.length I]) (by rw[A8 rfl];go_simp) rfl ?_;have an:∀X,Qb6 w X->Ak (λx=>x=w.heap.size+1) wr X->afi w c (.returned (.agg #[.slice H c.base.length d1,.slice J c.Af.length d2,.slice G c.hooks.length d3,.slice va c.Aa.length vc,.slice F c.now.length I])) X:=λX Ov Pc=>by
  have hn:∀x,TT M wr x->¬x=w+1:=λx hx e=>by have:=hx.1;omega
  have mM:w<=C.heap.size:=o!
  have L:∀g,(Zy va c.Aa.length vc).ownBlock=some g->¬g=w+1:=λg L e=>by have:=(HR.out.own g L).1;omega
  obtain⟨L1,L2,L3,U,P,O,N⟩:=HD.out;exact⟨_,_,_,_,_,M,rfl,Ov,abN (abv HC.out.base Pc HC.out.res d!) mM,abN (abv HC.out.Af Pc HC.out.res d!) mM,abN (abv HC.out.hooks Pc HC.out.res d!) mM,abN (abv HC.out.now Pc HC.out.res d!) mM,HR.out.CN Pc hn L,o!,L1,L2,L3,U,P,O,N⟩
 have Lc:=HC.out.below;refine an _ ?_ ?_
 .repeat (with_reducible first|exact Lc|(refine bS ?_ o!))
 repeat (with_reducible first|exact Ak.refl _ _|(refine Ak.DT ?_))
def CSp.rc {u3:Zf}(h:CSp n M w u1 u2 u3 u4 u5 c):RC (Cb n w) w u1 u2 u3 u4 u5 c:=
 ⟨h.base.si,Sl.imp (h.Af.tt (.inr (.inr rfl))) (λb a=>a.new) λ_ _ x=>x,h.hooks.si,(h.row.ss (Zj _)).imp (λb a=>⟨Zr h.le a.1,a.2⟩) λ_ _ ⟨v2,v3,e,f,d⟩=>⟨v2,v3,e,Sl.imp f (λb a=>⟨Zr h.le a.1,a.2⟩) λ_ _ x=>x,Sl.imp d (λb a=>⟨Zr h.le a.1,a.2⟩) λ_ _ x=>x⟩,h.now.si⟩
def ahZ (S:Nat->Prop)(w:Zb)(cs:List Zf)(x:A_):Prop:=∃v1 v2 v3 v4 v5,cs=[v1,v2,v3,v4,v5]/\RC S w v1 v2 v3 v4 v5 x
def aiD (S:Nat->Prop)(w:Zb)(b:Nat)(lv:Zf)(d:Nat)(c:A_)(e:Ending)(w':Zb):Prop:=
 ∃(f a:A_) (q g:Nat),e=.returned (.slice q 4 4)/\B3 b w w'/\BK w' b lv g/\g<=d+2000/\H6 f/\ace a/\w<=q/\Sl (λx=>S x\/Cb w w' x) (ahZ λx=>S x\/Cb w w' x) 5 w' (.slice q 4 4) [c,f,a,f]
def af5 (b:l.Pairwise (· < ·))(a:∀x∈l,0<=x/\x<3):l.length<=3:=(show∀l∈Lj,l.length<=3 by decide) l (EM b a)
def aef (h:BN c=0):∀i,i<c.Aa.length->(Aj c.Aa i).over.length<=3:=λi hi=>by
 have d:=(Bj (Bj h).2).2;have e:=(JQ (Bj (Bj h).2).1).2;have a:=adU (Bj d).1 (Aj c.Aa i) (Z3 (Db hi));exact af5 a.1 λx b=>by have:=a.2 x b;omega
def H6.small (h:H6 c):ace c:=
 ⟨by have:=h.Fp;omega,by have:=h.PN;have:=h.Fp;omega,by have:=h.hooks;have:=h.Fp;omega,by have:=h.few;omega,by have:=h.now.1;have:=h.few;omega,λi hi=>⟨by have:=(h.seam i hi).few;omega,by have:=aef h.begin i hi;omega⟩⟩
def ah1 {l:List Ay}:Aj (l.set k s) j=if j=k/\k<l.length then s else Aj l j:=by
 unfold Aj;by_cases e:j=k
 .subst e
  by_cases a:j<l.length
  .simp[Y6,a]
  simp[Y6,a]
 rw[if_neg (λx=>e x.1),Y6,ZS (λx=>e x.symm),Y6]
def ace.put (h:ace c)(b:s.Ap.length<=20/\s.over.length<=20):ace {c with Aa:=c.Aa.set i s}:=
 ⟨h.base,h.Af,h.hooks,by rw[ZcC];exact h.Aa,h.now,λj a=>by
  rw[ZcC]at a;rw[ah1];split
  .exact b
  exact h.part j a⟩
def CSp.CN {u3:Zf}(h:CSp n M A u1 u2 u3 u4 u5 c)(b:Ak T A B)(a:∀x,n<=x->¬T x):CSp n M B u1 u2 u3 u4 u5 c:=
 ⟨CO b a h.base,CO b a h.Af,CO b a h.hooks,CO b a h.now,h.row.CN b (λx d=>a x (Zr h.le d.1)) (λg e=>a g (Zr h.le (h.row.own g e).1)),h.le,h.l1,h.l2,h.l3,h.l5,h.d13,h.d15,h.d35⟩
def CSp.later {u3:Zf}(h:CSp n M A u1 u2 u3 u4 u5 c)(a:Qb6 A B):CSp n M B u1 u2 u3 u4 u5 c:=h.CN (T:=λ_=>False) (Ak.later a) λ_ _ x=>x
def CSp.box {u3:Zf}(h:CSp n M A u1 u2 u3 u4 u5 c)(b:Ak (λx=>x=q) A B)(a:A.heap[q]?=some (.cells cs 26 (0,0))):CSp n M B u1 u2 u3 u4 u5 c:=
 ⟨abv h.base b a d!,abv h.Af b a d!,abv h.hooks b a d!,abv h.now b a d!,h.row.CN b (λx f e=>TT.not (e▸f) a ⟨d!,d!,d!⟩) (λg i e=>by
  obtain⟨_,j,d⟩:=h.row.own g i;subst e;rw[a]at d;cases d),h.le,h.l1,h.l2,h.l3,h.l5,h.d13,h.d15,h.d35⟩
def acm {V:Zb}{d z:Nat}{E D C B A n m l k h y v t s r:Zf}{f co:A_}(G:B3 b w V)(H:BK V b lv z)(L:z<=d+2000)(M:H6 f)(K:ace co)
 (J:RC S V E D C B A c) (F:RC (Cb w V) V n m l k h f) (I:RC (Cb w V) V y v t s r co):
  aiD S w b lv d c (.returned (.slice V 4 4)) (V.alloc (.cells #[E,D,C,B,A,n,m,l,k,h,y,v,t,s,r,n,m,l,k,h] 26)):=by
 have g:∀o,YH V V (V.alloc o):=λo=>bA (Zh _ _);have p:=G.size;have q:∀o x,Cb w V x->Cb w (V.alloc o) x:=λo x e=>⟨e.1,by rw[ZB];have:=e.2;omega⟩;refine⟨f,co,V,z,rfl,G.below (g _),H.later (g _),L,M,K,p,_,_,rfl,Zj _,d!,λi x e=>?_⟩
 match i,e with
 |0,e=>
  cases e;exact⟨V,0,[E,D,C,B,A],rfl,.inr ⟨p,by rw[ZB];omega⟩,rfl,(λj u a=>by
   match j,a with
   |0,a=>cases a;exact cn _ _ _ rfl
   |1,a=>cases a;exact cn _ _ _ rfl
   |2,a=>cases a;exact cn _ _ _ rfl
   |3,a=>cases a;exact cn _ _ _ rfl
   |4,a=>cases a;exact cn _ _ _ rfl),_,_,_,_,_,rfl,(J.later (g _)).imp λx e=>.inl e⟩
 |1,e=>
  cases e;exact⟨V,0,[n,m,l,k,h],rfl,.inr ⟨p,by rw[ZB];omega⟩,rfl,(λj u a=>by
   match j,a with
   |0,a=>cases a;exact cn _ _ _ rfl
   |1,a=>cases a;exact cn _ _ _ rfl
   |2,a=>cases a;exact cn _ _ _ rfl
   |3,a=>cases a;exact cn _ _ _ rfl
   |4,a=>cases a;exact cn _ _ _ rfl),_,_,_,_,_,rfl,(F.later (g _)).imp λx e=>.inr (q _ x e)⟩
 |2,e=>
  cases e;exact⟨V,0,[y,v,t,s,r],rfl,.inr ⟨p,by rw[ZB];omega⟩,rfl,(λj u a=>by
   match j,a with
   |0,a=>cases a;exact cn _ _ _ rfl
   |1,a=>cases a;exact cn _ _ _ rfl
   |2,a=>cases a;exact cn _ _ _ rfl
   |3,a=>cases a;exact cn _ _ _ rfl
   |4,a=>cases a;exact cn _ _ _ rfl),_,_,_,_,_,rfl,(I.later (g _)).imp λx e=>.inr (q _ x e)⟩
 |3,e=>
  cases e;exact⟨V,0,[n,m,l,k,h],rfl,.inr ⟨p,by rw[ZB];omega⟩,rfl,(λj u a=>by
   match j,a with
   |0,a=>cases a;exact cn _ _ _ rfl
   |1,a=>cases a;exact cn _ _ _ rfl
   |2,a=>cases a;exact cn _ _ _ rfl
   |3,a=>cases a;exact cn _ _ _ rfl
   |4,a=>cases a;exact cn _ _ _ rfl),_,_,_,_,_,rfl,(F.later (g _)).imp λx e=>.inr (q _ x e)⟩
def c28 {Sn:Nat->Prop}{d:Nat}(h:RC S w v1 v2 v3 v4 v5 c)(hS:∀x,S x->x<w.heap.size/\x≠b)(hn:SI Sn w lv nums)(E8:∀x,Sn x->x<w.heap.size/\x≠b)(hL:BK w b lv d)(hd:d+5000<4611686018427387904)(Qh:ace c):
  Calls Lp 7 #[.agg #[v1,v2,v3,v4,v5],.pointer b] w (aiD S w b lv d c):=by
 obtain⟨a1,c1,a2,c2,a3,c3,a4,c4,a5,c5,rfl,rfl,rfl,rfl,rfl,l1,m1,l2,m2,l3,m3,l4,m4,l5,m5⟩:=h.vs;have IX:=DJ;have GK:b<w:=hL.lt;obtain⟨W1,NL⟩:=Qnm (w.alloc (.cells (Qe6 c a1 c1 a2 c2 a3 c3 a4 c4 a5 c5) 26));have Bg:Qb6 w W1:=by rw[NL];exact bA (Zh _ _)
 have lD:W1.heap[w.heap.size]?=some (.cells (Qe6 c a1 c1 a2 c2 a3 c3 a4 c4 a5 c5) 26 (0,0)):=by rw[NL];exact Bp _ _
 have DR:W1=w.heap.size+1:=by rw[NL,ZB]
 have n7:=Zd (c44 (s:=3) (hn.later Bg) (λx a=>⟨by have:=(E8 x a).1;omega,(E8 x a).2⟩) (hL.later Bg) o! d!);go_enter Lp.func28,n28;go_wp2;rw[<-NL];clear NL;refine n7.out.mono ?_;rintro e W2 ⟨j,u1,u2,u3,u4,u5,d2,rfl,M7,rE,yv,hM,_⟩;obtain⟨p1,e1,p2,e2,p3,e3,p4,e4,p5,e5,rfl,rfl,rfl,rfl,rfl,_⟩:=yv.vs;obtain⟨X2,Ia⟩:=Qnm (W2.alloc (.cells (Qe6 j p1 e1 p2 e2 p3 e3 p4 e4 p5 e5) 26));have lF:Qb6 W2 X2:=by rw[Ia];exact bA (Zh _ _)
 have tb:X2=W2.heap.size+1:=by rw[Ia,ZB]
 have jt:X2.heap[W2.heap.size]?=some (.cells (Qe6 j p1 e1 p2 e2 p3 e3 p4 e4 p5 e5) 26 (0,0)):=by rw[Ia];exact Bp _ _
 have Ot:=M7.Cn;have EB:=Ot.size;have jp:=yv.later lF;have no:=Ot.below lF;have nm:=no.at_ lD o!;have t:=hM.small;have oa:=Zd (anI jp (λx a=>by have:=a.2;omega) (by have:=t.base;omega) (by have:=t.Af;omega) (by have:=t.hooks;omega) (by have:=t.Aa;omega) (by have:=t.now;omega) λi hi=>⟨by have:=(t.part i hi).1;omega,by have:=(t.part i hi).2;omega⟩);obtain⟨m,hm⟩:=Qnm W2.heap.size;rw[<-hm]at jt;have ry:W2<=m/\m<=W2.heap.size:=o!
 go_wp2;rw[<-Ia, <-hm];clear Ia hm;refine oa.out.mono ?_;rintro e W3 ⟨q1,q2,q3,q4,q5,M,rfl,Bv,ac⟩;obtain⟨r1,f1,rfl,_⟩:=JS ac.base;obtain⟨r2,f2,rfl,_⟩:=JS ac.Af;obtain⟨r3,f3,rfl,_⟩:=JS ac.hooks;obtain⟨r4,f4,rfl,_⟩:=ac.row.val;obtain⟨r5,f5,rfl,_⟩:=JS ac.now;obtain⟨X3,iz⟩:=Qnm (W3.alloc (.cells (Qe6 j r1 f1 r2 f2 r3 f3 r4 f4 r5 f5) 26));have ne:Qb6 W3 X3:=by rw[iz];exact bA (Zh _ _)
 have s8:X3=W3.heap.size+1:=by rw[iz,ZB]
 have q9:X3.heap[W3.heap.size]?=some (.cells (Qe6 j r1 f1 r2 f2 r3 f3 r4 f4 r5 f5) 26 (0,0)):=by rw[iz];exact Bp _ _
 have rg:=Bv.size;have fi:=Bv.trans (ne.mono rg);have mz:=no.below fi;have hC:=ac.later ne;have my:=(fi.block _ o!).trans jt;have mx:=(fi.block _ o!).trans nm;have mw:=jp.later fi;have i9:=((hn.later Bg).Cn mz (λx a=>⟨by have:=(E8 x a).1;omega,(E8 x a).2⟩));have pp:=(M7.E4.later lF).later fi;obtain⟨o,ho⟩:=Qnm W3.heap.size;rw[<-ho]at q9;have iG:=Zd (c29 (n:=2) i9 (λx a=>⟨by have:=(E8 x a).1;omega,(E8 x a).2⟩) pp o! d!);have nF:W3<=o/\o<=W3.heap.size:=o!
 go_wp2;rw[<-iz, <-ho];clear iz ho;refine iG.out.mono ?_;rintro e y ⟨r,d4,rfl,hr,S5,dl,rC⟩;have Ox:r<=2:=hr;have fC:Ak (λx=>x=b) X3 y:=S5.CN rfl;have R:=hC.CN fC (λx a e=>o!);have fJ:=S5.at_ q9 o!;have fI:=S5.at_ my o!;have ap:=S5.at_ mx o!;have ed:=mw.Ar (S5.same λx a=>by have:=a.1;omega);have Z:B3 b w y:=by
  have hh:B3 b W1 y:=mz.trans S5;exact⟨hh.os.trans Bg.os,hh.tape.trans Bg.tape,hh.output.trans Bg.output,Zr Bg.size hh.size,λk hk G=>(hh.block k o! G).trans (Bg.block k hk)⟩
 have rx:=Z.size;have V:=h.Ar (Z.same λx a=>(hS x a).2);have td:=S5.size;have x1:w<m:=o!
 have x2:m<o:=o!
 have x3:o<y:=o!
 clear n7 oa iG lD nm jt my mx q9 jp mw ac hC yv M7;obtain rfl|rfl|rfl:r=0\/r=1\/r=2:=o!
 .have ru:=Zd (WO V.now (by have:=Qh.now;omega))
  have o9:=ch (i:=4) ap rfl;go_wp2;refine ru.out.mono ?_;rintro e W5 ⟨u,rfl,Cj,mv⟩;obtain⟨t5,s5,rfl,_⟩:=JS mv;have p9:=Cj.size;have fm:=(Cj.block _ x3).trans fJ;obtain⟨B,ci⟩:=Qnm (W5.setCell ⟨o,4,none⟩ (.slice t5 c.now.length s5));have A:Ak (λx=>x=o) W5 B:=by rw[ci];exact(Ak.refl (λx=>x=o) W5).DT
  have an:B.heap[o]?=some (.cells #[.slice r1 j.base.length f1,.slice r2 j.Af.length f2,.slice r3 j.hooks.length f3,.slice r4 j.Aa.length f4,.slice t5 c.now.length s5] 26 (0,0)):=by rw[ci];exact Ba fm _
  have rq:=(Cj.block _ o!).trans ap;have rp:=(Cj.block _ o!).trans fI;obtain⟨iX,bi,iS,be,ip⟩:=Qc5 rq;obtain⟨io,im,ii,g9,gt⟩:=Qc5 rp;obtain⟨gn,bc,gj,ba,fK⟩:=Qc5 fm;have se:=cf (i:=4) fm;have n1:¬w.heap.size=o:=o!
  have n2:¬m=o:=o!
  clear o9;have X:B3 b w B:=by
   have P:=Z.below Cj;exact⟨A.os.trans P.os,A.tape.trans P.tape,A.output.trans P.output,Zr P.size A.size,λk hk G=>(A.block k (by have:=P.size;omega) o!).trans (P.block k hk G)⟩
  have lK:=A.size;have ai:BK B b lv d4:=by
   obtain⟨st,B_⟩:=dl.later Cj;exact⟨st,(A.block b o! o!).trans B_⟩
  have g1:=(V.later Cj).Ar (A.same λx a=>show¬x=o by have:=hS x a;omega);have g2:=((ed.later Cj).Ar (A.same λx a=>show¬x=o by have:=a.2;omega)).imp (T:=Cb w B) λx a=>⟨by have:=a.1;omega,by have:=a.2;omega⟩;have g3:=(((R.later Cj).box A fm).rc).imp (T:=Cb w B) λx a=>⟨by have:=a.1;omega,a.2⟩;have g4:SI (Cb w B) B (.slice t5 c.now.length s5) c.now:=Sl.imp (Own.si (abv mv A fm d!)) (λx a=>⟨by have:=a.1;omega,a.2⟩) λ_ _ x=>x;have I:=acm (d:=d) X ai o! hM (co:= {j with now:=c.now}) ⟨t.base,t.Af,t.hooks,t.Aa,Qh.now,t.part⟩ g1 g2 ⟨g3.base,g3.Af,g3.hooks,g3.Aa,g4⟩;clear g1 g2 g3 g4 X ai;have mh:B=W5.heap.size:=by rw[ci];simp
  rw[mh]at I;clear mh;go_wp2;rw[<-ci];clear ci;go_ret;exact I
 .have lG:=acm (d:=d) Z dl o! hM t V (ed.imp (T:=Cb w y) λx a=>⟨by have:=a.1;omega,by have:=a.2;omega⟩) (R.rc.imp (T:=Cb w y) λx a=>⟨by have:=a.1;omega,a.2⟩)
  obtain⟨iX,bi,iS,be,ip⟩:=Qc5 ap;obtain⟨io,im,ii,g9,gt⟩:=Qc5 fI;obtain⟨gn,bc,gj,ba,fK⟩:=Qc5 fJ;by_cases h0:c.Aa.length=0
  .have hh:¬0<(c.Aa.length:Int):=by omega
   clear h0;go_wp2;go_ret;exact lG
  have hh:0<(c.Aa.length:Int):=o!
  go_wp2;obtain⟨g,eg⟩:∃g,r4=some ⟨g,0,none⟩:=by
   obtain⟨vals,h1,_⟩:=R.row;rcases h1.2 with⟨e,h2⟩|⟨g,cap,D,e,_⟩
   .have:=hM.few
    omega
   cases e;exact⟨g,rfl⟩
  subst eg;obtain⟨U,o4,v2,v3,ea,UQ,x0,x1,i7,i6,x4,hp,rH⟩:=V.Aa.at_ (i:=0) o!;subst ea;obtain⟨a6,c6,rfl,l6,m6⟩:=hp.val;obtain⟨a7,c7,rfl,l7,m7⟩:=rH.val;have fd:=Qh.part 0 o!;obtain⟨sm,am⟩:=Qnm (Aj c.Aa 0);have tn:=Zd am;rw[<-am]at x0 x1 i7 i6 x4 hp rH fd l6 l7;rw[Nat.zero_mul,Nat.add_zero]at x0 x1 i7 i6 x4;clear am;obtain⟨low,z,Ap,F,left⟩:=sm;dsimp only at x0 x1 i7 i6 x4 hp rH fd l6 l7;obtain⟨K,Ig⟩:∃K:Nat->Prop,K=λx=>x=b\/y<=x:=⟨_,rfl⟩;have fh:K b:=by rw[Ig];exact .inl rfl
  have LP:∀x,y.heap.size<=x->K x:=λx a=>by rw[Ig];exact .inr a
  have qF:∀x,x<y.heap.size->x≠b->¬K x:=λx h1 h2=>by rw[Ig];exact λe=>e.elim h2 o!
  clear Ig;have mi:=hS U UQ;have z0:=λp:Tw K y=>p.cell ba (qF _ (by show o<_;omega) (by show o≠b;omega));have z1:=λp:Tw K y=>p.cell be (qF _ (by show w.heap.size<_;omega) (by show w≠b;omega));have z2:=λp:Tw K y=>p.cell x0 (qF _ (by show U<_;omega) (by show U≠b;omega));have z3:=λp:Tw K y=>p.cell x1 (qF _ (by show U<_;omega) (by show U≠b;omega));have z4:=λp:Tw K y=>p.cell i7 (qF _ (by show U<_;omega) (by show U≠b;omega));have z5:=λp:Tw K y=>p.cell i6 (qF _ (by show U<_;omega) (by show U≠b;omega));have z6:=λp:Tw K y=>p.cell x4 (qF _ (by show U<_;omega) (by show U≠b;omega));have Qu:IntKind.i64.wrap ((j.Aa.length:Int) - 1)=(j.Aa.length:Int) - 1:=by rw[zE];have:=hM.few;omega
  refine B0 (S:=λW=>∃p:Tw K y,W=p.v) [14] [(false,5),(false,6),(false,7),(false,12),(false,13),(false,14)] [0,1,2,3,4,8,9,10,11] k! (λ_ _ d _ _ h=>by cases d<;>exact h) k! (A5 (Ak.later (Zh _ _).drew)) ?_;refine A4 _ _ k! ?_;simp only[Z6,zd,ZG,ZD,ZC]
  repeat (first|go_big_quiet_step (fail)|quiet_step (fail))
  refine Z4 ?_;clear z0 z1 z2 z3 z4 z5 z6;change Dl _ _ _ _ _ _ _;have Uh:YH y y y.drew:=(Zh _ _).drew;have ck:Ak K y y.drew:=Ak.later Uh;refine Dw (v:=.int .i64 j.Aa.length) rfl rfl g! (.inr (A5 ck)) ?_;refine Dw (v:=.int .i64 ((j.Aa.length:Int) - 1)) rfl rfl g! (.inr (A5 ck)) ?_;refine Dd (f:=8) (args:= #[.pointer b,.int .i64 ((j.Aa.length:Int) - 1)]) rfl rfl g! ((c29 ((i9.Cn S5 (λx a=>⟨by have:=(E8 x a).1;omega,(E8 x a).2⟩)).later Uh) (λx a=>⟨by have:=(E8 x a).1;simp;omega,(E8 x a).2⟩) (dl.later Uh) o! (by have:=hM.few;omega)).mono ?_);rintro e W5 ⟨C,d5,rfl,pd,P,xZ,pm⟩;have L:B3 b y W5:=by
   exact⟨P.os,P.tape,P.output,P.size,λk hk G=>P.block k hk G⟩
  have ml:Ak K y W5:=L.CN fh;refine⟨_,rfl,.inr (A5 ml),?_⟩;have lm:C<j.Aa.length:=by have:=hM.few;omega
  have p9:=L.size;refine Dd (f:=27) (args:= #[.agg #[.int .i64 low,.int .i64 z,.slice a6 Ap.length c6,.slice a7 F.length c7,.int .i64 left]]) rfl rfl g! ((aoP (hp.Ar (L.same λx a=>(hS x a).2)) (rH.Ar (L.same λx a=>(hS x a).2)) (by have:=fd.1;omega) (by have:=fd.2;omega)).mono ?_);rintro e B ⟨u2,u3,rfl,DM,Hb,Lb⟩;have A:Ak K y B:=ml.trans (Ak.later DM);refine⟨_,rfl,.inr (A5 A),?_⟩;have Lb:SI (TT W5 B) B u3 F:=Own.tt Lb;obtain⟨p6,t6,rfl,_⟩:=Hb.val;obtain⟨p7,t7,rfl,_⟩:=Lb.val;have lK:=DM.size;have J:=(R.CN (L.CN (K:=λx=>x=b) rfl) (λx a e=>o!)).later DM;have an:=(DM.block _ o!).trans (L.at_ fJ o!);have li:=(DM.block _ o!).trans (L.at_ fI o!);have kw:=(DM.block _ o!).trans (L.at_ ap o!);have X:=L.below DM;have kv:=ed.Ar (X.same λx a=>by have:=a.1;omega);have ka:=V.Ar (X.same λx a=>(hS x a).2);have ai:=xZ.later DM;have E:B3 b w B:=Z.trans X;obtain⟨D,q,Q⟩:∃D,B.heap[g]?=some (.cells D 48 (0,0))/\∀k,k<5->∃v,D[C*5+k]?=some v:=by
   obtain⟨vals,h1,_⟩:=J.row;rcases h1.2 with⟨e,_⟩|⟨g',cap,D,e,g3,g4,g5,g6,g7,_⟩
   .cases e
   cases e;exact⟨D,g4,λk hk=>⟨_,Zx (by rw[g7];omega)⟩⟩
  obtain⟨w0,b8⟩:=Q 0 d!;obtain⟨w1,lX⟩:=Q 1 d!;obtain⟨w2,nj⟩:=Q 2 d!;obtain⟨w3,lL⟩:=Q 3 d!;obtain⟨w4,xX⟩:=Q 4 d!;have q0:=ch q b8;have q1:=ch q lX;have q2:=ch q nj;have q3:=ch q lL;have q4:=ch q xX;have bv:=cf (i:=C*5+0) q;have i8:=cf (i:=C*5+1) q;have o8:=cf (i:=C*5+2) q;have ow:=cf (i:=C*5+3) q;have oc:=cf (i:=C*5+4) q;rw[Nat.add_zero]at q0 bv;obtain⟨O,H⟩:=Qnm (((((B.setCell ⟨g,C*5,none⟩ (.int .i64 low)).setCell ⟨g,C*5+1,none⟩ (.int .i64 z)).setCell ⟨g,C*5+2,none⟩ (.slice p6 Ap.length t6)).setCell ⟨g,C*5+3,none⟩ (.slice p7 F.length t7)).setCell ⟨g,C*5+4,none⟩ (.int .i64 left));have pu:(C:Int)<(j.Aa.length:Int):=o!
  have pt:(0:Int)<=(C:Int):=o!
  refine Dw (v:=.pointer (some ⟨g,C*5,none⟩)) rfl rfl g! (.inr (A5 A)) ?_;refine K8 (w':=O) rfl rfl (by rw[H];go_simp) (.inl rfl) ?_;have l:Ak (λx=>x=g) B O:=by rw[H];exact(Ak.refl (λx=>x=g) B).DT.DT.DT.DT.DT
  have pi:=(J.row.own g rfl).1;have sr:=J.le;have b9:∀x,x<X2.heap.size->¬x=g:=λx a e=>o!
  have jn:¬o=g:=λe=>by subst e;rw[an]at q;cases q
  have sq:g<y:=by
   obtain⟨_,cs,h⟩:=R.row.own g rfl;exact(Za.1 h).1
  have mt:Rs (TT M B) B [.int .i64 low,.int .i64 z,.slice p6 Ap.length t6,.slice p7 F.length t7,.int .i64 left] ⟨low,z,Ap,F,left⟩:=⟨_,_,rfl,Sl.imp Hb (λx a=>⟨by have:=a.1;omega,a.2⟩) (λ_ _ x=>x),Sl.imp Lb (λx a=>⟨by have:=a.1;omega,a.2⟩) λ_ _ x=>x⟩;have N:=En.put (s:=⟨low,z,Ap,F,left⟩) J.row lm mt;dsimp only at N;rw[<-H]at N;have Y:O=B.heap.size:=by rw[H];simp
  have du:B3 b w O:=by
   exact⟨l.os.trans E.os,l.tape.trans E.tape,l.output.trans E.output,Zr E.size l.size,λk hk G=>(l.block k (by have:=E.size;omega) o!).trans (E.block k hk G)⟩
  have ct:BK O b lv d5:=by
   obtain⟨st,B_⟩:=ai;exact⟨st,(l.block b o! o!).trans B_⟩
  have U3:∀ {v:Zf} {e:Zs} {k n:Nat} {xs:List Zf} {base:Nat},B.ownsRow base e k v n xs->e≠48->O.ownsRow base e k v n xs:=λh he=>abv h l q he;have g1:=ka.Ar (l.same λx a=>show¬x=g by have:=hS x a;omega);have g2:=(kv.Ar (l.same λx a=>show¬x=g by have:=a.2;omega)).imp (T:=Cb w O) λx a=>⟨by have:=a.1;omega,by have:=a.2;omega⟩;have g3:RC (Cb w O) O (.slice r1 j.base.length f1) (.slice r2 j.Af.length f2) (.slice r3 j.hooks.length f3) (.slice g j.Aa.length f4) (.slice r5 j.now.length f5) {j with Aa:=j.Aa.set C ⟨low,z,Ap,F,left⟩}:=
   ⟨Sl.imp (Own.si (U3 J.base d!)) (λx a=>⟨by have:=a.1;omega,a.2⟩) (λ_ _ x=>x),Sl.imp (Ih.tt (U3 J.Af d!) (.inr (.inr rfl))) (λx a=>⟨by have:=a.1;omega,a.lt⟩) (λ_ _ x=>x),Sl.imp (Own.si (U3 J.hooks d!)) (λx a=>⟨by have:=a.1;omega,a.2⟩) (λ_ _ x=>x),(N.ss (Zj _)).imp (λx a=>⟨by have:=a.1;omega,a.2⟩) (λ_ _ ⟨v2,v3,e,h2,h3⟩=>⟨v2,v3,e,Sl.imp h2 (λx a=>⟨by have:=a.1;omega,a.2⟩) λ_ _ x=>x,Sl.imp h3 (λx a=>⟨by have:=a.1;omega,a.2⟩) λ_ _ x=>x⟩),Sl.imp (Own.si (U3 J.now d!)) (λx a=>⟨by have:=a.1;omega,a.2⟩) (λ_ _ x=>x)⟩
  have I:=acm (d:=d) du ct o! hM (co:= {j with Aa:=j.Aa.set C ⟨low,z,Ap,F,left⟩}) (t.put fd) g1 g2 g3;rw[Y]at I;have fy:=(l.block o o! jn).trans an;have fw:=(l.block m o! (b9 m o!)).trans li;have fu:=(l.block w o! (b9 _ o!)).trans kw;obtain⟨iX,bi,iS,be,ip⟩:=Qc5 fu;obtain⟨io,im,ii,g9,gt⟩:=Qc5 fw;obtain⟨gn,bc,gj,ba,fK⟩:=Qc5 fy;have lI:=Zd I;have lJ:=Zd Y;clear H I g1 g2 g3 U3 N mt l fy fw fu q0 q1 q2 q3 q4 bv i8 o8 ow oc b8 lX nj lL xX Y ct du;unfold Dl
  go_simp
  go_wp2;rw[lJ.out];go_ret;exact lI.out
 have lG:=acm (d:=d) Z dl o! hM t V (ed.imp (T:=Cb w y) λx a=>⟨by have:=a.1;omega,by have:=a.2;omega⟩) (R.rc.imp (T:=Cb w y) λx a=>⟨by have:=a.1;omega,a.2⟩);obtain⟨iX,bi,iS,be,ip⟩:=Qc5 ap;obtain⟨io,im,ii,g9,gt⟩:=Qc5 fI;obtain⟨gn,bc,gj,ba,fK⟩:=Qc5 fJ;by_cases h0:c.Af.length=0
 .have hh:¬0<(c.Af.length:Int):=by omega
  clear h0;go_wp2;go_ret;exact lG
 have hh:0<(c.Af.length:Int):=o!
 go_wp2;have mj:j.Af.length=j.base.length:=hM.PN;have t9:=Zd mj;have so:1<=j.Af.length/\j.Af.length<=3:=by have:=hM.Fp;omega
 clear mj;obtain⟨g,eg⟩:∃g,r2=some ⟨g,0,none⟩:=by
  rcases R.Af.2 with⟨e,h2⟩|⟨g,cap,D,e,_⟩
  .omega
  cases e;exact⟨g,rfl⟩
 subst eg;obtain⟨U,o4,ea,UQ,x0,x1⟩:=V.Af.at_ (i:=0) o!;subst ea;obtain⟨sm,am⟩:=Qnm (BV c.Af 0);rw[<-am]at x0 x1;rw[Nat.zero_mul,Nat.add_zero]at x0 x1;clear am;obtain⟨low,z⟩:=sm;dsimp only at x0 x1;obtain⟨K,Ig⟩:∃K:Nat->Prop,K=λx=>x=b\/y<=x:=⟨_,rfl⟩;have fh:K b:=by rw[Ig];exact .inl rfl
 have LP:∀x,y.heap.size<=x->K x:=λx a=>by rw[Ig];exact .inr a
 have qF:∀x,x<y.heap.size->x≠b->¬K x:=λx h1 h2=>by rw[Ig];exact λe=>e.elim h2 o!
 clear Ig;have mi:=hS U UQ;have z0:=λp:Tw K y=>p.cell bc (qF _ (by show o<_;omega) (by show o≠b;omega));have z1:=λp:Tw K y=>p.cell bi (qF _ (by show w.heap.size<_;omega) (by show w≠b;omega));have z2:=λp:Tw K y=>p.cell x0 (qF _ (by show U<_;omega) (by show U≠b;omega));have z3:=λp:Tw K y=>p.cell x1 (qF _ (by show U<_;omega) (by show U≠b;omega));have Qu:IntKind.i64.wrap ((j.Af.length:Int) - 1)=(j.Af.length:Int) - 1:=by rw[zE];omega
 refine B0 (S:=λW=>∃p:Tw K y,W=p.v) [13] [(false,5),(false,6),(false,7),(false,12),(false,13)] [0,1,2,3,4,8,9,10,11] k! (λ_ _ d _ _ h=>by cases d<;>exact h) k! (A5 (Ak.later (Zh _ _).drew)) ?_;refine A4 _ _ k! ?_;simp only[Z6,zd,ZG,ZD,ZC]
 repeat (first|go_big_quiet_step (fail)|quiet_step (fail))
 refine Z4 ?_;clear z0 z1 z2 z3;change Dl _ _ _ _ _ _ _;have Uh:YH y y y.drew:=(Zh _ _).drew;have ck:Ak K y y.drew:=Ak.later Uh;refine Dw (v:=.int .i64 j.Af.length) rfl rfl g! (.inr (A5 ck)) ?_;refine Dw (v:=.int .i64 ((j.Af.length:Int) - 1)) rfl rfl g! (.inr (A5 ck)) ?_;refine Dd (f:=8) (args:= #[.pointer b,.int .i64 ((j.Af.length:Int) - 1)]) rfl rfl g! ((c29 ((i9.Cn S5 (λx a=>⟨by have:=(E8 x a).1;omega,(E8 x a).2⟩)).later Uh) (λx a=>⟨by have:=(E8 x a).1;simp;omega,(E8 x a).2⟩) (dl.later Uh) o! o!).mono ?_);rintro e B ⟨C,d5,rfl,pd,P,ai,pm⟩;have X:B3 b y B:=by
  exact⟨P.os,P.tape,P.output,P.size,λk hk G=>P.block k hk G⟩
 have A:Ak K y B:=X.CN fh;refine⟨_,rfl,.inr (A5 A),?_⟩;have lm:C<j.Af.length:=o!
 have lK:=X.size;have J:=R.CN (X.CN (K:=λx=>x=b) rfl) (λx a e=>o!);have an:=X.at_ fJ o!;have li:=X.at_ fI o!;have kw:=X.at_ ap o!;have kv:=ed.Ar (X.same λx a=>by have:=a.1;omega);have ka:=V.Ar (X.same λx a=>(hS x a).2);have E:B3 b w B:=Z.trans X;obtain⟨D,q,Q⟩:∃D,B.heap[g]?=some (.cells D 40 (0,0))/\∀k,k<2->∃v,D[C*2+k]?=some v:=by
  rcases J.Af.2 with⟨e,_⟩|⟨g',cap,D,e,g3,g4,g5,g6,g7,_⟩
  .cases e
  cases e;exact⟨D,g4,λk hk=>⟨_,Zx (by rw[g7];omega)⟩⟩
 obtain⟨w0,b8⟩:=Q 0 d!;obtain⟨w1,lX⟩:=Q 1 d!;have q0:=ch q b8;have q1:=ch q lX;have bv:=cf (i:=C*2+0) q;have i8:=cf (i:=C*2+1) q;rw[Nat.add_zero]at q0 bv;obtain⟨O,H⟩:=Qnm ((B.setCell ⟨g,C*2,none⟩ (.int .i64 low)).setCell ⟨g,C*2+1,none⟩ (.int .i64 z));have pu:(C:Int)<(j.Af.length:Int):=o!
 have pt:(0:Int)<=(C:Int):=o!
 refine Dw (v:=.pointer (some ⟨g,C*2,none⟩)) rfl rfl g! (.inr (A5 A)) ?_;refine K8 (w':=O) rfl rfl (by rw[H];go_simp) (.inl rfl) ?_;have l:Ak (λx=>x=g) B O:=by rw[H];exact(Ak.refl (λx=>x=g) B).DT.DT
 have pi:=(J3 J.Af g rfl).1;have rA:=J.l2 g rfl;have b9:∀x,x<X2.heap.size->¬x=g:=λx a e=>o!
 have jn:¬o=g:=λe=>by subst e;rw[an]at q;cases q
 have N:=Ih.set J.Af lm (low,z);dsimp only at N;rw[<-H]at N;have Y:O=B.heap.size:=by rw[H];simp
 have du:B3 b w O:=by
  exact⟨l.os.trans E.os,l.tape.trans E.tape,l.output.trans E.output,Zr E.size l.size,λk hk G=>(l.block k (by have:=E.size;omega) o!).trans (E.block k hk G)⟩
 have ct:BK O b lv d5:=by
  obtain⟨st,B_⟩:=ai;exact⟨st,(l.block b o! o!).trans B_⟩
 have U3:∀ {v:Zf} {e:Zs} {k n:Nat} {xs:List Zf} {base:Nat},B.ownsRow base e k v n xs->e≠40->O.ownsRow base e k v n xs:=λh he=>abv h l q he;have ma:=J.row.CN l (λx a e=>by have:=a.1;omega) (λx a e=>by have:=(J.row.own x a).1;omega);have rz:=J.le;have g1:=ka.Ar (l.same λx a=>show¬x=g by have:=hS x a;omega);have g2:=(kv.Ar (l.same λx a=>show¬x=g by have:=a.2;omega)).imp (T:=Cb w O) λx a=>⟨by have:=a.1;omega,by have:=a.2;omega⟩;have g3:RC (Cb w O) O (.slice r1 j.base.length f1) (.slice g j.Af.length f2) (.slice r3 j.hooks.length f3) (.slice r4 j.Aa.length f4) (.slice r5 j.now.length f5) {j with Af:=j.Af.set C (low,z)}:=
  ⟨Sl.imp (Own.si (U3 J.base d!)) (λx a=>⟨by have:=a.1;omega,a.2⟩) (λ_ _ x=>x),Sl.imp (Ih.tt N (.inr (.inr rfl))) (λx a=>⟨by have:=a.1;omega,a.lt⟩) (λ_ _ x=>x),Sl.imp (Own.si (U3 J.hooks d!)) (λx a=>⟨by have:=a.1;omega,a.2⟩) (λ_ _ x=>x),(ma.ss (Zj _)).imp (λx a=>⟨by have:=a.1;omega,a.2⟩) (λ_ _ ⟨v2,v3,e,h2,h3⟩=>⟨v2,v3,e,Sl.imp h2 (λx a=>⟨by have:=a.1;omega,a.2⟩) λ_ _ x=>x,Sl.imp h3 (λx a=>⟨by have:=a.1;omega,a.2⟩) λ_ _ x=>x⟩),Sl.imp (Own.si (U3 J.now d!)) (λx a=>⟨by have:=a.1;omega,a.2⟩) (λ_ _ x=>x)⟩
 have I:=acm (d:=d) du ct o! hM (co:= {j with Af:=j.Af.set C (low,z)}) ⟨t.base,by rw[ZcC];exact t.Af,t.hooks,t.Aa,t.now,t.part⟩ g1 g2 g3;rw[Y]at I;have fy:=(l.block o o! jn).trans an;have fw:=(l.block m o! (b9 m o!)).trans li;have fu:=(l.block w o! (b9 _ o!)).trans kw;obtain⟨iX,bi,iS,be,ip⟩:=Qc5 fu;obtain⟨io,im,ii,g9,gt⟩:=Qc5 fw;obtain⟨gn,bc,gj,ba,fK⟩:=Qc5 fy;have lI:=Zd I;have lJ:=Zd Y;clear H I g1 g2 g3 U3 N ma l fy fw fu q0 q1 bv i8 b8 lX Y ct du;unfold Dl
 go_simp
 go_wp2;rw[lJ.out];go_ret;exact lI.out
def ahh {l:List A_}{x:A_}(h:Sl S (ahZ S) 5 w (.slice q n cc) l)(b:l[k]?=some x):
  S q/\∃v1 v2 v3 v4 v5,w.cell? ⟨q,k*5,none⟩=some v1/\w.cell? ⟨q,k*5+1,none⟩=some v2/\w.cell? ⟨q,k*5+2,none⟩=some v3/\w.cell? ⟨q,k*5+3,none⟩=some v4/\w.cell? ⟨q,k*5+4,none⟩=some v5/\RC S w v1 v2 v3 v4 v5 x:=by
 obtain⟨p,m,e,_,_,f⟩:=h;cases e;obtain⟨o,i,cs,g,c,j,a,v1,v2,v3,v4,v5,rfl,d⟩:=f k x b;cases g;rw[zN]at a;exact⟨c,v1,v2,v3,v4,v5,by simpa using a 0 v1 rfl,a 1 v2 rfl,a 2 v3 rfl,a 3 v4 rfl,a 4 v5 rfl,d⟩
def akl {v7:Zf}{g:Int}(h:RC (λx=>x<w.heap.size) w v1 v2 v3 v4 v5 c)(hn:SI (λx=>x<w.heap.size) w v7 nums)(hG:Jr w):Calls Lp 3 #[.agg #[v1,v2,v3,v4,v5],.int .i64 g,v7] w (Two w (.bool true)):=by
 obtain⟨a1,c1,a2,c2,a3,c3,a4,c4,a5,c5,rfl,rfl,rfl,rfl,rfl,l1,m1,l2,m2,l3,m3,l4,m4,l5,m5⟩:=h.vs;obtain⟨la,lc,rfl,_⟩:=hn.val;have IX:=DJ;obtain⟨X,hX⟩:=Qnm (w.alloc (.cells (Qe6 c a1 c1 a2 c2 a3 c3 a4 c4 a5 c5) 26));have Ov:Qb6 w X:=by rw[hX];exact bA (Zh _ _)
 have vF:X=w.heap.size+1:=by rw[hX,ZB]
 have ml:X.heap[w.heap.size]?=some (.cells (Qe6 c a1 c1 a2 c2 a3 c3 a4 c4 a5 c5) 26 (0,0)):=by rw[hX];exact Bp _ _
 have pp:=Zd (c25 (h.later Ov) (λx (B:x<w)=>o!));go_enter Lp.func17,n17;go_wp2;rw[<-hX];clear hX;refine pp.out.mono ?_;rintro e W1 ⟨sq,rfl,oX,Bg⟩;have gt:=bU Ov Bg;have kG:=hG.later gt;have DR:=Bg.size;have l_:=(Bg.block _ o!).trans ml;cases sq with
 |true=>
  go_wp2_with (go_at_call 5;refine(c26 _ kG).mono ?_;rintro e V ⟨Ui,rfl|⟨x,rfl,Ss⟩⟩)
  .go_ret
   exact⟨bU gt Ui,.inl rfl⟩
  .exact⟨rfl,bU gt Ui,.inr ⟨_,rfl,Ss⟩⟩
 |false=>
  have Qh:=oX rfl;clear oX pp ml;obtain⟨k0,k1,k2,k3,k4⟩:=Qc5 l_;obtain⟨W2,MX⟩:=Qnm (W1.alloc (.cells #[.slice la nums.length lc,.int .i64 0,.int .u64 1] 65));have Bb:Qb6 W1 W2:=by rw[MX];exact bA (Zh _ _)
  have EB:W2=W1.heap.size+1:=by rw[MX,ZB]
  have rV:BK W2 W1 (.slice la nums.length lc) 0:=⟨1,by rw[MX];exact Bp _ _⟩;obtain⟨b,hb⟩:=Qnm W1.heap.size;rw[<-hb]at rV;have EC:W1<=b/\b<=W1.heap.size:=o!
  go_wp2;refine(c27 _ ⟨_,_,_,rfl⟩ _).mono ?_;rintro e ym ⟨rfl,hw⟩;rw[<-MX]at hw;have hw:=hw.symm;subst hw;rw[<-hb];clear hb MX;have C:=bU gt Bb;have pm:=Zd (c28 (h.later C) (λx (B:x<w)=>⟨by have:=C.size;omega,o!⟩) (hn.later C) (λx (B:x<w)=>⟨by have:=C.size;omega,o!⟩) rV d! Qh);have mt:=(Bb.block _ o!).trans l_;clear k0 k1 k2 k3 k4;obtain⟨k0,k1,k2,k3,k4⟩:=Qc5 mt;go_wp2;refine pm.out.mono ?_;rintro e Q ⟨j,U,q,d3,rfl,H4,mj,ws,hM,kw,JA,i8⟩;have Rb:=H4.size;have BL:∀x,(x<w.heap.size\/Cb W2 Q x)->x<Q.heap.size/\x≠b:=λx B=>by
   rcases B with B|B
   .have:=C.size;exact⟨o!,o!⟩
   have:=B.1;have:=B.2;exact⟨o!,o!⟩
  obtain⟨ip,p1,p2,p3,p4,p5,x0,x1,x2,x3,x4,mh⟩:=ahh (k:=1) i8 rfl;rw[Nat.one_mul]at x0 x1 x2 x3 x4;obtain⟨At,vB,An,vA,yx,vz,yu,vy,yr,vx,rfl,rfl,rfl,rfl,rfl,_⟩:=mh.vs;have g9:=hM.small;have yq:=C.size;have E8:∀x,x<w.heap.size->x<Q.heap.size/\x≠b:=λx B=>⟨o!,o!⟩;have lI:=(hn.later C).Cn H4 (λx (B:x<w.heap.size)=>⟨o!,o!⟩);have xi:=g9.base;have n8:=hM.valid.Fp;obtain⟨rC,wn⟩:q≠b/\q<Q:=⟨(BL q ip).2,(BL q ip).1⟩;have iG:=Zd (λW d n (hL:LW b (.slice la nums.length lc) Q d W) (hd:d<4611686018427387904) (h2:n<=1000000)=>abW (n:=n) lI E8 hL hd h2);obtain⟨K,Ig⟩:∃K:Nat->Prop,K=λk=>k=b:=⟨_,rfl⟩;have Tg:¬K q:=by rw[Ig];exact rC
  have fh:K b:=by rw[Ig]
  have y0:=λp:Tw K Q=>p.cell x0 Tg;have wd:IntKind.i64.wrap ((j.base.length:Int) - 1)=(j.base.length:Int) - 1:=by rw[zE];omega
  clear k0 k1 k2 k3 k4 Ig;go_wp2;refine abq (S:=λW=>∃p:Tw K Q,W=p.v) 19 [] (.one 7 (.one 15 (.one 17 (.one 18 .leaf)))) ([0,1,2,3,4,5]++ [6,8,9,10,11,12,13,14,16]) k! (λ_ _ d _ _ h=>by cases d<;>exact h) k! (A5 (Ak.later (Zh _ _).drew)) ?_;refine K9 [0,1,2,3,4,5] [6,8,9,10,11,12,13,14,16] _ ?_;refine A4 _ _ k! ?_;simp only[Z6,zd,ZG,ZD,ZC]
  repeat (first|go_big_quiet_step (fail)|quiet_step (fail))
  refine Z4 ?_;refine CB (v:=.int .i64 (j.base.length:Int)) rfl rfl (λw _=>g!) ?_;refine K9 [8,9,10,11,12] [13,14,16] _ ?_;refine A4 _ _ k! ?_;simp only[Z6,zd,ZG,ZD,ZC]
  repeat (first|go_big_quiet_step (fail)|quiet_step (fail))
  refine Z4 ?_;refine CB (v:=.int .i64 (j.base.length:Int)) rfl rfl (λw _=>g!) ?_;refine CB (v:=.int .i64 ((j.base.length:Int) - 1)) rfl rfl (λw _=>g!) ?_;refine A4 _ _ k! ?_;simp only[Z6,zd,ZG,ZD,ZC]
  repeat (first|go_big_quiet_step (fail)|quiet_step (fail))
  refine Z4 ?_;clear y0;change abx _ _ _ _ _ _ _ _;refine abI (f:=8) (args:= #[.pointer b,.int .i64 (j.base.length:Int)]) rfl rfl g! ((iG.out _ _ _ (LW.drew (LW.refl mj)) o! o!).mono ?_);rintro e sr ⟨r1,AT,rfl,Xg,rp,i6,pu⟩;have WQ:∃p:Tw K Q,sr=p.v:=A5 (i6.Cn.CN fh);refine .inl ⟨_,rfl,.inr WQ,?_⟩;refine abI (f:=8) (args:= #[.pointer b,.int .i64 ((j.base.length:Int) - 1)]) rfl rfl g! ((iG.out _ _ _ i6 o! o!).mono ?_);rintro e A ⟨r2,AS,rfl,Ox,rg,fi,pt⟩;have ma:∃p:Tw K Q,A=p.v:=A5 (fi.Cn.CN fh);refine .inl ⟨_,rfl,.inr ma,?_⟩;obtain⟨Z,hZ⟩:=Qnm (A.alloc (.cells #[.int .i64 g,.int .i64 (r1:Int),.int .i64 (r2:Int),.int .i64 g] 3));have mv:Qb6 A Z:=by rw[hZ];exact bA (Zh _ _)
  have N:Z.heap[A.heap.size]?=some (.cells #[.int .i64 g,.int .i64 (r1:Int),.int .i64 (r2:Int),.int .i64 g] 3 (0,0)):=by rw[hZ];exact Bp _ _
  have an:B3 b Q Z:=fi.Cn.below mv;have mN:∃p:Tw K Q,Z=p.v:=A5 (an.CN fh);refine abo (v:=.slice A 4 4) (w':=Z) rfl rfl (by rw[hZ];go_simp) (.inr mN) ?_;refine abo (v:=.slice A 4 4) (w':=Z) rfl rfl g! (.inr mN) ?_;clear hZ;unfold abx
  go_simp
  have vC:=fi.Cn.size;obtain⟨qs,lG⟩:=Qnm A.heap.size;rw[<-lG]at N⊢;have ww:A<=qs/\qs<=A.heap.size:=o!
  clear lG mN WQ ma;go_wp2;have vE:=mv.size;have i7:Sl (λx=>x<Z.heap.size) (ahZ λx=>x<Z.heap.size) 5 Z (.slice q 4 4) [c,j,U,j]:=by
   have rU:∀x,(x<w.heap.size\/Cb W2 Q x)->x<Z:=λx B=>by have:=(BL x B).1;omega
   refine Sl.imp (Sl.Ar i8 (an.same λx B=>(BL x B).2) (R:=ahZ λx=>x<w.heap.size\/Cb W2 Q x) ?_) rU ?_
   .rintro cs x ⟨y1,y2,y3,y4,y5,rfl,hR⟩
    exact⟨y1,y2,y3,y4,y5,rfl,hR.Ar (an.same λx B=>(BL x B).2)⟩
   rintro cs x ⟨y1,y2,y3,y4,y5,rfl,hR⟩;exact⟨y1,y2,y3,y4,y5,rfl,hR.imp rU⟩
  have no:Qb6 w Z:=B3.aj4 C (H4.trans an) o!;have ru:Jr Z:=hG.later no;obtain⟨cl,dL⟩:=Qnm ([c,j,U,j]);obtain⟨gl,NN⟩:∃gl:List Int,gl=[g,(r1:Int),(r2:Int),g]:=⟨_,rfl⟩;have oa:∀k,k<4->∃x,cl[k]?=some x/\ace x:=by
   intro k hk;rw[dL];obtain rfl|rfl|rfl|rfl:k=0\/k=1\/k=2\/k=3:=o!
   .exact⟨_,rfl,Qh⟩
   .exact⟨_,rfl,g9⟩
   .exact⟨_,rfl,kw⟩
   exact⟨_,rfl,g9⟩
  have NM:∀k,k<4->Z.cell? ⟨qs,k,none⟩=some (.int .i64 (nth gl k)):=by
   intro k hk;rw[NN];obtain rfl|rfl|rfl|rfl:k=0\/k=1\/k=2\/k=3:=o!
   .exact ch N rfl
   .exact ch N rfl
   .exact ch N rfl
   exact ch N rfl
  rw[<-dL]at i7;have vd:=Zd i7;have t9:=Zd oa;have vb:=Zd NM;clear dL NN i7 oa NM N mj H4 an g9 hM kw Qh l_ mt rV BL ip h hn i8 iG i6 fi rp rg mh x0 x1 x2 x3 x4 pm lI E8 Xg Ox pu pt;go_loopg [10] 4 (λgg i wr=>∃k:Nat,k<=4/\gg=4 - k/\i=.int .i64 k/\Qb6 Z wr)
  case atStart=>exact⟨0,d!,rfl,rfl,Zh _ _⟩
  obtain⟨k,hk,rfl,rfl,O⟩:=hrel;by_cases Az:k<4
  .obtain⟨x,B,D⟩:=t9.out k Az
   obtain⟨_,p1,p2,p3,p4,p5,x0,x1,x2,x3,x4,iS⟩:=ahh vd.out B;obtain⟨b8,e1,bv,e2,bi,e3,be,e4,bc,e5,rfl,rfl,rfl,rfl,rfl,_⟩:=iS.vs;have lH:=vb.out k Az;obtain⟨gk,wm⟩:=Qnm (nth gl k);rw[<-wm]at lH;clear wm;obtain⟨V,hV⟩:=Qnm wr;subst hV;have vG:=O.size;have m:∀ {p:Addr} {v:Zf},Z.cell? p=some v->V.cell? p=some v:=λh=>(O.cell (ZH _ _ h)).trans h;have am:RC (λy=>y<V.heap.size) V (.slice b8 x.base.length e1) (.slice bv x.Af.length e2) (.slice bi x.hooks.length e3) (.slice be x.Aa.length e4) (.slice bc x.now.length e5) x:=(iS.later O).imp λy s=>by have s:y<Z:=s;show y<_;omega
   replace x0:=m x0;replace x1:=m x1;replace x2:=m x2;replace x3:=m x3;replace x4:=m x4;replace lH:=m lH;clear m iS;have io:∀W,Qb6 V W->∀y,y<V.heap.size->y<W.heap.size:=λW z y s=>Zl s z.size;have vi:=Zd (aoQ am (λy (s:y<V)=>s) (by have:=D.base;omega) (by have:=D.Af;omega) (by have:=D.hooks;omega) (by have:=D.Aa;omega) (by have:=D.now;omega) λi hi=>⟨by have:=(D.part i hi).1;omega,by have:=(D.part i hi).2;omega⟩);have o8:=Zd (λW (z:Qb6 V W)=>c74 (am.later z) (io W z));have ii:=Zd (λW (z:Qb6 V W)=>c76 (g:=gk) (am.later z) (io W z));have us:=Zd am;have TB:(k:Int)<4:=o!
   have AN:(0:Int)<=(k:Int):=o!
   clear am io;go_wp2;refine vi.out.mono ?_;rintro e Y1 ⟨y1,y2,y3,y4,y5,rfl,so,Kd⟩;have iX:=Kd.rc;obtain⟨M,n1,L,n2,J,n3,I,n4,H,n5,rfl,rfl,rfl,rfl,rfl,_⟩:=iX.vs;obtain⟨Y2,rD⟩:=Qnm (Y1.alloc (.cells (Qe6 x M n1 L n2 J n3 I n4 H n5) 26));have bK:Qb6 Y1 Y2:=by rw[rD];exact bA (Zh _ _)
   have Ia:Y2.heap[Y1.heap.size]?=some (.cells (Qe6 x M n1 L n2 J n3 I n4 H n5) 26 (0,0)):=by rw[rD];exact Bp _ _
   have yv:RC (λy=>y<Y2.heap.size) Y2 (.slice M x.base.length n1) (.slice L x.Af.length n2) (.slice J x.hooks.length n3) (.slice I x.Aa.length n4) (.slice H x.now.length n5) x:=(iX.later bK).imp λy s=>Zl s.2 bK.size;have rE:=bU so bK;clear Kd iX;have jt:∀W,Qb6 Y2 W->∀y,y<Y2.heap.size->y<W.heap.size:=λW z y s=>Zl s z.size;have o9:=Zd (an1 yv (λy s=>s));have im:=Zd (λW (z:Qb6 Y2 W)=>an5 (g:=gk) (yv.later z) (jt W z));obtain⟨ea,lJ⟩:=Qnm (BN x);obtain⟨sl,NK⟩:=Qnm (aeV x);obtain⟨rr,lm⟩:=Qnm (ac6 x gk);obtain⟨re,lF⟩:=Qnm (acj x gk);rw[<-lJ, <-NK]at o9 o8;rw[<-lm, <-lF]at im ii;obtain⟨o,r⟩:=rr;unfold ahT at im ii;have ut:=Zd yv;clear lJ NK lm lF jt yv;go_wp2;rw[<-rD];clear rD;obtain⟨bx,H_⟩:=Qnm Y1.heap.size;rw[<-H_]at Ia⊢;clear H_;refine o9.out.mono ?_;rintro e Y3 ⟨sa,sc,rfl,oc,et⟩;have jp:=bU rE oc;have l:∀ {p:Addr} {v:Zf},V.cell? p=some v->Y3.cell? p=some v:=λh=>(jp.cell (ZH _ _ h)).trans h;have td:=l x0;have tb:=l x1;have j2:=l x2;have j3:=l x3;have s8:=l x4;go_wp2;refine(o8.out _ jp).mono ?_;rintro e Y4 ⟨ta,ow,rfl,gn,kv⟩;clear td tb j2 j3 s8 l;have nm:=bU jp gn;have gj:=bU oc gn;have Ks:=(gj.block _ (Za.1 Ia).1).trans Ia;have un:=Zd ((et.later gn).imp (T:=λy=>y<Y4.heap.size) λy s=>by have:=s.2;have:=gn.size;show y<_;omega);have tn:=Zd (kv.imp (T:=λy=>y<Y4.heap.size) λy s=>s.2);clear et kv;have l:∀ {p:Addr} {v:Zf},V.cell? p=some v->Y4.cell? p=some v:=λh=>(nm.cell (ZH _ _ h)).trans h;obtain⟨s0,s1,s2,s3,s4⟩:=Qz5 Ks;have z5:=λp=>Al p (l lH);clear l;go_wp2;refine abq (S:=λW=>∃p,W=calm Y4 p) 12 [] (.fork 5 (.free 6 (.free 7 (.free 8 (.one 9 (.one 10 (.one 11 .leaf)))))) 9 (.one 5 (.free 6 (.free 7 (.free 8 (.one 10 (.one 11 .leaf))))))) [0,1,2,3,4] k! (λ_ _ d _ _ h=>by cases d<;>exact h) k! (AL (Zh _ _).drew) ?_;refine A4 _ _ k! ?_;simp only[Z6,zd,ZG,ZD,ZC]
   repeat (first|go_big_quiet_step (fail)|quiet_step (fail))
   refine Z4 ?_;clear s0 s1 s2 s3 s4 z5;change abx _ _ _ _ _ _ _ _;have jn:YH Y4 Y4 Y4.drew:=(Zh _ _).drew;refine adg ?hP ?hQ
   case' hP=>
    refine abI (f:=12) (args:= #[.agg (Qe6 x M n1 L n2 J n3 I n4 H n5),.int .i64 gk]) rfl rfl g! ((im.out _ (bU gj jn)).mono ?_);rintro e YB ⟨rfl,rA⟩;have G:=bU jn rA;have a:∃p,YB=calm Y4 p:=AL G;refine .inl ⟨_,rfl,.inr a,?_⟩;refine aby (v:=.tuple #[.agg #[.int .i64 o,.int .i64 r],.int .i64 re]) a rfl rfl (λw _=>g!) ?_;refine aby (v:=.agg #[.int .i64 o,.int .i64 r]) a rfl rfl (λw _=>g!) ?_;refine aby (v:=.int .i64 re) a rfl rfl (λw _=>g!) ?_;obtain⟨YC,ed⟩:=Qnm (YB.alloc (.cells #[.int .i64 0,.int .i64 0] 40));have fK:Qb6 YB YC:=by rw[ed];exact bA (Zh _ _)
    have u:YC.heap[YB.heap.size]?=some (.cells #[.int .i64 0,.int .i64 0] 40 (0,0)):=by rw[ed];exact Bp _ _
    have fJ:=bU G fK;refine abo (v:=.pointer YB) (w':=YC) rfl rfl (by rw[ed];go_simp) (.inr (AL fJ)) ?_;have ci:Y4<=YB.heap.size:=G.size;clear ed a;obtain⟨ba,ai⟩:=Qnm YB.heap.size;rw[<-ai]at u ci⊢;clear ai
   case' hQ=>
    obtain⟨YB,fd⟩:=Qnm (Y4.drew.alloc (.cells #[.int .i64 0,.int .i64 0] 40));have G:Qb6 Y4 YB:=by rw[fd];exact bA jn
    have u:YB.heap[Y4.heap.size]?=some (.cells #[.int .i64 0,.int .i64 0] 40 (0,0)):=by rw[fd];exact Bp Y4.drew _
    refine abo (v:=.pointer Y4) (w':=YB) rfl rfl (by rw[fd];go_simp) (.inr (AL G)) ?_;refine abI (f:=12) (args:= #[.agg (Qe6 x M n1 L n2 J n3 I n4 H n5),.int .i64 gk]) rfl rfl g! ((im.out _ (bU gj G)).mono ?_);rintro e YC ⟨rfl,fK⟩;have fJ:=bU G fK;have a:∃p,YC=calm Y4 p:=AL fJ;refine .inl ⟨_,rfl,.inr a,?_⟩;refine aby (v:=.tuple #[.agg #[.int .i64 o,.int .i64 r],.int .i64 re]) a rfl rfl (λw _=>g!) ?_;refine aby (v:=.agg #[.int .i64 o,.int .i64 r]) a rfl rfl (λw _=>g!) ?_;refine aby (v:=.int .i64 re) a rfl rfl (λw _=>g!) ?_;have u:=(fK.block _ (Za.1 u).1).trans u;clear fd a;obtain⟨ba,ai⟩:=Qnm Y4.heap.size;have ci:Y4<=ba:=o!
    rw[<-ai]at u⊢;clear ai
   all_goals
    have g0:=ch (i:=0) u (v:=.int .i64 0) rfl;have g1:=ch (i:=1) u (v:=.int .i64 0) rfl;have f0:=cf (i:=0) u;have f1:=cf (i:=1) u;obtain⟨YD,du⟩:=Qnm ((YC.setCell ba (.int .i64 o)).setCell ⟨ba,1,none⟩ (.int .i64 r));have P:Qb6 Y4 YD:=by rw[du];exact bS (bS fJ ci) ci
    have lL:YD.heap[ba]?=some (.cells #[.int .i64 o,.int .i64 r] 40 (0,0)):=by rw[du];exact Ba (Ba u _) _
    refine adR (w':=YD) rfl rfl (by rw[du];go_simp) (.inr (AL P)) ?_;refine abo (v:=.int .i64 re) (w':=YD) rfl rfl g! (.inr (AL P)) ?_;clear du g0 g1 f0 f1 u;unfold abx
    go_simp
    have fI:=bU nm P;have rz:=bU gj P;have ne:=(P.block _ (Za.1 Ks).1).trans Ks;have l:∀ {p:Addr} {v:Zf},V.cell? p=some v->YD.cell? p=some v:=λh=>(fI.cell (ZH _ _ h)).trans h;obtain⟨z0,z1,z2,z3,z4⟩:=Qy5 l x0 x1 x2 x3 x4;have z5:=λp=>Al p (l lH);clear l;go_wp2;refine abq (S:=λW=>∃p,W=calm YD p) 15 [] (.fork 8 (.free 9 (.free 10 (.free 11 (.one 12 (.one 13 (.one 14 .leaf)))))) 12 (.one 8 (.free 9 (.free 10 (.free 11 (.one 13 (.one 14 .leaf))))))) [0,1,2,3,4,5,6,7] k! (λ_ _ d _ _ h=>by cases d<;>exact h) k! (AL (Zh _ _).drew) ?_;refine A4 _ _ k! ?_;simp only[Z6,zd,ZG,ZD,ZC]
    repeat (first|go_big_quiet_step (fail)|quiet_step (fail))
    refine Z4 ?_;clear z0 z1 z2 z3 z4 z5;change abx _ _ _ _ _ _ _ _;have i9:YH YD YD YD.drew:=(Zh _ _).drew;refine adg ?_ ?_;refine abI (f:=13) (args:= #[.agg (Qe6 x b8 e1 bv e2 bi e3 be e4 bc e5),.int .i64 gk]) rfl rfl g! ((ii.out _ (bU fI i9)).mono ?_);rintro e YE ⟨rfl,ry⟩;have F:=bU i9 ry;have a:∃p,YE=calm YD p:=AL F;refine .inl ⟨_,rfl,.inr a,?_⟩;refine aby (v:=.tuple #[.agg #[.int .i64 o,.int .i64 r],.int .i64 re]) a rfl rfl (λw _=>g!) ?_;refine aby (v:=.agg #[.int .i64 o,.int .i64 r]) a rfl rfl (λw _=>g!) ?_;refine aby (v:=.int .i64 re) a rfl rfl (λw _=>g!) ?_;obtain⟨YF,ct⟩:=Qnm (YE.alloc (.cells #[.int .i64 0,.int .i64 0] 40));have fy:Qb6 YE YF:=by rw[ct];exact bA (Zh _ _)
    have t:YF.heap[YE.heap.size]?=some (.cells #[.int .i64 0,.int .i64 0] 40 (0,0)):=by rw[ct];exact Bp _ _
    have fw:=bU F fy;refine abo (v:=.pointer YE) (w':=YF) rfl rfl (by rw[ct];go_simp) (.inr (AL fw)) ?_;have b9:YD<=YE.heap.size:=F.size;clear ct a;obtain⟨ap,ac⟩:=Qnm YE.heap.size;rw[<-ac]at t b9⊢;clear ac
    rotate_left
    obtain⟨YE,dl⟩:=Qnm (YD.drew.alloc (.cells #[.int .i64 0,.int .i64 0] 40));have F:Qb6 YD YE:=by rw[dl];exact bA i9
    have t:YE.heap[YD.heap.size]?=some (.cells #[.int .i64 0,.int .i64 0] 40 (0,0)):=by rw[dl];exact Bp YD.drew _
    refine abo (v:=.pointer YD) (w':=YE) rfl rfl (by rw[dl];go_simp) (.inr (AL F)) ?_;refine abI (f:=13) (args:= #[.agg (Qe6 x b8 e1 bv e2 bi e3 be e4 bc e5),.int .i64 gk]) rfl rfl g! ((ii.out _ (bU fI F)).mono ?_);rintro e YF ⟨rfl,fy⟩;have fw:=bU F fy;have a:∃p,YF=calm YD p:=AL fw;refine .inl ⟨_,rfl,.inr a,?_⟩;refine aby (v:=.tuple #[.agg #[.int .i64 o,.int .i64 r],.int .i64 re]) a rfl rfl (λw _=>g!) ?_;refine aby (v:=.agg #[.int .i64 o,.int .i64 r]) a rfl rfl (λw _=>g!) ?_;refine aby (v:=.int .i64 re) a rfl rfl (λw _=>g!) ?_;have t:=(fy.block _ (Za.1 t).1).trans t;clear dl a;obtain⟨ap,ac⟩:=Qnm YD.heap.size;have b9:YD<=ap:=o!
    rw[<-ac]at t⊢;clear ac
    all_goals
     have g0:=ch (i:=0) t (v:=.int .i64 0) rfl;have g1:=ch (i:=1) t (v:=.int .i64 0) rfl;have f0:=cf (i:=0) t;have f1:=cf (i:=1) t;obtain⟨YG,ck⟩:=Qnm ((YF.setCell ap (.int .i64 o)).setCell ⟨ap,1,none⟩ (.int .i64 r));have E:Qb6 YD YG:=by rw[ck];exact bS (bS fw b9) b9
     have mz:YG.heap[ap]?=some (.cells #[.int .i64 o,.int .i64 r] 40 (0,0)):=by rw[ck];exact Ba (Ba t _) _
     refine adR (w':=YG) rfl rfl (by rw[ck];go_simp) (.inr (AL E)) ?_;refine abo (v:=.int .i64 re) (w':=YG) rfl rfl g! (.inr (AL E)) ?_;clear ck g0 g1 f0 f1 t;unfold abx
     go_simp
     have fu:=bU fI E;have my:=bU rz E;have fm:=bU P E;have se:=(E.block _ (Za.1 ne).1).trans ne;have mx:=(E.block _ (Za.1 lL).1).trans lL;have mw:RC (λy=>y<YG.heap.size) YG (.slice M x.base.length n1) (.slice L x.Af.length n2) (.slice J x.hooks.length n3) (.slice I x.Aa.length n4) (.slice H x.now.length n5) x:=(ut.out.later my).imp λy s=>Zl s my.size;have n7:RC (λy=>y<YG.heap.size) YG (.slice b8 x.base.length e1) (.slice bv x.Af.length e2) (.slice bi x.hooks.length e3) (.slice be x.Aa.length e4) (.slice bc x.now.length e5) x:=(us.out.later fu).imp λy s=>Zl s fu.size;have li:SL (λy=>y<YG.heap.size) YG (.slice sa sl.length sc) sl:=(un.out.later fm).imp λy s=>Zl s fm.size;have ka:SL (λy=>y<YG.heap.size) YG (.slice ta sl.length ow) sl:=(tn.out.later fm).imp λy s=>Zl s fm.size;have Y:∀W,Qb6 YG W->∀y,y<YG.heap.size->y<W.heap.size:=λW z y s=>Zl s z.size;have pi:=Zd (λW (z:Qb6 YG W)=>c36 (mw.later z) (n7.later z) (Y W z) (Y W z));have pd:=Zd (λW (z:Qb6 YG W)=>show Calls Lp 14 #[.slice sa sl.length sc,.slice ta sl.length ow] W λe w'=>e=.returned (.bool true)/\Qb6 W w' from by
      have:=c37 (li.later z) (ka.later z) (Y W z) (Y W z);rwa[show O' sl sl=true from decide_eq_true rfl]at this)
     have l:∀ {p:Addr} {v:Zf},V.cell? p=some v->YG.cell? p=some v:=λh=>(fu.cell (ZH _ _ h)).trans h;obtain⟨z0,z1,z2,z3,z4⟩:=Qy5 l x0 x1 x2 x3 x4;obtain⟨s0,s1,s2,s3,s4⟩:=Qz5 se;have t0:=λp=>Al p (ch (i:=0) mx (v:=.int .i64 o) rfl);have t1:=λp=>Al p (ch (i:=1) mx (v:=.int .i64 r) rfl);have r0:=λp=>Al p (ch (i:=0) mz (v:=.int .i64 o) rfl);have r1:=λp=>Al p (ch (i:=1) mz (v:=.int .i64 r) rfl);have AI:=q80;have AC:=g80;clear l Y li ka mw n7;go_wp2;refine Av k! k! ?_
     repeat (first|go_big_quiet_step ((first|(go_at_call 15;exact AV (pi.out _ (AE _ _)))|(go_at_call 14;exact AV (pd.out _ (AE _ _)))))|quiet_step ((first|(go_at_call 15;exact AV (pi.out _ (AE _ _)))|(go_at_call 14;exact AV (pd.out _ (AE _ _))))))
     refine Z4 ?_;rintro _ ⟨p,rfl⟩;have yw:=AE YG p;obtain⟨YH,lK⟩:=Qnm (calm YG p);rw[<-lK]at yw⊢;clear lK z0 z1 z2 z3 z4 s0 s1 s2 s3 s4 t0 t1 r0 r1;have rx:=bU O (bU fu yw);go_wp2;go_roundg (4 - (k+1))
     case rel=>exact⟨k+1,Az,rfl,v!,rx⟩
     omega
  have Lc:=bU no O;have rq:=ru.later O;go_wp2_with (go_at_call 5;refine(c26 _ rq).mono ?_;rintro e V ⟨Ui,rfl|⟨x,rfl,Ss⟩⟩)
  .go_ret
   exact⟨bU Lc Ui,.inl rfl⟩
  exact⟨rfl,bU Lc Ui,.inr ⟨_,rfl,Ss⟩⟩
end Go.Proofs.Fit
namespace Go.Proofs.YtadefjklgcgoiaaGreatDoor
open Go Go.Conc Go.RowKit Go.Proofs.Fit
set_option maxRecDepth 100000
def afJ:(Rows.seamSettingsRow.inPlace==Tryz.prog.inPlace 3)=true:=k!
def adK:(Rows.seamSettingsRow.unfollowed==Tryz.prog.unfollowed 3)=true:=k!
def af7:(Rows.seamSettingsRow.recurses==Tryz.prog.recurses 3)=true:=k!
def aih:(Rows.seamSettingsRow.named==Tryz.prog.varsNamed 3)=true:=k!
def aii:joinedFacts Zc 3 Tryz.f3 Rows.seamSettingsSpec Rows.seamSettingsRow=true:=
 kQ k! k! k! k! k! afJ adK af7 aih k! k! k! k! k! k! k! k! k! rfl rfl rfl rfl rfl rfl k! k! k!
def ahu (os:Os)(a:os.Started)(H:Type)(enc:Zs×Zf->H):ReturnsInLeavingWide {} Tryz.checked os 3 .any (λw args=>(Rows.seamSettingsSpec.pre enc Zc Tryz.f3 [] false w args/\laidMetH Zc PT w)/\sizedMet enc Zc Tryz.f3 (ZbV Rows.seamSettingsSpec) false w args)
   (Rows.seamSettingsSpec.post enc Zc Tryz.f3 false true false false):=
 eO (s:=Rows.seamSettingsSpec) a rfl rfl Tryz.func3 rfl rfl k! k! rfl k! (λf h=>by
    match f,h with
    | [_,_,_],_=>rfl)
   (ChangeSpec.witness_shaped (enc:=enc) (C:=Tryz.checked) (os:=os) (X:=λw _=>laidMetH Zc PT w) false (Vg os) #[.agg #[(),(),(),(),()],.int .i64 0,()] 8 rfl (World.shaped_of_RefB k! k!) k! k! k! (Ub os _))
   (λW base args f q b j _ d=>ag8 rfl b j d λw p o n m l k c g e h i d=>akl h i d)
def akH:Rows.SeamSettingsSaid:=
 OpenClaim.holds_of_wide_leaving 3 Tryz.f3 rfl rfl rfl rfl rfl rfl rfl ⟨rfl,rfl,rfl,rfl,rfl⟩ rfl rfl rfl rfl rfl k! Tryz.func3 aii
  (of_decide_eq_true k!) (by unfold Func.isWrapper;rw[if_neg (by decide+kernel)];exact⟨rfl,rfl⟩) (λc a H b _=>ahu c a H b)
def ajA:true=Rows.seamSettingsRow.goesBy Tryz.pinned.checked.prog:=k!
theorem settings_holds:Rows.SeamSettingsCardSaid:=
 kM [.handle] (true,"393a99976d99f03c7095e21ed558cf07369aab0dd98afa9b6934cd35f330a753") akH k! (OpenClaim.laidByTextAt_later rfl rfl qd abD) rfl ⟨rfl,rfl⟩ uI
  (λf fn c d=>by
   obtain rfl:f=3:=ZW ((show Tryz.prog.funcNamed "galloon/galloonlaw02.SeamSettings" =some 3 by kernel_rfl).symm.trans c)|>.symm;obtain rfl:fn=Tryz.f3:=(ZW (Tryz.func3.symm.trans d)).symm;exact⟨abE,λj t a=>by
    have b:t∈ [26,3,22]:=by simpa using zY a
    have e:([26,3,22].all λu=> !Tryz.prog.wantsStandIn u)=true:=k!
    exact(show Tryz.prog.wantsStandIn t=false by simpa using Zdm.1 e t b)⟩)
  ajA
#print axioms settings_holds
end Go.Proofs.YtadefjklgcgoiaaGreatDoor
