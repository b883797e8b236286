/- SeamSames: for all arguments of the row's types, on every schedule and without a data race, the law returns true, and the arguments read afterwards as they read before. Conditions: those of the given row alone (the variable errors.errorType starts as the program's text lays it; the card ties that to the text). -/
import Derived.Test.YtbhpocnedbajlaaGreatDoorQ08
import Derived.Test.YtbhpocnedbajlaaGreatDoorQ11
import Derived.Test.YtbhpocnedbajlaaGreatDoorQ10b
import Derived.Lib.MinMax
import Derived.Sort.QuietIn
set_option maxRecDepth 100000
set_option maxHeartbeats 6400000
noncomputable section
set_option linter.all false
open And renaming intro->ZY
open Array renaming getElem?_eq_some_iff->Za,toList_setIfInBounds->ZcM,replicate->Yu,replicate_succ->ZaN,replicate_zero->ZaM,getElem?_eq_getElem->Zx,mem_of_getElem?->zY
open Bool renaming and_eq_true->ZF,eq_iff_iff->ZcG
open Function renaming comp_def->ZdQ
open Go renaming Value->Zf,World->Zb,callFunc->Zz,TypeId->Zs,Program->Zo,FuncId->ZaQ,Operand->Zbv,below_drewN->Y5,wpQuiet_nil->Z4,YieldsIf->ZbF,wpOp_mono->Zcc,wp_region_any->Zd5,execOp->Zby,undef->Ze,info_parts->zp,run_underlying->Y9,wpList_append_own->Yc,storeCells->ZbX,resolve->Zbh,wp_append_own->Zak,callsIn_wide->Zcx,ownsRow_succ->Zay,bodyPost_ret->ZN
open Go.Act renaming put->Zck
open Go.Addr renaming add->Zcu
open Go.Builtin renaming append_->Zao,firstCells->Zu,lenOf->ZcX
open Go.Calls renaming quiet_of_same->Zb5
open Go.Code renaming region->zU
open Go.DataW renaming TrodAll->Za9
open Go.Fence renaming wide->ZbC
open Go.Instr renaming checkKey->YD,keyThatStays->Yi,sameBits->zH,findKey->Zaj,findNow->ZaJ,findAsking->zX,sameNow->Zbj,mapEntry->ZcK,entryStore->Zch,lookup->Za2,makeSlice->Zdp,slice->ZbI
open Go.IntKind renaming wrap_i64->zE
open Go.Lib renaming hid->Zd
open Go.Obj renaming cells->Zbi
open Go.Op renaming equal->Zaa,equalIn->ZaZ,stringOp->ZcJ
open Go.OpenSpec renaming ofChange->ZbV
open Go.Oper renaming semAt_some->Zdk,wp->ZbA,upon_value->Zdi,upon_enter->Zdj,upon_skip->ZcQ
open Go.Proofs.Tryz renaming prog->Zc,underlying22->YE,underlying34->zW,underlying23->Zdg
open Go.Region renaming Mode->YO,ready->zs,free->Za3,noSelect->YF,wanted->Yf
open Go.Result renaming andThen_ok->Zaw,andThen->zu
open Go.RowKit renaming Below->YH
open Go.RowKit.Below renaming refl->Zh
open Go.Sem renaming run_bind->zg
open Go.Value renaming okWide->Zbk,int->ZL,oneCell'->YT,slice->Zy,pointer->ZbT
open Go.World renaming ownsRow_nil->zq,block_lt_of_cell?->ZH,size_alloc->ZB,ownsRow_made->YC,putObj_heap_same->Zau,putObj_heap_other->zG
open Go.World.ownsRow renaming lt->Zcm
open List renaming getElem?_eq_getElem->zf,mem_of_getElem?->Z3,mem_singleton->Yh,ext_getElem?->YA,getElem?_eq_none->ZP,range->Yr,getD_eq_getElem?_getD->Y6,pairwise_iff_getElem->ZdK,getElem_of_mem->Zas,all_eq_true->Zdm,getElem?_set_self->Ys,getElem?_set_ne->ZS,length_append->ZA,getElem?_append_left->zl,getElem?_eq_some_iff->Zm,length_cons->zb,length_nil->zR,getElem?_concat_length->Y1,drop_eq_getElem_cons->ZO,length_set->ZcC,range'->Zcq,drop_eq_nil_iff->Z7,take_add_one->ZbH,getElem?_map->YL,take_of_length_le->Zb3,getElem?_append_right->Zbr,nil_append->zP,map_toArray->Zcr,append_nil->ZaA,map_append->Zai,getElem?_take_of_lt->Z2,take_zero->ZdB,length_take_le->ZbW,filterMap_cons->Z6,filterMap_nil->zd,getElem?_toArray->ZG,getElem?_cons_succ->ZD,getElem?_cons_zero->ZC,flatMap_append->Zbe,append_assoc->Zae,length_filter_le->Zac,filter_append->ZcW,filter_cons->ZbB,take_length->ZcU,mem_cons_of_mem->zm,mem_cons_self->zC,size_toArray->Zbm,push_toArray->Zbn,append_toArray->Za4,cons_append->Za1,eq_nil_of_length_eq_zero->YM
open Nat renaming zero_le->Zp,not_lt_zero->ZbY,zero_add->zN,le_refl->Zj,le_trans->Zr,reduceAdd->ZaF,pow_le_pow_right->YX,lt_of_lt_of_le->Zl,le_of_eq->ZcS,reduceSub->Zcw
open Option renaming bind_eq_some_iff->ZX
open Option.some renaming inj->ZW
open Std.Legacy.Range renaming forIn_eq_forIn_range'->Zdw
open True renaming intro->Yz
open UInt8 renaming ofNat->Zcn
namespace Go.Proofs.Fit
open Go
@[simp] def Lp.func14:=l! Tryz.func3
@[simp] def Lp.func25:=l! Tryz.func5
@[simp] def Lp.call25:=c! Lp.func25
@[simp] def Lp.call27:=c! Lp.func27
@[simp] def Lp.func28:=l! Tryz.func8
@[simp] def Lp.call28:=c! Lp.func28
@[simp] def Lp.func36:=l! Tryz.func17
@[simp] def Lp.call36:=c! Lp.func36
@[simp] def Lp.func43:=l! Tryz.func46
@[simp] def Lp.call43:=c! Lp.func43
@[simp] def Lp.func50:=l! Tryz.func78
@[simp] def Lp.call50:=c! Lp.func50
@[simp] def Lp.func67:=l! Tryz.func12
@[simp] def Lp.call67:=c! Lp.func67
@[simp] def Lp.func68:=l! Tryz.func13
@[simp] def Lp.call68:=c! Lp.func68
@[simp] def Lp.func70:=l! Tryz.func15
@[simp] def Lp.call70:=c! Lp.func70
@[simp] def Lp.func93:=l! Tryz.func79
@[simp] def Lp.call93:=c! Lp.func93
@[simp] def Lp.func97:=l! Tryz.func47
@[simp] def Lp.call97:=c! Lp.func97
@[simp] def Lp.func107:=l! Tryz.func98
@[simp] def Lp.call107:=c! Lp.func107
@[simp] def Lp.func114:=l! Tryz.func42
@[simp] def Lp.call114:=c! Lp.func114
@[simp] def Lp.func115:=l! Tryz.func45
@[simp] def Lp.call115:=c! Lp.func115
@[simp] def Lp.func116:=l! Tryz.func97
@[simp] def Lp.call116:=c! Lp.func116
@[simp] def Lp.func117:=l! Tryz.func99
@[simp] def Lp.call117:=c! Lp.func117
@[simp] def Lp.func118:=l! Tryz.func100
@[simp] def Lp.call118:=c! Lp.func118
@[simp] def Lp.func130:=l! Tryz.func41
@[simp] def Lp.call130:=c! Lp.func130
@[simp] def Lp.func131:=l! Tryz.func43
@[simp] def Lp.call131:=c! Lp.func131
@[simp] def Lp.func132:=l! Tryz.func44
@[simp] def Lp.call132:=c! Lp.func132
@[simp] def Lp.func135:=l! Tryz.func101
@[simp] def Lp.call135:=c! Lp.func135
@[simp] def Lp.func160:=l! Tryz.func127
@[simp] def Lp.call160:=c! Lp.func160
end Go.Proofs.Fit
namespace Go.Proofs.Fit
open Go Go.Conc Go.FA Go.RowKit
variable {W w A B w1 w' W3:Zb}
variable {n k b i g cap j clk st q rb c2 adx cc M:Nat}
variable {v v1 v2 v3 v4 v5 v' u2 u1 u4 u5 u v6 lv:Zf}
def aeI {a:Addr}{c:Nat}(h:W.cell? (a.add k)=some v):VR (Qk W) (.slice (some a) n c) (.slice (some a) n c):=by
 obtain⟨_,_,_,b⟩:=Sp h;rw[CF]at b;exact .slice n c ⟨pA b,rfl,rfl⟩
end Go.Proofs.Fit
namespace Go.Proofs.Fit
open Go
def n14:Tryz.f3.ntmps=135:=rfl
def n25:Tryz.f5.ntmps=57:=rfl
def n28:Tryz.f8.ntmps=63:=rfl
def n36:Tryz.f17.ntmps=64:=rfl
def n43:Tryz.f46.ntmps=26:=rfl
def n50:Tryz.f78.ntmps=50:=rfl
def n67:Tryz.f12.ntmps=51:=rfl
def n68:Tryz.f13.ntmps=51:=rfl
def n70:Tryz.f15.ntmps=56:=rfl
def n93:Tryz.f79.ntmps=42:=rfl
def n97:Tryz.f47.ntmps=60:=rfl
def alv:Tryz.f98.ntmps=10:=rfl
def alw:Tryz.f42.ntmps=14:=rfl
def alE:Tryz.f45.ntmps=58:=rfl
def alH:Tryz.f97.ntmps=94:=rfl
def alL:Tryz.f99.ntmps=84:=rfl
def alO:Tryz.f100.ntmps=60:=rfl
def ajC:Tryz.f41.ntmps=26:=rfl
def ajD:Tryz.f43.ntmps=44:=rfl
def alR:Tryz.f44.ntmps=21:=rfl
def am4:Tryz.f101.ntmps=15:=rfl
def am5:Tryz.f127.ntmps=57:=rfl
end Go.Proofs.Fit
namespace Go.Proofs.Fit
open Go Go.RowKit
variable {H:Type}
variable {W w A B w1 w' W3:Zb}
variable {t e:Zs}
def adk {enc:Zs×Zf->H}{P:Zo}{base:Nat}{c:Nat->Bool}{d:Bool}{f0 e:Field}(ht:P.underlying t=some (.struct #[f0,e]))(x:P.cellsOf t=2)(A:P.underlying f0.type=some (.int .i64))(z:P.underlying e.type=some (.int .i64))(D:P.cellsOf f0.type=1)(C:P.cellsOf e.type=1)(q:f0.offset=0)(p:e.offset=1):
  Reads enc P w base c d t Rp:=by
 intro n B y r;obtain⟨o,m,_,_,k,s,l⟩:=DataW.trod_struct ht r;have g:=l 0 f0 rfl;have f:=l 1 e rfl;rw[D,q]at g;rw[C,p]at f;have E:o.length=2:=s;rw[zf o!]at g f;obtain⟨a,j⟩:=kJ A _ _ _ g;obtain⟨b,i⟩:=kJ z _ _ _ f;rw[x]at k
 match B,k with
 | [u,v],_=>
  unfold Ri at j i;simp at j i;exact⟨(a,b),by unfold Rp;rw[j,i]⟩
end Go.Proofs.Fit
namespace Go.Proofs.Fit
open Go Go.Conc Go.FA Go.ChangeShapes Go.WideShapes Go.RowKit
set_option maxRecDepth 100000
def Nr (w:Zb)(v:Zf):Prop:=(∃n c,v=.slice none n c)\/(∃a,v=.slice (some a) 0 0)\/∃a n c k u,v=.slice (some a) n c/\w.cell? (a.add k)=some u
variable {W w A B w1 w' W3:Zb}
variable {v v1 v2 v3 v4 v5 v' u2 u1 u4 u5 u v6 lv:Zf}
def Nr.aa0 (h:Nr W v):VR (Qk W) v v:=by
 rcases h with⟨n,c,rfl⟩|⟨a,rfl⟩|⟨a,n,c,k,u,rfl,h⟩
 .exact .slice (a:=none) n c trivial
 .exact .void _ _
 exact aeI h
section
variable {H:Type}{enc:Zs×Zf->H}{P:Zo}{w:Zb}{base:Nat}{held:Bool}{α:Type}
variable {t e:Zs}
variable {n k b i g cap j clk st q rb c2 adx cc M:Nat}
def reads_held {R:Zb->List Zf->α->Prop}(ht:P.underlying t=some (.slice e))(r:P.cellsOf e=k)(hp:0<k)(h:Reads enc P w base (λ_=>true) held e R):
  Reads enc P w base (λ_=>true) held t (λw cs (l:List α)=>∃v,cs=[v]/\Sl (Lv w) R k w v l/\Nr w v):=by
 intro n cs y j;obtain⟨l,v,rfl,q⟩:=bW ht r hp h n cs y j;refine⟨l,v,rfl,q,?_⟩;rcases DataW.trod_slice ht j with⟨e,_⟩|⟨a,b,cap,f,g,o,_,e,_,_,p,_,m,c,x,_⟩
 .cases e;exact .inl ⟨_,_,rfl⟩
 cases e;by_cases u:cap=0
 .obtain rfl:b=0:=by omega
  subst u;exact .inr (.inl ⟨_,rfl⟩)
 have go:∀i:Nat,(∃y,(w.cells? base (a.add (i*P.cellsOf e)) (P.cellsOf e)).bind (DataW.trod enc P w base (λ_=>true) held o e)=some y)->Nr w (.slice (some a) b cap):=λi ⟨y,h⟩=>by
  obtain⟨C,d,_⟩:=ZX.1 h;obtain⟨A,s⟩:=bR d;have:=s 0 _ (zf o!);rw[Addr.add_zero']at this;exact .inr (.inr ⟨a,b,cap,_,_,rfl,this⟩)
 by_cases z:b=0
 .obtain⟨B,d⟩:=x rfl
  exact go (b+0) ⟨_,(d 0 o!).trans (zf o!)⟩
 exact go 0 ⟨_,(c 0 o!).trans (zf o!)⟩
end
def RsH (w:Zb)(cs:List Zf)(s:Ay):Prop:=∃v2 v3,cs=[.int .i64 s.low,.int .i64 s.high,v2,v3,.int .i64 s.left]/\SP (Lv w) w v2 s.Ap/\SI (Lv w) w v3 s.over/\Nr w v2/\Nr w v3
section
variable {H:Type}{enc:Zs×Zf->H}{w:Zb}{base:Nat}{held:Bool}
def ahO:Tryz.prog.cellsOf 3=1:=k!
def afc:Tryz.prog.cellsOf 22=1:=k!
def ajE:Tryz.prog.cellsOf 23=1:=k!
def ajF:Tryz.prog.cellsOf 24=1:=k!
def ajG:Tryz.prog.cellsOf 47=1:=k!
def aia:Tryz.prog.cellsOf 49=5:=k!
def ajH:Tryz.prog.cellsOf 26=5:=k!
def adg:Reads enc Zc w base (λ_=>true) held 3 Ri:=kJ k!
def abI:Reads enc Zc w base (λ_=>true) held 22 (λw cs (l:List Int)=>∃v,cs=[v]/\SI (Lv w) w v l/\Nr w v):=
 reads_held (t:=22) (e:=3) k! ahO d! adg
def adQ:Reads enc Zc w base (λ_=>true) held 47 (λw cs (l:List (Int×Int))=>∃v,cs=[v]/\SP (Lv w) w v l/\Nr w v):=
 reads_held (t:=47) (e:=101) k! k! d! (adk Tryz.underlying101 k! k! k! k! k! rfl rfl)
def adR:Reads enc Zc w base (λ_=>true) held 23 (λw cs (l:List (Int×Int))=>∃v,cs=[v]/\SP (Lv w) w v l/\Nr w v):=
 reads_held (t:=23) (e:=53) k! k! d! (adk Tryz.underlying53 k! k! k! k! k! rfl rfl)
def aeJ:Reads enc Zc w base (λ_=>true) held 49 RsH:=by
 intro n b y t;obtain⟨a,m,_,_,o,u,c⟩:=DataW.trod_struct Tryz.underlying49 t;have E:a.length=5:=u;have l:DataW.trod enc Zc w base (λ_=>true) held m 3 ((b.drop 0).take (Tryz.prog.cellsOf 3))=a[0]? :=c 0 _ rfl;have k:DataW.trod enc Zc w base (λ_=>true) held m 3 ((b.drop 1).take (Tryz.prog.cellsOf 3))=a[1]? :=c 1 _ rfl;have j:DataW.trod enc Zc w base (λ_=>true) held m 47 ((b.drop 2).take (Tryz.prog.cellsOf 47))=a[2]? :=c 2 _ rfl;have i:DataW.trod enc Zc w base (λ_=>true) held m 22 ((b.drop 3).take (Tryz.prog.cellsOf 22))=a[3]? :=c 3 _ rfl;have g:DataW.trod enc Zc w base (λ_=>true) held m 3 ((b.drop 4).take (Tryz.prog.cellsOf 3))=a[4]? :=c 4 _ rfl;rw[ahO,zf o!]at l;rw[ahO,zf o!]at k;rw[ajG,zf o!]at j;rw[afc,zf o!]at i;rw[ahO,zf o!]at g;rw[aia]at o;obtain⟨D,f⟩:=adg _ _ _ l;obtain⟨C,e⟩:=adg _ _ _ k;obtain⟨B,x⟩:=adQ _ _ _ j;obtain⟨A,v⟩:=abI _ _ _ i;obtain⟨z,d⟩:=adg _ _ _ g
 match b,o with
 | [u0,u1,u2,u3,u4],_=>
  unfold Ri at f e d;obtain⟨v2,q,s,d2⟩:=x;obtain⟨v3,p,r,d3⟩:=v;simp at f e q p d;exact⟨⟨D,C,B,A,z⟩,v2,v3,by rw[f,e,d,q,p],s,r,d2,d3⟩
def adT:Reads enc Zc w base (λ_=>true) held 24 (λw cs (l:List Ay)=>∃v,cs=[v]/\Sl (Lv w) RsH 5 w v l/\Nr w v):=
 reads_held (t:=24) (e:=49) k! aia d! aeJ
structure InC (w:Zb)(v1 v2 v3 v4 v5:Zf)(c:A_):Prop where
 base:SI (Lv w) w v1 c.base/\Nr w v1
 Af:SP (Lv w) w v2 c.Af/\Nr w v2
 hooks:SI (Lv w) w v3 c.hooks/\Nr w v3
 Aa:Sl (Lv w) RsH 5 w v4 c.Aa/\Nr w v4
 now:SI (Lv w) w v5 c.now/\Nr w v5
def adv:Reads enc Zc w base (λ_=>true) held 26 (λw cs (c:A_)=>∃v1 v2 v3 v4 v5,cs=[v1,v2,v3,v4,v5]/\InC w v1 v2 v3 v4 v5 c):=by
 intro n cs y s;obtain⟨a,m,_,_,j,t,b⟩:=DataW.trod_struct Tryz.underlying26 s;have G:a.length=5:=t;have i:DataW.trod enc Zc w base (λ_=>true) held m 22 ((cs.drop 0).take (Tryz.prog.cellsOf 22))=a[0]? :=b 0 _ rfl;have g:DataW.trod enc Zc w base (λ_=>true) held m 23 ((cs.drop 1).take (Tryz.prog.cellsOf 23))=a[1]? :=b 1 _ rfl;have f:DataW.trod enc Zc w base (λ_=>true) held m 22 ((cs.drop 2).take (Tryz.prog.cellsOf 22))=a[2]? :=b 2 _ rfl;have e:DataW.trod enc Zc w base (λ_=>true) held m 24 ((cs.drop 3).take (Tryz.prog.cellsOf 24))=a[3]? :=b 3 _ rfl;have d:DataW.trod enc Zc w base (λ_=>true) held m 22 ((cs.drop 4).take (Tryz.prog.cellsOf 22))=a[4]? :=b 4 _ rfl;rw[afc,zf o!]at i;rw[ajE,zf o!]at g;rw[afc,zf o!]at f;rw[ajF,zf o!]at e;rw[afc,zf o!]at d;rw[ajH]at j;obtain⟨F,r,q,A⟩:=abI _ _ _ i;obtain⟨E,v1,p,z⟩:=adR _ _ _ g;obtain⟨D,v2,o,x⟩:=abI _ _ _ f;obtain⟨C,v3,l,v⟩:=adT _ _ _ e;obtain⟨B,v4,k,u⟩:=abI _ _ _ d
 match cs,j with
 | [u0,u1,u2,u3,u4],_=>
  simp at q p o l k;exact⟨⟨F,E,D,C,B⟩,r,v1,v2,v3,v4,by rw[q,p,o,l,k],A,z,x,v,u⟩
end
variable {n k b i g cap j clk st q rb c2 adx cc M:Nat}
def Sl.left {d:Type}{t:Tape}{R R':Zb->List Zf->d->Prop}{l:List d}(h:Sl (Lv W) R k W v l)(n:∀cs x,R W cs x->(∀u∈cs,VR (Qk W) u u)/\R' (tp (BD W) t) cs x):Sl (Lv (tp (BD W) t)) R' k (tp (BD W) t) v l:=by
 obtain⟨a,c,s,r,q,p⟩:=h;refine⟨a,c,s,r,q,λi x m=>?_⟩;obtain⟨b,o,cs,B,A,z,y,w⟩:=p i x m;obtain⟨g,f⟩:=n _ _ w;refine⟨b,o,cs,B,?_,z,λj u e=>?_,f⟩
 .show b<(BD W).heap.size
  rw[ej];exact A
 exact SJ (y j u e) (g u (Z3 e))
variable {l x nums:List Int}
def acZ {t:Tape}(h:SI (Lv W) W v l):SI (Lv (tp (BD W) t)) (tp (BD W) t) v l:=Sl.left h λc x a=>by
 unfold Ri at a;subst a;exact⟨λu b=>by obtain rfl:=Yh.1 b;exact .int _ _,rfl⟩
def agc {t:Tape}{l:List (Int×Int)}(h:SP (Lv W) W v l):SP (Lv (tp (BD W) t)) (tp (BD W) t) v l:=Sl.left h λc x a=>by
 unfold Rp at a;subst a;exact⟨λu b=>by simp at b;rcases b with rfl|rfl<;>exact .int _ _,rfl⟩
def aio {t:Tape}{l:List Ay}(h:Sl (Lv W) RsH 5 W v l):SS (Lv (tp (BD W) t)) (tp (BD W) t) v l:=Sl.left h λe x d=>by
 obtain⟨v2,v3,rfl,c,b,d2,d3⟩:=d;refine⟨λu a=>?_,v2,v3,rfl,agc c,acZ b⟩;simp at a;rcases a with rfl|rfl|rfl|rfl|rfl
 .exact .int _ _
 .exact .int _ _
 .exact d2.aa0
 .exact d3.aa0
 exact .int _ _
variable {c:A_}
def InC.left (t:Tape)(h:InC W v1 v2 v3 v4 v5 c):RC (Lv (tp (BD W) t)) (tp (BD W) t) v1 v2 v3 v4 v5 c:=
 ⟨acZ h.base.1,agc h.Af.1,acZ h.hooks.1,aio h.Aa.1,acZ h.now.1⟩
def InC.aa0 {W:Zb}{v1 v2 v3 v4 v5:Zf}{c:A_}(h:InC W v1 v2 v3 v4 v5 c):VR (Qk W) (.agg #[v1,v2,v3,v4,v5]) (.agg #[v1,v2,v3,v4,v5]):=by
 refine .P6 ⟨rfl,λi x y b a=>?_⟩
 match i,b,a with
 |0,b,a=>cases b;cases a;exact h.base.2.aa0
 |1,b,a=>cases b;cases a;exact h.Af.2.aa0
 |2,b,a=>cases b;cases a;exact h.hooks.2.aa0
 |3,b,a=>cases b;cases a;exact h.Aa.2.aa0
 |4,b,a=>cases b;cases a;exact h.now.2.aa0
section
variable {H:Type}{enc:Zs×Zf->H}{W:Zb}
variable {ps:List MemPlace}
def aeM {base:Nat}{d:DataW H}(ok:Zbk Zc W .any base 26 v)(h:DataW.Trod enc Zc W 0 (λ_=>true) true 26 v d ps):∃v1 v2 v3 v4 v5 c,v=.agg #[v1,v2,v3,v4,v5]/\InC W v1 v2 v3 v4 v5 c:=by
 obtain⟨a,rfl,_⟩:=okWide_struct Tryz.underlying26 ok;obtain⟨n,b⟩:=h;obtain⟨c,v1,v2,v3,v4,v5,e,f⟩:=adv n _ _ b;refine⟨v1,v2,v3,v4,v5,c,?_,f⟩;have:a.toList=[v1,v2,v3,v4,v5]:=e;rw[<-Array.toList_inj.1 (show a.toList= #[v1,v2,v3,v4,v5].toList from this)]
def adU {base:Nat}{d:DataW H}(ok:Zbk Zc W .any base 22 v)(h:DataW.Trod enc Zc W 0 (λ_=>true) true 22 v d ps):∃l,SI (Lv W) W v l/\Nr W v:=by
 obtain⟨a,n,c,rfl⟩:=okWide_slice (t:=22) YE ok;obtain⟨n,f⟩:=h;obtain⟨l,u,e,b⟩:=abI n _ _ f;cases e;exact⟨l,b⟩
end
set_option maxRecDepth 100000
variable {H:Type}
variable {args cs:Array Zf}
variable {ps:List MemPlace}
def trodAll_three {enc:Zs×Zf->H}{j i g:Zs}{C:List (DataW H)}(h:Za9 enc Zc W 0 (λ_=>true) true [j,i,g] args.toList C ps):
  ∃x y z d1 d2 d3 e d c,args= #[x,y,z]/\DataW.Trod enc Zc W 0 (λ_=>true) true j x d1 e/\DataW.Trod enc Zc W 0 (λ_=>true) true i y d2 d/\DataW.Trod enc Zc W 0 (λ_=>true) true g z d3 c:=by
 obtain⟨x,m,d1,B,e,F,w,_,_,s,r⟩:=trodAll_cons h;obtain⟨y,k,d2,A,d,E,v,_,_,q,p⟩:=trodAll_cons r;obtain⟨z,b,d3,f,c,D,u,_,_,o,n⟩:=trodAll_cons p;have t:b=[]:=by
  cases b with
  |nil=>rfl
  |cons a l=>cases f<;>exact(show False from n).elim
 subst t u v;exact⟨x,y,z,d1,d2,d3,e,d,c,by rw[<-Array.toList_inj.1 (show args.toList= #[x,y,z].toList from w)],s,q,o⟩
def afk {ρ:Ren}{x y z:Zf}(e:VR ρ x x)(d:VR ρ y y)(c:VR ρ z z):BS ρ #[x,y,z] #[x,y,z]:=⟨rfl,λi u v b a=>by
 match i,b,a with
 |0,b,a=>cases b;cases a;exact e
 |1,b,a=>cases b;cases a;exact d
 |2,b,a=>cases b;cases a;exact c⟩
variable {f:ZaQ}
def ahP {fn:Func}{base:Nat}{enc:Zs×Zf->H}{s:List (DataW H)}(hp:fn.params= #[26,22,22])
 (a:∀(j:Nat) t v,fn.params[j]?=some t->args[j]?=some v->Zbk Zc W .any base t v) (k:Za9 enc Zc W 0 (λ_=>true) true fn.params.toList args.toList s ps) (o:Jr (BD W))
 (b:∀(w:Zb) (v1 v2 v3 v4 v5 v6 g:Zf) (c:A_) (st nums:List Int),RC (λx=>x<w.heap.size) w v1 v2 v3 v4 v5 c->SI (λx=>x<w.heap.size) w v6 st->SI (λx=>x<w.heap.size) w g nums->Jr w->Calls Lp f #[.agg #[v1,v2,v3,v4,v5],v6,g] w (Two w (.bool true))):
  BS (Qk W) args args/\∀t,Calls Lp f args (tp (BD W) t) (Wr (tp (BD W) t)):=by
 rw[hp]at a k;obtain⟨x,y,z,d1,d2,d3,B,A,u,rfl,r,q,p⟩:=trodAll_three k;obtain⟨v1,v2,v3,v4,v5,c,rfl,i⟩:=aeM (a 0 26 x rfl rfl) r;obtain⟨st,m,l⟩:=adU (a 1 22 y rfl rfl) q;obtain⟨nums,n,d⟩:=adU (a 2 22 z rfl rfl) p;exact⟨afk i.aa0 l.aa0 d.aa0,λt=>(b _ _ _ _ _ _ _ _ _ _ _ (i.left t) (acZ m) (acZ n) o).mono λe w' h=>h⟩
end Go.Proofs.Fit
namespace Go.Proofs.Fit
open Go Go.RowKit
def g80 (w:Zb)(x y:Zbv)(xs a:Array Zf):(eqGuard .neq 53 x y (.agg xs) (.agg a)).run Lp w=.ok () w:=run_eqGuard_agg w _ _ _ _ _ _ k!
def q80 (w:Zb)(a b c d:Int):(binOp .neq 53 (.agg #[.int .i64 a,.int .i64 b]) (.agg #[.int .i64 c,.int .i64 d])).run Lp w=.ok (.bool ((a,b) !=(c,d))) w:=by
 rw[run_neq_struct,run_equalIn_agg (ht:=k!) (hp:=k!)];simp[go_sem];by_cases f:a=c<;>by_cases e:b=d<;>simp[f,e]
def adB (a b:List (Int×Int)):Bool:=decide (a=b)
def afl {a b:List (Int×Int)}(hl:a.length=b.length)(h:∀j,j<a.length->BV a j=BV b j):a=b:=by
 apply YA;intro i;by_cases c:i<a.length
 .rw[EE c,EE o!,h i c]
 rw[ZP o!,ZP o!]
variable {S T:Nat->Prop}
variable {W w A B w1 w' W3:Zb}
variable {v v1 v2 v3 v4 v5 v' u2 u1 u4 u5 u v6 lv:Zf}
def c43 {a b:List (Int×Int)}(A:SP S w v a)(z:SP T w v' b)(C:Ql6 S w)(B:∀b,T b->b<w.heap.size):
  Calls Lp 46 #[v,v'] w λe w'=>e=.returned (.bool (adB a b))/\Qb6 w w':=by
 obtain⟨a1,Y,rfl,R,P⟩:=A.val;obtain⟨Z,X,rfl,Q,O⟩:=z.val;have IX:=DJ;by_cases d:a.length=b.length
 .have t:=Zd d
  clear d;have m:((a.length:Int) !=b.length)=false:=by simp[t.out]
  go_enter Lp.func43,n43;go_wp2;go_loopg [5] a.length (λg i wr=>∃k:Nat,k<=a.length/\g=a.length - k/\i=.int .i64 k/\(∀j,j<k->BV a j=BV b j)/\Qb6 w wr)
  case atStart=>exact⟨0,Zp _,rfl,rfl,λj n=>absurd n (ZbY _),Zh _ _⟩
  obtain⟨k,W,rfl,rfl,G,c⟩:=hrel;have o:=Zd G;clear G;by_cases N:k<a.length
  .have s:k<b.length:=by have:=t.out;omega
   obtain⟨l,y,rfl,E,K,H⟩:=A.at_ N;obtain⟨f,x,rfl,F,J,r⟩:=z.at_ s;rw[<-c.cell (p:=⟨l,y+k*2,none⟩) (C l E)]at K;rw[<-c.cell (p:=⟨l,y+k*2+1,none⟩) (C l E)]at H;rw[<-c.cell (p:=⟨f,x+k*2,none⟩) (B f F)]at J;rw[<-c.cell (p:=⟨f,x+k*2+1,none⟩) (B f F)]at r;have V:(k:Int)<(a.length:Int):=o!
   have U:(k:Int)<(b.length:Int):=o!
   have M:=q80;have L:=g80;go_wp2;go_quiet (fail);go_wp2
   .have q:(((BV a k).fst,(BV a k).snd) !=((BV b k).fst,(BV b k).snd))=true:=by assumption
    go_ret;refine⟨?_,Y5 c _⟩;have:adB a b=false:=by
     unfold adB;refine decide_eq_false λe=>?_;rw[e]at q;simp at q
    rw[this];rfl
   have q:(((BV a k).fst,(BV a k).snd) !=((BV b k).fst,(BV b k).snd))=false:=a!
   have I:BV a k=BV b k:=by simp at q;exact Prod.ext q.1 q.2
   go_roundg (a.length - (k+1))
   case rel=>exact⟨k+1,o!,rfl,v!,λj n=>by
    by_cases e:j=k
    .rw[e];exact I
    exact o.out j o!,Y5 c _⟩
   omega
  have D:adB a b=true:=decide_eq_true (afl t.out λj n=>o.out j o!);have u:=Zd D;clear D o;go_wp2;go_ret;exact⟨by rw[u.out];rfl,c⟩
 have m:((a.length:Int) !=b.length)=true:=j!
 have u:=Zd (show adB a b=false from decide_eq_false λe=>d (by rw[e]));clear d;go_enter Lp.func43,n43;go_wp2;go_ret;exact⟨by rw[u.out];rfl,Zh _ _⟩
def aiJ (l:List Int)(a:List Bool):List Bool:=l.foldl (λo x=>o.set x.toNat true) a
def yn (n:Nat):Nat->List (List Int)->List Bool->List Bool
 |_,[],a=>a
 |i,s::r,a=>yn n (i+1) r (if i=n\/a.getD i false=true then aiJ s a else a)
def iV (n:Nat)(l:List (List Int)):Nat->List Bool->List Bool
 |0,a=>a
 |k+1,a=>iV n l k (yn n 0 l a)
def aaZ (l:List Ay):List (List Int):=l.map (·.over)
def aiK (o:List (List Int))(n:Nat):List Bool:=iV n o o.length (List.replicate o.length false)
def ac4 (l:List Ay)(n:Nat):List Bool:=aiK (aaZ l) n
def rh (ab:Nat->Nat)(i:Nat):List (List Int)->Nat->Nat
 | []=>ab
 |s::r=>rh (HJ ab i s) (i+1) r
def iW (ab:Nat->Nat)(l:List (List Int)):Nat->Nat->Nat
 |0=>ab
 |n+1=>iW (rh ab 0 l) l n
def ri (l:List (List Int)):Nat->Nat:=iW (λ_=>0) l l.length
def adV:∀(l:List Ay) (ab:Nat->Nat) (i:Nat),K6 ab i l=rh ab i (aaZ l)
 | [],_,_=>rfl
 |s::r,ab,i=>adV r (HJ ab i s.over) (i+1)
def adC (l:List Ay):∀(n:Nat) (ab:Nat->Nat),G5 ab l n=iW ab (aaZ l) n
 |0,_=>rfl
 |n+1,ab=>by
  show G5 (K6 ab 0 l) l n=iW (rh ab 0 (aaZ l)) (aaZ l) n;rw[adC l n,adV]
def agd (l:List Ay):Ax l=ri (aaZ l):=by
 unfold Ax ri;rw[adC,show(aaZ l).length=l.length by simp[aaZ]]
def WU (o:List (List Int)):Bool:=(Yr o.length).all λn=>(Yr o.length).all λk=>(aiK o n).getD k false==hasB (ri o n) k
def Lj:List (List Int):=[[],[0],[1],[2],[0,1],[0,2],[1,2],[0,1,2]]
def acD:∀a∈Lj,WU [a.filter (· <1)]=true:=by decide+kernel
def acE:∀a∈Lj,∀b∈Lj,WU [a.filter (· <2),b.filter (· <2)]=true:=by decide+kernel
def acF:∀a∈Lj,∀b∈Lj,∀c∈Lj,WU [a,b,c]=true:=by decide+kernel
variable {l x nums:List Int}
def EM (f:l.Pairwise (· < ·))(e:∀x∈l,0<=x/\x<3):l∈Lj:=by
 have g:∀x:Int,0<=x/\x<3->x=0\/x=1\/x=2:=λx h=>o!
 match l,f,e with
 | [],_,_=>simp[Lj]
 | [a],_,e=>
  rcases g a (e a i!) with rfl|rfl|rfl<;>simp[Lj]
 | [a,b],f,e=>
  have i:a<b:=by simpa using f
  rcases g a (e a i!) with rfl|rfl|rfl<;>rcases g b (e b i!) with rfl|rfl|rfl<;>first|(exfalso;omega)|simp[Lj]
 | [a,b,c],f,e=>
  have i:a<b/\b<c:=by
   simp at f;exact⟨f.1.1,f.2⟩
  have j:=e a i!;have m:=e c i!;obtain rfl:a=0:=o!
  obtain rfl:c=2:=o!
  obtain rfl:b=1:=o!
  simp[Lj]
 |a::b::c::d::r,f,e=>
  exfalso;simp only[List.pairwise_cons]at f;have i:=f.1 b i!;have o:=f.2.1 c i!;have n:=f.2.2.1 d i!;have j:=e a i!;have k:=e d i!;omega
def filter_lt {n:Int}(a:∀x∈l,0<=x/\x<n):l.filter (· <n)=l:=List.filter_eq_self.2 λx h=>by simpa using(a x h).2
def vU {o:List (List Int)}(g:o.length<=3)(e:∀l∈o,l.Pairwise (· < ·))(d:∀l∈o,∀x∈l,0<=x/\x<o.length):WU o=true:=by
 match o,g,e,d with
 | [],_,_,_=>rfl
 | [a],_,e,d=>
  have f:=d a i!;have:=acD a (EM (e a i!) λx h=>by have:=f x h;simp at this;omega);rwa[filter_lt (λx h=>by have:=f x h;simpa using this)]at this
 | [a,b],_,e,d=>
  have f:=d a i!;have i:=d b i!;have:=acE a (EM (e a i!) λx h=>by have:=f x h;simp at this;omega) b (EM (e b i!) λx h=>by have:=i x h;simp at this;omega);rwa[filter_lt (λx h=>by have:=f x h;simpa using this),filter_lt (λx h=>by have:=i x h;simpa using this)]at this
 | [a,b,c],_,e,d=>
  exact acF a (EM (e a i!) λx h=>by have:=d a i! x h;simpa using this) b (EM (e b i!) λx h=>by have:=d b i! x h;simpa using this)
   c (EM (e c i!) λx h=>by have:=d c i! x h;simpa using this)
 |_::_::_::_::_,g,_,_=>simp at g
variable {n k b i g cap j clk st q rb c2 adx cc M:Nat}
def agf {number:Nat}(h:CY (Ed n number l) 0 l=0):l.Pairwise (· < ·)/\∀x∈l,0<=x/\x<n:=by
 have a:∀k (a:k<l.length),(0<=l[k]/\l[k]<n)/\(0<k->nth l (k - 1)<l[k]):=λk a=>by
  have:=Gs h k l[k] (zf a);unfold Ed at this;split at this
  .cases this
  next g=>
  split at this
  .cases this
  next f=>
  refine⟨?_,λs=>?_⟩
  .have:=G' (n:=l[k]) (lo:=0) (hi:=(n:Int) - 1) (by cases e:AD l[k] 0 ((n:Int) - 1);rfl;exact absurd (.inl e) g)
   omega
  exact Int.lt_of_not_ge λb=>f ⟨o!,by rw[zN];exact b⟩
 refine⟨?_,λx o=>?_⟩
 .have step:∀i (hi:i+1<l.length),l[i]<l[i+1]:=λi hi=>by
   have:=(a (i+1) hi).2 (Nat.succ_pos _);simpa[nth,Y6,show i<l.length by omega]using this
  have c:∀d i (hi:i+d+1<l.length),l[i]<l[i+d+1]:=by
   intro d
   induction d with
   |zero=>intro i hi;exact step i hi
   |succ d m=>
    intro i hi;have g:=m i o!;have f:=step (i+d+1) o!;have e:l[i+(d+1)+1]=l[i+d+1+1]:=rfl;rw[e];omega
  rw[ZdK];intro i j hi r p;have:=c (j - i - 1) i o!;have e:l[i+(j - i - 1)+1]' o!=l[j]:=by congr 1;omega
  rwa[e]at this
 obtain⟨k,q,rfl⟩:=Zas o;exact(a k q).1
def afm {l:List Ay}(d:l.length<=3)(h:∀s∈l,s.over.Pairwise (· < ·)/\∀x∈s.over,0<=x/\x<l.length)(f:n<l.length)(e:k<l.length):(ac4 l n).getD k false=hasB (Ax l n) k:=by
 have c:(aaZ l).length=l.length:=by simp[aaZ]
 have:=vU (o:=aaZ l) o! (λo b=>by obtain⟨s,a,rfl⟩:=List.mem_map.1 b;exact(h s a).1)
  (λo b=>by obtain⟨s,a,rfl⟩:=List.mem_map.1 b;rw[c];exact(h s a).2)
 unfold WU at this;rw[Zdm]at this;have:=this n (by rw[List.mem_range];omega);rw[Zdm]at this;have:=this k (by rw[List.mem_range];omega);rw[agd];exact eq_of_beq this
def Qr (n:Nat)(m:Nat->Int):List Int:=(Yr n).map m
def EI (n:Nat)(m:Nat->Int):(Qr n m).length=n:=by simp[Qr]
variable {m:Nat->Int}
def rj (h:i<n):nth (Qr n m) i=m i:=by simp[Qr,nth,h]
def lC (l:List Int):l=Qr l.length (λj=>nth l j):=by
 apply YA;intro i;by_cases h:i<l.length
 .rw[Bn h];simp[Qr,h]
 rw[ZP o!,ZP (by rw[EI];omega)]
def rm (h:i<n)(k b:Int):(Qr n m).set i (m i+b*k)=Qr n (K7 m k ((i:Int),b)):=by
 apply YA;intro j;by_cases c:j<n
 .by_cases a:i=j
  .subst a
   rw[Ys (by rw[EI];exact h)];simp[Qr,c,K7]
  rw[ZS a];simp[Qr,c,K7];omega
 rw[ZP (by simp[EI];omega),ZP (by rw[EI];omega)]
structure MG (w:Zb)(xs:Array Zf)(v:Zf)(n:Nat)(m:Nat->Int)(wr:Zb):Prop where
 below:Qb6 w wr
 box:wr.heap[w.heap.size]?=some (.cells xs 26 (0,0))
 own:Own wr (w+1) v (Qr n m)
def MG.later {wr:Zb}{xs:Array Zf}(h:MG w xs v n m wr)(a:Qb6 wr W):MG w xs v n m W:=
 ⟨h.below.trans (a.mono h.below.size),(a.block _ (Za.1 h.box).1).trans h.box,h.own.later a⟩
def MG.row {wr:Zb}{xs:Array Zf}(h:MG w xs (.slice g n cap) n m wr)(hi:i<n):w+1<=g/\∃a,wr.heap[g]?=some (.cells a 3 (0,0))/\a[i]?=some (.int .i64 (m i)):=by
 obtain⟨l,o,a,e,d,c,k,j,b,f⟩:=h.own.val (by rw[EI];omega);rw[EI]at e;cases e;refine⟨d,a,c,?_⟩;rw[b i (by rw[EI];exact hi),rj hi]
def MG.set {wr:Zb}{xs:Array Zf}(h:MG w xs (.slice g n cap) n m wr)(hi:i<n)(k b:Int):MG w xs (.slice g n cap) n (K7 m k ((i:Int),b)) (wr.setCell ⟨g,i,none⟩ (.int .i64 (m i+b*k))):=by
 obtain⟨p,q,c,e,o,l,j,f,d,a⟩:=h.own.val (by rw[EI];omega);rw[EI]at e;cases e;refine⟨bS h.below o!,(AZ o! _).trans h.box,?_⟩;rw[<-rm hi];exact a i _ (by rw[EI];exact hi)
def bU (h:Qb6 w A)(k:Qb6 A B):Qb6 w B:=h.trans (k.mono h.size)
def g64 (w:Zb)(x y:Zbv)(xs a:Array Zf):(eqGuard .neq 101 x y (.agg xs) (.agg a)).run Lp w=.ok () w:=run_eqGuard_agg w _ _ _ _ _ _ k!
def q64 (w:Zb)(a b:Int):(binOp .neq 101 (.agg #[.int .i64 a,.int .i64 b]) (.agg #[.int .i64 a,.int .i64 b])).run Lp w=.ok (.bool false) w:=by
 rw[run_neq_struct,run_equalIn_agg (ht:=k!) (hp:=k!)];simp[go_sem]
def adD:Ke l l=true:=decide_eq_true rfl
def aeO {l:List (Int×Int)}:adB l l=true:=decide_eq_true rfl
variable {s:Ay}
def c97 {u3:Zf}(hp:SP S w v2 s.Ap)(y:SI S w v3 s.over)(x:SP T w u2 s.Ap)(q:SI T w u3 s.over)(m:Ql6 S w)(l:∀b,T b->b<w.heap.size):
  Calls Lp 47 #[.agg #[.int .i64 s.low,.int .i64 s.high,v2,v3,.int .i64 s.left],.agg #[.int .i64 s.low,.int .i64 s.high,u2,u3,.int .i64 s.left]] w λe w'=>e=.returned (.bool true)/\Qb6 w w':=by
 obtain⟨C,A,rfl,l1,m1⟩:=hp.val;obtain⟨B,c2,rfl,l2,m2⟩:=y.val;obtain⟨X,Q,rfl,l3,m3⟩:=x.val;obtain⟨V,P,rfl,l4,m4⟩:=q.val;have IX:=DJ;have o:YH w w ((w.alloc (.cells #[.int .i64 s.low,.int .i64 s.high,.slice C s.Ap.length A,.slice B s.over.length c2,.int .i64 s.left] 49)).alloc (.cells #[.int .i64 s.low,.int .i64 s.high,.slice X s.Ap.length Q,.slice V s.over.length P,.int .i64 s.left] 49)):=bA (bA (Zh _ _));have z:=Zd (λW (a:Qb6 w W)=>c46 (w:=W) (y.later a) (q.later a) (A3 m a) (A3 l a));rw[adD]at z;go_enter Lp.func97,n97;go_wp2_with (go_at_call 18;refine(z.out _ o).mono ?_;rintro e w1 ⟨rfl,c⟩;have F:=o.trans (c.mono o.size);obtain⟨Z,DR⟩:=bw c;obtain⟨Y,H⟩:=E7 c);have v:=(c.block w j!).trans (Bf (Bp w (.cells #[.int .i64 s.low,.int .i64 s.high,.slice C s.Ap.length A,.slice B s.over.length c2,.int .i64 s.left] 49)) _);have u:=(c.block (w+1) i!).trans (Jq w _ _);have M:=ch (i:=2) v rfl;have K:=ch (i:=2) u rfl;clear v u c Y H;go_loopg [5] s.Ap.length (λg i wr=>∃k:Nat,k<=s.Ap.length/\g=s.Ap.length - k/\i=.int .i64 k/\Qb6 w1 wr)
 case atStart=>exact⟨0,Zp _,rfl,rfl,Zh _ _⟩
 obtain⟨k,hk,rfl,rfl,a⟩:=hrel;have d:=F.trans (a.mono F.size);have L:=(a.cell (p:=⟨w,2,none⟩) Z).trans M;have J:=(a.cell (p:=⟨w+1,2,none⟩) DR).trans K;by_cases G:k<s.Ap.length
 .obtain⟨j,t,rfl,D,O,I⟩:=hp.at_ G
  obtain⟨f,r,rfl,E,N,n⟩:=x.at_ G;rw[<-d.cell (p:=⟨j,t+k*2,none⟩) (m j D)]at O;rw[<-d.cell (p:=⟨j,t+k*2+1,none⟩) (m j D)]at I;rw[<-d.cell (p:=⟨f,r+k*2,none⟩) (l f E)]at N;rw[<-d.cell (p:=⟨f,r+k*2+1,none⟩) (l f E)]at n;have i1:(k:Int)<(s.Ap.length:Int):=o!
  have U:=q64;have R:=g64;go_wp2;go_quiet (fail);go_wp2;go_roundg (s.Ap.length - (k+1))
  case rel=>exact⟨k+1,o!,rfl,v!,Y5 a _⟩
  omega
 go_wp2;go_ret;exact⟨rfl,d⟩
def am6 {u3:Zf}(hp:SP S w v2 s.Ap)(f:SI S w v3 s.over)(d:SP T w u2 s.Ap)(c:SI T w u3 s.over)(i:Ql6 S w)(g:∀b,T b->b<w.heap.size):
  ∀W,Qb6 w W->Calls Lp 47 #[.agg #[.int .i64 s.low,.int .i64 s.high,v2,v3,.int .i64 s.left],.agg #[.int .i64 s.low,.int .i64 s.high,u2,u3,.int .i64 s.left]] W λe w'=>e=.returned (.bool true)/\Qb6 W w':=
 λ_ a=>c97 (hp.later a) (f.later a) (d.later a) (c.later a) (A3 i a) (A3 g a)
variable {c:A_}
def c36 {u3:Zf}(h:RC S w v1 v2 v3 v4 v5 c)(g:RC T w u1 u2 u3 u4 u5 c)(l:Ql6 S w)(j:∀b,T b->b<w.heap.size):
  Calls Lp 17 #[.agg #[v1,v2,v3,v4,v5],.agg #[u1,u2,u3,u4,u5]] w λe w'=>e=.returned (.bool true)/\Qb6 w w':=by
 obtain⟨a1,c1,R,c2,Q,J,P,I,O,H,rfl,rfl,rfl,rfl,rfl,l1,m1,l2,m2,l3,m3,l4,m4,l5,m5⟩:=h.vs;obtain⟨b1,d1,N,d2,M,d3,L,d4,K,G,rfl,rfl,rfl,rfl,rfl,k1,n1,k2,n2,k3,n3,k4,n4,k5,n5⟩:=g.vs;have IX:=DJ;have Bg:YH w w ((w.alloc (.cells (Qe6 c a1 c1 R c2 Q J P I O H) 26)).alloc (.cells (Qe6 c b1 d1 N d2 M d3 L d4 K G) 26)):=bA (bA (Zh _ _));have r0:=λ{i:Nat} {v:Zf}=>ch (i:=i) (v:=v) (Bf (Bp w (.cells (Qe6 c a1 c1 R c2 Q J P I O H) 26)) (.cells (Qe6 c b1 d1 N d2 M d3 L d4 K G) 26));have U:=λ{i:Nat} {v:Zf}=>ch (i:=i) (v:=v) (Jq w (.cells (Qe6 c a1 c1 R c2 Q J P I O H) 26) (.cells (Qe6 c b1 d1 N d2 M d3 L d4 K G) 26));have HR:Hid (∀(W:Zb),YH ((w.alloc (.cells (Qe6 c a1 c1 R c2 Q J P I O H) 26)).alloc (.cells (Qe6 c b1 d1 N d2 M d3 L d4 K G) 26)).heap.size ((w.alloc (.cells (Qe6 c a1 c1 R c2 Q J P I O H) 26)).alloc (.cells (Qe6 c b1 d1 N d2 M d3 L d4 K G) 26)) W->
   W.cell? ⟨w,1,none⟩=some (.slice R c.Af.length c2)/\W.cell? ⟨w,2,none⟩=some (.slice Q c.hooks.length J)/\W.cell? ⟨w,3,none⟩=some (.slice P c.Aa.length I)/\W.cell? ⟨w,4,none⟩=some (.slice O c.now.length H)/\
   W.cell? ⟨w+1,1,none⟩=some (.slice N c.Af.length d2)/\W.cell? ⟨w+1,2,none⟩=some (.slice M c.hooks.length d3)/\W.cell? ⟨w+1,3,none⟩=some (.slice L c.Aa.length d4)/\W.cell? ⟨w+1,4,none⟩=some (.slice K c.now.length G)):=Zd λW a=>by
  obtain⟨u,_⟩:=E7 a;exact⟨(u _ _ j!).trans (r0 rfl),(u _ _ j!).trans (r0 rfl),(u _ _ j!).trans (r0 rfl),(u _ _ j!).trans (r0 rfl),(u _ _ i!).trans (U rfl),(u _ _ i!).trans (U rfl),(u _ _ i!).trans (U rfl),(u _ _ i!).trans (U rfl)⟩
 clear r0 U;have HA:=Zd (λW (a:Qb6 w W)=>c46 (w:=W) (h.base.later a) (g.base.later a) (A3 l a) (A3 j a));have HE:=Zd (λW (a:Qb6 w W)=>c43 (w:=W) (h.Af.later a) (g.Af.later a) (A3 l a) (A3 j a));have HH:=Zd (λW (a:Qb6 w W)=>c46 (w:=W) (h.hooks.later a) (g.hooks.later a) (A3 l a) (A3 j a));have an:=Zd (λW (a:Qb6 w W)=>c46 (w:=W) (h.now.later a) (g.now.later a) (A3 l a) (A3 j a));rw[adD]at HA HH an;rw[aeO]at HE;go_enter Lp.func36,n36;go_wp2_with (go_at_call 18;refine(HA.out _ Bg).mono ?_;rintro e w1 ⟨rfl,Bb⟩;have oT:=Bg.trans (Bb.mono Bg.size);obtain⟨C,B,q,A,z,y,o,x⟩:=HR.out _ Bb);have ai:=Bb;clear Bb;refine(HE.out _ oT).mono ?_;rintro e w2 ⟨rfl,f⟩;have E:=ai.trans (f.mono ai.size);have aT:=oT.trans (f.mono oT.size);clear f C B q A z y o x;obtain⟨C,B,q,A,z,y,o,x⟩:=HR.out _ E;dsimp only;go_wp2_with (fail);refine(HH.out _ aT).mono ?_;rintro e w3 ⟨rfl,f⟩;have D:=E.trans (f.mono E.size);have xa:=aT.trans (f.mono aT.size);clear f C B q A z y o x;obtain⟨C,B,q,A,z,y,o,x⟩:=HR.out _ D;dsimp only;go_wp2_with (fail);refine(an.out _ xa).mono ?_;rintro e w4 ⟨rfl,f⟩;have iu:=D.trans (f.mono D.size);have am:=xa.trans (f.mono xa.size);clear f C B q A z y o x;obtain⟨C,B,q,A,z,y,o,x⟩:=HR.out _ iu;dsimp only;go_wp2_with (fail);clear C B A z y x;go_loopg [5] c.Aa.length (λg i wr=>∃k:Nat,k<=c.Aa.length/\g=c.Aa.length - k/\i=.int .i64 k/\Qb6 w4 wr)
 case atStart=>exact⟨0,Zp _,rfl,rfl,Zh _ _⟩
 obtain⟨k,hk,rfl,rfl,a⟩:=hrel;have d:=am.trans (a.mono am.size);have ap:=iu.trans (a.mono iu.size);clear q o;obtain⟨_,_,q,_,_,_,o,_⟩:=HR.out _ ap;by_cases Az:k<c.Aa.length
 .obtain⟨n,o1,s2,s3,rfl,Z,h0,h1,h2,h3,h4,hp,ho⟩:=h.Aa.at_ Az
  obtain⟨m,o2,t2,t3,rfl,V,t,s,j2,j3,r,lR,rH⟩:=g.Aa.at_ Az;have F:=Zd (am6 hp ho lR rH l j);obtain⟨sm,Qh⟩:=Qnm (Aj c.Aa k);rw[<-Qh]at h0 h1 h4 t s r F;clear Qh;have i1:(k:Int)<(c.Aa.length:Int):=o!
  have X:=λp=>Al p q;have Y:=λp=>Al p o;have h0:=λp=>Al p ((d.cell (p:=⟨n,o1+k*5,none⟩) (l n Z)).trans h0);have h1:=λp=>Al p ((d.cell (p:=⟨n,o1+k*5+1,none⟩) (l n Z)).trans h1);have h2:=λp=>Al p ((d.cell (p:=⟨n,o1+k*5+2,none⟩) (l n Z)).trans h2);have h3:=λp=>Al p ((d.cell (p:=⟨n,o1+k*5+3,none⟩) (l n Z)).trans h3);have h4:=λp=>Al p ((d.cell (p:=⟨n,o1+k*5+4,none⟩) (l n Z)).trans h4);have t:=λp=>Al p ((d.cell (p:=⟨m,o2+k*5,none⟩) (j m V)).trans t);have s:=λp=>Al p ((d.cell (p:=⟨m,o2+k*5+1,none⟩) (j m V)).trans s);have j2:=λp=>Al p ((d.cell (p:=⟨m,o2+k*5+2,none⟩) (j m V)).trans j2);have j3:=λp=>Al p ((d.cell (p:=⟨m,o2+k*5+3,none⟩) (j m V)).trans j3);have r:=λp=>Al p ((d.cell (p:=⟨m,o2+k*5+4,none⟩) (j m V)).trans r);have HB:=Zd (λp=>d.trans ((AE wr p).mono d.size));have HQ:=Zd (λp=>a.trans ((AE wr p).mono a.size));go_wp2;refine Av k! k! ?_
  repeat (first|go_big_quiet_step ((go_at_call 47;exact AV (F.out _ (HB.out _))))|quiet_step ((go_at_call 47;exact AV (F.out _ (HB.out _)))))
  refine Z4 ?_;rintro _ ⟨p,rfl⟩;clear X Y h0 h1 h2 h3 h4 t s j2 j3 r;have yw:=HQ.out p;go_wp2;go_roundg (c.Aa.length - (k+1))
  case rel=>exact⟨k+1,o!,rfl,v!,yw⟩
  omega
 go_wp2;go_ret;exact⟨rfl,d⟩
attribute [local go_sem] Zdk
def Ev (c:A_)(l:List Int):Bool:=(JU c (DS c l)).isNone
def LU (c:A_):List (List Int):=(EH c).filter (Ev c)
def WV (h:l∈EH c):Tc c l:=Lf _ _ h
variable {t e:Zs}
variable {xs vals news:List Zf}
def Tn {base:Nat}(a:Qb6 A B)(h:A.ownsRow base e k v n xs):B.ownsRow base e k v n xs:=CO (T:=λ_=>False) (Ak.later a) (λ_ _ x=>x) h
def SL.imp {l:List (List Int)}(h:SL S w v l)(a:∀b,S b->T b):SL T w v l:=Sl.imp h a λ_ _ ⟨u,e,c⟩=>⟨u,e,Sl.imp c a λ_ _ x=>x⟩
def LR (base:Nat)(w:Zb)(v:Zf)(P:List (List Int)):Prop:=∃vals,w.ownsRow base 22 1 v P.length vals/\∀(i:Nat) (x:List Int),P[i]?=some x->∃u,vals[i]?=some u/\SI (J1 3 base w) w u x
def LR.nil (base:Nat)(w:Zb):LR base w () []:=⟨[],zq _ _ _ _,λi x h=>h!⟩
variable {P:List (List Int)}
def LR.later {base:Nat}(h:LR base A v P)(a:Qb6 A B):LR base B v P:=by
 obtain⟨vals,f,e⟩:=h;refine⟨vals,Tn a f,λi x b=>?_⟩;obtain⟨u,d,c⟩:=e i x b;exact⟨u,d,Dx (T:=λ_=>False) (Ak.later a) (λ_ _ x=>x) c⟩
def LR.sl {base:Nat}(h:LR base w v P):SL (Cb base w) w v P:=by
 obtain⟨vals,g,f⟩:=h;refine WM g (Zj _) λi x a=>?_;obtain⟨u,e,d⟩:=f i x a;exact⟨u,e,Sl.imp d (λb c=>c.1) λ_ _ x=>x⟩
def LR.val {base:Nat}(h:LR base w v P):∃a c,v=.slice a P.length c/\P.length<=c/\c<=maxLen:=by
 obtain⟨a,c,e,d,b,_⟩:=h.sl;exact⟨a,c,e,d,b⟩
def LR.snoc {n:Zb}{base m:Nat}(l:A.ownsRow base 22 1 v P.length vals)(D:∀(i:Nat) (x:List Int),P[i]?=some x->∃u,vals[i]?=some u/\SI (J1 3 base A) A u x)
 (j:SI (J1 3 m A) A u x) (q:base<=m) (t:Qb6 A n) (B:n.grownBy w1 v.ownBlock) (F:w1.ownsRow base 22 1 v' (P.length+1) (vals++ [u])):LR base w1 v' (P++ [x]):=by
 have C:Ak (λk=>v.ownBlock=some k) A w1:=(Ak.later t).trans (Ak.grown B λk r=>r);refine⟨vals++ [u],by rw[ZA];exact F,λi y c=>?_⟩;have a:∀u,SI (J1 3 base A) A u y->SI (J1 3 base w1) w1 u y:=λu h=>by
  refine Dx C (λb f h=>?_) h;obtain⟨G,d⟩:=f.2;rcases l.2 with⟨e,_⟩|⟨g,cap,w,e,_,s,_⟩
  .rw[e]at h;cases h
  rw[e]at h;cases h;rw[s]at d;cases d
 by_cases E:i<P.length
 .rw[zl E]at c
  obtain⟨u,j,p⟩:=D i y c;exact⟨u,by rw[zl (Zm.1 j).1];exact j,a u p⟩
 have z:=(Zm.1 c).1;rw[ZA,zb,zR]at z;obtain rfl:i=P.length:=o!
 rw[Y1]at c;cases c;have o:vals.length=P.length:=by have:=l.1;omega
 exact⟨u,by rw[<-o,Y1],a _ (Sl.imp j (λb f=>⟨⟨Zr q f.1.1,f.1.2⟩,f.2⟩) (λ_ _ x=>x))⟩
def Own.typ {base:Nat}(h:Own w base v l):SI (J1 3 base w) w v l:=
 Lg (R:=Ri) d! h λi x a=>by
  rw[Nat.mul_one];obtain⟨b,e⟩:=Zm.1 a;rw[ZO (by simpa using b)];simp[Ri,e]
def adl:∀(l:List (Int×Int)) (i:Nat) (p:Int×Int),i<l.length->((l.flatMap λp=> [ZL .i64 p.1,.int .i64 p.2]).set (i*2) (.int .i64 p.1)).set (i*2+1) (.int .i64 p.2)=(l.set i p).flatMap λp=> [ZL .i64 p.1,.int .i64 p.2]
 | [],_,_,h=>h!
 |q::r,0,p,_=>rfl
 |q::r,i+1,p,h=>by
  have:=adl r i p (by simpa using h);rw[List.set_cons_succ,List.flatMap_cons,List.flatMap_cons, <-this,show(i+1)*2=i*2+1+1 by omega]
  rfl
def Ih.set {base:Nat}{l:List (Int×Int)}(h:Ih w base (.slice g n cap) l e)(hi:i<l.length)(p:Int×Int):
  Ih ((w.setCell ⟨g,i*2,none⟩ (.int .i64 p.1)).setCell ⟨g,i*2+1,none⟩ (.int .i64 p.2)) base (.slice g n cap) (l.set i p) e:=by
 obtain⟨o,m⟩:=h;rcases m with⟨a,_⟩|⟨r,s,q,a,k,j,f,d,c,b⟩
 .cases a
 cases a;refine⟨?_,.inr ⟨g,cap,_,by rw[ZcC],k,Ba (Ba j _) _,by simpa using f,d,by simpa using c,?_⟩⟩
 .rw[<-adl l i p hi]
  simpa using o
 rw[<-adl l i p hi];simp only[ZcM,ZcC,List.take_set];rw[b]
def adm {ab:Nat->Nat}{l:List Int}:∀(n k s:Nat),l.length - k=n->JR ab l k (l.drop k) s=s
 |0,k,s,h=>eD o!
 |n+1,k,s,h=>by
  rw[bz o!,if_pos rfl];exact adm n (k+1) s o!
def adY (c:A_):DS c c.now=0:=adm _ 0 0 rfl
variable {lo hi:Int}
def aeQ {n:Int}(h:lo<=n/\n<=hi):n∈IU lo hi:=by
 unfold IU;rw[List.mem_map];exact⟨(n - lo).toNat,by rw[List.mem_range];omega,o!⟩
def adZ:∀(s:List Ay) (l:List Int),l.length=s.length->(∀i,i<l.length->(Aj s i).low<=nth l i/\nth l i<=(Aj s i).high)->l∈EZ s
 | [],l,h,_=>by
  obtain rfl:l=[]:=List.length_eq_zero_iff.1 h;simp[EZ]
 |s::r,[],h,_=>h!
 |s::r,x::t,h,a=>by
  unfold EZ;rw[List.mem_flatMap];exact⟨x,aeQ (a 0 (Nat.succ_pos _)),List.mem_map.2 ⟨t,adZ r t (by simpa using h) λi hi=>a (i+1) (Nat.succ_lt_succ hi),rfl⟩⟩
def ahR (a:Fq c):c.now∈LU c:=by
 refine List.mem_filter.2 ⟨adZ _ _ a.uy (Fb a.now).2,?_⟩;unfold Ev;rw[adY]
 rfl
def agh (b:Fq c):LU c≠ []:=λh=>by
 have a:=ahR b;rw[h]at a;cases a
inductive HT
 |leaf
 |one (i:Nat) (r:HT)
 |free (i:Nat) (r:HT)
 |fork (i:Nat) (x:HT) (j:Nat) (y:HT)
def HT.len:HT->Nat
 | .leaf=>0
 | .one _ r=>r.len+1
 | .free _ r=>r.len+1
 | .fork _ x _ _=>x.len+1
section
variable {P:Zo}{ops:Array Oper}{Q:Exit->Act->Zb->Prop}{md:YO}{S:Zb->Prop}{T:Nat->Zb->Prop}
def abg (P:Zo)(b:Array Oper)(Q:Exit->Act->Zb->Prop)(S:Zb->Prop)(T:Nat->Zb->Prop):HT->Act->Zb->Prop
 | .leaf,a,w=>Q .normal a w
 | .one i r,a,w=>wpOp P b Q i (λa' w'=>T i w'/\abg P b Q S T r a' w') a w
 | .free i r,a,w=>S w/\∃o v,b[i]?=some o/\ZbF P b S o v a/\abg P b Q S T r (a.put o.dst v) w
 | .fork i x j y,a,w=>wpOp P b Q i (λa' w'=>T i w'/\abg P b Q S T x a' w') a w/\wpOp P b Q j (λa' w'=>T j w'/\abg P b Q S T y a' w') a w
def htB (md:YO)(a:Array Oper)(n:Nat)(lates:List Nat):HT->Array Bool->Bool
 | .leaf,listed=>(zs md a listed).isEmpty
 | .one i r,listed=>decide (zs md a listed=[i])&&htB md a n lates r (listed.setIfInBounds i true)
 | .free i r,listed=>(zs md a listed).contains i&&Za3 md a listed i&&pQ md a n lates i&&htB md a n lates r (listed.setIfInBounds i true)
 | .fork i x j y,listed=>decide (zs md a listed=[i,j])&&decide (x.len=y.len)&&htB md a n lates x (listed.setIfInBounds i true)&&htB md a n lates y (listed.setIfInBounds j true)
def abU {n:Nat}{lates:List Nat}(q:YF ops=true)(l:∀c a d v w,Q (.panic c) (Zck a d v) w->Q (.panic c) a w):
  ∀(t:HT) (listed:Array Bool) (a:Act) (w:Zb),Dn md ops listed->htB md ops n lates t listed=true->abg P ops Q S (FG lates S) t a w->Cy P md ops Q (FG lates S) t.len listed a w
 | .leaf,_,_,_,_,b,h=>⟨by simpa[htB]using b,h⟩
 | .one i r,listed,a,w,e,b,h=>by
  simp only[htB,ZF,decide_eq_true_eq]at b;refine⟨λm=>(by rw[b.1]at m;cases m),λj u=>?_⟩;have s:=u;rw[b.1]at u;have:j=i:=by simpa using u
  subst this;exact Zcc (λp w' x=>⟨x.1,abU q l r _ p w' (e.step s) b.2 x.2⟩) h
 | .free i r,listed,a,w,e,b,h=>by
  simp only[htB,ZF]at b;obtain⟨F,o,v,E,D,h⟩:=h;have A:i∈zs md ops listed:=by simpa using b.1.1.1
  exact Me (S:=S) (n:=n) (f:=r.len) E q (λc a w x=>l c a o.dst v w x) (λw x=>.inr x) (iw b.1.2) listed a w e b.1.1.2 A D F (abU q l r _ _ w (e.step A) b.2 h)
 | .fork i x j y,listed,a,w,e,b,h=>by
  simp only[htB,ZF,decide_eq_true_eq]at b;obtain⟨⟨⟨B,I⟩,H⟩,G⟩:=b;refine⟨λm=>(by rw[B]at m;cases m),λk g=>?_⟩;have C:=g;rw[B]at g;rcases List.mem_cons.1 g with rfl|g
  .exact Zcc (λp w' z=>⟨z.1,abU q l x _ p w' (e.step C) H z.2⟩) h.1
  have:k=j:=by simpa using g
  subst this;exact Zcc (λp w' z=>⟨z.1,by have:=abU q l y _ p w' (e.step C) G z.2;rwa[<-I]at this⟩) h.2
variable {a:Act}
def abn {id:Nat}{l:List Oper}(n:Nat)(lates:List Nat)(t:HT)(ls:List Nat)(i:P.follows .mixedOrders=true)(g:∀c a d v w,Q (.panic c) (Zck a d v) w->Q (.panic c) a w)
 (b:(YF l.toArray&&decide (t.len+ls.length=l.toArray.size)&&lsB .any l.toArray n lates (htB .any l.toArray n lates t) ls (Yu l.toArray.size false))=true) (j:S w.drew)
 (h:MQ P l.toArray S (λa'=>abg P l.toArray Q S (FG lates S) t a' w.drew) ls a):(zU id l.toArray true).wp P Q a w:=by
 simp only[ZF,decide_eq_true_eq]at b;refine Zd5 i (JV (T:=FG lates S) _ _ _ _ ?_);have e:Dn .any l.toArray (Yu l.toArray.size false):=λk ok _ f=>by
  rw[show(Yu l.toArray.size false).getD k false=false by unfold Array.getD;split<;>simp]at f;cases f
 have:=Vd b.1.1 g j (λlisted a m p o=>abU b.1.1 g t listed a w.drew m p o) ls _ a e b.2 h;rw[b.1.2]at this;exact this
variable {r:HT}
variable {o:Oper}
def ad7 (b:ops[i]?=some o)(c:o.guard=none)(h:o.wp P a w (λa' w'=>T i w'/\abg P ops Q S T r a' w') Q):abg P ops Q S T (.one i r) a w:=by
 unfold abg wpOp;simp only[b];rw[if_pos (by simp[Yf,c])];exact .inl h
def abo (c:ops[i]?=some o)(d:o.guard=none)(b:(Zby a.eval o).run P w=.ok (.value v) w')(e:T i w')
 (h:abg P ops Q S T r (a.put o.dst v) w'):abg P ops Q S T (.one i r) a w:=by
 refine ad7 c d ?_;unfold ZbA;rw[b,Zdi];exact⟨e,h⟩
variable {f:ZaQ}
variable {args cs:Array Zf}
def abq (c:ops[i]?=some o)(d:o.guard=none)(b:(Zby a.eval o).run P w=.ok (.enter f args) w)
 (g:Calls P f args w λe w'=>(∃v,e=.returned v/\T i w'/\abg P ops Q S T r (a.put o.dst v) w')\/∃x,e=.panicked x/\Q (.panic x) a w'):abg P ops Q S T (.one i r) a w:=by
 refine ad7 c d ?_;unfold ZbA;rw[b,Zdj];refine g.mono λe w' h=>?_;rcases h with⟨v,rfl,h⟩|⟨x,rfl,h⟩
 .exact h
 exact h
def agi (c:ops[i]?=some o)(d:o.guard=none)(b:(Zby a.eval o).run P w=.ok .skip w')(e:T i w')
 (h:abg P ops Q S T r (a.put o.dst Ze) w'):abg P ops Q S T (.one i r) a w:=by
 refine ad7 c d ?_;unfold ZbA;rw[b,ZcQ];exact⟨e,h⟩
def abx (e:S w)(c:ops[i]?=some o)(d:o.guard=none)(b:∀w,S w->(Zby a.eval o).run P w=.ok (.value v) w)
 (h:abg P ops Q S T r (a.put o.dst v) w):abg P ops Q S T (.free i r) a w:=
 ⟨e,o,v,c,.inl ⟨by simp[Yf,d],b⟩,h⟩
def adh {x y:HT}(c:abg P ops Q S T (.one i x) a w)(b:abg P ops Q S T (.one j y) a w):abg P ops Q S T (.fork i x j y) a w:=⟨c,b⟩
end
section
variable {P:Zo}{ops:Array Oper}{Q:Exit->Act->Zb->Prop}{S:Zb->Prop}{T:Nat->Zb->Prop}
variable {r:HT}
variable {o:Oper}
variable {a:Act}
def adn (e:S w)(d:ops[i]?=some o)(b:Yf o (yielded ops a.tmps)=true)(c:∀w,S w->(Zby a.eval o).run P w=.ok (.value v) w)
 (h:abg P ops Q S T r (a.put o.dst v) w):abg P ops Q S T (.free i r) a w:=⟨e,o,v,d,.inl ⟨b,c⟩,h⟩
def ad0 (d:S w)(c:ops[i]?=some o)(b:Yf o (yielded ops a.tmps)=false)
 (h:abg P ops Q S T r (a.put o.dst Ze) w):abg P ops Q S T (.free i r) a w:=⟨d,o,Ze,c,.inr ⟨b,rfl⟩,h⟩
def aeR (c:ops[i]?=some o)(b:Yf o (yielded ops a.tmps)=false)(d:T i w)
 (h:abg P ops Q S T r (a.put o.dst Ze) w):abg P ops Q S T (.one i r) a w:=by
 unfold abg wpOp;simp only[c];rw[if_neg (by rw[b];decide)];exact⟨d,h⟩
variable {f:ZaQ}
variable {args cs:Array Zf}
def aeS (d:ops[i]?=some o)(b:Yf o (yielded ops a.tmps)=true)(c:(Zby a.eval o).run P w=.ok (.enter f args) w)
 (g:Calls P f args w λe w'=>(∃v,e=.returned v/\T i w'/\abg P ops Q S T r (a.put o.dst v) w')\/∃x,e=.panicked x/\Q (.panic x) a w'):abg P ops Q S T (.one i r) a w:=by
 unfold abg wpOp;simp only[d];rw[if_pos b];refine .inl ?_;unfold ZbA;rw[c,Zdj];refine g.mono λe w' h=>?_;rcases h with⟨v,rfl,h⟩|⟨x,rfl,h⟩
 .exact h
 exact h
end
def ace (a b:List Int):Bool:=(Yr a.length).all λi=>decide (nth a i=nth b i)
def acf {a b:List Int}(h:a.length=b.length):ace a b=Ke a b:=by
 unfold ace Ke;rw[ZcG,Zdm,decide_eq_true_eq];constructor
 .intro hi
  apply List.ext_getElem h;intro i c d;have g:=of_decide_eq_true (hi i (List.mem_range.2 c));have f:=Bn c;have e:=Bn d;rw[zf c]at f;rw[zf d]at e;rw[ZW f,ZW e,g]
 rintro rfl i _;exact decide_eq_true rfl
def ajI {a b:List Int}(C:SI S w v a)(B:SI T w v' b)(P:Ql6 S w)(O:∀b,T b->b<w.heap.size)(DU:a.length<=b.length):
  Calls Lp 44 #[v,v'] w λe w'=>e=.returned (.bool (ace a b))/\Qb6 w w':=by
 obtain⟨a1,c1,rfl,l1,m1⟩:=C.val;obtain⟨a2,c2,rfl,l2,m2⟩:=B.val;have IX:=DJ;obtain⟨G,d⟩:∃x,x=ace a b:=⟨_,rfl⟩;have W:=Zd (show(∃i,i<a.length/\nth a i≠nth b i)->G=false from λ⟨i,hi,BL⟩=>by
  rw[d];unfold ace;rw[List.all_eq_false];exact⟨i,List.mem_range.2 hi,by rw[decide_eq_false BL];decide⟩)
 have X:=Zd (show(∀i,i<a.length->nth a i=nth b i)->G=true from λh=>by
  rw[d];unfold ace;rw[Zdm];exact λi hi=>decide_eq_true (h i (List.mem_range.1 hi)))
 rw[<-d];clear d;go_enter Lp.func132,alR;go_wp2;go_loopg [5] a.length (λQ i wr=>∃k:Nat,k<=a.length/\Q=a.length - k/\i=.int .i64 k/\(∀j,j<k->nth a j=nth b j)/\Qb6 w wr)
 case atStart=>exact⟨0,Zp _,rfl,rfl,λj A=>absurd A o!,Zh _ _⟩
 obtain⟨k,hk,rfl,rfl,f,o⟩:=hrel;have n:=Zd f;clear f;obtain⟨V,N⟩:=Qnm wr;subst N;by_cases t:k<a.length
 .obtain⟨F,L,rfl,Y,l⟩:=C.at_ t
  obtain⟨E,K,rfl,Z,g⟩:=B.at_ (show k<b.length by omega);have l:=(o.cell (p:=⟨F,L+k,none⟩) (P F Y)).trans l;have g:=(o.cell (p:=⟨E,K+k,none⟩) (O E Z)).trans g;obtain⟨x,s⟩:=Qnm (nth a k);obtain⟨y,r⟩:=Qnm (nth b k);rw[<-s]at l;rw[<-r]at g;have q:=Zd (ZY s r);clear s r;have TB:(k:Int)<(a.length:Int):=o!
  have R:(k:Int)<(b.length:Int):=o!
  have kq:(0:Int)<=(k:Int):=o!
  have J:=λu=>Al u l;have I:=λu=>Al u g;by_cases c:x=y
  case' pos=>
   have M:(x !=y)=false:=by simpa using c
  case' neg=>
   have M:(x !=y)=true:=by simpa using c
  all_goals
   have m:=Zd c;clear c;go_wp2;refine Av k! k! ?_
   repeat (first|go_big_quiet_step (fail)|quiet_step (fail))
   refine Z4 ?_;rintro _ ⟨p,rfl⟩;have z:=AE V p;obtain⟨V2,D⟩:=Qnm (calm V p);rw[<-D]at z⊢;have H:=bU o z;clear D J I l g;go_wp2
  .go_ret
   exact⟨by rw[W.out ⟨k,t,by rw[<-q.out.1, <-q.out.2];exact m.out⟩];rfl,H⟩
  go_roundg (a.length - (k+1))
  case rel=>exact⟨k+1,t,rfl,v!,λj A=>by
   by_cases e:j=k
   .rw[e, <-q.out.1, <-q.out.2];exact m.out
   exact n.out j o!,H⟩
  omega
 have U:=Zd (X.out λi hi=>n.out i o!);go_wp2;go_ret;exact⟨by rw[U.out];rfl,o⟩
end Go.Proofs.Fit
namespace Go.Proofs.Fit
open Go
section
variable {F:Fence}{n:Nat}{P:Zo}{ops:Array Oper}{md:YO}{C:Zb->Prop}
def adG (a:Array Oper):Bool:=a.all λo=>match o.op with| .defer _=>false|_=>true
variable {k b i g cap j clk st q rb c2 adx cc M:Nat}
variable {o:Oper}
def adH (h:adG ops=true)(a:ops[i]?=some o):∀c,o.op≠ .defer c:=by
 intro c d;obtain⟨b,e⟩:=Za.1 a;have:=Array.all_eq_true.1 h i b;rw[e,d]at this;cases this
variable {a:Act}
variable {aa5 Q:Exit->Act->Zb->Prop}
variable {W w A B w1 w' W3:Zb}
def ajK {K:Act->Prop}{j:Act->Zb->Prop}(q:∀c,o.op≠ .defer c)(d:C w)(h:∀a w',C w'->K a->j a w')
 (t:o.askedIn F P a C) (p:o.quietIn F n P a C K):o.wpIn F n P a w j aa5:=by
 obtain⟨v,l,g⟩:=p;refine⟨t w d,?_⟩;rw[Oper.semAt_eq _ _ _ q];have b:=l w d;unfold Oper.quietAtIn at b
 revert b
 generalize (Zby a.eval o).run P w=r;intro b;rcases r with⟨x,w'⟩|⟨x,w'⟩
 .cases x with
  |value u=>obtain⟨rfl,rfl⟩:=b;exact h _ _ d g
  |skip=>obtain⟨rfl,e⟩:=b;rw[Oper.uponIn_skip, <-e];exact h _ _ d g
  |enter f i=>obtain⟨rfl,m,s⟩:=b;exact⟨m,s.mono λe x y=>by obtain⟨rfl,k⟩:=y;exact h _ _ k g⟩
  |_=>exact b.elim
 .exact b.elim
def aiD {Q:Act->Prop}(m:adG ops=true)(k:∀a w,C w->Q a->aa5 .normal a w)(b:Nat):∀(listed:Array Bool) (a:Act) (w:Zb),C w->
  wpAnyQIn F n P md ops C Q b listed a->wpAnyIn F n P md ops aa5 b listed a w:=by
 induction b with
 |zero=>exact λ_ a w d h=>⟨h.1,k a w d h.2⟩
 |succ b e=>
  intro listed a w d h;refine⟨λq=>k a w d (h.1 q),λi p=>?_⟩;have c:=h.2 i p;unfold qOpIn at c;unfold wpOpIn
  match f:ops[i]? with
  |none=>rw[f]at c;exact e _ _ _ d c
  |some o=>
   rw[f]at c;obtain⟨j,c⟩:=c;by_cases g:Yf o (yielded ops a.tmps)=true
   .simp only[g,if_true]at c⊢
    exact ajK (adH m f) d (λr w' l=>e _ r w' l) j c
   simp only[g]at c⊢;exact⟨j w d,e _ _ _ d c⟩
def adE {id:Nat}{l:List Oper}(d:adG l.toArray=true)(e:P.follows .mixedOrders=true)(b:Region.lexB .any l.toArray=true)(f:C w.drew)
 (h:wpQuietIn F n P l.toArray C (λa'=>∀w',C w'->Q .normal a' w') l a):(zU id l.toArray true).wpIn F n P Q a w:=by
 simp only[Region.lexB,ZF]at b;refine wpIn_region_any e (aiD (Q:=λa'=>∀w',C w'->Q .normal a' w') d (λ_ w' c h=>h w' c) _ _ _ _ f ?_);have:=wpAnyQIn_lex (F:=F) (n:=n) (C:=C) (md:=.any) b.1 l 0 (Yu l.toArray.size false) a i! (by simpa using b.2) h;simpa using this
end
end Go.Proofs.Fit
namespace Go.Proofs.Fit
open Go Go.RowKit
def abl (k:Int×Int×Int):Zf:=.agg #[.int .i64 k.1,.int .i64 k.2.1,.int .i64 k.2.2]
def u150:Lp.underlying 92=some (.array 3 3):=Cz Tryz.underlying92
def u164:Lp.underlying 87=some (.map 92 34):=Cz Tryz.underlying87
def aib (w:Zb)(k k':Int×Int×Int):(Zaa 92 (abl k) (abl k')).run Lp w=.ok (decide (k=k')) w:=by
 obtain⟨a,b,c⟩:=k;obtain⟨x,y,z⟩:=k';obtain⟨o,i,p,r,q⟩:=zp KY;have l:Lp.cellsOf 3=1:=k!
 have j:∀w a b,(ZaZ 9999 3 (.int .i64 a) (.int .i64 b)).run Lp w=.ok (a==b) w:=λw a b=>run_equalIn_int w 9998 3 .i64 .i64 a b u3;have g:=λw (a b c:Int)=>P2 w #[.int .i64 a,.int .i64 b,.int .i64 c] 0 a rfl;have f:=λw (a b c:Int)=>P2 w #[.int .i64 a,.int .i64 b,.int .i64 c] 1 b rfl;have e:=λw (a b c:Int)=>P2 w #[.int .i64 a,.int .i64 b,.int .i64 c] 2 c rfl;unfold Zaa Op.maxDepth abl;rw[run_equalIn_array w 9999 _ _ u150 (Dz i),l,show Yr 3=[0,1,2] from rfl];by_cases n:a=x<;>by_cases m:b=y<;>by_cases d:c=z<;>simp[Op.eqItems,zg,g,f,e,j,n,m,d]
def acj (w:Zb)(e:Bool)(k:Int×Int×Int):(YD e 10000 92 (abl k)).run Lp w=.ok () w:=by
 obtain⟨a,b,c⟩:=k;have j:∀w,(sizeOf 3).run Lp w=.ok 1 w:=λw=>k!
 have i:=λw (a b c:Int)=>P2 w #[.int .i64 a,.int .i64 b,.int .i64 c] 0 a rfl;have g:=λw (a b c:Int)=>P2 w #[.int .i64 a,.int .i64 b,.int .i64 c] 1 b rfl;have f:=λw (a b c:Int)=>P2 w #[.int .i64 a,.int .i64 b,.int .i64 c] 2 c rfl;have d:=λw v=>qy w e 9998 v;simp only[ZaF]at d;unfold YD abl;simp only[zg,Y9 u150,Zaw];simp only[Zdw,Std.Legacy.Range.size,Nat.sub_zero,Nat.add_one_sub_one,Nat.div_one];rw[show Zcq 0 3=[0,1,2] from rfl];simp[zg,j,i,g,f,d,zu]
def agj (w:Zb)(k:Int×Int×Int):(Yi (abl k) (abl k)).run Lp w=.ok (abl k) w:=by
 have h:zH 10000 (abl k) (abl k)=true:=by simp[abl,zH]
 simp[Yi,h]
def ado (w:Zb)(k:Int×Int×Int):(Zaj 92 (abl k) []).run Lp w=.ok none w:=by
 unfold Zaj;simp only[zg,Y9 u150,Zaw];simp[ZaJ,zX]
def ad8 (w:Zb)(k:Int×Int×Int)(v:Zf)(st:Nat):(Zaj 92 (abl k) [{key:=abl k,val:=v,born:=st}]).run Lp w=.ok (some (0,v)) w:=by
 unfold Zaj;simp only[zg,Y9 u150,Zaw];simp[ZaJ,Zbj,zX,zg,aib]
variable {W w A B w1 w' W3:Zb}
variable {n k b i g cap j clk st q rb c2 adx cc M:Nat}
variable {es:Array MapEntry}
def acm (a:w.heap[b]?=some (.map es clk)):(getObj b).run Lp w=.ok (.map es clk) w:=by simp[getObj,Sem.run,a]
def adI (a:w.heap[b]?=some (.map es clk))(o:Obj):(setObj b o).run Lp w=.ok () (w.putObj b o):=by simp[setObj,Sem.run,a,World.putObj]
def afn (k:Int×Int×Int)(a:w.heap[b]?=some (.map #[] clk)):
  (ZcK 87 (.map (some b)) (abl k)).run Lp w=.ok (.tuple #[(),goInt clk]) (w.putObj b (.map #[{key:=abl k,val:=.slice none 0 0,born:=clk}] (clk+1))):=by
 simp[ZcK,zg,Y9 u164,acm a,acj,ado,adI a,zu]
variable {v v1 v2 v3 v4 v5 v' u2 u1 u4 u5 u v6 lv:Zf}
def afo (k:Int×Int×Int)(a:w.heap[b]?=some (.map #[{key:=abl k,val:=v,born:=st}] clk)):
  (ZcK 87 (.map (some b)) (abl k)).run Lp w=.ok (.tuple #[v,goInt st]) (w.putObj b (.map #[{key:=abl k,val:=v,born:=st}] clk)):=by
 simp[ZcK,zg,Y9 u164,acm a,acj,ad8,agj,adI a,zu]
def ae3 {k:Int×Int×Int}(a:w.heap[b]?=some (.map #[{key:=abl k,val:=v,born:=st}] clk)):
  (Zch 87 (.map (some b)) (goInt st) u).run Lp w=.ok () (w.putObj b (.map #[{key:=abl k,val:=u,born:=st}] clk)):=by
 simp[Zch,zg,acm a,adI a,goInt,asInt,asIntOf,zu]
def ahS (k:Int×Int×Int)(a:w.heap[b]?=some (.map #[] clk)):(Za2 87 (.map (some b)) (abl k) false).run Lp w=.ok () w:=by
 simp[Za2,zg,Y9 u164,acm a,acj,ado,zu]
def agk (k:Int×Int×Int)(a:w.heap[b]?=some (.map #[{key:=abl k,val:=v,born:=st}] clk)):(Za2 87 (.map (some b)) (abl k) false).run Lp w=.ok v w:=by
 simp[Za2,zg,Y9 u164,acm a,acj,ad8,zu]
variable {S T:Nat->Prop}
def ama {a b:List Int}(J:SI S w v a)(I:SI T w v' b)(Z:Ql6 S w)(Y:∀b,T b->b<w.heap.size):
  Calls Lp 41 #[v,v'] w λe w'=>e=.returned (.bool (Ke a b))/\Qb6 w w':=by
 obtain⟨a1,c1,rfl,l1,m1⟩:=J.val;obtain⟨a2,c2,rfl,l2,m2⟩:=I.val;have IX:=DJ;obtain⟨D,d⟩:∃x,x=Ke a b:=⟨_,rfl⟩;have HL:=Zd (show a.length≠b.length->D=false from λh=>by rw[d];exact decide_eq_false λe=>h (by rw[e]));have HB:=Zd (show a.length=b.length->(∃i,i<a.length/\nth a i≠nth b i)->D=false from λ_ ⟨i,C,BL⟩=>by rw[d];exact decide_eq_false λe=>BL (by rw[e]));have HA:=Zd (show a.length=b.length->(∀i,i<a.length->nth a i=nth b i)->D=true from λW h=>by rw[d, <-acf W];unfold ace;rw[Zdm];exact λi C=>decide_eq_true (h i (List.mem_range.1 C)));rw[<-d];clear d;by_cases c:a.length=b.length
 case neg=>
  have s:((a.length:Int) !=(b.length:Int))=true:=j!
  have E:=Zd (HL.out c);go_enter Lp.func130,ajC;go_wp2;go_ret;exact⟨by rw[E.out];rfl,Zh _ _⟩
 have s:((a.length:Int) !=(b.length:Int))=false:=j!
 have g:=Zd c;obtain⟨n,U⟩:=Qnm a.length;clear c;clear U n;go_enter Lp.func130,ajC;go_wp2;clear s;go_loopg [13] a.length (λgg i wr=>∃k:Nat,k<=a.length/\gg=a.length - k/\i=.int .i64 k/\(∀j,j<k->nth a j=nth b j)/\Qb6 w wr)
 case atStart=>exact⟨0,Zp _,rfl,rfl,λj H=>absurd H o!,Zh _ _⟩
 obtain⟨k,hk,rfl,rfl,l,t⟩:=hrel;have r:=Zd l;clear l;obtain⟨V,X⟩:=Qnm wr;subst X;by_cases F:k<a.length
 .obtain⟨M,R,rfl,FD,o⟩:=J.at_ F
  obtain⟨L,Q,rfl,EC,m⟩:=I.at_ (show k<b.length by have:=g.out;omega);have o:=(t.cell (p:=⟨M,R+k,none⟩) (Z M FD)).trans o;have m:=(t.cell (p:=⟨L,Q+k,none⟩) (Y L EC)).trans m;obtain⟨x,B⟩:=Qnm (nth a k);obtain⟨y,A⟩:=Qnm (nth b k);rw[<-B]at o;rw[<-A]at m;have z:=Zd (ZY B A);clear B A;have TB:(k:Int)<(a.length:Int):=o!
  have ai:(k:Int)<(b.length:Int):=by have:=g.out;omega
  have kq:(0:Int)<=(k:Int):=o!
  have P:=λu=>Al u o;have O:=λu=>Al u m;by_cases f:x=y
  case' pos=>
   have s:(x !=y)=false:=by simpa using f
  case' neg=>
   have s:(x !=y)=true:=by simpa using f
  all_goals
   have q:=Zd f;clear f;go_wp2;refine Av k! k! ?_
   repeat (first|go_big_quiet_step (fail)|quiet_step (fail))
   refine Z4 ?_;rintro _ ⟨p,rfl⟩;have G:=AE V p;obtain⟨V2,K⟩:=Qnm (calm V p);rw[<-K]at G⊢;have N:=bU t G;clear K P O o m;go_wp2
  .go_ret
   exact⟨by rw[HB.out g.out ⟨k,F,by rw[<-z.out.1, <-z.out.2];exact q.out⟩];rfl,N⟩
  go_roundg (a.length - (k+1))
  case rel=>exact⟨k+1,F,rfl,v!,λj H=>by
   by_cases e:j=k
   .rw[e, <-z.out.1, <-z.out.2];exact q.out
   exact r.out j o!,N⟩
  omega
 have E:=Zd (HA.out g.out λi C=>r.out i o!);go_wp2;go_ret;exact⟨by rw[E.out];rfl,t⟩
def abK (c:A_)(p:List Int):List (List Int):=(EZ (c.Aa.drop p.length)).map (p++ ·)
def adp (c:A_):abK c []=EH c:=by simp[abK,EH]
variable {c:A_}
def agl {p:List Int}(h:p.length=c.Aa.length):abK c p=[p]:=by
 unfold abK;rw[Z7.2 o!];simp[EZ]
def afp {p:List Int}(h:p.length<c.Aa.length):abK c p=(IU (Aj c.Aa p.length).low (Aj c.Aa p.length).high).flatMap λn=>abK c (p++ [n]):=by
 have a:c.Aa.drop p.length=Aj c.Aa p.length::c.Aa.drop (p.length+1):=by
  rw[ZO h]
  congr 1
  have:=Db h;rw[zf h]at this;exact ZW this
 unfold abK;rw[a];show((IU _ _).flatMap λn=>(EZ (c.Aa.drop (p.length+1))).map (n:: ·)).map (p++ ·)=_;rw[List.map_flatMap]
 congr 1
 funext n
 rw[List.map_map,ZA];simp[ZdQ]
variable {lo hi:Int}
def aeU (h:q<(hi+1 - lo).toNat):(IU lo hi).take (q+1)=(IU lo hi).take q++ [lo+(q:Int)]:=by
 unfold IU;rw[ZbH,YL,List.getElem?_range h]
 rfl
def aeV (h:(hi+1 - lo).toNat<=q):(IU lo hi).take q=IU lo hi:=Zb3 (by rw[eY];exact h)
def acs (a:Fq c)(p:List Int):(abK c p).length<=125:=by
 unfold abK;rw[List.length_map];have d:=H7 (c.Aa.drop p.length) (λi hi=>by
  rw[List.length_drop]at hi;have:=a.step (p.length+i) o!;have e:Aj (c.Aa.drop p.length) i=Aj c.Aa (p.length+i):=by simp[Aj]
  rw[e];omega)
 have b:5^(c.Aa.drop p.length).length<=5^3:=YX d! (by rw[List.length_drop];have:=a.few;omega);exact Zr d b
def LR2 (rb base:Nat)(w:Zb)(v:Zf)(P:List (List Int)):Prop:=∃a,w.ownsRow rb 22 1 v P.length a/\∀(i:Nat) (x:List Int),P[i]?=some x->∃u,a[i]?=some u/\SI (J1 3 base w) w u x
def LR2.nil (rb base:Nat)(w:Zb):LR2 rb base w () []:=⟨[],zq _ _ _ _,λi x h=>h!⟩
variable {P:List (List Int)}
def LR2.later {base:Nat}(h:LR2 rb base A v P)(b:Qb6 A B):LR2 rb base B v P:=by
 obtain⟨a,f,e⟩:=h;refine⟨a,Tn b f,λi x hi=>?_⟩;obtain⟨u,d,c⟩:=e i x hi;exact⟨u,d,Dx (T:=λ_=>False) (Ak.later b) (λ_ _ x=>x) c⟩
def LR2.aad {base:Nat}(h:LR2 rb base w v P)(d:base<=rb):LR base w v P:=by
 obtain⟨a,c,j⟩:=h;exact⟨a,⟨c.1,c.2.imp id λ⟨g,cap,b,e,i,f⟩=>⟨g,cap,b,e,Zr d i,f⟩⟩,j⟩
def LR2.mono {b base:Nat}(h:LR2 rb base w v P)(f:b<=rb):LR2 b base w v P:=by
 obtain⟨a,d,k⟩:=h;exact⟨a,⟨d.1,d.2.imp id λ⟨g,cap,c,e,j,i⟩=>⟨g,cap,c,e,Zr f j,i⟩⟩,k⟩
def LR2.val {base:Nat}(h:LR2 rb base w v P):∃a c,v=.slice a P.length c/\P.length<=c/\c<=maxLen:=by
 obtain⟨b,j,l⟩:=h;rcases j.2 with⟨e,d⟩|⟨g,cap,k,e,_,_,i,f,_⟩
 .exact⟨none,0,by rw[e,d],o!,Zp _⟩
 exact⟨_,cap,e,i,f⟩
def LR2.lt {rb base:Nat}{w:Zb}{v:Zf}{P:List (List Int)}(h:LR2 rb base w v P):∀k,v.ownBlock=some k->rb<=k:=by
 obtain⟨a,c,_⟩:=h;exact λk b=>(c.lt k b).1
variable {xs vals news:List Zf}
def LR2.app {base:Nat}{Q:List (List Int)}(l:A.ownsRow rb 22 1 v P.length vals)(w:∀(i:Nat) (x:List Int),P[i]?=some x->∃u,vals[i]?=some u/\SI (J1 3 base A) A u x)
 (s:∀(i:Nat) (x:List Int),Q[i]?=some x->∃u,news[i]?=some u/\SI (J1 3 base A) A u x) (r:A.grownBy w1 v.ownBlock) (B:w1.ownsRow rb 22 1 v' (P.length+Q.length) (vals++news)):LR2 rb base w1 v' (P++Q):=by
 have t:Ak (λk=>v.ownBlock=some k) A w1:=Ak.grown r λk n=>n;have a:∀u y,SI (J1 3 base A) A u y->SI (J1 3 base w1) w1 u y:=λu y h=>by
  refine Dx t (λb p h=>?_) h;obtain⟨C,c⟩:=p.2;rcases l.2 with⟨e,_⟩|⟨g,cap,q,e,_,o,_⟩
  .rw[e]at h;cases h
  rw[e]at h;cases h;rw[o]at c;cases c
 have m:vals.length=P.length:=by have:=l.1;omega
 refine⟨vals++news,by rw[ZA];exact B,λi y d=>?_⟩;by_cases z:i<P.length
 .rw[zl z]at d
  obtain⟨u,f,j⟩:=w i y d;exact⟨u,by rw[zl o!];exact f,a _ _ j⟩
 rw[Zbr o!]at d;obtain⟨u,f,j⟩:=s _ y d;exact⟨u,by rw[Zbr o!,m];exact f,a _ _ j⟩
def Vu (l:List Int):Ke l l=true:=by simp[Ke]
def B3.aj4 (h:Qb6 w A)(c:B3 b A B)(d:w<=b):Qb6 w B:=h.trans ((c.CN (K:=λx=>x=b) rfl).below (λx a=>by have:x=b:=a;omega) h.size)
def adJ (n lo hi:Int)(w:Zb):Calls Lp 101 #[.int .i64 n,.int .i64 lo,.int .i64 hi] w λe w'=>e=.returned (.bool (!AD n lo hi))/\w'=w:=by
 go_enter Lp.func135,am4;go_wp2
 all_goals go_ret
 all_goals refine⟨?_,rfl⟩
 all_goals simp_all[AD]
 have c:¬n<lo:=o!
 by_cases b:n<=hi
 .have a:¬hi<n:=by omega
  simp[b,c,a]
 have a:hi<n:=o!
 simp[b,a]
def aiR (n a:Int)(w:Zb):Calls Lp 98 #[.int .i64 n,.int .i64 a] w λe w'=>e=.returned (.int .i64 (Di n a))/\w'=w:=by
 go_enter Lp.func107,alv;go_wp2
 all_goals go_ret
 all_goals simp_all[Di]
 all_goals omega
variable {p:Int×Int}
def afd (h:AD p.1 lo hi=true):CV p lo hi=1:=if_pos (.inl h)
def afe (h:AD p.2 lo hi=true):CV p lo hi=1:=if_pos (.inr h)
def aff (b:AD p.1 lo hi=false)(a:AD p.2 lo hi=false)(h:p.2<p.1):CV p lo hi=5:=by
 unfold CV;rw[if_neg (by rw[b,a];simp),if_pos h]
def adK (b:AD p.1 lo hi=false)(a:AD p.2 lo hi=false)(h:¬p.2<p.1):CV p lo hi=0:=by
 unfold CV;rw[if_neg (by rw[b,a];simp),if_neg h]
def amb (h:RC S w v1 v2 v3 v4 v5 c)(E:Ql6 S w):Calls Lp 97 #[.agg #[v1,v2,v3,v4,v5]] w λe w'=>e=.returned (.int .i64 (Dq c))/\Qb6 w w':=by
 obtain⟨N,I,M,c2,L,H,K,G,J,F,rfl,rfl,rfl,rfl,rfl,l1,m1,l2,m2,l3,m3,l4,m4,l5,m5⟩:=h.vs;have IX:=DJ;go_enter Lp.func116,alH;have z:YH w w (w.alloc (.cells (Qe6 c N I M c2 L H K G J F) 26)):=(Zh _ _).alloc (Zj _) _;have X:=Bp w (.cells (Qe6 c N I M c2 L H K G J F) 26);go_wp2_with (go_at_call 98;refine(aiR _ _ _).mono ?_;rintro e w' ⟨rfl,rfl⟩)
 .have D:(Di c.base.length 3 !=0)=true:=by assumption
  go_ret;exact⟨Bw (by rw[Dq,K4 (Gr D)]),z⟩
 rename (Di _ _ !=0)=false=>D
 have l:=Zd D;clear D;go_loopg [4] c.base.length (λg i wr=>∃k:Nat,k<=c.base.length/\g=c.base.length - k/\i=.int .i64 k/\Bc (Fo 1 60) (c.base.drop k)=Bc (Fo 1 60) c.base/\wr=(w.alloc (.cells (Qe6 c N I M c2 L H K G J F) 26)))
 case atStart=>exact⟨0,Zp _,rfl,rfl,rfl,rfl⟩
 obtain⟨k,U,rfl,rfl,m,rfl⟩:=hrel;have a:=Zd m;clear m;by_cases n:k<c.base.length
 .obtain⟨b,o,rfl,u,R⟩:=h.base.at_ n
  have Z:=z.cell (p:=⟨b,o+k,none⟩) (E b u);rw[R]at Z;have d:=Zd (E_ (f:=Fo 1 60) (Bn n));go_wp2_with (go_at_call 101;refine(adJ _ _ _ _).mono ?_;rintro e w' ⟨rfl,rfl⟩)
  .have r:AD (nth c.base k) 1 60=true:=by assumption
   go_ret;have T:Bc (Fo 1 60) c.base=1:=by rw[<-a.out,d.out,Ws r];rfl
   exact⟨Bw (by rw[Dq,BR (FE l.out),T];rfl),z⟩
  have r:AD (nth c.base k) 1 60=false:=a!
  go_roundg (c.base.length - (k+1))
  case rel=>exact⟨k+1,o!,rfl,v!,by rw[<-a.out,d.out,SK r];rfl,rfl⟩
  omega
 have s:=Zd (show Bc (Fo 1 60) c.base=0 by rw[<-a.out];exact FZ o!);clear a;go_wp2
 .have C:((c.Af.length:Int) !=c.base.length)=true:=by assumption
  go_ret;exact⟨Bw (by rw[Dq,BR (FE l.out),BR s.out,if_pos (xp C)]),z⟩
 rename (_ !=_)=false=>C
 have y:=Zd C;clear C;go_loopg [5] c.Af.length (λg i wr=>∃k:Nat,k<=c.Af.length/\g=c.Af.length - k/\i=.int .i64 k/\Bc (λp=>CV p (-9) 9) (c.Af.drop k)=Bc (λp=>CV p (-9) 9) c.Af/\Qb6 w wr/\wr.heap[w.heap.size]?=some (.cells (Qe6 c N I M c2 L H K G J F) 26 (0,0)))
 case atStart=>exact⟨0,Zp _,rfl,rfl,rfl,z,X⟩
 obtain⟨k,U,rfl,rfl,m,j,O⟩:=hrel;have a:=Zd m;clear m;have k0:=ch (i:=0) O rfl;have k1:=ch (i:=1) O rfl;have k2:=ch (i:=2) O rfl;by_cases n:k<c.Af.length
 .obtain⟨b,o,rfl,u,Q,W⟩:=h.Af.at_ n
  rw[<-j.cell (p:=⟨b,o+k*2,none⟩) (E b u)]at Q;rw[<-j.cell (p:=⟨b,o+k*2+1,none⟩) (E b u)]at W;have d:=Zd (E_ (f:=λp=>CV p (-9) 9) (EE n));go_wp2_with (go_at_call 101;refine(adJ _ _ _ _).mono ?_;rintro e w' ⟨rfl,rfl⟩)
  .have t:AD (BV c.Af k).1 (-9) 9=true:=by assumption
   go_ret;have A:Bc (λp=>CV p (-9) 9) c.Af=1:=by rw[<-a.out,d.out,afd t];rfl
   exact⟨Bw (by rw[Dq,BR (FE l.out),BR s.out,if_neg (λx=>x (U2 y.out)),A];rfl),j⟩
  .have t:AD (BV c.Af k).2 (-9) 9=true:=by assumption
   go_ret;have A:Bc (λp=>CV p (-9) 9) c.Af=1:=by rw[<-a.out,d.out,afe t];rfl
   exact⟨Bw (by rw[Dq,BR (FE l.out),BR s.out,if_neg (λx=>x (U2 y.out)),A];rfl),j⟩
  rename AD (BV c.Af k).2 _ _=false=>q
  rename¬AD (BV c.Af k).1 _ _=true=>t
  have v:=Zd (Bool.eq_false_iff.2 t);have B:=Zd q;clear t q;go_quiet (fail)
  all_goals go_wp2
  .have P:(BV c.Af k).2<(BV c.Af k).1:=by assumption
   go_ret;have A:Bc (λp=>CV p (-9) 9) c.Af=5:=by rw[<-a.out,d.out,aff v.out B.out P];rfl
   exact⟨Bw (by rw[Dq,BR (FE l.out),BR s.out,if_neg (λx=>x (U2 y.out)),A];rfl),Y5 j _⟩
  have P:¬(BV c.Af k).2<(BV c.Af k).1:=o!
  go_roundg (c.Af.length - (k+1))
  case rel=>exact⟨k+1,o!,rfl,v!,by rw[<-a.out,d.out,adK v.out B.out P];rfl,Y5 j _,by simpa using O⟩
  omega
 have v:=Zd (show Bc (λp=>CV p (-9) 9) c.Af=0 by rw[<-a.out];exact FZ o!);clear a;go_wp2
 .have q:((c.hooks.length:Int) !=c.base.length)=true:=by assumption
  go_ret;exact⟨Bw (by rw[Dq,BR (FE l.out),BR s.out,if_neg (λx=>x (U2 y.out)),BR v.out,if_pos (xp q)]),j⟩
 rename (_ !=_)=false=>q
 have B:=Zd q;clear q;go_loopg [6] c.hooks.length (λg i V=>∃k:Nat,k<=c.hooks.length/\g=c.hooks.length - k/\i=.int .i64 k/\Bc (Fo 0 5) (c.hooks.drop k)=Bc (Fo 0 5) c.hooks/\V=wr)
 case atStart=>exact⟨0,Zp _,rfl,rfl,rfl,rfl⟩
 obtain⟨k,U,rfl,rfl,m,rfl⟩:=hrel;have a:=Zd m;clear m;by_cases n:k<c.hooks.length
 .obtain⟨b,o,rfl,u,R⟩:=h.hooks.at_ n
  rw[<-j.cell (p:=⟨b,o+k,none⟩) (E b u)]at R;have d:=Zd (E_ (f:=Fo 0 5) (Bn n));go_wp2_with (go_at_call 101;refine(adJ _ _ _ _).mono ?_;rintro e w' ⟨rfl,rfl⟩)
  .have r:AD (nth c.hooks k) 0 5=true:=by assumption
   go_ret;have T:Bc (Fo 0 5) c.hooks=1:=by rw[<-a.out,d.out,Ws r];rfl
   exact⟨Bw (by rw[Dq,BR (FE l.out),BR s.out,if_neg (λx=>x (U2 y.out)),BR v.out,if_neg (λx=>x (U2 B.out)),T]),j⟩
  have r:AD (nth c.hooks k) 0 5=false:=a!
  go_roundg (c.hooks.length - (k+1))
  case rel=>exact⟨k+1,o!,rfl,v!,by rw[<-a.out,d.out,SK r];rfl,rfl⟩
  omega
 have Y:=Zd (show Bc (Fo 0 5) c.hooks=0 by rw[<-a.out];exact FZ o!);clear a;go_wp2;go_ret;exact⟨Bw (by rw[Dq,BR (FE l.out),BR s.out,if_neg (λx=>x (U2 y.out)),BR v.out,if_neg (λx=>x (U2 B.out)),Y.out]),j⟩
def aci (g:Nat)(l:List (Int×Int)):Int:=PM (Di l.length 2) (CY (Fa g l) 0 l)
def amc {a:List (Int×Int)}(hp:SP S w v a)(T:g<=maxLen)(B:Ql6 S w):Calls Lp 127 #[.int .i64 g,v] w λe w'=>e=.returned (.int .i64 (aci g a))/\Qb6 w w':=by
 obtain⟨V,U,rfl,Q,P⟩:=hp.val;have X:=DJ;have F:=Zd (show aci g a=PM (Di a.length 2) (CY (Fa g a) 0 a) from rfl);go_enter Lp.func160,am5;go_wp2_with (go_at_call 98;refine(aiR _ _ _).mono ?_;rintro e w' ⟨rfl,y⟩;have y:=y.symm;subst y)
 .have t:(Di a.length 2 !=0)=true:=by assumption
  go_ret;exact⟨Bw (by rw[F.out,K4 (Gr t)]),Zh _ _⟩
 rename (Di _ _ !=0)=false=>t
 have r:=Zd (show aci g a=CY (Fa g a) 0 a by rw[F.out,BR (FE t)]);have W:=Zd t;clear t F;go_loopg [6] a.length (λN i wr=>∃k:Nat,k<=a.length/\N=a.length - k/\i=.int .i64 k/\CY (Fa g a) k (a.drop k)=CY (Fa g a) 0 a/\Qb6 w wr)
 case atStart=>exact⟨0,Zp _,rfl,rfl,rfl,Zh _ _⟩
 obtain⟨k,R,rfl,rfl,K,d⟩:=hrel;have m:=Zd K;clear K;by_cases L:k<a.length
 .obtain⟨q,z,rfl,C,E,D⟩:=hp.at_ L
  obtain⟨O,M,e,_,J,_⟩:=hp.at_ (i:=0) o!;cases e;rw[<-d.cell (p:=⟨q,z+k*2,none⟩) (B q C)]at E;rw[<-d.cell (p:=⟨q,z+k*2+1,none⟩) (B q C)]at D;rw[<-d.cell (p:=⟨q,z+0*2,none⟩) (B q C)]at J;have n:=Zd (K5 (f:=Fa g a) (EE L));obtain⟨x,A⟩:=Qnm (BV a k);rw[<-A]at E D n;have Y:=Zd A;clear A;obtain⟨b,c⟩:=x;dsimp only at E D;rw[Nat.zero_mul,Nat.add_zero]at J;go_wp2_with (go_at_call 101;refine(adJ _ _ _ _).mono ?_;rintro e w' ⟨rfl,rfl⟩)
  .have j:AD b 0 ((g:Int) - 1)=true:=by assumption
   have l:Fa g a k (b,c)=3:=by unfold Fa;rw[if_pos j]
   go_ret;exact⟨Bw (by rw[r.out, <-m.out,n.out,l];rfl),d⟩
  .have j:AD b 0 ((g:Int) - 1)=false:=by assumption
   have o:AD c (-4) 4=true:=a!
   have l:Fa g a k (b,c)=1:=by unfold Fa;rw[if_neg (by rw[j];decide),if_pos (.inr o)]
   go_ret;exact⟨Bw (by rw[r.out, <-m.out,n.out,l];rfl),d⟩
  .have j:AD b 0 ((g:Int) - 1)=false:=by assumption
   have o:(c==0)=true:=a!
   have l:Fa g a k (b,c)=1:=by unfold Fa;rw[if_neg (by rw[j];decide),if_pos (.inl (by simpa using o))]
   go_ret;exact⟨Bw (by rw[r.out, <-m.out,n.out,l];rfl),d⟩
  rename AD b 0 _=false=>j
  rename¬AD c _ _=true=>o
  rename (c==0)=false=>H
  have l:Fa g a k (b,c)=if 0<k/\b=(BV a 0).1 then 4 else 0:=by unfold Fa;rw[if_neg (by rw[j];decide),if_neg (λx=>x.elim (by simpa using H) o)]
  have G:=Zd l;clear l j o H;by_cases I:0<k
  .go_quiet (fail)
   go_wp2
   .have s:((BV a 0).1==b)=true:=by assumption
    go_ret;have u:Fa g a k (b,c)=4:=by rw[G.out,if_pos ⟨I,by simp at s;exact s.symm⟩]
    exact⟨Bw (by rw[r.out, <-m.out,n.out,u];rfl),Y5 d _⟩
   have s:((BV a 0).1==b)=false:=a!
   have u:Fa g a k (b,c)=0:=by rw[G.out,if_neg (λx=>by simp at s;exact s x.2.symm)]
   go_roundg (a.length - (k+1))
   case rel=>exact⟨k+1,o!,rfl,v!,by rw[<-m.out,n.out,u];rfl,Y5 d _⟩
   omega
  go_quiet (fail);go_wp2;have u:Fa g a k (b,c)=0:=by rw[G.out,if_neg (λx=>I x.1)]
  go_roundg (a.length - (k+1))
  case rel=>exact⟨k+1,o!,rfl,v!,by rw[<-m.out,n.out,u];rfl,Y5 d _⟩
  omega
 go_wp2;go_ret;exact⟨Bw (by rw[r.out, <-m.out];exact(MN o!).symm),d⟩
def afq (a b c:Int):PM (PM a b) c=PM a (PM b c):=by
 unfold PM;by_cases h:a=0
 .rw[if_pos h,if_pos h]
 rw[if_neg h,if_neg h,if_neg h]
def amd (h:RC S w v1 v2 v3 v4 v5 c)(hn:n<c.Aa.length)(K:Ql6 S w):Calls Lp 99 #[.agg #[v1,v2,v3,v4,v5],.int .i64 n] w λe w'=>e=.returned (.int .i64 (EF c n))/\Qb6 w w':=by
 obtain⟨a1,c1,a2,c2,a3,c3,a4,c4,a5,c5,rfl,rfl,rfl,rfl,rfl,l1,m1,l2,m2,l3,m3,l4,m4,l5,m5⟩:=h.vs;have IX:=DJ;obtain⟨b,o,s2,s3,rfl,hb,ER,MM,LO,Z,V,P,J⟩:=h.Aa.at_ hn;obtain⟨a6,c6,rfl,l6,m6⟩:=P.val;obtain⟨a7,c7,rfl,l7,m7⟩:=J.val;have ig:=K b hb;obtain⟨s,O⟩:=Qnm (Aj c.Aa n);have D:EF c n=PM (CV (s.low,s.high) (-2) 2) (PM (aci c.base.length s.Ap) (PM (CY (Ed c.Aa.length n s.over) 0 s.over) (Fo 0 4 s.left))):=by rw[EF,O,aci,afq]
 have C:=Zd D;rw[<-O]at ER MM LO Z V P J l6 l7;clear O D;obtain⟨a,j,BW,d,G⟩:=s;dsimp only at*;have Bg:YH w w (w.alloc (.cells (Qe6 c a1 c1 a2 c2 a3 c3 (some ⟨b,o,none⟩) c4 a5 c5) 26)):=bA (Zh _ _);have F:=Zd (λW (t:Qb6 w W)=>amc (w:=W) (g:=c.base.length) (P.later t) o! (A3 K t));go_enter Lp.func117,alL;go_wp2_with (first|(go_at_call 101;refine(adJ _ _ _ _).mono ?_;rintro e w' ⟨rfl,rfl⟩)|(go_at_call 127;refine(F.out _ (bA (bA (Zh _ _)))).mono ?_;rintro e w' ⟨rfl,Bv⟩;obtain⟨De,m,Q⟩:=kp Bv;have f0:=m 0 (.slice a1 c.base.length c1) rfl;have f3:=m 3 (.slice (some ⟨b,o,none⟩) c.Aa.length c4) rfl;have g3:=Q 3 (.slice a7 d.length c7) rfl;have Y:=Q 4 (.int .i64 G) rfl;clear m Q))
 .have r:AD a (-2) 2=true:=by assumption
  go_ret;exact⟨Bw (by rw[C.out,afd (p:=(a,j)) r];rfl),bA (bA (Zh _ _))⟩
 .have r:AD j (-2) 2=true:=by assumption
  go_ret;exact⟨Bw (by rw[C.out,afe (p:=(a,j)) r];rfl),bA (bA (Zh _ _))⟩
 .have r:¬AD a (-2) 2=true:=by assumption
  have A:AD j (-2) 2=false:=a!
  have l:j<a:=a!
  go_ret;exact⟨Bw (by rw[C.out,aff (p:=(a,j)) (Bool.eq_false_iff.2 r) A l];rfl),bA (bA (Zh _ _))⟩
 .have r:¬AD a (-2) 2=true:=by assumption
  have A:AD j (-2) 2=false:=a!
  have l:a<=j:=a!
  have q:(aci c.base.length BW !=0)=true:=a!
  go_ret;exact⟨Bw (by rw[C.out,adK (p:=(a,j)) (Bool.eq_false_iff.2 r) A (by show¬j<a;omega),BR rfl,K4 (Gr q)]),De⟩
 rename¬AD a (-2) 2=true=>r
 rename AD j (-2) 2=false=>A
 rename a<=j=>l
 rename (aci _ _ !=0)=false=>q
 have I:=Zd (show EF c n=PM (CY (Ed c.Aa.length n d) 0 d) (Fo 0 4 G) by rw[C.out,adK (p:=(a,j)) (Bool.eq_false_iff.2 r) A (by show¬j<a;omega),BR rfl,BR (FE q)]);clear r A l C ER MM LO Z V F;have Q4:=Zd q;clear q;have D':=ZH w' _ Y;have Sb:w+1<w'.heap.size:=D';clear D';go_loopg [7] d.length (λg i wr=>∃k:Nat,k<=d.length/\g=d.length - k/\i=.int .i64 k/\CY (Ed c.Aa.length n d) k (d.drop k)=CY (Ed c.Aa.length n d) 0 d/\Qb6 w wr/\Qb6 w' wr)
 case atStart=>exact⟨0,Zp _,rfl,rfl,rfl,De,Zh _ _⟩
 obtain⟨k,hk,rfl,rfl,CP,u,t⟩:=hrel;have m:=Zd CP;clear CP;rw[<-t.cell (p:=w) j!]at f0;rw[<-t.cell (p:=⟨w,3,none⟩) j!]at f3;rw[<-t.cell (p:=⟨w+1,3,none⟩) j!]at g3;rw[<-t.cell (p:=⟨w+1,4,none⟩) j!]at Y;by_cases Az:k<d.length
 .obtain⟨E,L,rfl,U3,L6⟩:=J.at_ Az
  rw[<-u.cell (p:=⟨E,L+k,none⟩) (K E U3)]at L6;have R:0<k->wr.cell? ⟨E,L+(k - 1),none⟩=some (.int .i64 (nth d (k - 1))):=λh0=>by
   obtain⟨am,ai,e,_,X⟩:=J.at_ (i:=k - 1) o!;cases e;rw[<-u.cell (p:=⟨E,L+(k - 1),none⟩) (K E U3)]at X;exact X
  have B:=Zd (K5 (f:=Ed c.Aa.length n d) (Bn Az));obtain⟨x,N⟩:=Qnm (nth d k);rw[<-N]at L6 B;have HX:=Zd N;have T:=Zd R;clear N R;cases l:AD x 0 ((c.Aa.length:Int) - 1) with
  |true=>
   go_wp2;go_quiet (first|(go_at_call 101;refine Zb5 (adJ _ _ _ _)));go_wp2;go_ret;have v:Ed c.Aa.length n d k x=3:=by unfold Ed;rw[if_pos (.inl l)]
   exact⟨Bw (by rw[I.out, <-m.out,B.out,v];rfl),Y5 u _⟩
  |false=>
   go_wp2;go_quiet (first|(go_at_call 101;refine Zb5 (adJ _ _ _ _)));go_wp2
   .have q:(x==(n:Int))=true:=by assumption
    go_ret;have v:Ed c.Aa.length n d k x=3:=by unfold Ed;rw[if_pos (.inr (by simpa using q))]
    exact⟨Bw (by rw[I.out, <-m.out,B.out,v];rfl),Y5 u _⟩
   rename (x==(n:Int))=false=>q
   have z:=Zd (show¬(AD x 0 ((c.Aa.length:Int) - 1)=true\/x=n) from λy=>y.elim (by rw[l];decide) (by simpa using q));clear l q;by_cases M:0<k
   .have R:=T.out M
    go_quiet (fail);go_wp2
    .have U:x<=nth d (k - 1):=by assumption
     have v:Ed c.Aa.length n d k x=5:=by unfold Ed;rw[if_neg z.out,if_pos ⟨M,U⟩]
     go_ret;exact⟨Bw (by rw[I.out, <-m.out,B.out,v];rfl),Y5 (Y5 u _) _⟩
    have U:nth d (k - 1)<x:=a!
    have v:Ed c.Aa.length n d k x=0:=by unfold Ed;rw[if_neg z.out,if_neg (λy=>by have:=y.2;omega)]
    go_roundg (d.length - (k+1))
    case rel=>exact⟨k+1,o!,rfl,v!,by rw[<-m.out,B.out,v];rfl,Y5 u _,Y5 t _⟩
    omega
   go_quiet (fail);go_wp2;have v:Ed c.Aa.length n d k x=0:=by unfold Ed;rw[if_neg z.out,if_neg (λy=>M y.1)]
   go_roundg (d.length - (k+1))
   case rel=>exact⟨k+1,o!,rfl,v!,by rw[<-m.out,B.out,v];rfl,Y5 u _,Y5 t _⟩
   omega
 have H:=Zd (show EF c n=Fo 0 4 G by rw[I.out,BR (by rw[<-m.out];exact MN o!)]);clear m;go_wp2_with (go_at_call 101;refine(adJ _ _ _ _).mono ?_;rintro e w' ⟨rfl,rfl⟩)
 .have l:AD G 0 4=true:=by assumption
  go_ret;exact⟨Bw (by rw[H.out,Ws l]),u⟩
 have l:AD G 0 4=false:=a!
 go_ret;exact⟨Bw (by rw[H.out,SK l]),u⟩
variable {l x nums:List Int}
def c93 (h:RC S w v1 v2 v3 v4 v5 c)(hl:SI S w v6 l)(r:Ql6 S w):Calls Lp 79 #[.agg #[v1,v2,v3,v4,v5],v6] w λe w'=>e=.returned (.int .i64 (Ct c l))/\Qb6 w w':=by
 obtain⟨P,L,O,c2,N,K,z,y,M,J,rfl,rfl,rfl,rfl,rfl,l1,m1,l2,m2,l3,m3,l4,m4,l5,Z⟩:=h.vs;obtain⟨a6,c6,rfl,l6,Y⟩:=hl.val;have IX:=DJ;have s:YH w w (w.alloc (.cells (Qe6 c P L O c2 N K z y M J) 26)):=(Zh _ _).alloc (Zj _) _;by_cases t:l.length<c.Aa.length
 .go_enter Lp.func93,n93
  go_wp2;go_ret;exact⟨Bw (by rw[Ct,if_pos t]),s⟩
 by_cases A:c.Aa.length<l.length
 .go_enter Lp.func93,n93
  go_wp2;go_ret;exact⟨Bw (by rw[Ct,if_neg t,if_pos A]),s⟩
 have a:l.length=c.Aa.length:=o!
 have x:Ct c l=Bc (λp:Int×Ay=>Fo p.2.low p.2.high p.1) (l.zip c.Aa):=by rw[Ct,if_neg t,if_neg A]
 have j:(l.zip c.Aa).length=l.length:=by simp[a]
 have B:=Zd x;have U:=Zd j;have V:=Zd a;clear x j a;go_enter Lp.func93,n93;go_wp2;go_loopg [5] l.length (λg i wr=>∃k:Nat,k<=l.length/\g=l.length - k/\i=.int .i64 k/\Bc (λp:Int×Ay=>Fo p.2.low p.2.high p.1) ((l.zip c.Aa).drop k)=Bc (λp:Int×Ay=>Fo p.2.low p.2.high p.1) (l.zip c.Aa)/\Qb6 w wr/\wr.cell? ⟨w,3,none⟩=some (.slice z c.Aa.length y))
 case atStart=>exact⟨0,Zp _,rfl,rfl,rfl,s,i!⟩
 obtain⟨k,hk,rfl,rfl,E,d,G⟩:=hrel;have m:=Zd E;clear E;by_cases F:k<l.length
 .have C:k<c.Aa.length:=by have:=V.out;omega
  obtain⟨b,o,rfl,I,H⟩:=hl.at_ F;obtain⟨n,u,X,W,rfl,D,R,T,_⟩:=h.Aa.at_ C;rw[<-d.cell (p:=⟨b,o+k,none⟩) (r b I)]at H;rw[<-d.cell (p:=⟨n,u+k*5,none⟩) (r n D)]at R;rw[<-d.cell (p:=⟨n,u+k*5+1,none⟩) (r n D)]at T;have v:=Zd (E_ (f:=λp:Int×Ay=>Fo p.2.low p.2.high p.1) (Ra F C));go_wp2;go_quiet (first|(go_at_call 101;refine Zb5 (adJ _ _ _ _)))
  all_goals go_wp2
  .have q:AD (nth l k) (Aj c.Aa k).low (Aj c.Aa k).high=true:=by assumption
   go_ret;exact⟨Bw (by rw[B.out, <-m.out,v.out,Ws q];rfl),Y5 d _⟩
  have q:AD (nth l k) (Aj c.Aa k).low (Aj c.Aa k).high=false:=a!
  go_roundg (l.length - (k+1))
  case rel=>exact⟨k+1,o!,rfl,v!,by rw[<-m.out,v.out,SK q];rfl,Y5 d _,by simpa using G⟩
  omega
 have Q:=Zd (show Ct c l=0 by rw[B.out, <-m.out];exact FZ (by have:=U.out;omega));clear m;go_wp2;go_ret;exact⟨Bw Q.out.symm,d⟩
def ajM:(Tryz.prog.info? 4).map (λi=>(i.zero,i.size,i.bytes))=some (some (.bool false),1,1):=k!
def ady (st:List Bool):Array Zf:=(st.map Value.bool).toArray
def agF (n:Nat)(e:n<=1000)(w:Zb):(Zdp 186 (.int .i64 n) (.int .i64 n)).run Lp w=.ok (.slice w n n) (w.alloc (.cells (ady (List.replicate n false)) 4)):=by
 obtain⟨a,hi,b,d,c⟩:=zp ajM;have h:=run_make (P:=Lp) w 186 4 a (.bool false) (Cz Tryz.underlying186) (Dz hi) b .i64 .i64 n n o! (Int.le_refl _) (by rw[c];omega) o!;rw[h,d];simp only[Int.toNat_natCast]
 congr 3
 unfold ady;apply Array.ext
 .simp[madeCells]
 intro i g f;simp[madeCells,Value.cells,Nat.mod_one]
def agV (st:List Bool)(k:Nat):(ady st).setIfInBounds k (.bool true)=ady (st.set k true):=by
 unfold ady;simp
def adq {st:List Bool}(h:k<st.length):(ady st)[k]?=some (.bool (st.getD k false)):=by
 unfold ady;simp[Y6,h]
def af1 {st:List Bool}(h:k<l.length):aiJ (l.drop k) st=aiJ (l.drop (k+1)) (st.set (nth l k).toNat true):=by
 unfold aiJ;rw[ZO h,List.foldl_cons]
 congr 2
 simp[nth,h]
def af4 {o:List (List Int)}{st:List Bool}(h:i<o.length):yn n i (o.drop i) st=yn n (i+1) (o.drop (i+1)) (if i=n\/st.getD i false=true then aiJ (o.getD i []) st else st):=by
 rw[ZO h];show yn n (i+1) (o.drop (i+1)) (if i=n\/st.getD i false=true then aiJ o[i] st else st)=_;rw[show o.getD i []=o[i] by simp[Y6,h]]
structure AbW (w:Zb)(x:Array Zf)(n:Nat)(st:List Bool)(wr:Zb):Prop where
 below:Qb6 w wr
 box:wr.heap[w.heap.size]?=some (.cells x 26 (0,0))
 row:wr.heap[w.heap.size+1]?=some (.cells (ady st) 4 (0,0))
 len:st.length=n
def AbW.set {wr:Zb}{x:Array Zf}{st:List Bool}(h:AbW w x n st wr)(k:Nat):AbW w x n (st.set k true) (wr.setCell ⟨w+1,k,none⟩ (.bool true)):=
 ⟨bS h.below o!,(AZ o! _).trans h.box,by rw[Ba h.row _,agV],by rw[ZcC];exact h.len⟩
def ame (h:RC S w v1 v2 v3 v4 v5 c)(Jw:JO c.Aa)(Q:Ql6 S w):
  Calls Lp 100 #[.agg #[v1,v2,v3,v4,v5],.int .i64 n] w λe w'=>e=.returned (.slice (w+1:Nat) c.Aa.length c.Aa.length)/\Qb6 w w'/\w'.heap[w.heap.size+1]?=some (.cells (ady (ac4 c.Aa n)) 4 (0,0))/\(ac4 c.Aa n).length=c.Aa.length:=by
 obtain⟨L,H,K,c2,J,G,R,F,I,E,rfl,rfl,rfl,rfl,rfl,l1,m1,l2,m2,l3,m3,l4,m4,l5,m5⟩:=h.vs;have IX:=DJ;have Jm:=Jw.few;have am:=λW=>agF c.Aa.length o! W;have m:(aaZ c.Aa).length=c.Aa.length:=by simp[aaZ]
 have A:iV n (aaZ c.Aa) c.Aa.length (List.replicate c.Aa.length false)=ac4 c.Aa n:=by unfold ac4 aiK;rw[m]
 have HF:=Zd A;have HO:=Zd m;clear A m;go_enter Lp.func118,alO;go_wp2;go_loopg [6] c.Aa.length (λg i wr=>∃(r:Nat) (st:List Bool),r<=c.Aa.length/\g=c.Aa.length - r/\i=.int .i64 r/\iV n (aaZ c.Aa) (c.Aa.length - r) st=ac4 c.Aa n/\AbW w #[.slice L c.base.length H,.slice K c.Af.length c2,.slice J c.hooks.length G,.slice R c.Aa.length F,.slice I c.now.length E] c.Aa.length st wr)
 case atStart=>exact⟨0,_,Zp _,rfl,rfl,HF.out,⟨bA (bA (Zh _ _)),Bf (Bp _ _) _,by have:=Bp (w.alloc (.cells (Qe6 c L H K c2 J G R F I E) 26)) (.cells (ady (List.replicate c.Aa.length false)) 4);rwa[ZB]at this,i!⟩⟩
 obtain⟨r,st,hr,rfl,rfl,z,v⟩:=hrel;have B_:=Zd z;clear z;have X:=ch (i:=3) v.box rfl;by_cases Az:r<c.Aa.length
 .go_wp2
  go_loopg [7] c.Aa.length (λg i wx=>∃(j:Nat) (a:List Bool),j<=c.Aa.length/\g=c.Aa.length - j/\i=.int .i64 j/\yn n j ((aaZ c.Aa).drop j) a=yn n 0 (aaZ c.Aa) st/\AbW w #[.slice L c.base.length H,.slice K c.Af.length c2,.slice J c.hooks.length G,.slice R c.Aa.length F,.slice I c.now.length E] c.Aa.length a wx)
  case atStart=>exact⟨0,st,Zp _,rfl,rfl,rfl,v⟩
  obtain⟨j,a,hj,rfl,rfl,B,s⟩:=hrel;have U:=Zd B;clear B;have X:=ch (i:=3) s.box rfl;by_cases N:j<c.Aa.length
  .have t:=ch s.row (adq (k:=j) (by have:=s.len;omega))
   have lY:(aaZ c.Aa).getD j []=(Aj c.Aa j).over:=by simp[aaZ,Aj,Y6,N]
   have Y:=Zd (af4 (n:=n) (i:=j) (o:=aaZ c.Aa) (st:=a) (by have:=HO.out;omega));rcases(show j=n\/(¬j=n/\a.getD j false=true)\/¬j=n/\a.getD j false=false by
    by_cases e:j=n
    .exact .inl e
    cases e2:a.getD j false
    .exact .inr (.inr ⟨e,rfl⟩)
    exact .inr (.inl ⟨e,rfl⟩)) with hj1|⟨hj1,xK⟩|⟨hj1,xK⟩
   rotate_left 2
   .have BL:¬(j:Int)=n:=by omega
    rw[xK]at t;go_wp2;go_roundg (c.Aa.length - (j+1))
    case rel=>exact⟨j+1,a,o!,rfl,v!,by rw[<-U.out,Y.out,if_neg (λx=>x.elim hj1 (by rw[xK];decide))],s⟩
    omega
   case' inl=>
    subst hj1;go_wp2;have HC:=Zd (show j=j\/a.getD j false=true from .inl rfl)
   case' inr.inl=>
    have BL:¬(j:Int)=n:=o!
    have HC:=Zd (show j=n\/a.getD j false=true from .inr xK);rw[xK]at t;clear hj1 xK;go_wp2;clear BL
   all_goals
    obtain⟨b,o,v2,v3,ea,Z,_,_,_,T,_,_,P⟩:=h.Aa.at_ N;subst ea;obtain⟨a7,c7,rfl,l7,m7⟩:=P.val;obtain⟨d,C⟩:=Qnm ((Aj c.Aa j).over);have rU:∀k,k<d.length->0<=nth d k/\nth d k<c.Aa.length:=by rw[C];exact Jw.over j N
    have HV:=Zd C;rw[<-C]at T P l7;clear C;rw[<-s.below.cell (p:=⟨b,o+j*5+3,none⟩) (Q b Z)]at T;go_loopg [8] d.length (λg i V=>∃(k:Nat) (l:List Bool),k<=d.length/\g=d.length - k/\i=.int .i64 k/\aiJ (d.drop k) l=aiJ d a/\YH w wr V/\AbW w #[.slice L c.base.length H,.slice K c.Af.length c2,.slice J c.hooks.length G,.slice (some ⟨b,o,none⟩) c.Aa.length F,.slice I c.now.length E] c.Aa.length l V)
    case atStart=>exact⟨0,a,Zp _,rfl,rfl,rfl,Zh _ _,s⟩
    obtain⟨k,l,hk,rfl,rfl,B,U5,f⟩:=hrel;have et:=Zd B;clear B;have X:=ch (i:=3) f.box rfl;rw[<-U5.cell (p:=⟨b,o+j*5+3,none⟩) (Q b Z)]at T;by_cases q:k<d.length
    .obtain⟨b7,o7,rfl,U3,u⟩:=P.at_ q
     have y:=rU k q;obtain⟨x,O⟩:∃x:Nat,nth d k=x:=⟨_,(Int.toNat_of_nonneg y.1).symm⟩;have D:=af1 (st:=l) q;rw[O]at u y D;rw[Int.toNat_natCast]at D;have HD:=Zd D;have HX:=Zd O;clear D O;have ai:x<c.Aa.length:=o!
     rw[<-f.below.cell (p:=⟨b7,o7+k,none⟩) (Q b7 U3)]at u;have kx:=ch f.row (adq (k:=x) (by have:=f.len;omega));have fx:=cf (i:=x) f.row;go_wp2;go_roundg (d.length - (k+1))
     case rel=>exact⟨k+1,l.set x true,o!,rfl,v!,by rw[<-et.out,HD.out],U5.setCell (p:=⟨w+1,x,none⟩) (Nat.le_succ _) _,f.set x⟩
     omega
    go_wp2;have M:=et.out;rw[Z7.2 (show d.length<=k by omega)]at M;have M:l=aiJ d a:=M;go_roundg (c.Aa.length - (j+1))
    case rel=>exact⟨j+1,l,o!,rfl,v!,by rw[<-U.out,Y.out,if_pos HC.out,lY, <-HV.out,M],f⟩
    omega
  go_wp2;go_roundg (c.Aa.length - (r+1))
  case rel=>exact⟨r+1,a,o!,rfl,v!,by rw[<-B_.out,show c.Aa.length - r=(c.Aa.length - (r+1))+1 by omega];show _=iV n _ _ (yn n 0 _ st);rw[<-U.out,Z7.2 (by have:=HO.out;omega)];rfl,s⟩
  omega
 go_wp2;go_ret;have hz:c.Aa.length - r=0:=o!
 have e:=B_.out;rw[hz]at e;have e':st=ac4 c.Aa n:=e;exact⟨rfl,v.below,by rw[<-e'];exact v.row,by rw[<-e'];exact v.len⟩
def ae5 (f:JP c=0):∀s∈c.Aa,s.over.Pairwise (· < ·)/\∀x∈s.over,0<=x/\x<c.Aa.length:=λs d=>by
 obtain⟨k,a,e⟩:=Zas d;have h:=Gs f k s (by rw[zf a,e]);rw[zN]at h;unfold EF at h;have b:=(Bj (Bj (Bj (Bj h).2).2).2).1;have g:Aj c.Aa k=s:=by
  have:=Db a;rw[zf a,e]at this;exact(ZW this).symm
 rw[g]at b;exact agf b
def agW (d:Di c.Aa.length 3=0)(b:JP c=0)(hi:i<c.Aa.length)(a:k<c.Aa.length):(ac4 c.Aa i).getD k false=hasB (Ax c.Aa i) k:=
 afm (by have:=(JQ d).2;omega) (ae5 b) hi a
def ahT {l:List Ay}(a:k<l.length)(h:hasB (Ax l k) k=true):H0 l=false:=ks a (by rw[h];rfl)
def ahZ {l:List Ay}(h:∀k,k<l.length->hasB (Ax l k) k=false):H0 l=true:=by
 unfold H0;rw[Zdm];intro k a;rw[h k (List.mem_range.1 a)]
 rfl
def c50 (h:RC S w v1 v2 v3 v4 v5 c)(z:Ql6 S w):Calls Lp 78 #[.agg #[v1,v2,v3,v4,v5]] w λe w'=>e=.returned (.int .i64 (BN c))/\Qb6 w w':=by
 obtain⟨I,D,H,c2,G,C,F,B,E,A,rfl,rfl,rfl,rfl,rfl,l1,m1,l2,m2,l3,m3,l4,m4,l5,m5⟩:=h.vs;have IX:=DJ;obtain⟨xs,am⟩:∃xs:Array Zf,xs= #[.slice I c.base.length D,.slice H c.Af.length c2,.slice G c.hooks.length C,.slice F c.Aa.length B,.slice E c.now.length A]:=⟨_,rfl⟩;have K:=Zd (show BN c=PM (Dq c) (PM (Di c.Aa.length 3) (PM (JP c) (if H0 c.Aa=true then Ct c c.now else 9))) from rfl);have T:=Zd (λW (b:Qb6 w W)=>amb (h.later b) (A3 z b));have R:=Zd (λW (b:Qb6 w W) n (hn:n<c.Aa.length)=>amd (h.later b) hn (A3 z b));have Q:=Zd (λW (b:Qb6 w W) n (J:JO c.Aa)=>ame (n:=n) (h.later b) J (A3 z b));have Z:=Zd (λW (b:Qb6 w W)=>c93 (h.later b) (h.later b).now (A3 z b));go_enter Lp.func50,n50;go_wp2_with (first|(go_at_call 97;refine(T.out _ (bA (Zh _ _))).mono ?_;rintro e W1 ⟨rfl,Bg⟩;(have M:=(Bg.block _ (by rw[ZB];exact Nat.lt_succ_self _)).trans (Bp w (.cells (Qe6 c I D H c2 G C F B E A) 26)));(have U:Qb6 w W1:=(bA (Zh _ _)).trans (Bg.mono (by rw[ZB];omega)));(have x:=ch (i:=3) M rfl);(have v:=ch (i:=4) M rfl))|(go_at_call 98;refine(aiR _ _ _).mono ?_;rintro e w' ⟨rfl,L⟩;have L:=L.symm;subst L))
 .have p:(Dq c !=0)=true:=by assumption
  go_ret;exact⟨Bw (by rw[K.out,K4 (Gr p)]),U⟩
 .have p:(Dq c !=0)=false:=by assumption
  have o:(Di c.Aa.length 3 !=0)=true:=a!
  go_ret;exact⟨Bw (by rw[K.out,BR (FE p),K4 (Gr o)]),U⟩
 rename (Dq c !=0)=false=>p
 rename (Di _ _ !=0)=false=>o
 have V:=Zd (SQ (FE o));have mG:=Zd (fun(h2:JP c=0) i k=>agW (c:=c) (i:=i) (k:=k) (FE o) h2);have um:=Zd (show BN c=PM (JP c) (if H0 c.Aa=true then Ct c c.now else 9) by rw[K.out,BR (FE p),BR (FE o)]);have Q1:=Zd p;have Q2:=Zd o;clear p o Bg x v K;go_loopg [5] c.Aa.length (λg i wr=>∃k:Nat,k<=c.Aa.length/\g=c.Aa.length - k/\i=.int .i64 k/\CY (λi _=>EF c i) k (c.Aa.drop k)=JP c/\Qb6 w wr/\wr.heap[w.heap.size]?=some (.cells (Qe6 c I D H c2 G C F B E A) 26 (0,0)))
 case atStart=>exact⟨0,Zp _,rfl,rfl,rfl,U,M⟩
 obtain⟨k,hk,rfl,rfl,CP,a,m⟩:=hrel;have y:=Zd CP;clear CP;obtain⟨k0,k1,k2,x,v⟩:=Qc5 m;have N:=(Za.1 m).1;by_cases t:k<c.Aa.length
 .have hd:=Zd (K5 (f:=λi _=>EF c i) (Db t))
  go_wp2_with (go_at_call 99;refine(R.out _ a _ t).mono ?_;rintro e w2 ⟨rfl,d⟩)
  .have l:(EF c k !=0)=true:=by assumption
   have s:JP c=EF c k:=by rw[<-y.out,hd.out,if_neg (Gr l)]
   go_ret;exact⟨Bw (by rw[um.out,s,K4 (Gr l)]),a.trans (d.mono a.size)⟩
  have l:(EF c k !=0)=false:=a!
  go_roundg (c.Aa.length - (k+1))
  case rel=>exact⟨k+1,o!,rfl,v!,by rw[<-y.out,hd.out,if_pos (FE l)],a.trans (d.mono a.size),(d.block _ N).trans m⟩
  omega
 have s:JP c=0:=by rw[<-y.out];exact MN o!
 have J:=V.out s;have HA:=Zd (mG.out s);have xq:=Zd (show BN c=(if H0 c.Aa=true then Ct c c.now else 9) by rw[um.out,BR s]);have HK:=Zd J;clear y s J;go_wp2;go_loopg [7] c.Aa.length (λg i wx=>∃k:Nat,k<=c.Aa.length/\g=c.Aa.length - k/\i=.int .i64 k/\(∀j,j<k->hasB (Ax c.Aa j) j=false)/\Qb6 w wx/\wx.heap[w.heap.size]?=some (.cells (Qe6 c I D H c2 G C F B E A) 26 (0,0)))
 case atStart=>exact⟨0,Zp _,rfl,rfl,λj P=>absurd P (ZbY _),a,m⟩
 obtain⟨k,hk,rfl,rfl,tE,a,m⟩:=hrel;have O:=Zd tE;clear tE k0 k1 k2 x v;obtain⟨k0,k1,k2,x,v⟩:=Qc5 m;have N:=(Za.1 m).1;by_cases t:k<c.Aa.length
 .have q:=HA.out k k t t
  obtain⟨bb,r⟩:=Qnm (hasB (Ax c.Aa k) k);rw[<-r]at q;have u:=Zd r;have X:=Zd q;clear r q;go_wp2_with (go_at_call 100;refine(Q.out _ a k HK.out).mono ?_;rintro e w2 ⟨rfl,d,Ci,ai⟩;have kx:=ch Ci (adq (k:=k) o!);rw[X.out]at kx)
  .have l:bb=true:=by assumption
   go_ret;exact⟨Bw (by rw[xq.out,if_neg (by rw[ahT t (u.out.symm.trans l)];decide)]),a.trans (d.mono a.size)⟩
  have l:bb=false:=a!
  go_roundg (c.Aa.length - (k+1))
  case rel=>exact⟨k+1,o!,rfl,v!,λj P=>by
   by_cases e:j=k
   .rw[e];exact u.out.symm.trans l
   exact O.out j o!,a.trans (d.mono a.size),(d.block _ N).trans m⟩
  omega
 have Y:=Zd (show BN c=Ct c c.now by rw[xq.out,if_pos (ahZ λj P=>O.out j o!)]);clear O;go_wp2_with (go_at_call 79;refine(Z.out _ a).mono ?_;rintro e w2 ⟨rfl,d⟩);go_ret;exact⟨Bw Y.out.symm,a.trans (d.mono a.size)⟩
def ajP (h:RC S w v1 v2 v3 v4 v5 c)(hl:SI S w v6 l)(k:Ql6 S w):Calls Lp 42 #[.agg #[v1,v2,v3,v4,v5],v6] w λe w'=>e=.returned (.int .i64 (Ca c l))/\Qb6 w w':=by
 obtain⟨x,r,v,c2,u,q,t,p,s,o,rfl,rfl,rfl,rfl,rfl,K,E,J,D,I,C,H,B,G,A⟩:=h.vs;obtain⟨Q,P,rfl,F,z⟩:=hl.val;have R:=DJ;have m:=Zd (show Ca c l=PM (BN c) (Ct c l) from rfl);have j:=Zd (λW (a:Qb6 w W)=>c50 (h.later a) (A3 k a));have g:=Zd (λW (a:Qb6 w W)=>c93 (h.later a) (hl.later a) (A3 k a));go_enter Lp.func114,alw;go_wp2_with (first|(go_at_call 78;refine(j.out _ (bA (Zh _ _))).mono ?_;rintro e W1 ⟨rfl,n⟩;(have b:=(n.block _ (by rw[ZB];exact Nat.lt_succ_self _)).trans (Bp w (.cells (Qe6 c x r v c2 u q t p s o) 26)));(have d:Qb6 w W1:=(bA (Zh _ _)).trans (n.mono (by rw[ZB];omega)));(have O:=ch (i:=0) b rfl);(have k1:=ch (i:=1) b rfl);(have N:=ch (i:=2) b rfl);(have M:=ch (i:=3) b rfl);(have L:=ch (i:=4) b rfl))|(go_at_call 79;refine(g.out _ d).mono ?_;rintro e w' ⟨rfl,y⟩))
 .have f:(BN c !=0)=true:=by assumption
  go_ret;exact⟨Bw (by rw[m.out,K4 (Gr f)]),d⟩
 have f:(BN c !=0)=false:=a!
 go_ret;exact⟨Bw (by rw[m.out,BR (FE f)]),d.trans (y.mono d.size)⟩
def ajQ (h:RC S w v1 v2 v3 v4 v5 c)(F:Fq c)(hl:SI S w v6 l)(hn:l.length<=c.Aa.length)(hb:∀i,i<l.length->-2<=nth l i/\nth l i<=2)(I:Ql6 S w):
  Calls Lp 45 #[.agg #[v1,v2,v3,v4,v5],v6] w λe w'=>∃u,e=.returned u/\Qb6 w w'/\SI (Cb w w') w' u (Cc c l):=by
 obtain⟨a1,s,C,c2,B,z,E,f,A,t,rfl,rfl,rfl,rfl,rfl,l1,m1,l2,m2,l3,m3,l4,m4,l5,m5⟩:=h.vs;obtain⟨a6,c6,rfl,l6,m6⟩:=hl.val;have IX:=DJ;obtain⟨tN,lZ⟩:=F.Fp;have HM:=Zd (show measure c l=Iw (λj=>nth c.base j) (l.zip c.Aa) from rfl);have Bg:YH w w (w.alloc (.cells (Qe6 c a1 s C c2 B z E f A t) 26)):=bA (Zh _ _);have am:=MP F;have bV:=Zd (lC c.base);obtain⟨i0,hi,Fl,DR,EB⟩:=zp KY;have hu:=Cz YE;obtain⟨a,rfl⟩:∃a,a1=some a:=by
  obtain⟨b,o,e,_⟩:=h.base.at_ (i:=0) o!;exact⟨_,e⟩
 obtain⟨news,Qa,hR,hc⟩:=Sl.row h.base d! a rfl;have h1:=row_one d! Qa hR pJ;have HC:=Zd hc;have uz:=kY (R:=Ri) Qa hR;clear hc hR;have yd:(((w.alloc (.cells #[.slice (some a) c.base.length s,.slice C c.Af.length c2,.slice B c.hooks.length z,.slice E c.Aa.length f,.slice A c.now.length t] 26)).alloc (.cells #[] 3)).ownsRow (w+1) 3 1 (.slice (w+1:Nat) 0 0) 0 []):=by
  have:=YC (base:=w+1) (e:=3) (size:=1) (w.alloc (.cells #[.slice (some a) c.base.length s,.slice C c.Af.length c2,.slice B c.hooks.length z,.slice E c.Aa.length f,.slice A c.now.length t] 26)) #[] 0 (by rw[ZB];exact Zj _) (Zp _) rfl;rwa[ZB]at this
 have HX:=Zd (show((w.alloc (.cells #[.slice (some a) c.base.length s,.slice C c.Af.length c2,.slice B c.hooks.length z,.slice E c.Aa.length f,.slice A c.now.length t] 26)).alloc (.cells #[] 3)).heap[w.heap.size]?=some (.cells #[.slice (some a) c.base.length s,.slice C c.Af.length c2,.slice B c.hooks.length z,.slice E c.Aa.length f,.slice A c.now.length t] 26 (0,0)) from Bf (Bp _ _) _);go_enter Lp.func115,alE;go_wp2_with (at_builtin;refine Yc _ rfl _ _ 22 rfl (w+1) 3 i0 (.int .i64 0) 1 8 hu (Dz hi) Fl DR EB rfl d! _ 0 [] rfl yd a c.base.length s news rfl Qa (λj u hj=>ca (ca (HC.out j u hj) _) _) h1 u! o! i! ?_;intro v' w1 T AG Q);have De:Qb6 w w1:=Bm (bA (bA (Zh _ _))) AG (λk hk=>by cases hk;exact Nat.le_succ _) j!;rw[zN,zP,uz]at T;obtain⟨g,cap,bi,rfl,H,_⟩:=Own.val (l:=c.base) T o!;have ap:MG w #[.slice (some a) c.base.length s,.slice C c.Af.length c2,.slice B c.hooks.length z,.slice E c.Aa.length f,.slice A c.now.length t] (.slice g c.base.length cap) c.base.length (λj=>nth c.base j) w1:=by
  refine⟨De,?_,?_⟩
  .exact(AG.block w j! (λe=>by have:=ZW (show some w.heap.size=some (w.heap.size+1) from e);omega)).trans HX.out
  rw[<-bV.out];exact T
 clear T AG Q H;go_loopg [6] l.length (λgg i wr=>∃(k:Nat) (m:Nat->Int),k<=l.length/\gg=l.length - k/\i=.int .i64 k/\Iw m ((l.zip c.Aa).drop k)=measure c l/\(∀j,-(60+16*k)<=m j/\m j<=60+16*k)/\MG w #[.slice (some a) c.base.length s,.slice C c.Af.length c2,.slice B c.hooks.length z,.slice E c.Aa.length f,.slice A c.now.length t] (.slice g c.base.length cap) c.base.length m wr)
 case atStart=>exact⟨0,_,Zp _,rfl,rfl,rfl,λj=>by have:=am j;omega,ap⟩
 obtain⟨k,m,hk,rfl,rfl,K,ai,J⟩:=hrel;have hf:=Zd K;clear K;by_cases Az:k<l.length
 .have P:k<c.Aa.length:=by omega
  have W:=hb k Az;have Z:=Zd (SR (m:=m) Az P);obtain⟨b6,o6,rfl,Xj,xu⟩:=hl.at_ Az;obtain⟨b,o,s2,s3,rfl,UQ,ER,MM,LO,et,mi,Y,ho⟩:=h.Aa.at_ (i:=k) P;obtain⟨a7,c7,rfl,l7,m7⟩:=Y.val;clear ER MM et mi;have Xa:=F.pull k P;have X:=F.Ap k P;have Jm:=F.few;obtain⟨n,Q⟩:=Qnm (nth l k);rw[<-Q]at xu W Z;clear Q;obtain⟨d,lP⟩:=Qnm ((Aj c.Aa k).Ap);rw[<-lP]at LO Y l7 Xa X Z;clear lP;have TB:(k:Int)<(l.length:Int):=o!
  have dl:(k:Int)<(c.Aa.length:Int):=o!
  have bv:=(J.below.cell (p:=⟨b,o+k*5+2,none⟩) (I b UQ)).trans LO;have be:=ch (i:=3) J.box (v:=.slice (some ⟨b,o,none⟩) c.Aa.length f) rfl;go_wp2;clear bv be;go_loopg [8] d.length (λgg i wx=>∃(j:Nat) (r:Nat->Int),j<=d.length/\gg=d.length - j/\i=.int .i64 j/\CZ r n (d.drop j)=CZ m n d/\(∀i,-(60+16*(k:Int)+8*j)<=r i/\r i<=60+16*(k:Int)+8*j)/\MG w #[.slice (some a) c.base.length s,.slice C c.Af.length c2,.slice B c.hooks.length z,.slice (some ⟨b,o,none⟩) c.Aa.length f,.slice A c.now.length t] (.slice g c.base.length cap) c.base.length r wx)
  case atStart=>exact⟨0,m,Zp _,rfl,rfl,rfl,λi=>by have:=ai i;omega,J⟩
  obtain⟨j,r,hj,rfl,rfl,K,eA,D⟩:=hrel;have MK:=Zd K;clear K;have du:=(D.below.cell (p:=⟨b,o+k*5+2,none⟩) (I b UQ)).trans LO;have g3:=ch (i:=3) D.box (v:=.slice (some ⟨b,o,none⟩) c.Aa.length f) rfl;by_cases G4:j<d.length
  .obtain⟨O,o7,rfl,U3,V,U⟩:=Y.at_ G4
   rw[<-D.below.cell (p:=⟨O,o7+j*2,none⟩) (I O U3)]at V;rw[<-D.below.cell (p:=⟨O,o7+j*2+1,none⟩) (I O U3)]at U;have ed:=(D.below.cell (p:=⟨b6,o6+k,none⟩) (I b6 Xj)).trans xu;have G:=Zd (PO (m:=r) (n:=n) G4);obtain⟨Oo,MF,M,L⟩:=Xa j G4;obtain⟨q,hq⟩:=Qnm (BV d j);rw[<-hq]at V U G Oo MF M L;clear hq;obtain⟨x',y⟩:=q;obtain⟨x,rfl⟩:∃x:Nat,x'=x:=⟨x'.toNat,by simp only at Oo;omega⟩;dsimp only at V U Oo MF M L;have xy:x<c.base.length:=o!
   have b8:(x:Int)<(c.base.length:Int):=o!
   have ct:(0:Int)<=(x:Int):=o!
   have fd:(0:Int)<=(k:Int):=o!
   have LZ:(j:Int)<(d.length:Int):=o!
   have ck:(0:Int)<=(j:Int):=o!
   have b9:=prod_bound ⟨M,L⟩ W;have ci:=eA x;obtain⟨H,bi,Xg,Ox⟩:=D.row xy;have r0:wr.cell? ⟨g,x,none⟩=some (.int .i64 (r x)):=ch Xg Ox;have rf:=cf (i:=x) Xg;go_wp2;go_still_tail 26,k!;change wpList _ _ _ _ _ wr.drew;have an:=(D.later (Zh _ _).drew).set xy n y;go_wp2;go_roundg (d.length - (j+1))
   case rel=>exact⟨j+1,K7 r n ((x:Int),y),o!,rfl,v!,by rw[<-MK.out,G.out],λi=>by have:=MO (N:=60+16*(k:Int)+8*j) (p:=((x:Int),y)) eA ⟨M,L⟩ W i;omega,an⟩
   omega
  have e2:r=CZ m n d:=by rw[<-MK.out,Z7.2 o!];rfl
  subst e2;go_wp2;go_roundg (l.length - (k+1))
  case rel=>exact⟨k+1,_,o!,rfl,v!,by rw[<-hf.out,Z.out],λi=>by have:=eA i;have:(j:Int)<=2:=o!;omega,D⟩
  omega
 have e1:m=measure c l:=by rw[<-hf.out,Z7.2 j!];rfl
 subst e1;have hs:=J.own.si;rw[show Qr c.base.length (measure c l)=Cc c l from rfl]at hs;have Lc:=J.below;go_wp2;go_ret;exact⟨_,rfl,Lc,Sl.imp hs (λx (hx:Cb (w+1) wr x)=>⟨by have:=hx.1;omega,hx.2⟩) (λ_ _ x=>x)⟩
structure ac2 (c:A_):Prop where
 base:c.base.length<=20
 Af:c.Af.length<=20
 hooks:c.hooks.length<=20
 Aa:c.Aa.length<=20
 now:c.now.length<=20
 part:∀i,i<c.Aa.length->(Aj c.Aa i).Ap.length<=20/\(Aj c.Aa i).over.length<=20
def aef (w:Zb)(c:A_)(e:Ending)(w':Zb):Prop:=∃b,e=.returned (.bool b)/\(b=false->ac2 c)/\Qb6 w w'
def aef.yes (h:Qb6 w w'):aef w c (.returned (.bool true)) w':=⟨true,rfl,(λx=>x!),h⟩
def c25 (h:RC S w v1 v2 v3 v4 v5 c)(n:Ql6 S w):
  Calls Lp 5 #[.agg #[v1,v2,v3,v4,v5]] w (aef w c):=by
 obtain⟨A,u,z,c2,y,t,x,s,v,r,rfl,rfl,rfl,rfl,rfl,l1,V,l2,U,l3,T,Z,R,Y,Q⟩:=h.vs;have IX:=DJ;obtain⟨W1,a⟩:=Qnm (w.alloc (.cells (Qe6 c A u z c2 y t x s v r) 26));have f:Qb6 w W1:=by rw[a];exact bA (Zh _ _)
 have C:W1.heap[w.heap.size]?=some (.cells (Qe6 c A u z c2 y t x s v r) 26 (0,0)):=by rw[a];exact Bp _ _
 obtain⟨G,k1,F,E,D⟩:=Qc5 C;by_cases q:20<c.base.length\/20<c.Af.length\/20<c.hooks.length\/20<c.Aa.length\/20<c.now.length
 .go_enter Lp.func25,n25
  clear G k1 F E D;go_wp2
  all_goals first
   |(exfalso;omega)
   |skip
  all_goals
   go_ret;exact aef.yes (bA (Zh _ _))
 have g1:¬20<(c.base.length:Int):=o!
 have g2:¬20<(c.Af.length:Int):=o!
 have g3:¬20<(c.hooks.length:Int):=o!
 have g4:¬20<(c.Aa.length:Int):=o!
 have g5:¬20<(c.now.length:Int):=o!
 have M:=Zd q;clear q;go_enter Lp.func25,n25;have K:=f;rw[a]at K;go_wp2;go_loopg [3] c.Aa.length (λg i wr=>∃k:Nat,k<=c.Aa.length/\g=c.Aa.length - k/\i=.int .i64 k/\(∀j,j<k->(Aj c.Aa j).Ap.length<=20/\(Aj c.Aa j).over.length<=20)/\wr=W1)
 case atStart=>exact⟨0,Zp _,rfl,rfl,λj l=>absurd l (ZbY _),a.symm⟩
 obtain⟨k,hk,rfl,rfl,d,rfl⟩:=hrel;have B:=Zd d;clear d;by_cases N:k<c.Aa.length
 .obtain⟨b,o,v2,v3,rfl,m,_,_,J,L,_,H,I⟩:=h.Aa.at_ N
  obtain⟨a6,c6,rfl,X,P⟩:=H.val;obtain⟨a7,c7,rfl,W,O⟩:=I.val;rw[<-f.cell (p:=⟨b,o+k*5+2,none⟩) (n b m)]at J;rw[<-f.cell (p:=⟨b,o+k*5+3,none⟩) (n b m)]at L;clear a;by_cases h6:20<(Aj c.Aa k).Ap.length\/20<(Aj c.Aa k).over.length
  .go_wp2
   all_goals first
    |(exfalso;omega)
    |skip
   all_goals
    go_ret;exact aef.yes f
  have g6:¬20<((Aj c.Aa k).Ap.length:Int):=o!
  have g7:¬20<((Aj c.Aa k).over.length:Int):=o!
  go_wp2;go_roundg (c.Aa.length - (k+1))
  case rel=>exact⟨k+1,o!,rfl,v!,λj l=>by
   by_cases e:j=k
   .rw[e];omega
   exact B.out j o!,rfl⟩
  omega
 clear a;go_wp2;go_ret;have:=M.out;exact⟨false,rfl,λ_=>⟨o!,o!,o!,o!,o!,λi hi=>B.out i o!⟩,f⟩
variable {t e:Zs}
def adL {P:Zo}{ty:Zs}{i:TypeInfo}(ht:P.underlying t=some (.slice e))(hi:P.info? e=some i){q:Option Addr}{c:Nat}(a:n<=c):(Zao #[t,t] ty #[.slice q n c,.slice none 0 c2]).run P w=.ok (.slice q n c) w:=by
 have b:(Zu i.size 0 (.slice none 0 c2)).run P w=.ok #[] w:=by simp[run_firstCells_none]
 cases q<;>simp[Zao,ZbX,Y9 ht,sizeOf,typeInfo,hi,ZcX,a,b]
variable {o:Oper}
variable {a:Act}
variable {K:Act->Zb->Prop}
variable {aa5 Q:Exit->Act->Zb->Prop}
def ad9 {P:Zo}{i:TypeInfo}(ht:P.underlying t=some (.slice e))(hi:P.info? e=some i)(s x:Zbv)(f:o.op=.call {callee:=.builtin .append,args:= #[s,x],argTypes:= #[t,t]}){q:Option Addr}{c:Nat}(d:a.eval s=.slice q n c)(b:a.eval x=.slice none 0 c2)(g:n<=c)(h:K (a.put o.dst (.slice q n c)) w):o.wp P a w K Q:=by
 unfold ZbA Zby;simp only[f,Zbh,invoke,builtin,zg,Sem.run_pure,Zaw,Zcr,List.map_cons,List.map_nil,d,b,adL ht hi g];exact h
def abS {base:Nat}{r:List Int}(s x:Zbv)(t:o.op=.call {callee:=.builtin .append,args:= #[s,x],argTypes:= #[22,22]})(p:a.eval s=v)(k:Own w base v l)(m:a.eval x=u)(f:SI S w u r)(y:l.length+r.length<=1000)(J:base<=w.heap.size)
 (h:∀v' w',Own w' base v' (l++r)->w.grownBy w' v.ownBlock->K (a.put o.dst v') w'):o.wp Lp a w K Q:=by
 obtain⟨B,hi,M,O,N⟩:=zp KY;obtain⟨d,c,rfl,T,P⟩:=f.val;cases d with
 |none=>
  have D:r=[]:=by
   cases r with
   |nil=>rfl
   |cons x r=>
    obtain⟨W,V,i,_,_,G⟩:=f;cases i;obtain⟨b,o,U,e,_⟩:=G 0 x rfl;cases e
  subst D;obtain⟨q,n,c2,rfl,C⟩:∃q n c2,v=.slice q n c2/\n<=c2:=by
   rcases k.2 with⟨e,_⟩|⟨g,cap,L,e,_,_,F,_⟩
   .exact⟨_,_,_,e,Zp _⟩
   exact⟨_,_,_,e,F⟩
  exact ad9 (Cz YE) (Dz hi) s x t p m C (h _ w (by rw[ZaA];exact k) ⟨rfl,rfl,rfl,Zj _,λ_ _ _=>rfl⟩)
 |some d=>
  obtain⟨news,j,z,E⟩:=Sl.row f d! d rfl;have i:=row_one d! j z pJ;have A:=kY (R:=Ri) j z;refine Zak _ s x 22 t base 3 B (.int .i64 0) 1 8 (Cz YE) (Dz hi) M O N rfl d! v l.length (l.map (ZL .i64)) p k d r.length c news m j E i u! o! J ?_;intro v' w' I H _;refine h v' w' ?_ H;unfold Own;rw[ZA,Zai, <-A];exact I
def af5 {base:Nat}(h:w.ownsRow base e 1 (.slice g n cap) n xs):∀j u,xs[j]?=some u->w.cell? ((g:Addr).add j)=some u:=by
 intro j u a;rcases h.2 with⟨e,_⟩|⟨o,p,i,e,_,d,m,_,l,f⟩
 .cases e
 cases e;have k:=h.1;have c:j<n:=by have:=(Zm.1 a).1;omega
 rw[<-f,Z2 o!,Array.getElem?_toList]at a;have b:(g:Addr).add j=⟨g,j,none⟩:=by
  unfold Zcu;split<;>simp_all
 rw[b];exact ch d a
def acv {rb2 base:Nat}{R:List (List Int)}(s x:Zbv)(m:o.op=.call {callee:=.builtin .append,args:= #[s,x],argTypes:= #[34,34]})(c:a.eval s=v)(G:LR2 rb base w v P)(k:a.eval x=u)(C:LR2 rb2 base w u R)(p:P.length+R.length<=10000)(J:rb<=w.heap.size)
 (h:∀v' w',LR2 rb base w' v' (P++R)->w.grownBy w' v.ownBlock->K (a.put o.dst v') w'):o.wp Lp a w K Q:=by
 obtain⟨A,hi,M,O,N⟩:=zp Hw;obtain⟨news,d,z⟩:=C;obtain⟨vals,b,t⟩:=G;rcases d.2 with⟨rfl,L⟩|⟨g,cap,i,rfl,_⟩
 .have E:R=[]:=List.length_eq_zero_iff.1 L
  subst E;obtain⟨q,n,c2,rfl,D⟩:∃q n c2,v=.slice q n c2/\n<=c2:=by
   rcases b.2 with⟨e,_⟩|⟨g,cap,i,e,_,_,H,_⟩
   .exact⟨_,_,_,e,Zp _⟩
   exact⟨_,_,_,e,H⟩
  exact ad9 (Cz zW) (Dz hi) s x m c k D (h _ w (by rw[ZaA];exact⟨vals,b,t⟩) ⟨rfl,rfl,rfl,Zj _,λ_ _ _=>rfl⟩)
 refine Zak _ s x 34 m rb 22 A () 1 24 (Cz zW) (Dz hi) M O N rfl d! v P.length vals c b g R.length cap news k (by have:=d.1;omega) (af5 d) ?_ u! o! J ?_
 .intro y B
  obtain⟨j,F,rfl⟩:=List.mem_iff_getElem.1 B;have f:j<R.length:=by have:=d.1;omega
  obtain⟨u,l,c⟩:=z j _ (BJ f);rw[zf F]at l;cases l;obtain⟨_,_,e,_⟩:=c.val;rw[e]
  rfl
 intro v' w' I r _;exact h v' w' (LR2.app b t z r I) r
def amk (hv:Fq c):∀(m:Nat) {S:Nat->Prop} {w:Zb} {base:Nat} {v1 v2 v3 v4 v5 v6:Zf} {p:List Int},RC S w v1 v2 v3 v4 v5 c->SI (J1 3 base w) w v6 p->base<=w.heap.size->p.length+m=c.Aa.length->(∀b,S b->b<w.heap.size)->
  Calls Lp 43 #[.agg #[v1,v2,v3,v4,v5],v6] w λe w'=>∃v,e=.returned v/\Qb6 w w'/\LR2 w base w' v (abK c p):=by
 intro m
 induction m with
 |zero=>
  intro S w base v1 v2 v3 v4 v5 v6 p h hp a hm hS;obtain⟨a1,U,Z,c2,Y,Q,a4,O,X,N,rfl,rfl,rfl,rfl,rfl,l1,m1,l2,m2,l3,m3,l4,m4,l5,m5⟩:=h.vs;obtain⟨pa,pc,rfl,ii,mp⟩:=hp.val;have HG:=Zd (agl (c:=c) (p:=p) o!);have hq:((p.length:Int)==(c.Aa.length:Int))=true:=j!
  have HP:=Zd hp;have HB:=Zd a;clear hm hp a;go_enter Lp.func131,ajD;go_wp2;go_ret;refine⟨_,rfl,bA (bA (Zh _ _)),?_⟩;rw[HG.out];have fK:YH w w ((w.alloc (.cells (Qe6 c a1 U Z c2 Y Q a4 O X N) 26)).alloc (.cells #[.slice pa p.length pc] 22)):=bA (bA (Zh _ _));refine⟨[.slice pa p.length pc],⟨rfl,.inr ⟨w+1,1,#[.slice pa p.length pc],i!,o!,?_,Zj _,d!,rfl,rfl⟩⟩,?_⟩
  .have:=Bp (w.alloc (.cells (Qe6 c a1 U Z c2 Y Q a4 O X N) 26)) (.cells #[.slice pa p.length pc] 22)
   rwa[ZB]at this
  .intro i x hx
   match i,hx with
   |0,hx=>cases hx;exact⟨_,rfl,Dx (T:=λ_=>False) (Ak.later fK) (λ_ _ x=>x) HP.out⟩
 |succ m ih=>
  intro S w base v1 v2 v3 v4 v5 v6 p h hp a hm hS;obtain⟨a1,U,Z,c2,Y,Q,a4,O,X,N,rfl,rfl,rfl,rfl,rfl,l1,m1,l2,m2,l3,m3,l4,m4,l5,m5⟩:=h.vs;obtain⟨pa,pc,rfl,ii,mp⟩:=hp.val;have IX:=DJ;have Jm:=hv.few;have Az:p.length<c.Aa.length:=o!
  have TB:(p.length:Int)<(c.Aa.length:Int):=o!
  have iS:((p.length:Int)==(c.Aa.length:Int))=false:=j!
  have B_:=hv.step p.length Az;have ed:=Zd (afp (c:=c) Az);obtain⟨K,o4,s2,s3,rfl,UQ,ER,MM,_⟩:=h.Aa.at_ (i:=p.length) Az;obtain⟨lo,mK⟩:=Qnm ((Aj c.Aa p.length).low);obtain⟨hi,am⟩:=Qnm ((Aj c.Aa p.length).high);rw[<-mK, <-am]at ed B_;rw[<-mK]at ER;rw[<-am]at MM;clear mK am;obtain⟨M,hM⟩:=Qnm ((hi+1 - lo).toNat);have HM:=Zd hM;have i6:M<=5:=o!
  have b9:∀q:Nat,q<M↔lo+(q:Int)<=hi:=λq=>o!
  clear hM;have mO:YH w w (w.alloc (.cells (Qe6 c a1 U Z c2 Y Q (some ⟨K,o4,none⟩) O X N) 26)):=bA (Zh _ _);have g9:=(mO.cell (p:=⟨K,o4+p.length*5,none⟩) (hS K UQ)).trans ER;have io:=Zd (show p.length+1+m=c.Aa.length by omega);have HB:=Zd a;have HP:=Zd hp;have HH:=Zd h;have iX:p.length<=2:=o!
  clear hm hp a;go_enter Lp.func131,ajD;go_wp2;clear g9;go_loopg [5,6] M (λgg lv n wr=>∃q:Nat,q<=M/\gg=M - q/\n=.int .i64 (lo+q)/\LR2 (w+1) base wr lv (((IU lo hi).take q).flatMap λn=>abK c (p++ [n]))/\Qb6 w wr/\wr.heap[w.heap.size]?=some (.cells (Qe6 c a1 U Z c2 Y Q (some ⟨K,o4,none⟩) O X N) 26 (0,0)))
  case atStart=>exact⟨0,Zp _,rfl,i!,by rw[ZdB];exact LR2.nil _ _ _,bA (Zh _ _),Bp _ _⟩
  obtain⟨q,hq,rfl,rfl,hL,I,hX⟩:=hrel;obtain⟨V,hV⟩:=Qnm wr;subst hV;have k3:=ch (i:=3) hX (v:=.slice (some ⟨K,o4,none⟩) c.Aa.length O) rfl;have gt:=(I.cell (p:=⟨K,o4+p.length*5+1,none⟩) (hS K UQ)).trans MM;by_cases ai:q<M
  .have fu:lo+(q:Int)<=hi:=(b9 q).1 ai
   have im:=Zd (aeU (lo:=lo) (hi:=hi) (q:=q) (by rw[<-HM.out];exact ai));have fH:(((IU lo hi).take q).flatMap λn=>abK c (p++ [n])).length<=625:=by
    have h1:=cr (f:=λn=>abK c (p++ [n])) (k:=125) ((IU lo hi).take q) (λx _=>acs hv _);have h2:=ZbW q (IU lo hi);omega
   obtain⟨P,hP⟩:=Qnm (((IU lo hi).take q).flatMap λn=>abK c (p++ [n]));have ip:=Zd hP;rw[<-hP]at hL fH;clear hP;obtain⟨la,lc,rfl,l7,m7⟩:=hL.val;have z0:=λu=>Al u (ch (i:=0) hX (v:=.slice a1 c.base.length U) rfl);have z1:=λu=>Al u (ch (i:=1) hX (v:=.slice Z c.Af.length c2) rfl);have z2:=λu=>Al u (ch (i:=2) hX (v:=.slice Y c.hooks.length Q) rfl);have z3:=λu=>Al u k3;have z4:=λu=>Al u (ch (i:=4) hX (v:=.slice X c.now.length N) rfl);have b8:∀W,Qb6 V W->SI (J1 3 base W) W (.slice pa p.length pc) p:=λW hW=>Dx (T:=λ_=>False) (Ak.later (bU I hW)) (λ_ _ x=>x) HP.out;have bV:=Zd b8;have HL:=Zd hL;clear b8 hL;go_wp2;refine abn (S:=λW=>∃p,W=calm V p) 11 [9,10] (.fork 2 (.fork 4 (.one 6 (.one 7 (.one 8 (.one 9 (.one 10 .leaf))))) 6 (.one 4 (.one 7 (.one 8 (.one 9 (.one 10 .leaf)))))) 6 (.one 2 (.one 4 (.one 7 (.one 8 (.one 9 (.one 10 .leaf))))))) [0,1,3,5] k! (λ_ _ d _ _ h=>by cases d<;>exact h) k! (AL (Zh _ _).drew) ?_;refine A4 _ _ k! ?_;simp only[Z6,zd,ZG,ZD,ZC]
   repeat (first|go_big_quiet_step (fail)|quiet_step (fail))
   refine Z4 ?_;clear z0 z1 z2 z3 z4;change abg _ _ _ _ _ _ _ _;have Uh:YH V V V.drew:=(Zh _ _).drew;refine adh ?hA ?hB
   case' hA=>
    obtain⟨A,G⟩:=Qnm (V.drew.alloc (.cells #[] 3));have o:Qb6 V A:=by rw[G];exact bA Uh
    have hO:Own A V (.slice V 0 0) []:=by rw[G];exact YC V.drew #[] 0 (Zj _) (Zp _) rfl
    refine abo (v:=.slice V 0 0) (w':=A) rfl rfl (by rw[G];go_simp) (.inr (AL o)) ?_;refine adh ?oT ?aT
   case' oT=>
    refine ad7 rfl rfl ?_;refine abS (l:=[]) (r:=p) _ _ rfl g! hO g! (bV.out A o) j! o.size ?_;intro v7 B an j;have z:Qb6 V B:=Bm o j (λk H=>by cases H;exact Zj _) o.size;refine⟨.inr (AL z),?_⟩;obtain⟨C,hC⟩:=Qnm (B.alloc (.cells #[.int .i64 (lo+(q:Int))] 3));have s:Qb6 V C:=by rw[hC];exact bA z
    refine abo (v:=.slice B 1 1) (w':=C) rfl rfl (by rw[hC];go_simp) (.inr (AL s)) ?_;have L:Own C V v7 p:=by rw[hC];exact an.later (bA (Zh _ _))
    have J:SI (λy=>y<C.heap.size) C (.slice B 1 1) [lo+(q:Int)]:=by rw[hC];exact M1 [lo+(q:Int)] (Bp B (.cells #[.int .i64 (lo+(q:Int))] 3)) i! (by show 1<=maxLen;decide)
    generalize B=du at*
   case' aT=>
    obtain⟨B,g⟩:=Qnm (A.alloc (.cells #[.int .i64 (lo+(q:Int))] 3));have z:Qb6 V B:=by rw[g];exact bA o
    refine abo (v:=.slice A 1 1) (w':=B) rfl rfl (by rw[g];go_simp) (.inr (AL z)) ?_;have hO:Own B V (.slice V 0 0) []:=by rw[g];exact hO.later (bA (Zh _ _))
    refine ad7 rfl rfl ?_;refine abS (l:=[]) (r:=p) _ _ rfl g! hO g! (bV.out B z) j! z.size ?_;intro v7 C L j;have s:Qb6 V C:=Bm z j (λk H=>by cases H;exact Zj _) z.size;refine⟨.inr (AL s),?_⟩;have gj:V<A.heap.size:=by rw[G];simp
    have be:SI (λy=>y=A.heap.size) B (.slice A 1 1) [lo+(q:Int)]:=by rw[g];exact M1 [lo+(q:Int)] (Bp A (.cells #[.int .i64 (lo+(q:Int))] 3)) rfl (by show 1<=maxLen;decide)
    have gn:A<B.heap.size:=by rw[g];simp
    have J:SI (λy=>y<C.heap.size) C (.slice A 1 1) [lo+(q:Int)]:=Sl.imp (be.Ar λb a _=>j.block b (by have a:b=_:=a;omega) (λe=>by have a:b=_:=a;have e:=ZW e;dsimp only at e;omega)) (λb a=>by have a:b=_:=a;have:=j.size;show b<_;omega) λ_ _ x=>x;generalize A=du at*
   case' hB=>
    obtain⟨A,G⟩:=Qnm (V.drew.alloc (.cells #[.int .i64 (lo+(q:Int))] 3));have o:Qb6 V A:=by rw[G];exact bA Uh
    refine abo (v:=.slice V 1 1) (w':=A) rfl rfl (by rw[G];go_simp) (.inr (AL o)) ?_;obtain⟨B,g⟩:=Qnm (A.alloc (.cells #[] 3));have z:Qb6 V B:=by rw[g];exact bA o
    have hO:Own B A (.slice A 0 0) []:=by rw[g];exact YC A #[] 0 (Zj _) (Zp _) rfl
    refine abo (v:=.slice A 0 0) (w':=B) rfl rfl (by rw[g];go_simp) (.inr (AL z)) ?_;refine ad7 rfl rfl ?_;have gj:V<A.heap.size:=by rw[G];simp
    have gn:A<B.heap.size:=by rw[g];simp
    refine abS (l:=[]) (r:=p) _ _ rfl g! hO g! (bV.out B z) j! o! ?_;intro v7 C an j;have s:Qb6 V C:=Bm z j (λk H=>by have e:=ZW H;dsimp only at e;omega) z.size;refine⟨.inr (AL s),?_⟩;have L:Own C V v7 p:=Own.mono an o!;have be:SI (λy=>y=V.heap.size) B (.slice V 1 1) [lo+(q:Int)]:=by rw[g];exact M1 [lo+(q:Int)] (Bf (by rw[G];exact Bp V.drew (.cells #[.int .i64 (lo+(q:Int))] 3)) _) rfl (by show 1<=maxLen;decide)
    have J:SI (λy=>y<C.heap.size) C (.slice V 1 1) [lo+(q:Int)]:=Sl.imp (be.Ar λb a _=>j.block b (by have a:b=_:=a;omega) (λe=>by have a:b=_:=a;have e:=ZW e;dsimp only at e;omega)) (λb a=>by have a:b=_:=a;have:=j.size;show b<_;omega) λ_ _ x=>x;obtain⟨du,fm⟩:=Qnm V.heap.size;rw[<-fm]at J⊢
   all_goals
    clear k3 gt;have fy:=(Za.1 hX).1;refine ad7 rfl rfl ?_;refine abS (l:=p) (r:=[lo+(q:Int)]) _ _ rfl g! L g! J j! s.size ?_;intro v8 D fI fw;have ap:Qb6 V D:=Bm s fw (λk H=>(Zcm L k H).1) s.size;refine⟨.inr (AL ap),?_⟩;have bv:=bU I ap;refine abq (f:=43) (args:= #[.agg (Qe6 c a1 U Z c2 Y Q (some ⟨K,o4,none⟩) O X N),v8]) rfl rfl g! ((ih (base:=base) (HH.out.later bv) (Sl.imp (Own.typ fI) (λb a=>⟨⟨by have:=a.1.1;have:=I.size;have:=HB.out;omega,a.1.2⟩,a.2⟩) λ_ _ x=>x) (by have:=HB.out;have:=bv.size;omega) (by rw[ZA];exact io.out) (A3 hS bv)).mono ?_);rintro e E ⟨v9,rfl,fJ,ck⟩;have t:=bU ap fJ;refine .inl ⟨_,rfl,.inr (AL t),?_⟩;refine ad7 rfl rfl ?_;refine acv (P:=P) (R:=abK c (p++ [lo+(q:Int)])) _ _ rfl g! (HL.out.later t) g! ck (by have:=acs hv (p++ [lo+(q:Int)]);omega) (by have:=t.size;omega) ?_;intro fd F dl bi;refine⟨.inl rfl,?_⟩;refine abo (v:=fd) (w':=F) rfl rfl g! (.inl rfl) ?_;unfold abg
    go_simp
    have ct:Qb6 w F:=Bm (bU I t) bi (λk H=>by have:=HL.out.lt k H;omega) (bU I t).size;have ci:F.heap[w.heap.size]?=some (.cells (Qe6 c a1 U Z c2 Y Q (some ⟨K,o4,none⟩) O X N) 26 (0,0)):=(bi.block _ (by have:=t.size;omega) (λe=>by have:=HL.out.lt _ e.symm;omega)).trans ((t.block _ fy).trans hX);have Qs:=Zd (ZY dl (ZY ct ci));clear dl ct ci bi ck;go_wp2;go_roundg (M - (q+1))
    case rel=>exact⟨q+1,ai,rfl,v!,by rw[im.out,Zbe, <-ip.out];simpa using Qs.out.1,Qs.out.2.1,Qs.out.2.2⟩
    omega
  have fi:q=M:=o!
  subst fi;have fu:¬lo+(q:Int)<=hi:=λx=>by have:=(b9 q).2 x;omega
  rw[aeV (by rw[<-HM.out];exact Zj _), <-ed.out]at hL;have HL:=Zd hL;clear hL;go_wp2;go_ret;exact⟨_,rfl,I,HL.out.mono (Nat.le_succ _)⟩
def acK (a b:List UInt8)(h:a.length+b.length<=1000)(W:Zb):(ZcJ .add ⟨a.toArray⟩ ⟨b.toArray⟩).run Lp W=.ok (.string ⟨(a++b).toArray⟩) W:=
 run_string_add_lists W a b o! o!
def aj0 (w:Zb)(v:List UInt8)(x:Int)(e:Ending)(w':Zb):Prop:=e=.returned (.tuple #[.string ⟨v.toArray⟩,.int .i64 x])/\Qb6 w w'
def afg {v u:List UInt8}{x:Int}(h:v=u)(a:Qb6 w w'):aj0 w v x (.returned (.tuple #[.string ⟨u.toArray⟩,.int .i64 x])) w':=by rw[h];exact⟨rfl,a⟩
def c70 (h:RC S w v1 v2 v3 v4 v5 c)(hl:SI S w v6 l)(hS:Ql6 S w):
  Calls Lp 15 #[.agg #[v1,v2,v3,v4,v5],v6] w (aj0 w (M3 c l) (Ca c l)):=by
 obtain⟨a1,c1,a2,c2,a3,c3,a4,c4,a5,c5,rfl,rfl,rfl,rfl,rfl,l1,m1,l2,m2,l3,m3,l4,m4,l5,m5⟩:=h.vs;obtain⟨a6,c6,rfl,l6,m6⟩:=hl.val;have IX:=DJ;have N:YH w w (w.alloc (.cells (Qe6 c a1 c1 a2 c2 a3 c3 a4 c4 a5 c5) 26)):=bA (Zh _ _);have E:=Zd (ajP (h.later N) (hl.later N) (A3 hS N));obtain⟨x,C⟩:=Qnm (Ca c l);obtain⟨y,r⟩:∃v,v=M3 c l:=⟨_,rfl⟩;have G:=Zd (show y=if x=0 then F3 l l.length else [] by rw[r,C];rfl);have HX:=Zd C;rw[<-C]at E;rw[<-C, <-r];clear C r;go_enter Lp.func70,n70;go_wp2;refine E.out.mono ?_;rintro e W1 ⟨rfl,Bb⟩;have Lc:=bU N Bb;by_cases O:x=0
 case neg=>
  have hq:(x !=0)=true:=by simpa using O
  have Y:=Zd (show y=[] by rw[G.out,if_neg O]);go_wp2;go_ret2;exact afg (u:=[]) Y.out Lc
 subst O;obtain⟨Jz,ER⟩:=Bj HX.out.symm;have hv:=EG Jz;have Q:=S0 hv ER;have UO:l.length<=3:=by have:=(Fb ER).1;have:=hv.few;omega
 have Y:=Zd (show y=F3 l l.length by rw[G.out];exact if_pos rfl);clear ER Jz;go_wp2;go_loopg [7,8] l.length (λgg v i wr=>∃k:Nat,k<=l.length/\gg=l.length - k/\i=.int .i64 k/\v=.string ⟨(F3 l k).toArray⟩/\Qb6 W1 wr)
 case atStart=>exact⟨0,Zp _,rfl,rfl,rfl,Zh _ _⟩
 obtain⟨k,hk,rfl,rfl,rfl,M⟩:=hrel;obtain⟨V,hV⟩:=Qnm wr;subst hV;have Ui:=bU Lc M;have I:=Zd (PV l k);by_cases Az:k<l.length
 .obtain⟨b,o,rfl,hb,hc⟩:=hl.at_ Az
  rw[<-Ui.cell (p:=⟨b,o+k,none⟩) (hS b hb)]at hc;obtain⟨Vl,Xo⟩:=Q k Az;obtain⟨n,hn⟩:=Qnm (nth l k);rw[<-hn]at hc Vl Xo I;clear hn;obtain⟨st,B_⟩:=Qnm (F3 l k);rw[<-B_]at I⊢;have qO:=Zd B_;clear B_;have M8:k<3:=o!
  have ai:st.length<=9:=by have:=Vj l k;rw[qO.out];omega
  obtain⟨L,Z⟩:∃b,b=Zcn (97+k):=⟨_,rfl⟩;have T:∀W,(ZbI 9 (.string ⟨#[97,98,99]⟩) (some (.int .i64 (k:Int))) (some (.int .i64 ((k:Int)+1))) none).run Lp W=.ok (.string ⟨#[L]⟩) W:=λW=>by
   have:=run_slice_string (P:=Lp) W 9 ⟨#[97,98,99]⟩ .i64 .i64 (k:Int) ((k:Int)+1) (Cz Tryz.underlying9) o! o! (by show((k:Int)+1)<=((3:Nat):Int);omega);rw[this,Z];have F:k=0\/k=1\/k=2:=o!
   rcases F with rfl|rfl|rfl<;>rfl
  have K:=Zd Z;clear Z;obtain⟨m,g⟩:∃t,t=st++ [L]:=⟨_,rfl⟩;have X:∀W,(ZcJ .add ⟨st.toArray⟩ ⟨#[L]⟩).run Lp W=.ok (.string ⟨m.toArray⟩) W:=λW=>by rw[g];exact acK st [L] j! W
  have T2:m.length<=10:=by rw[g,ZA,List.length_singleton];omega
  have H:=Zd g;clear g;by_cases hp:0<n
  .obtain⟨j,z⟩:∃b,b=Zcn (48+n).toNat:=⟨_,rfl⟩
   have U:∀W,(ZbI 9 (.string ⟨#[48,49,50]⟩) (some (.int .i64 n)) (some (.int .i64 (n+1))) none).run Lp W=.ok (.string ⟨#[j]⟩) W:=λW=>by
    have:=run_slice_string (P:=Lp) W 9 ⟨#[48,49,50]⟩ .i64 .i64 n (n+1) (Cz Tryz.underlying9) o! o! (by show n+1<=((3:Nat):Int);omega);rw[this,z];have F:n=1\/n=2:=o!
    rcases F with rfl|rfl<;>rfl
   obtain⟨f,a⟩:∃t,t=m++ [43]:=⟨_,rfl⟩;have R:∀W,(ZcJ .add ⟨m.toArray⟩ ⟨#[43]⟩).run Lp W=.ok (.string ⟨f.toArray⟩) W:=λW=>by rw[a];exact acK m [43] j! W
   have Oq:f.length<=11:=by rw[a,ZA,List.length_singleton];omega
   obtain⟨B,d⟩:∃t,t=f++ [j]:=⟨_,rfl⟩;have q:∀W,(ZcJ .add ⟨f.toArray⟩ ⟨#[j]⟩).run Lp W=.ok (.string ⟨B.toArray⟩) W:=λW=>by rw[d];exact acK f [j] j! W
   have J:=Zd (show B=F3 l (k+1) from by
    rw[I.out,show Od k n=[Zcn (97+k),43,Zcn (48+n).toNat] from if_pos hp,d,a,H.out,K.out,z,Zae,Zae]
    rfl)
   have lX:IntKind.i64.wrap (n+1)=n+1:=by rw[zE];omega
   clear a d z;go_wp2;refine Av k! k! ?_
   repeat (first|go_big_quiet_step (fail)|quiet_step (fail))
   refine Z4 ?_;rintro _ ⟨p,rfl⟩;have A:=AE V p;obtain⟨V2,D⟩:=Qnm (calm V p);rw[<-D]at A⊢;have s:=bU M A;clear D T U X R q;go_wp2;go_roundg (l.length - (k+1))
   case rel=>exact⟨k+1,o!,rfl,v!,by rw[<-J.out],s⟩
   omega
  by_cases hz:n=0
  .subst hz
   have J:=Zd (show st=F3 l (k+1) from by rw[I.out,kS,ZaA]);clear T X;go_wp2;go_roundg (l.length - (k+1))
   case rel=>exact⟨k+1,o!,rfl,v!,by rw[<-J.out],M⟩
   omega
  have hm:n<0:=o!
  obtain⟨j,z⟩:∃b,b=Zcn (48 - n).toNat:=⟨_,rfl⟩;have U:∀W,(ZbI 9 (.string ⟨#[48,49,50]⟩) (some (.int .i64 (-n))) (some (.int .i64 (1 - n))) none).run Lp W=.ok (.string ⟨#[j]⟩) W:=λW=>by
   have:=run_slice_string (P:=Lp) W 9 ⟨#[48,49,50]⟩ .i64 .i64 (-n) (1 - n) (Cz Tryz.underlying9) o! o! (by show 1 - n<=((3:Nat):Int);omega);rw[this,z];have F:n= -1\/n= -2:=o!
   rcases F with rfl|rfl<;>rfl
  obtain⟨f,a⟩:∃t,t=m++ [45]:=⟨_,rfl⟩;have R:∀W,(ZcJ .add ⟨m.toArray⟩ ⟨#[45]⟩).run Lp W=.ok (.string ⟨f.toArray⟩) W:=λW=>by rw[a];exact acK m [45] j! W
  have Oq:f.length<=11:=by rw[a,ZA,List.length_singleton];omega
  obtain⟨B,d⟩:∃t,t=f++ [j]:=⟨_,rfl⟩;have q:∀W,(ZcJ .add ⟨f.toArray⟩ ⟨#[j]⟩).run Lp W=.ok (.string ⟨B.toArray⟩) W:=λW=>by rw[d];exact acK f [j] j! W
  have J:=Zd (show B=F3 l (k+1) from by
   rw[I.out,show Od k n=[Zcn (97+k),45,Zcn (48 - n).toNat] from(if_neg hp).trans (if_pos hm),d,a,H.out,K.out,z,Zae,Zae]
   rfl)
  have lX:IntKind.i64.wrap (1 - n)=1 - n:=by rw[zE];omega
  have nj:IntKind.i64.wrap (-n)= -n:=by rw[zE];omega
  clear a d z;go_wp2;refine Av k! k! ?_
  repeat (first|go_big_quiet_step (fail)|quiet_step (fail))
  refine Z4 ?_;rintro _ ⟨p,rfl⟩;have A:=AE V p;obtain⟨V2,D⟩:=Qnm (calm V p);rw[<-D]at A⊢;have s:=bU M A;clear D T U X R q;go_wp2;go_roundg (l.length - (k+1))
  case rel=>exact⟨k+1,o!,rfl,v!,by rw[<-J.out],s⟩
  omega
 have lQ:k=l.length:=o!
 subst lQ;go_wp2;go_ret2;exact afg Y.out Ui
def LR2.row {base:Nat}(h:LR2 rb base w v P)(hp:0<P.length):∃g cap,v=.slice (some ⟨g,0,none⟩) P.length cap/\rb<=g/\g<w.heap.size/\(∀i,i<P.length->∃u,w.cell? ⟨g,i,none⟩=some u/\SI (J1 3 base w) w u (BM P i))/\P.length<=cap/\cap<=maxLen:=by
 obtain⟨vals,m,l⟩:=h;rcases m.2 with⟨e,o⟩|⟨g,cap,n,e,k,b,j,f,p,d⟩
 .omega
 refine⟨g,cap,e,k,(Za.1 b).1,λi hi=>?_,j,f⟩;obtain⟨u,a,c⟩:=l i _ (BJ hi);refine⟨u,?_,c⟩;rw[<-d,Z2 o!,Array.getElem?_toList]at a;exact ch b a
def LR2.one {base:Nat}(b:SI (J1 3 base w) w u x):LR2 w base (w.alloc (.cells #[u] 22)) (.slice w 1 1) [x]:=by
 refine⟨[u],⟨rfl,.inr ⟨w,1,#[u],rfl,Zj _,Bp _ _,Zj _,d!,rfl,rfl⟩⟩,λi y a=>?_⟩
 match i,a with
 |0,a=>cases a;exact⟨_,rfl,Dx (T:=λ_=>False) (Ak.later (bA (Zh _ _))) (λ_ _ x=>x) b⟩
def LR.mono {base:Nat}(h:LR base w v P)(j:adx<=base):LR adx w v P:=by
 obtain⟨vals,k,l⟩:=h;refine⟨vals,⟨k.1,k.2.imp id λ⟨g,cap,d,e,c,a⟩=>⟨g,cap,d,e,Zr j c,a⟩⟩,λi x hi=>?_⟩;obtain⟨u,c,a⟩:=l i x hi;exact⟨u,c,Sl.imp a (λb f=>⟨⟨Zr j f.1.1,f.1.2⟩,f.2⟩) λ_ _ x=>x⟩
def abb (c:A_)(l x:List Int):Bool:=Ke (Cc c x) (Cc c l)&& !Ke x l
def abN (c:A_)(l:List Int):List (List Int):=if Ca c l=0 then(EH c).filter (abb c l) else []
def adr (w:Zb)(P:List (List Int))(x:Int)(e:Ending)(w':Zb):Prop:=∃v,e=.returned (.tuple #[v,.int .i64 x])/\Qb6 w w'/\LR w w' v P
def adi {x:Int}(a:Qb6 w w')(h:LR w w' v P):adr w P x (.returned (.tuple #[v,.int .i64 x])) w':=⟨v,rfl,a,h⟩
def c68 (h:RC S w v1 v2 v3 v4 v5 c)(hl:SI S w v6 l)(hS:Ql6 S w):
  Calls Lp 13 #[.agg #[v1,v2,v3,v4,v5],v6] w (adr w (abN c l) (Ca c l)):=by
 obtain⟨a1,c1,a2,c2,a3,c3,a4,c4,a5,c5,rfl,rfl,rfl,rfl,rfl,l1,m1,l2,m2,l3,m3,l4,m4,l5,m5⟩:=h.vs;obtain⟨a6,c6,rfl,l6,m6⟩:=hl.val;have IX:=DJ;obtain⟨W1,NL⟩:=Qnm (w.alloc (.cells (Qe6 c a1 c1 a2 c2 a3 c3 a4 c4 a5 c5) 26));have Bg:Qb6 w W1:=by rw[NL];exact bA (Zh _ _)
 have lD:W1.heap[w.heap.size]?=some (.cells (Qe6 c a1 c1 a2 c2 a3 c3 a4 c4 a5 c5) 26 (0,0)):=by rw[NL];exact Bp _ _
 have M:=Zd (ajP (h.later Bg) (hl.later Bg) (A3 hS Bg));have HS:=Zd (λW (n:Qb6 w W)=>(h.later n).imp (T:=λy=>y<W.heap.size) λy hy=>Zl (hS y hy) n.size);have iD:=Zd (λW (n:Qb6 w W)=>show SI (λy=>y<W.heap.size) W (.slice a6 l.length c6) l from Sl.imp (hl.later n) (λy hy=>Zl (hS y hy) n.size) λ_ _ x=>x);obtain⟨x,D⟩:=Qnm (Ca c l);obtain⟨R,hR⟩:=Qnm (abN c l);have HR:=Zd (show R=if x=0 then(EH c).filter (abb c l) else [] by rw[hR,D];rfl);have HX:=Zd D;rw[<-D]at M;rw[<-D, <-hR];clear D hR;go_enter Lp.func68,n68;go_wp2;rw[<-NL];clear NL;refine M.out.mono ?_;rintro e O ⟨rfl,Bb⟩;have A:=bU Bg Bb;have Ia:=(Bb.block _ (Za.1 lD).1).trans lD;have fu:=Bb.size;clear lD M;by_cases h0:x=0
 case neg=>
  have hq:(x !=0)=true:=by simpa using h0
  have HE:=Zd (show R=[] by rw[HR.out,if_neg h0]);go_wp2;go_ret2;rw[HE.out];exact adi A ((LR2.nil _ _ _).aad (Zj _))
 subst h0;obtain⟨Jz,G⟩:=Bj HX.out.symm;have U:=EG Jz;have fd:=Zd (S0 U G);have cA:=Zd ((Fb G).1);have HE:=Zd (show R=(EH c).filter (abb c l) by rw[HR.out];exact if_pos rfl);have HV:=Zd U;have hN:(EH c).length<=125:=by rw[<-adp];exact acs U _
 have an:0<(EH c).length:=by
  have h1:=Zac (Ev c) (EH c);have h2:0<(LU c).length:=List.length_pos_iff.2 (agh U);exact Zl h2 h1
 have bv:=Zd (λi (hi:i<(EH c).length)=>WV (show BM (EH c) i∈EH c from Z3 (BJ hi)));have B:=Zd (amk U c.Aa.length (p:=[]) (base:=O) (HS.out _ A) (WC (S:=J1 3 O O) (w:=O)) (Zj _) i! (λb j=>j));rw[adp]at B;clear Jz U G;obtain⟨L,hL⟩:=Qnm (EH c);rw[<-hL]at B HE bv hN an;clear hL;obtain⟨k0,k1,k2,k3,k4⟩:=Qc5 Ia;go_wp2;refine B.out.mono ?_;rintro e W3 ⟨_,rfl,Bv,ap⟩;obtain⟨g,cap,e0,tN,lZ,dL,L6,NP⟩:=ap.row an;cases e0;have fi:=Zd dL;have Z:=bU A Bv;have iz:=(Bv.block _ (Za.1 Ia).1).trans Ia;have ci:=Bv.size;clear dL ap B Ia k0 k1 k2 k3 k4;go_wp2;go_loopg [7,9] L.length (λgg ov iv wr=>∃k:Nat,k<=L.length/\gg=L.length - k/\iv=.int .i64 k/\LR2 W3 O wr ov ((L.take k).filter (abb c l))/\Qb6 W3 wr)
 case atStart=>exact⟨0,Zp _,rfl,rfl,by rw[ZdB];exact LR2.nil _ _ _,Zh _ _⟩
 obtain⟨k,hk,rfl,rfl,E,F⟩:=hrel;by_cases Y:k<L.length
 .obtain⟨V,hV⟩:=Qnm wr
  subst hV;have H:=bv.out k Y;have s:=Zd (show((L.take (k+1)).filter (abb c l))=((L.take k).filter (abb c l))++ [BM L k].filter (abb c l) by rw[ZbH,BJ Y,ZcW];rfl);obtain⟨u,lH,X⟩:=fi.out k Y;obtain⟨x,D⟩:=Qnm (BM L k);rw[<-D]at H X s;clear D;have G:=iH H;have z:x.length=l.length:=by rw[(Fb G).1,cA.out]
  have fw:=Zd z;have NK:x.length<=c.Aa.length:=ZcS (Fb G).1;have H1:=Zd (λW (n:Qb6 W3 W)=>ajQ (HS.out W (bU Z n)) HV.out (Sl.imp (T:=λy=>y<W.heap.size) (X.later n) (λb j=>Zl j.1.2 n.size) λ_ _ x=>x) NK (S0 HV.out G) (λb j=>j));have du:=Zd (λW (n:Qb6 W3 W)=>ajQ (HS.out W (bU Z n)) HV.out (iD.out W (bU Z n)) (ZcS cA.out) fd.out (λb j=>j));have be:=Zd (λW (n:Qb6 W3 W)=>ajI (Sl.imp (T:=λy=>y<W.heap.size) (X.later n) (λb j=>Zl j.1.2 n.size) λ_ _ x=>x) (iD.out W (bU Z n)) (λb j=>j) (λb j=>j) (ZcS z));rw[acf z]at be;clear G H NK z;obtain⟨ua,uc,rfl,_⟩:=X.val;have b8:((L.take k).filter (abb c l)).length<=125:=by
   have h1:=Zac (abb c l) (L.take k);have h2:=List.length_take_le' k L;omega
  obtain⟨P,am⟩:=Qnm ((L.take k).filter (abb c l));rw[<-am]at E s b8;clear am;obtain⟨pa,pc,rfl,_⟩:=E.val;have HP:=Zd E;have HU:=Zd X;have I:=(F.block _ (by have:=(Za.1 iz).1;omega)).trans iz;have o:=(F.cell (p:=⟨g,k,none⟩) lZ).trans lH;have ai:(k:Int)<(L.length:Int):=o!
  have kq:(0:Int)<=(k:Int):=o!
  obtain⟨z0,z1,z2,z3,z4⟩:=Qz5 I;have z5:=λu=>Al u o;clear E X;go_wp2;refine abn (S:=λW=>∃p,W=calm V p) 19 [] (.one 5 (.one 8 (.one 9 (.free 10 (.free 11 (.free 12 (.free 13 (.free 14 (.free 15 (.one 16 (.free 17 (.free 18 .leaf)))))))))))) [0,1,2,3,4,6,7] k! (λ_ _ d _ _ h=>by cases d<;>exact h) k! (AL (Zh _ _).drew) ?_;refine A4 _ _ k! ?_;simp only[Z6,zd,ZG,ZD,ZC]
  repeat (first|go_big_quiet_step (fail)|quiet_step (fail))
  refine Z4 ?_;clear z0 z1 z2 z3 z4;change abg _ _ _ _ _ _ _ _;have Uh:YH V V V.drew:=(Zh _ _).drew;refine abq (f:=45) (args:= #[.agg (Qe6 c a1 c1 a2 c2 a3 c3 a4 c4 a5 c5),.slice ua x.length uc]) rfl rfl g! ((H1.out _ (bU F Uh)).mono ?_);rintro e V2 ⟨g1,rfl,ct,kG⟩;have J:=bU Uh ct;refine .inl ⟨_,rfl,.inr (AL J),?_⟩
  go_simp
  refine abq (f:=45) (args:= #[.agg (Qe6 c a1 c1 a2 c2 a3 c3 a4 c4 a5 c5),.slice a6 l.length c6]) rfl rfl g! ((du.out _ (bU F J)).mono ?_);rintro e V3 ⟨g2,rfl,N,T3⟩;have S7:=bU J N;refine .inl ⟨_,rfl,.inr (AL S7),?_⟩
  go_simp
  refine abq (f:=44) (args:= #[g1,g2]) rfl rfl g! ((ajI (kG.later N) T3 (λb j=>Zl j.2 N.size) (λb j=>j.2) (by simp[Cc])).mono ?_);rintro e V4 ⟨rfl,ck⟩;have a:=bU S7 ck;rw[acf (by simp[Cc])];obtain⟨r,hr⟩:=Qnm (Ke (Cc c x) (Cc c l));have bi:=Zd hr;rw[<-hr];clear hr kG T3;refine .inl ⟨_,rfl,.inr (AL a),?_⟩;refine abx (v:=.bool r) (AL a) rfl rfl (by rintro _ ⟨p,rfl⟩;go_simp) ?_
  go_simp
  cases r with
  |true=>
   refine adn (v:=.slice g L.length cap) (AL a) rfl (by unfold Yf yielded;go_simp) (by rintro _ ⟨p,rfl⟩;go_simp) ?_
   go_simp
   refine adn (v:=.int .i64 k) (AL a) rfl (by unfold Yf yielded;go_simp) (by rintro _ ⟨p,rfl⟩;go_simp) ?_
   go_simp
   refine adn (v:=.pointer (some ⟨g,k,none⟩)) (AL a) rfl (by unfold Yf yielded;go_simp) (by rintro _ ⟨p,rfl⟩;go_simp) ?_
   go_simp
   refine adn (v:=.slice ua x.length uc) (AL a) rfl (by unfold Yf yielded;go_simp) (by rintro _ ⟨p,rfl⟩;go_simp) ?_
   go_simp
   refine adn (v:=.slice a6 l.length c6) (AL a) rfl (by unfold Yf yielded;go_simp) (by rintro _ ⟨p,rfl⟩;go_simp) ?_
   go_simp
   refine aeS (f:=44) (args:= #[.slice ua x.length uc,.slice a6 l.length c6]) rfl (by unfold Yf yielded;go_simp) g! ((be.out _ (bU F a)).mono ?_);rintro e V5 ⟨rfl,dl⟩;have m:=bU a dl;obtain⟨r2,Ox⟩:∃r,r=Ke x l:=⟨_,rfl⟩;have C:=Zd (show abb c l x= !r2 by unfold abb;rw[<-bi.out, <-Ox];rfl);rw[<-Ox];clear Ox;refine .inl ⟨_,rfl,.inr (AL m),?_⟩
   go_simp
   have Q:=bU F m;have q:=Zd (HP.out.later m);have fm:=(m.cell (p:=⟨g,k,none⟩) (ZH _ _ o)).trans o;have Hb:SI (J1 3 O V5) V5 (.slice ua x.length uc) x:=Dx (T:=λ_=>False) (Ak.later Q) (λ_ _ x=>x) HU.out;have ed:=Zd Hb;clear Hb o I z5;cases r2 with
   |true=>
    refine adn (v:=.bool false) (AL m) rfl (by unfold Yf yielded;go_simp) (by rintro _ ⟨p,rfl⟩;go_simp) ?_
    go_simp
    refine abx (v:=.bool false) (AL m) rfl rfl (by rintro _ ⟨p,rfl⟩;go_simp) ?_;unfold abg
    go_simp
    have t:=Zd (show((L.take (k+1)).filter (abb c l))=P by rw[s.out,ZbB,if_neg (by rw[C.out];decide)];exact ZaA _);go_wp2;go_roundg (L.length - (k+1))
    case rel=>exact⟨k+1,Y,rfl,v!,by rw[t.out];exact q.out,Q⟩
    case measure=>omega
   |false=>
    refine adn (v:=.bool true) (AL m) rfl (by unfold Yf yielded;go_simp) (by rintro _ ⟨p,rfl⟩;go_simp) ?_
    go_simp
    refine abx (v:=.bool true) (AL m) rfl rfl (by rintro _ ⟨p,rfl⟩;go_simp) ?_;unfold abg
    go_simp
    have t:=Zd (show((L.take (k+1)).filter (abb c l))=P++ [x] by rw[s.out,ZbB,if_pos (show abb c l x=true from C.out)];rfl);go_wp2_with (at_builtin;refine wpList_plain rfl (λK hK=>acv (rb:=W3) (rb2:=V5) (base:=O) (P:=P) (R:=[x]) _ _ rfl rfl (q.out.later (bA (Zh _ _))) rfl (LR2.one ed.out) j! (by have:=Q.size;simp;omega) ?_);intro v' V6 b9 bV;refine hK _ _ ?_);have DM:Qb6 W3 V6:=Bm (bA Q) bV (λk hk=>q.out.lt k hk) (by have:=Q.size;simp;omega);go_roundg (L.length - (k+1))
    case rel=>exact⟨k+1,Y,rfl,v!,by rw[t.out];exact b9,DM⟩
    case measure=>omega
  |false=>
   have C:=Zd (show abb c l x=false by unfold abb;rw[<-bi.out];rfl);have Q:=bU F a;have q:=Zd (HP.out.later a);refine ad0 (AL a) rfl (by unfold Yf yielded;go_simp) ?_
   go_simp
   refine ad0 (AL a) rfl (by unfold Yf yielded;go_simp) ?_
   go_simp
   refine ad0 (AL a) rfl (by unfold Yf yielded;go_simp) ?_
   go_simp
   refine ad0 (AL a) rfl (by unfold Yf yielded;go_simp) ?_
   go_simp
   refine ad0 (AL a) rfl (by unfold Yf yielded;go_simp) ?_
   go_simp
   refine aeR rfl (by unfold Yf yielded;go_simp) (.inr (AL a)) ?_
   go_simp
   refine ad0 (AL a) rfl (by unfold Yf yielded;go_simp) ?_
   go_simp
   refine abx (v:=.bool false) (AL a) rfl rfl (by rintro _ ⟨p,rfl⟩;go_simp) ?_;unfold abg
   go_simp
   have t:=Zd (show((L.take (k+1)).filter (abb c l))=P by rw[s.out,ZbB,if_neg (by rw[C.out];decide)];exact ZaA _);clear z5 o I;go_wp2;go_roundg (L.length - (k+1))
   case rel=>exact⟨k+1,Y,rfl,v!,by rw[t.out];exact q.out,Q⟩
   omega
 have ai:k=L.length:=o!
 rw[ai,ZcU, <-HE.out]at E;obtain⟨pa,pc,rfl,_⟩:=E.val;have HP:=Zd E;clear E;go_wp2;go_ret2;exact adi (bU Z F) ((HP.out.aad ci).mono A.size)
end Go.Proofs.Fit
namespace Go.Proofs.Fit
open Go
def adF {n:Int}{k:Nat}:∀(l:List (Int×Int)) (m:Nat->Int),(∀p∈l,p.1<(k:Int))->CZ m n l k=m k
 | [],_,_=>rfl
 |p::r,m,h=>by
  show CZ (K7 m n p) n r k=m k;rw[adF r _ λq a=>h q (zm _ a)];unfold K7;rw[if_neg (by have:=h p (zC ..);omega)]
def aek {k:Nat}:∀(l:List (Int×Ay)) (m:Nat->Int),(∀x∈l,∀p∈x.2.Ap,p.1<(k:Int))->Iw m l k=m k
 | [],_,_=>rfl
 |x::r,m,h=>by
  show Iw (CZ m x.1 x.2.Ap) r k=m k;rw[aek r _ λq a=>h q (zm _ a),adF _ _ (h x (zC ..))]
variable {c:A_}
variable {n k b i g cap j clk st q rb c2 adx cc M:Nat}
def ade (g:Fq c)(l:List Int)(o:c.base.length<=k):measure c l k=0:=by
 unfold measure;rw[aek _ _ λx f p n=>?_]
 .unfold nth
  simp[ZP o]
 have m:=(List.of_mem_zip f).2;obtain⟨i,b,e⟩:=Zas m;obtain⟨j,a,s⟩:=Zas n;have d:Aj c.Aa i=x.2:=by
  have:=Db b;rw[zf b]at this;rw[<-ZW this,e]
 have r:=g.pull i b j (by rw[d];exact a);have q:BV (Aj c.Aa i).Ap j=p:=by
  rw[d];have:=EE a;rw[zf a]at this;rw[<-ZW this,s]
 rw[q]at r;omega
def abR (c:A_)(l:List Int):Int×Int×Int:=(measure c l 0,measure c l 1,measure c l 2)
def ah2 (d:Fq c)(x l:List Int):decide (abR c x=abR c l)=Ke (Cc c x) (Cc c l):=by
 unfold Ke;rw[decide_eq_decide];constructor
 .intro h
  unfold Cc;refine List.map_congr_left λi a=>?_;have a:=List.mem_range.1 a;have:=d.Fp.2;simp only[abR,Prod.mk.injEq]at h;have e:i=0\/i=1\/i=2:=o!
  rcases e with rfl|rfl|rfl
  .exact h.1
  .exact h.2.1
  exact h.2.2
 intro h;have b:∀i,measure c x i=measure c l i:=λi=>by
  by_cases a:i<c.base.length
  .have:=congrArg (·[i]?) h
   simpa[Cc,a]using this
  rw[ade d _ o!,ade d _ o!]
 simp[abR,b]
def adt (a:Fq c)(x l:List Int):abb c l x=(decide (abR c x=abR c l)&& !Ke x l):=by rw[ah2 a];rfl
end Go.Proofs.Fit
namespace Go.Proofs.Fit
open Go Go.RowKit
variable {S T:Nat->Prop}
variable {W w A B w1 w' W3:Zb}
variable {v v1 v2 v3 v4 v5 v' u2 u1 u4 u5 u v6 lv:Zf}
variable {c:A_}
variable {l x nums:List Int}
def amv (h:RC S w v1 v2 v3 v4 v5 c)(hl:SI S w v6 l)(m:Ql6 S w)(f:Ca c l≠0):
  Calls Lp 12 #[.agg #[v1,v2,v3,v4,v5],v6] w (adr w (abN c l) (Ca c l)):=by
 obtain⟨A,s,z,r,y,q,v,p,u,o,rfl,rfl,rfl,rfl,rfl,l1,V,l2,U,l3,T,Z,Q,Y,P⟩:=h.vs;obtain⟨t,n,rfl,X,O⟩:=hl.val;have IX:=DJ;obtain⟨W1,g⟩:=Qnm ((w.alloc (.cells (Qe6 c A s z r y q v p u o) 26)).alloc (.cells #[.slice t l.length n] 22));have k:Qb6 w W1:=by rw[g];exact bA (bA (Zh _ _))
 have i:=Zd (λW d=>pF (w:=W) (h.later d) (hl.later d) (A3 m d));have j:=Zd (show abN c l=[] by unfold abN;rw[if_neg f]);obtain⟨x,a⟩:=Qnm (Ca c l);obtain⟨R,b⟩:=Qnm (abN c l);rw[<-b]at j;have hq:(x !=0)=true:=by simpa[a]using f
 have B:=Zd a;rw[<-a, <-b];clear f a b;go_enter Lp.func67,n67;go_wp2;rw[<-g];clear g;refine(i.out _ k).mono ?_;rintro e W2 ⟨I,H,G,F,E,N,M,L,K,J,d1,d2,d3,d4,d5,k0,k1,k2,rfl,D,_⟩;have C:=bU k D;rw[<-B.out];clear i;go_wp2;go_ret2;rw[j.out];refine adi (?_:Qb6 w _) ((LR2.nil _ _ _).aad (Zj _))
 repeat (with_reducible first|exact C|refine bA ?_|(refine bS ?_ o!)|refine bD ?_|refine bN ?_)
attribute [local go_sem] Zdk
variable {n k b i g cap j clk st q rb c2 adx cc M:Nat}
variable {f:ZaQ}
variable {args cs:Array Zf}
def abj {F:Fence}{P:Zo}{p:Cp}(h:CallsIn F n P f args (calm w p) λe w'=>e=.returned v/\YH (calm w p).heap.size (calm w p) w'):
  CallsIn F n P f args (calm w p) λe c=>e=.returned v/\∃q,c=calm w q:=
 h.mono λ_ _ ⟨a,b⟩=>⟨a,AL ((AE w p).trans (b.mono (AE w p).size))⟩
structure aaA (W3:Zb)(base m:Nat)(G:Int×Int×Int)(P:List (List Int))(A:Zb):Prop where
 below:Qb6 W3 A
 size:base<=A.heap.size
 af8:A.heap[m+1]?=some (.cells #[.map (some m)] 87 (0,0))
 map:(P=[]/\∃clk,A.heap[m]?=some (.map #[] clk))\/∃v vals st clk,A.heap[m]?=some (.map #[{key:=abl G,val:=v,born:=st}] clk)/\A.ownsRow base 22 1 v P.length vals/\∀(i:Nat) (x:List Int),P[i]?=some x->∃u,vals[i]?=some u/\SI (J1 3 base A) A u x
variable {P:List (List Int)}
def aaA.CN {base m:Nat}{G:Int×Int×Int}(h:aaA W3 base m G P A)(z:m=W3)(a:Ak T A B)(l:∀b,base<=b->¬T b)(g:∀b,T b->W3.heap.size+2<=b):aaA W3 base m G P B:=by
 have j:=λ{k:Nat} {o:Obj} (e:A.heap[k]?=some o)=>(Za.1 e).1;refine⟨h.below.trans (a.below (λk q=>by have:=g k q;omega) h.below.size),Zr h.size a.size,(a.block _ (j h.af8) (λd=>by have:=g _ d;omega)).trans h.af8,?_⟩;rcases h.map with⟨y,clk,f⟩|⟨v,c,st,clk,f,w,t⟩
 .exact .inl ⟨y,clk,(a.block _ (j f) (λd=>by have:=g _ d;omega)).trans f⟩
 refine .inr ⟨v,c,st,clk,(a.block _ (j f) (λd=>by have:=g _ d;omega)).trans f,CO a l w,λi x r=>?_⟩;obtain⟨u,n,p⟩:=t i x r;exact⟨u,n,Dx a (λb s=>l b s.1.1) p⟩
def afh {base:Nat}(h:LR base A v P)(d:Ak T A B)(c:∀b,base<=b->¬T b):LR base B v P:=by
 obtain⟨a,l,k⟩:=h;refine⟨a,CO d c l,λi y e=>?_⟩;obtain⟨u,j,g⟩:=k i y e;exact⟨u,j,Dx d (λb f=>c b f.1.1) g⟩
variable {xs vals news:List Zf}
def aaA.snoc {base m g' p ln:Nat}{j:Option Addr}{G:Int×Int×Int}{o:Obj}(g:aaA W3 base m G P A)(K:m=W3)(r:m+2<=base)(C:A.ownsRow base 22 1 v P.length vals)(I:∀(i:Nat) (x:List Int),P[i]?=some x->∃u,vals[i]?=some u/\SI (J1 3 base A) A u x)
 (E:SI (J1 3 n A) A (.slice j ln cc) x) (z:base<=n) (B:((A.alloc (.cells #[.slice j ln cc] 22)).putObj m o).grownBy w1 v.ownBlock) (J:w1.ownsRow base 22 1 (.slice g' (P.length+1) p) (P.length+1) (vals++ [.slice j ln cc])):
  aaA W3 base m G (P++ [x]) (w1.putObj m (.map #[{key:=abl G,val:=.slice g' (P.length+1) p,born:=st}] clk))/\Ak (λk=>k=m\/base<=k) A (w1.putObj m (.map #[{key:=abl G,val:=.slice g' (P.length+1) p,born:=st}] clk)):=by
 have s:=(Za.1 g.af8).1;have q:∀b,base<=b->¬b=m:=λb L=>o!
 have l:Ak (λk=>k=m) A ((A.alloc (.cells #[.slice j ln cc] 22)).putObj m o):=(Ak.later (T:=λk=>k=m) (bA (Zh _ _))).put rfl;have H:∀k,v.ownBlock=some k->base<=k:=λk a=>(C.lt k a).1;have f:Ak (λk=>v.ownBlock=some k) ((A.alloc (.cells #[.slice j ln cc] 22)).putObj m o) w1:=Ak.grown B λk a=>a;have F:LR base w1 (.slice g' (P.length+1) p) (P++ [x]):=LR.snoc (CO l q C) (λi y D=>by
  obtain⟨u,w,t⟩:=I i y D;exact⟨u,w,Dx l (λb r=>q b r.1.1) t⟩) (Dx l (λb r=>q b (Zr z r.1.1)) E) z (Zh _ _) B J
 have e:Ak (λk=>k=m) w1 (w1.putObj m (.map #[{key:=abl G,val:=.slice g' (P.length+1) p,born:=st}] clk)):=(Ak.refl _ _).put rfl;have c:=((l.mono (U:=λk=>k=m\/base<=k) λk a=>.inl a).trans (f.mono λk a=>.inr (H k a))).trans (e.mono λk a=>.inl a);refine⟨⟨g.below.trans (c.below (λk a=>o!) g.below.size),Zr g.size c.size,(c.block _ s o!).trans g.af8,.inr ?_⟩,c⟩;obtain⟨d,w,t⟩:=afh F e q;exact⟨_,d,st,clk,Zau (by have:=l.size;have:=f.size;omega),w,t⟩
def amw (h:RC S w v1 v2 v3 v4 v5 c)(hl:SI S w v6 l)(hS:Ql6 S w)(h0:Ca c l=0):
  CallsIn ZbC 0 Lp 12 #[.agg #[v1,v2,v3,v4,v5],v6] w (adr w (abN c l) 0):=by
 obtain⟨I,z,H,c2,G,y,F,t,E,s,rfl,rfl,rfl,rfl,rfl,_⟩:=h.vs;obtain⟨a6,c6,rfl,_⟩:=hl.val;have IX:=DJ;obtain⟨Jz,ER⟩:=Bj h0;have O:=EG Jz;obtain⟨W1,NL⟩:=Qnm ((w.alloc (.cells (Qe6 c I z H c2 G y F t E s) 26)).alloc (.cells #[.slice a6 l.length c6] 22));have Bg:Qb6 w W1:=by rw[NL];exact bA (bA (Zh _ _))
 have lD:W1.heap[w.heap.size+1]?=some (.cells #[.slice a6 l.length c6] 22 (0,0)):=by rw[NL,show w.heap.size+1=(w.alloc (.cells (Qe6 c I z H c2 G y F t E s) 26)).heap.size by simp];exact Bp _ _
 have Ie:=Zd (λW hB=>Zcx (n:=0).2 (pF (w:=W) (h.later hB) (hl.later hB) (A3 hS hB)));have HE:=Zd (show abN c l=(EH c).filter (abb c l) by unfold abN;rw[if_pos h0]);have HA:=Zd h0;have HB:=Zd Jz;clear h0;refine callsIn_of_wp_marks Lp.func67 rfl trivial ?_ rfl;show Code.wpIn _ _ _ _ _ {tmps:= #[.agg #[.slice I c.base.length z,.slice H c.Af.length c2,.slice G c.hooks.length y,.slice F c.Aa.length t,.slice E c.now.length s],.slice a6 l.length c6]++_,defers:=[]} _;simp only[n67,Zbm,zb,zR,ZaF,Zcw,ZaN,ZaM,Zbn,Za4,zP,Za1]
 gi_wp2
 rw[<-NL];clear NL;refine⟨trivial,rfl,(Ie.out _ Bg).mono ?_⟩;rintro e Q ⟨q1,q2,q3,q4,q5,n1,n2,n3,n4,n5,d1,d2,d3,d4,d5,k0,k1,k2,rfl,Y,hx⟩;have hx:=hx HB.out;rw[HA.out,hx];clear hx;obtain⟨W3,Hv⟩:=Qnm (Q.alloc (.cells (AW (.slice I c.base.length z) (.slice H c.Af.length c2) (.slice G c.hooks.length y) (.slice F c.Aa.length t) (.slice E c.now.length s) (Ax c.Aa)) 84));have bV:=Zd Hv;unfold AW at Hv⊢
 gi_wp2
 rw[<-Hv];clear Hv;have iz:W3.heap[Q.heap.size]?=some (.cells #[.slice I c.base.length z,.slice H c.Af.length c2,.slice G c.hooks.length y,.slice F c.Aa.length t,.slice E c.now.length s,.int .u8 (Ax c.Aa 0),.int .u8 (Ax c.Aa 1),.int .u8 (Ax c.Aa 2)] 84 (0,0)):=by rw[bV.out];exact Bp _ _
 have Ks:=Bf (Bf iz (.map #[] 0)) (.cells #[.map (some W3.heap.size)] 87);have g0:=ch (i:=0) Ks rfl;have g1:=ch (i:=1) Ks rfl;have g2:=ch (i:=2) Ks rfl;have g3:=ch (i:=3) Ks rfl;have g4:=ch (i:=4) Ks rfl;have g5:=ch (i:=5) Ks rfl;have g6:=ch (i:=6) Ks rfl;have g7:=ch (i:=7) Ks rfl;change(_:Act->Zb->Prop) _ (W3.alloc (.map #[] 0))
 gi_wp2
 refine⟨trivial,rfl,(Zcx (n:=0).2 (ahC (AW (.slice I c.base.length z) (.slice H c.Af.length c2) (.slice G c.hooks.length y) (.slice F c.Aa.length t) (.slice E c.now.length s) (Ax c.Aa)) rfl (by simp[AW,YT]) _)).mono ?_⟩;rintro e V ⟨rfl,hV⟩;clear g0 g1 g2 g3 g4 g5 g6 g7;change V=((W3.alloc (.map #[] 0)).alloc (.cells #[.map (some W3.heap.size)] 87)).alloc (.cells (AW (.slice I c.base.length z) (.slice H c.Af.length c2) (.slice G c.hooks.length y) (.slice F c.Aa.length t) (.slice E c.now.length s) (Ax c.Aa)) 84) at hV;have Rb:W3=Q.heap.size+1:=by rw[bV.out,ZB]
 have b9:V=W3.heap.size+3:=by rw[hV];simp
 have be:Qb6 W3 V:=by rw[hV];exact bA (bA (bA (Zh _ _)))
 have fK:=bU Bg Y;have bi:Qb6 Q W3:=by rw[bV.out];exact bA (Zh _ _)
 have rp:=bU fK bi;have Ui:=bU rp be;have fI:V.heap[W3.heap.size]?=some (.map #[] 0):=by rw[hV];exact Bf (Bf (Bp _ _) _) _
 have fH:V.heap[W3.heap.size+1]?=some (.cells #[.map (some W3.heap.size)] 87 (0,0)):=by rw[hV,show W3.heap.size+1=(W3.alloc (.map #[] 0)).heap.size by simp];exact Bf (Bp _ _) _
 have pX:V.heap[W3.heap.size+1+1]?=some (.cells (AW (.slice I c.base.length z) (.slice H c.Af.length c2) (.slice G c.hooks.length y) (.slice F c.Aa.length t) (.slice E c.now.length s) (Ax c.Aa)) 84 (0,0)):=by rw[hV,show W3.heap.size+1+1=((W3.alloc (.map #[] 0)).alloc (.cells #[.map (some W3.heap.size)] 87)).heap.size by simp];exact Bp _ _
 have ip:=O.few;have eZ:=qv pX (h.later Ui) (λb d=>by have:=hS b d;have:=Ui.size;omega) o! (λi hi=>by have:=O.step i hi;omega);have hN:(EH c).length<=125:=by rw[<-adp];exact acs O _
 clear hV;simp only[ZB];obtain⟨K,a⟩:∃K:Nat->Prop,K=λk=>S k\/k=W3+1+1:=⟨_,rfl⟩;have ju:∀k,K k->k<w.heap.size\/k=W3+1+1:=λk h=>by
  rw[a]at h;rcases h with h|rfl
  .exact .inl (hS k h)
  exact .inr rfl
 rw[<-a]at eZ;clear a;have g9:w+2<=Q.heap.size:=by have:=Y.size;have:=(Za.1 lD).1;omega
 have HZ:=Zd (show w+2<=Q.heap.size/\W3=Q.heap.size+1/\V=W3.heap.size+3 from⟨g9,Rb,b9⟩);clear Rb b9
 gi_wp2
 have kL:=HZ.out;refine Vm (gf:=76) (lb:= #[.pointer (W3+1+1:Nat)]) rfl (Go.Proofs.enters_of Lp.func153 k! rfl) eZ (Zj _) (λk hk=>⟨by have:=ju k hk;omega,rfl⟩) (λf A=>aaA W3 (V+6) W3 (abR c l) (f.filter (abb c l)) A) (λA hA hs=>?_) (λf A B h hT=>h.CN rfl hT (λb h1 h2=>by unfold Kp at h2;omega) (λb d=>by unfold Kp at d;omega))
  (λu=> {tmps:= #[.agg #[.slice I c.base.length z,.slice H c.Af.length c2,.slice G c.hooks.length y,.slice F c.Aa.length t,.slice E c.now.length s],.slice a6 l.length c6,.pointer w,.pointer (w+1:Nat),(),.int .i64 0,.pointer Q,.int .i64 0,.pointer (W3+1:Nat),u,Ze,.tuple #[.agg #[.slice I c.base.length z,.slice H c.Af.length c2,.slice G c.hooks.length y,.slice F c.Aa.length t,.slice E c.now.length s,.int .u8 (Ax c.Aa 0),.int .u8 (Ax c.Aa 1),.int .u8 (Ax c.Aa 2)],.int .i64 0],.agg #[.slice I c.base.length z,.slice H c.Af.length c2,.slice G c.hooks.length y,.slice F c.Aa.length t,.slice E c.now.length s],.slice a6 l.length c6,.tuple #[.agg #[.slice I c.base.length z,.slice H c.Af.length c2,.slice G c.hooks.length y,.slice F c.Aa.length t,.slice E c.now.length s,.int .u8 (Ax c.Aa 0),.int .u8 (Ax c.Aa 1),.int .u8 (Ax c.Aa 2)],.int .i64 0],.agg #[.slice I c.base.length z,.slice H c.Af.length c2,.slice G c.hooks.length y,.slice F c.Aa.length t,.slice E c.now.length s,.int .u8 (Ax c.Aa 0),.int .u8 (Ax c.Aa 1),.int .u8 (Ax c.Aa 2)],.int .i64 0,.int .i64 0,.bool false,Ze,.map (some W3.heap.size),.agg #[.slice I c.base.length z,.slice H c.Af.length c2,.slice G c.hooks.length y,.slice F c.Aa.length t,.slice E c.now.length s,.int .u8 (Ax c.Aa 0),.int .u8 (Ax c.Aa 1),.int .u8 (Ax c.Aa 2)],.func (.func 76) #[] #[.pointer (W3+1+1:Nat)],u,Ze,Ze,Ze,Ze,Ze,Ze,Ze,Ze,Ze,Ze,Ze,Ze,Ze,Ze,Ze,Ze,Ze,Ze,Ze,Ze,Ze,Ze,Ze,Ze,Ze,Ze,Ze],defers:=[]}) ?assign ?body ?done
 .exact⟨be.trans (hA.mono be.size),o!,(hA.block _ o!).trans fH,.inl ⟨rfl,0,(hA.block _ o!).trans fI⟩⟩
 case assign=>
  rintro ln u W' K ⟨ad,n,cc,rfl⟩ a;clear kL
  gi_wp2
  exact a
 case body=>
  intro ln f x u A0 A ap hT hz R iA;have L:aaA W3 (V+6) W3 (abR c l) (f.filter (abb c l)) A:=ap.CN rfl hT (λb h1 h2=>by unfold Kp at h2;omega) (λb d=>by unfold Kp at d;omega);obtain⟨ad,cc,rfl,lu,mu⟩:=iA.val;have fi:x∈EH c:=R.subset i!;have ci:=iH (WV fi);have m:Qb6 w A:=bU rp L.below;have q:A.heap[Q.heap.size]?=some (.cells #[.slice I c.base.length z,.slice H c.Af.length c2,.slice G c.hooks.length y,.slice F c.Aa.length t,.slice E c.now.length s,.int .u8 (Ax c.Aa 0),.int .u8 (Ax c.Aa 1),.int .u8 (Ax c.Aa 2)] 84 (0,0)):=(L.below.block Q o!).trans iz;have HI:=Zd L;have fy:RC (λb=>b<A.heap.size) A (.slice I c.base.length z) (.slice H c.Af.length c2) (.slice G c.hooks.length y) (.slice F c.Aa.length t) (.slice E c.now.length s) c:=(h.later m).imp λb d=>by have:=hS b d;have:=m.size;show b<_;omega
  have ck:SI (λb=>b<A.heap.size) A (.slice ad x.length cc) x:=Sl.imp iA (λb d=>d.1.2) λ_ _ x=>x;have H1:=Zd ((Zcx (n:=0)).2 (ah4 fy O ck (ZcS (Fb ci).1) (S0 O ci) (λb d=>d) (Ax c.Aa 0) (Ax c.Aa 1) (Ax c.Aa 2)));have X:=Zd kL;have b8:=Zd (show V+6<=A0.heap.size/\f.length<=125 from⟨ap.size,by have:=R.length_le;rw[ZA]at this;omega⟩);have Lb:=iA;have g0:=ch (i:=0) q rfl;have g1:=ch (i:=1) q rfl;have g2:=ch (i:=2) q rfl;have g3:=ch (i:=3) q rfl;have g4:=ch (i:=4) q rfl;have g5:=ch (i:=5) q rfl;have g6:=ch (i:=6) q rfl;have g7:=ch (i:=7) q rfl;clear kL ap iA hz R hT
  gi_wp2
  refine⟨trivial,rfl,H1.out.mono ?_⟩;rintro e A1 ⟨rfl,oT⟩;clear g0 g1 g2 g3 g4 g5 g6 g7
  gi_wp2
  obtain⟨N,aT⟩:=Qnm (A1.alloc (.cells #[.int .i64 (measure c x 0),.int .i64 (measure c x 1),.int .i64 (measure c x 2)] 92));have gj:Qb6 A1 N:=by rw[aT];exact bA (Zh _ _)
  have Vf:N.heap[A1.heap.size]?=some (.cells #[.int .i64 (measure c x 0),.int .i64 (measure c x 1),.int .i64 (measure c x 2)] 92 (0,0)):=by rw[aT];exact Bp _ _
  have o:Qb6 A N:=oT.trans (gj.mono oT.size);rw[<-aT];clear aT;have M:Qb6 w N:=bU m o;have U:=Zd (λW (J:Qb6 N W)=>(Zcx (n:=0)).2 (ah4 ((h.later (bU M J)).imp (T:=λb=>b<W.heap.size) λb d=>by have:=hS b d;have:=(bU M J).size;show b<_;omega) O (Sl.imp (T:=λb=>b<W.heap.size) (hl.later (bU M J)) (λb d=>by have:=hS b d;have:=(bU M J).size;show b<_;omega) λ_ _ x=>x) (ZcS (Fb ER).1) (S0 O ER) (λb d=>d) (Ax c.Aa 0) (Ax c.Aa 1) (Ax c.Aa 2)));have ai:=Zd (λW (J:Qb6 N W)=>(Zcx (n:=0)).2 (ama (S:=λb=>b<W.heap.size) (T:=λb=>b<W.heap.size) (w:=W) (Sl.imp (ck.later (o.trans (J.mono o.size))) (λb d=>by have:=o.size;have:=J.size;show b<_;omega) λ_ _ x=>x) (Sl.imp (hl.later (bU M J)) (λb d=>by have:=hS b d;have:=(bU M J).size;show b<_;omega) λ_ _ x=>x) (λb d=>d) (λb d=>d)));have D:=(o.block _ (Za.1 q).1).trans q;have am:=((bU Y (bU bi (L.below.trans (o.mono L.below.size)))).block _ (Za.1 lD).1).trans lD;have z0:=λp=>Al p (ch (i:=0) D rfl);have z1:=λp=>Al p (ch (i:=1) D rfl);have z2:=λp=>Al p (ch (i:=2) D rfl);have z3:=λp=>Al p (ch (i:=3) D rfl);have z4:=λp=>Al p (ch (i:=4) D rfl);have z5:=λp=>Al p (ch (i:=5) D rfl);have z6:=λp=>Al p (ch (i:=6) D rfl);have z7:=λp=>Al p (ch (i:=7) D rfl);have y0:=λp=>Al p (ch (i:=0) Vf rfl);have y1:=λp=>Al p (ch (i:=1) Vf rfl);have y2:=λp=>Al p (ch (i:=2) Vf rfl);have x0:=λp=>Al p (ch (i:=0) am rfl);obtain⟨r,hr⟩:=Qnm (decide (abR c x=abR c l));have dl:∀W,(ZaZ 10000 92 (.agg #[.int .i64 (measure c x 0),.int .i64 (measure c x 1),.int .i64 (measure c x 2)]) (.agg #[.int .i64 (measure c l 0),.int .i64 (measure c l 1),.int .i64 (measure c l 2)])).run Lp W=.ok r W:=λW=>by rw[hr];exact aib W (abR c x) (abR c l)
  have ct:∀W,(eqGuard .eql 92 (.tmp 27) (.tmp 30) (.agg #[.int .i64 (measure c x 0),.int .i64 (measure c x 1),.int .i64 (measure c x 2)]) (.agg #[.int .i64 (measure c l 0),.int .i64 (measure c l 1),.int .i64 (measure c l 2)])).run Lp W=.ok () W:=λW=>by
   have h1:Lp.eqGuardType Lp.depth 92=false:=k!
   simp[eqGuard,zg,h1,zu]
  have HR:=Zd hr;clear hr;refine adE (C:=λW=>∃p,W=calm N p) k! k! k! (AL (Zh _ _).drew) ?_
  repeat
   refine wpQuietIn_step (λ_ _ _ _=>trivial) (λK a=>?_)
   go_simp
   first
    |(refine a _ ?_;clear a K)
    |(refine⟨_,λ_=>⟨rfl,abj (U.out _ (AE _ _))⟩,a _ ?_⟩;clear a K)
    |(refine⟨_,λ_=>⟨rfl,abj (ai.out _ (AE _ _))⟩,a _ ?_⟩;clear a K)
  have yw:=λp=>AE N p;cases r with
  |false=>
   repeat
    refine wpQuietIn_step (λ_ _ _ _=>trivial) (λK a=>?_)
    go_simp
    first
     |(refine a _ ?_;clear a K)
     |(refine⟨_,λ_=>⟨rfl,abj (U.out _ (AE _ _))⟩,a _ ?_⟩;clear a K)
     |(refine⟨_,λ_=>⟨rfl,abj (ai.out _ (AE _ _))⟩,a _ ?_⟩;clear a K)
   refine wpQuietIn_nil ?_;rintro _ ⟨p,rfl⟩;have Tq:f.filter (abb c l)++ [x].filter (abb c l)=f.filter (abb c l):=by rw[ZbB,adt O, <-HR.out];simp
   have g:YH A A (calm N p):=o.trans ((AE N p).mono o.size);have mJ:=L.CN rfl (Ak.later (T:=λ_=>False) g) (λ_ _ h=>h) (λ_ h=>h.elim);clear z0 z1 z2 z3 z4 z5 z6 z7 y0 y1 y2 x0 dl ct
   gi_wp2
   exact Ak.later g
  |true=>
   obtain⟨r2,Ox⟩:∃r,r=Ke x l:=⟨_,rfl⟩;rw[<-Ox]at ai;have ed:=Zd Ox;clear Ox
   repeat
    refine wpQuietIn_step (λ_ _ _ _=>trivial) (λK a=>?_)
    go_simp
    first
     |(refine a _ ?_;clear a K)
     |(refine⟨_,λ_=>⟨rfl,abj (U.out _ (AE _ _))⟩,a _ ?_⟩;clear a K)
     |(refine⟨_,λ_=>⟨rfl,abj (ai.out _ (AE _ _))⟩,a _ ?_⟩;clear a K)
   refine wpQuietIn_nil ?_;rintro _ ⟨p,rfl⟩;have g:YH A A (calm N p):=o.trans ((AE N p).mono o.size);have mJ:=L.CN rfl (Ak.later (T:=λ_=>False) g) (λ_ _ h=>h) (λ_ h=>h.elim);clear z0 z1 z2 z3 z4 z5 z6 z7 x0 dl ct;cases r2 with
   |true=>
    have Tq:f.filter (abb c l)++ [x].filter (abb c l)=f.filter (abb c l):=by rw[ZbB,adt O, <-HR.out, <-ed.out];simp
    clear y0 y1 y2
    gi_wp2
    exact Ak.later g
   |false=>
    have Tq:f.filter (abb c l)++ [x].filter (abb c l)=f.filter (abb c l)++ [x]:=by rw[ZbB,adt O, <-HR.out, <-ed.out];simp
    have fd:=Zd Tq;clear Tq;obtain⟨B,hB⟩:=Qnm (calm N p);have u0:=y0 p;have u1:=y1 p;have u2:=y2 p;rw[<-hB]at mJ g u0 u1 u2⊢;clear y0 y1 y2 hB;have m0:=ch (i:=0) mJ.af8 rfl;have Hb:SI (J1 3 A0 B) B (.slice ad x.length cc) x:=Dx (T:=λ_=>False) (Ak.later g) (λ_ _ h=>h) Lb;obtain⟨P,hP⟩:=Qnm (f.filter (abb c l));have iS:P.length<=f.length:=by rw[hP];exact Zac _ _
    have im:=Zd hP;rw[<-hP]at fd mJ;clear hP;have hG:abR c x=abR c l:=of_decide_eq_true HR.out.symm;obtain⟨v,vals,st,clk,he,Ci,DF⟩:∃v vals st clk,(ZcK 87 (.map (some W3.heap.size)) (.agg #[.int .i64 (measure c x 0),.int .i64 (measure c x 1),.int .i64 (measure c x 2)])).run Lp (B.alloc (.cells #[.slice ad x.length cc] 22))=.ok (.tuple #[v,.int .i64 ((st:Nat):Int)]) ((B.alloc (.cells #[.slice ad x.length cc] 22)).putObj W3 (.map #[{key:=abl (abR c l),val:=v,born:=st}] clk))/\B.ownsRow (V+6) 22 1 v P.length vals/\∀(i:Nat) (x:List Int),P[i]?=some x->∃u,vals[i]?=some u/\SI (J1 3 (V+6) B) B u x:=by
     rw[<-hG];rcases mJ.map with⟨an,clk,Z⟩|⟨v,vals,st,clk,Z,Ci,DF⟩
     .subst an
      exact⟨_,_,_,_,afn (abR c x) (Bf Z _),zq _ _ _ _,λi x hx=>by cases hx⟩
     rw[<-hG]at Z;exact⟨_,_,_,_,afo (abR c x) (Bf Z _),Ci,DF⟩
    obtain⟨B2,Y⟩:=Qnm ((B.alloc (.cells #[.slice ad x.length cc] 22)).putObj W3 (.map #[{key:=abl (abR c l),val:=v,born:=st}] clk));have io:=Zd Y;rw[<-Y]at he;have Gv:=(Za.1 mJ.af8).1;have D3:Ak (λk=>k=W3.heap.size) B B2:=by rw[Y];exact(Ak.later (T:=λk=>k=W3.heap.size) (bA (Zh _ _))).put rfl
    have U6:B2.heap[W3.heap.size]?=some (.map #[{key:=abl (abR c l),val:=v,born:=st}] clk):=by rw[Y];exact Zau (by rw[ZB];omega)
    have gt:=CO D3 (λb h1 h2=>by have:=X.out;omega) Ci;have fu:∀j u,[Zy ad x.length cc][j]?=some u->B2.cell? ((B:Addr).add j)=some u:=λj u hj=>by
     have e:B2.heap[B.heap.size]?=some (.cells #[.slice ad x.length cc] 22 (0,0)):=by
      rw[Y,zG o!];exact Bp _ _
     match j,hj with
     |0,hj=>cases hj;exact ch e rfl
    have EB:=D3.size;have du:=mJ.size;clear Y;obtain⟨i0,hi,Fl,DR,ii⟩:=zp Hw;have fm:=Cz zW;have iX:=Zd hG;clear hG;have bv:=Zd (ZY Gv (ZY EB du));clear EB du Gv
    gi_wp2_with (gi_at_builtin;refine wpListIn_append_own _ rfl _ _ 34 rfl (V+6) 22 i0 () 1 24 fm (Dz hi) Fl DR ii rfl d! _ _ _ rfl gt B 1 1 [.slice ad x.length cc] rfl rfl fu (by simp[YT]) (by unfold maxLen;have:=b8.out;omega) (by have:=b8.out;omega) (by have:=bv.out;omega) ?_;intro v' w3 Bi AG Gc;obtain⟨g',Ey,rfl⟩:=Zay Bi;have S4:B2.grownBy w3 v.ownBlock:=AG;have eB:w3.heap[W3.heap.size]?=some (.map #[{key:=abl (abR c l),val:=v,born:=st}] clk):=(S4.block _ (by have:=bv.out;omega) (λe=>by have:=(Ci.lt _ e.symm).1;have:=X.out;have:=bv.out;omega)).trans U6;have fw:=ae3 (u:=.slice g' (P.length+1) Ey) eB;simp only[goInt]at fw)
    have kL:=X.out;obtain⟨q1,q2⟩:=aaA.snoc (st:=st) (clk:=clk) mJ rfl o! Ci DF Hb (by have:=b8.out;omega) (by rw[<-io.out];exact S4) Bi;rw[<-im.out,fd.out];exact⟨q1,(Ak.later g).trans (q2.mono λk hk=>⟨by unfold Kp;omega,λh=>by have:=ju k h;omega⟩)⟩
 intro A L hD;have m:Qb6 w A:=bU rp L.below;have q:A.heap[Q.heap.size]?=some (.cells #[.slice I c.base.length z,.slice H c.Af.length c2,.slice G c.hooks.length y,.slice F c.Aa.length t,.slice E c.now.length s,.int .u8 (Ax c.Aa 0),.int .u8 (Ax c.Aa 1),.int .u8 (Ax c.Aa 2)] 84 (0,0)):=(L.below.block Q o!).trans iz;have am:=((bU Y (bU bi L.below)).block _ (Za.1 lD).1).trans lD;have U:=Zd (λW (J:Qb6 A W)=>(Zcx (n:=0)).2 (ah4 ((h.later (bU m J)).imp (T:=λb=>b<W.heap.size) λb d=>by have:=hS b d;have:=(bU m J).size;show b<_;omega) O (Sl.imp (T:=λb=>b<W.heap.size) (hl.later (bU m J)) (λb d=>by have:=hS b d;have:=(bU m J).size;show b<_;omega) λ_ _ x=>x) (ZcS (Fb ER).1) (S0 O ER) (λb d=>d) (Ax c.Aa 0) (Ax c.Aa 1) (Ax c.Aa 2)));obtain⟨v,gn,hL⟩:∃v,(∀p,(Za2 87 (.map (some W3.heap.size)) (.agg #[.int .i64 (measure c l 0),.int .i64 (measure c l 1),.int .i64 (measure c l 2)]) false).run Lp (calm A p)=.ok v (calm A p))/\LR (V+6) A v ((EH c).filter (abb c l)):=by
  rcases L.map with⟨an,clk,Z⟩|⟨v,vals,st,clk,Z,Ci,DF⟩
  .rw[an]
   exact⟨_,λp=>ahS (abR c l) (((AE A p).block _ (Za.1 Z).1).trans Z),LR.nil _ _⟩
  exact⟨v,λp=>agk (abR c l) (((AE A p).block _ (Za.1 Z).1).trans Z),vals,Ci,DF⟩
 rw[<-HE.out]at hL;have z0:=λp=>Al p (ch (i:=0) q rfl);have z1:=λp=>Al p (ch (i:=1) q rfl);have z2:=λp=>Al p (ch (i:=2) q rfl);have z3:=λp=>Al p (ch (i:=3) q rfl);have z4:=λp=>Al p (ch (i:=4) q rfl);have z5:=λp=>Al p (ch (i:=5) q rfl);have z6:=λp=>Al p (ch (i:=6) q rfl);have z7:=λp=>Al p (ch (i:=7) q rfl);have x0:=λp=>Al p (ch (i:=0) am rfl);have y0:=λp=>Al p (ch (i:=0) L.af8 rfl);have X:=Zd kL;clear kL
 gi_wp2
 refine adE (C:=λW=>∃p,W=calm A p) k! k! k! (AL (Zh _ _).drew) ?_
 repeat
  refine wpQuietIn_step (λ_ _ _ _=>trivial) (λK a=>?_)
  go_simp
  first
   |(refine a _ ?_;clear a K)
   |(refine⟨_,λ_=>⟨rfl,abj (U.out _ (AE _ _))⟩,a _ ?_⟩;clear a K)
 refine wpQuietIn_nil ?_;rintro _ ⟨p,rfl⟩;have yw:=AE A p;clear z0 z1 z2 z3 z4 z5 z6 z7 x0 y0 gn
 gi_wp2
 have kL:=X.out;have mg:(calm A p).heap[V.heap.size]?=some (.deferred (some [])):=(yw.block _ (Za.1 hD).1).trans hD;have fJ:=hL.later yw;have hT:Ak (λk=>k=V.heap.size) (calm A p) ((calm A p).putObj V (.deferred none)):=(Ak.refl _ _).put rfl;have g:YH w w ((calm A p).putObj V (.deferred none)):=(bU m yw).trans (hT.below (λk hk=>o!) (bU m yw).size);refine⟨i!,.inl ⟨_,_,rfl,run_takeDeferred mg,?_⟩⟩;exact⟨_,results_tmp2 rfl _ _ _,adi g ((afh fJ hT (λb h1 h2=>o!)).mono o!)⟩
def c67 (h:RC S w v1 v2 v3 v4 v5 c)(hl:SI S w v6 l)(b:Ql6 S w):Calls Lp 12 #[.agg #[v1,v2,v3,v4,v5],v6] w (adr w (abN c l) (Ca c l)):=by
 by_cases a:Ca c l=0
 .rw[a];exact Zcx.1 (amw h hl b a)
 exact amv h hl b a
def Dis (u v:Zf):Prop:=∀g,u.ownBlock=some g->v.ownBlock=some g->False
variable {t e:Zs}
def adu {base:Nat}(h:A.ownsRow base e k v n xs):∀g,v.ownBlock=some g->g<A.heap.size:=λg a=>by
 obtain⟨_,cs,h⟩:=J3 h g a;exact(Za.1 h).1
def adM {base n' k':Nat}{e':Zs}{a:List Zf}(h:A.ownsRow base e k v n xs)(c:B.ownsRow A e' k' v' n' a):Dis v v':=λg b d=>by
 have i:=adu h g b;have f:=(J3 c g d).1;omega
def abh {base:Nat}(h:A.ownsRow base e k v n xs)(d:Ak (λx=>x=q) A B)(b:A.heap[q]?=some (.cells cs t (0,0)))(c:e≠t):B.ownsRow base e k v n xs:=
 Fc h d λx g a f=>by
  subst f;rw[b]at a;cases a;exact c rfl
def adj {base:Nat}(h:A.ownsRow base e k v n xs)(d:Ak (λx=>u.ownBlock=some x) A B)(a:∀g,u.ownBlock=some g->∃cs,A.heap[g]?=some (.cells cs 49 (0,0)))(c:e≠49):B.ownsRow base e k v n xs:=
 Fc h d λx i b f=>by
  obtain⟨cs,a⟩:=a x f;rw[a]at b;cases b;exact c rfl
def aby {base:Nat}(h:A.ownsRow base e k v n xs)(c:adx<=base):A.ownsRow adx e k v n xs:=by
 refine⟨h.1,?_⟩;rcases h.2 with a|⟨g,cap,b,a,f,d⟩
 .exact .inl a
 exact .inr ⟨g,cap,b,a,Zr c f,d⟩
structure CSp (n M:Nat)(w:Zb)(u1 u2 u3 u4 u5:Zf)(c:A_):Prop where
 base:Own w n u1 c.base
 Af:Ih w n u2 c.Af 53
 hooks:Own w n u3 c.hooks
 now:Own w n u5 c.now
 row:En M w M u4 c.Aa
 le:n<=M
 l1:∀g,u1.ownBlock=some g->g<M
 l2:∀g,u2.ownBlock=some g->g<M
 l3:∀g,u3.ownBlock=some g->g<M
 l5:∀g,u5.ownBlock=some g->g<M
 d13:Dis u1 u3
 d15:Dis u1 u5
 d35:Dis u3 u5
def afi (w:Zb)(c:A_)(e:Ending)(w':Zb):Prop:=∃u1 u2 u3 u4 u5 M,e=.returned (.agg #[u1,u2,u3,u4,u5])/\Qb6 w w'/\CSp w M w' u1 u2 u3 u4 u5 c
def af9 {l:List (Int×Int)}(a:news.length=l.length*2)(h:∀i x,l[i]?=some x->(news.drop (i*2)).take 2=[.int .i64 x.1,.int .i64 x.2]):news=l.flatMap λp=> [ZL .i64 p.1,.int .i64 p.2]:=by
 induction l generalizing news with
 |nil=>exact YM (by simpa using a)
 |cons p l c=>
  have b:=h 0 p rfl;rw[Nat.zero_mul,List.drop_zero]at b;rw[List.flatMap_cons, <-b, <-c (news:=news.drop 2) (by rw[List.length_drop,a,zb];omega) λi x d=>by
   rw[List.drop_drop,show 2+i*2=(i+1)*2 by omega];exact h (i+1) x (by simpa using d)]
  exact(List.take_append_drop 2 news).symm
def amC {l:List (Int×Int)}(h:Sl S Rp 2 w v l)(m:l.length<=1000):Calls Lp 37 #[v] w λe w'=>∃u,e=.returned u/\Qb6 w w'/\Ih w' w u l 53:=by
 obtain⟨a,c,rfl,M,L⟩:=h.val;obtain⟨s,B,I,K,J⟩:=zp Wu;have t:=Cz Zdg;cases a with
 |none=>
  have y:l=[]:=by
   cases l with
   |nil=>rfl
   |cons x r=>
    obtain⟨O,N,i,_,_,D⟩:=h;cases i;obtain⟨b,o,cs,e,_⟩:=D 0 x rfl;cases e
  subst y;go_enter Lp.func40,n40;go_wp2;go_ret;exact⟨_,rfl,bA (Zh _ _),YC w #[] 0 (Zj _) (Zp _) rfl⟩
 |some p=>
  obtain⟨news,f,g,n⟩:=Sl.row h d! p rfl;have i:=row_one d! f g bC;have G:=Zd n;have E:=Zd g;clear n g;go_enter Lp.func40,n40;go_wp2_with (at_builtin;refine Yc _ rfl _ _ 23 rfl w 53 s (.agg #[.int .i64 0,.int .i64 0]) 2 16 t (Dz B) I K J rfl d! _ 0 [] rfl (YC w #[] 0 (Zj _) (Zp _) rfl) p l.length c news rfl f (λj u A=>ca (G.out j u A) _) i u! o! i! ?_;intro v' w1 d q H);have C:Qb6 w w1:=Bm (bA (Zh _ _)) q (λk z=>by cases z;exact Zj _) i!;rw[zN,zP]at d;rw[af9 f E.out]at d;have F:=Zd d;clear d q H;go_ret;exact⟨_,rfl,C,F.out⟩
structure CRs (w:Zb)(n0 M q:Nat)(xs:Array Zf)(s1 s2 s3 s5:Zf)(c:A_)(k:Nat)(v4:Zf)(wr:Zb):Prop where
 below:Qb6 w wr
 box:wr.heap[w.heap.size]?=some (.cells xs 26 (0,0))
 res:wr.heap[w.heap.size+1]?=some (.cells Qz6 26 (0,0))
 qx:wr.heap[q]?=some (.cells #[s1,s2,s3,v4,s5] 26 (0,0))
 base:Own wr n0 s1 c.base
 Af:Ih wr n0 s2 c.Af 53
 hooks:Own wr n0 s3 c.hooks
 now:Own wr n0 s5 c.now
 row:En M wr M v4 (c.Aa.take k)
 z:M<=wr.heap.size
def amE (h:RC S w v1 v2 v3 v4 v5 c)(hS:Ql6 S w)(ig:c.base.length<=1000)(b8:c.Af.length<=1000)(bV:c.hooks.length<=1000)(Xm:c.Aa.length<=1000)(UO:c.now.length<=1000)(xB:∀i,i<c.Aa.length->(Aj c.Aa i).Ap.length<=1000/\(Aj c.Aa i).over.length<=1000):
  Calls Lp 10 #[.agg #[v1,v2,v3,v4,v5]] w (afi w c):=by
 obtain⟨a1,c1,a2,c2,a3,c3,a4,c4,a5,c5,rfl,rfl,rfl,rfl,rfl,l1,m1,l2,m2,l3,m3,l4,m4,l5,m5⟩:=h.vs;have IX:=DJ;go_enter Lp.func33,n33;go_wp2;obtain⟨W3,Hv⟩:=Qnm ((w.alloc (.cells (Qe6 c a1 c1 a2 c2 a3 c3 a4 c4 a5 c5) 26)).alloc (.cells Qz6 26));have Y:Qb6 w W3:=by rw[Hv];exact bA (bA (Zh _ _))
 have F1:W3.heap[w.heap.size]?=some (.cells (Qe6 c a1 c1 a2 c2 a3 c3 a4 c4 a5 c5) 26 (0,0)):=by rw[Hv];exact Bf (Bp _ _) _
 have O9:W3.heap[w.heap.size+1]?=some (.cells Qz6 26 (0,0)):=by rw[Hv];exact Jq _ _ _
 rw[<-Hv];clear Hv;have bv:w+1<W3.heap.size:=(Za.1 O9).1;refine Code.wp_mono (Q:=λe a' V=>e=.normal/\∃(q:Nat) (G I F E:Option Addr) (d1 d2 d3 H:Nat) (x5 x6 x7 x8 x9 jX Qj am MH Lx Ly K0 K1:Zf),a'= {tmps:= #[.agg #[.slice a1 c.base.length c1,.slice a2 c.Af.length c2,.slice a3 c.hooks.length c3,.slice a4 c.Aa.length c4,.slice a5 c.now.length c5],.pointer w,.pointer (w+1:Nat),.pointer q,Ze,x5,x6,x7,x8,x9,jX,Qj,am,MH,Lx,Ly,K0,K1,Ze,Ze,Ze,Ze,Ze,Ze,Ze,Ze,Ze,Ze,Ze,Ze,Ze,Ze,Ze,Ze,Ze,Ze,Ze],defers:=[]}/\w+1<q/\Qb6 W3 V/\V.heap[q]?=some (.cells #[.slice G c.base.length d1,.slice I c.Af.length d2,.slice F c.hooks.length d3,(),.slice E c.now.length H] 26 (0,0))/\Own V W3 (.slice G c.base.length d1) c.base/\Ih V W3 (.slice I c.Af.length d2) c.Af 53/\Own V W3 (.slice F c.hooks.length d3) c.hooks/\Own V W3 (.slice E c.now.length H) c.now/\Dis (.slice G c.base.length d1) (.slice F c.hooks.length d3)/\Dis (.slice G c.base.length d1) (.slice E c.now.length H)/\Dis (.slice F c.hooks.length d3) (.slice E c.now.length H)) ?rest ?first
 case first=>
  have z0:=λp=>Al p (ch (i:=0) F1 (v:=.slice a1 c.base.length c1) rfl);have z1:=λp=>Al p (ch (i:=1) F1 (v:=.slice a2 c.Af.length c2) rfl);have z2:=λp=>Al p (ch (i:=2) F1 (v:=.slice a3 c.hooks.length c3) rfl);have z4:=λp=>Al p (ch (i:=4) F1 (v:=.slice a5 c.now.length c5) rfl);refine G6 (S:=λW=>∃p,W=calm W3 p) [0,1,3,4,6,7,9,10] 7 #[true,true,false,true,true,false,true,true,false,true,true,false,false,false,false] k! (λ_ _ _ _ _ h=>nomatch h.1) k! (AL (Zh _ _).drew) ?_;refine A4 _ _ k! ?_;simp only[Z6,zd,ZG,ZD,ZC]
  repeat (first|go_big_quiet_step (fail)|quiet_step (fail))
  refine Z4 ?_;clear z0 z1 z2 z4;change Cy _ _ _ _ _ _ _ _ _;obtain⟨V,hV⟩:=Qnm W3.drew;have b:Qb6 W3 V:=by rw[hV];exact(Zh _ _).drew
  rw[<-hV];clear hV;have l:=Yz;have r:=Yz;have y:=Yz;have s:=Yz;have t:=Yz;refine AK [2,13] k! i! (Ix ?gA2 ?gB2)
  case' gB2=>
   refine EX (v:=.pointer V) (w':=V.alloc (.cells Qz6 26)) rfl rfl g! ?_;obtain⟨o,m⟩:=Qnm (V.alloc (.cells Qz6 26));have a:Qb6 V o:=by rw[m];exact bA (Zh _ _)
   have l:o.heap[V.heap.size]?=some (.cells Qz6 26 (0,0)):=by rw[m];exact Bp _ _
   have D:=b.size;obtain⟨q,B⟩:=Qnm V.heap.size;rw[<-B]at l D
   try (have r:=Fu r a)
   try (have y:=Fu y a)
   try (have s:=Fu s a)
   try (have t:=Fu t a)
   have b:=b.trans (a.mono b.size);rw[<-m, <-B];refine⟨AL b,?_⟩;clear a B m;obtain⟨V,P⟩:∃U,U=o:=⟨_,rfl⟩;subst P;refine AK [2] k! i! (BF ?_)
  all_goals
   refine DK (f:=11) (args:= #[.slice a1 c.base.length c1]) rfl rfl g! ((WO (h.later (Y.trans (b.mono Y.size))).base ig).mono ?_);rintro e V ⟨u,rfl,a,z⟩;have r:=aby z b.size;obtain⟨G,d1,rfl,_,_⟩:=JS z;clear z
   try (have l:=(a.block _ (Za.1 l).1).trans l)
   try (have y:=Fu y a)
   try (have s:=Fu s a)
   try (have t:=Fu t a)
   have b:=b.trans (a.mono b.size);refine .inl ⟨_,rfl,AL b,?_⟩;clear a
  all_goals first
   |(have kL:=Za.1 l;clear kL;refine AK [5] k! i! (BF ?_))
   |(refine AK [5,13] k! i! (Ix ?gA5 ?gB5)
     case' gB5=>
      refine EX (v:=.pointer V) (w':=V.alloc (.cells Qz6 26)) rfl rfl g! ?_;obtain⟨o,m⟩:=Qnm (V.alloc (.cells Qz6 26));have a:Qb6 V o:=by rw[m];exact bA (Zh _ _)
      have l:o.heap[V.heap.size]?=some (.cells Qz6 26 (0,0)):=by rw[m];exact Bp _ _
      have D:=b.size;obtain⟨q,B⟩:=Qnm V.heap.size;rw[<-B]at l D
      try (have r:=Fu r a)
      try (have y:=Fu y a)
      try (have s:=Fu s a)
      try (have t:=Fu t a)
      have b:=b.trans (a.mono b.size);rw[<-m, <-B];refine⟨AL b,?_⟩;clear a B m;obtain⟨V,P⟩:∃U,U=o:=⟨_,rfl⟩;subst P;refine AK [5] k! i! (BF ?_))
  all_goals
   refine DK (f:=37) (args:= #[.slice a2 c.Af.length c2]) rfl rfl g! ((amC (h.later (Y.trans (b.mono Y.size))).Af b8).mono ?_);rintro e V ⟨u,rfl,a,z⟩;have y:=aby z b.size;obtain⟨I,d2,rfl,_,_⟩:=JS z;clear z
   try (have l:=(a.block _ (Za.1 l).1).trans l)
   try (have r:=Fu r a)
   try (have s:=Fu s a)
   try (have t:=Fu t a)
   have b:=b.trans (a.mono b.size);refine .inl ⟨_,rfl,AL b,?_⟩;clear a
  all_goals first
   |(have kL:=Za.1 l;clear kL;refine AK [8] k! i! (BF ?_))
   |(refine AK [8,13] k! i! (Ix ?gA8 ?gB8)
     case' gB8=>
      refine EX (v:=.pointer V) (w':=V.alloc (.cells Qz6 26)) rfl rfl g! ?_;obtain⟨o,m⟩:=Qnm (V.alloc (.cells Qz6 26));have a:Qb6 V o:=by rw[m];exact bA (Zh _ _)
      have l:o.heap[V.heap.size]?=some (.cells Qz6 26 (0,0)):=by rw[m];exact Bp _ _
      have D:=b.size;obtain⟨q,B⟩:=Qnm V.heap.size;rw[<-B]at l D
      try (have r:=Fu r a)
      try (have y:=Fu y a)
      try (have s:=Fu s a)
      try (have t:=Fu t a)
      have b:=b.trans (a.mono b.size);rw[<-m, <-B];refine⟨AL b,?_⟩;clear a B m;obtain⟨V,P⟩:∃U,U=o:=⟨_,rfl⟩;subst P;refine AK [8] k! i! (BF ?_))
  all_goals
   refine DK (f:=11) (args:= #[.slice a3 c.hooks.length c3]) rfl rfl g! ((WO (h.later (Y.trans (b.mono Y.size))).hooks bV).mono ?_);rintro e V ⟨u,rfl,a,z⟩;have s:=aby z b.size;obtain⟨F,d3,rfl,_,_⟩:=JS z;have O:=adM r z;clear z
   try (have l:=(a.block _ (Za.1 l).1).trans l)
   try (have r:=Fu r a)
   try (have y:=Fu y a)
   try (have t:=Fu t a)
   have b:=b.trans (a.mono b.size);refine .inl ⟨_,rfl,AL b,?_⟩;clear a
  all_goals first
   |(have kL:=Za.1 l;clear kL;refine AK [11] k! i! (BF ?_))
   |(refine AK [11,13] k! i! (Ix ?gA11 ?gB11)
     case' gB11=>
      refine EX (v:=.pointer V) (w':=V.alloc (.cells Qz6 26)) rfl rfl g! ?_;obtain⟨o,m⟩:=Qnm (V.alloc (.cells Qz6 26));have a:Qb6 V o:=by rw[m];exact bA (Zh _ _)
      have l:o.heap[V.heap.size]?=some (.cells Qz6 26 (0,0)):=by rw[m];exact Bp _ _
      have D:=b.size;obtain⟨q,B⟩:=Qnm V.heap.size;rw[<-B]at l D
      try (have r:=Fu r a)
      try (have y:=Fu y a)
      try (have s:=Fu s a)
      try (have t:=Fu t a)
      have b:=b.trans (a.mono b.size);rw[<-m, <-B];refine⟨AL b,?_⟩;clear a B m;obtain⟨V,P⟩:∃U,U=o:=⟨_,rfl⟩;subst P;refine AK [11] k! i! (BF ?_))
  all_goals
   refine DK (f:=11) (args:= #[.slice a5 c.now.length c5]) rfl rfl g! ((WO (h.later (Y.trans (b.mono Y.size))).now UO).mono ?_);rintro e V ⟨u,rfl,a,z⟩;have t:=aby z b.size;obtain⟨E,H,rfl,_,_⟩:=JS z;have N:=adM r z;have L:=adM s z;clear z
   try (have l:=(a.block _ (Za.1 l).1).trans l)
   try (have r:=Fu r a)
   try (have y:=Fu y a)
   try (have s:=Fu s a)
   have b:=b.trans (a.mono b.size);refine .inl ⟨_,rfl,AL b,?_⟩;clear a
  all_goals first
   |(have kL:=Za.1 l;clear kL;refine AK [12] k! i! (BF ?_)
     refine EX (v:=.agg #[.slice G c.base.length d1,.slice I c.Af.length d2,.slice F c.hooks.length d3,(),.slice E c.now.length H]) (w':=V) rfl rfl g! ?_;refine⟨AL b,?_⟩)
   |(refine AK [12,13] k! i! (Ix ?gA12 ?gB12)
     case' gB12=>
      refine EX (v:=.pointer V) (w':=V.alloc (.cells Qz6 26)) rfl rfl g! ?_;obtain⟨o,m⟩:=Qnm (V.alloc (.cells Qz6 26));have a:Qb6 V o:=by rw[m];exact bA (Zh _ _)
      have l:o.heap[V.heap.size]?=some (.cells Qz6 26 (0,0)):=by rw[m];exact Bp _ _
      have D:=b.size;obtain⟨q,B⟩:=Qnm V.heap.size;rw[<-B]at l D
      try (have r:=Fu r a)
      try (have y:=Fu y a)
      try (have s:=Fu s a)
      try (have t:=Fu t a)
      have b:=b.trans (a.mono b.size);rw[<-m, <-B];refine⟨AL b,?_⟩;clear a B m;obtain⟨V,P⟩:∃U,U=o:=⟨_,rfl⟩;subst P;refine AK [12] k! i! (BF ?_);refine EX (v:=.agg #[.slice G c.base.length d1,.slice I c.Af.length d2,.slice F c.hooks.length d3,(),.slice E c.now.length H]) (w':=V) rfl rfl g! ?_;refine⟨AL b,?_⟩
     case' gA12=>
      refine EX (v:=.agg #[.slice G c.base.length d1,.slice I c.Af.length d2,.slice F c.hooks.length d3,(),.slice E c.now.length H]) (w':=V) rfl rfl g! ?_;refine⟨AL b,?_⟩;refine AK [13] k! i! (BF ?_);refine EX (v:=.pointer V) (w':=V.alloc (.cells Qz6 26)) rfl rfl g! ?_;obtain⟨o,m⟩:=Qnm (V.alloc (.cells Qz6 26));have a:Qb6 V o:=by rw[m];exact bA (Zh _ _)
      have l:o.heap[V.heap.size]?=some (.cells Qz6 26 (0,0)):=by rw[m];exact Bp _ _
      have D:=b.size;obtain⟨q,B⟩:=Qnm V.heap.size;rw[<-B]at l D
      try (have r:=Fu r a)
      try (have y:=Fu y a)
      try (have s:=Fu s a)
      try (have t:=Fu t a)
      have b:=b.trans (a.mono b.size);rw[<-m, <-B];refine⟨AL b,?_⟩;clear a B m;obtain⟨V,P⟩:∃U,U=o:=⟨_,rfl⟩;subst P)
  all_goals
   refine AK [14] k! i! (BF ?_);obtain⟨g0,g1,g2,g3,g4⟩:=Qc5 l;obtain⟨f0,f1,f2,f3,f4⟩:=Qf5 l;obtain⟨o,m⟩:=Qnm (((((V.setCell q (.slice G c.base.length d1)).setCell ⟨q,1,none⟩ (.slice I c.Af.length d2)).setCell ⟨q,2,none⟩ (.slice F c.hooks.length d3)).setCell ⟨q,3,none⟩ ()).setCell ⟨q,4,none⟩ (.slice E c.now.length H));refine Rj (w':=o) rfl rfl (by rw[m];go_simp) ?_;have an:Qb6 W3 o:=by rw[m];exact bS (bS (bS (bS (bS b D) D) D) D) D
   have hT:Ak (λx=>x=q) V o:=by rw[m];exact(Ak.refl (λx=>x=q) V).DT.DT.DT.DT.DT
   refine⟨AL an,rfl,?_⟩;exact⟨rfl,q,G,I,F,E,d1,d2,d3,H,_,_,_,_,_,_,_,_,_,_,_,_,_,rfl,o!,an,by rw[m];exact Ba (Ba (Ba (Ba (Ba l _) _) _) _) _,abh r hT l d!,abh y hT l d!,abh s hT l d!,abh t hT l d!,O,N,L⟩
 rintro e a' V ⟨rfl,q,G,I,F,E,d1,d2,d3,H,x5,x6,x7,x8,x9,jX,Qj,am,MH,Lx,Ly,K0,K1,rfl,D,b,l,r,y,s,t,O,N,L⟩;obtain⟨M,hM⟩:=Qnm V.heap.size;have du:W3<=M:=by rw[hM];exact b.size
 have L1:=adu r;have L2:=adu y;have L3:=adu s;have T:=adu t;rw[<-hM]at L1 L2 L3 T;have HD:=Zd (ZY L1 (ZY L2 (ZY L3 (ZY T (ZY O (ZY N L))))));clear L1 L2 L3 T O N L;have b9:CRs w W3 M q #[.slice a1 c.base.length c1,.slice a2 c.Af.length c2,.slice a3 c.hooks.length c3,.slice a4 c.Aa.length c4,.slice a5 c.now.length c5] (.slice G c.base.length d1) (.slice I c.Af.length d2) (.slice F c.hooks.length d3) (.slice E c.now.length H) c 0 () V:=
  ⟨Y.trans (b.mono Y.size),(b.block _ (Za.1 F1).1).trans F1,(b.block _ bv).trans O9,l,r,y,s,t,⟨[],zq _ _ _ _,λi x hx=>by cases hx⟩,ZcS hM⟩
 clear hM b l r y s t F1 O9 Y;dsimp only;go_wp2;go_loopg [4] c.Aa.length (λg i wr=>∃(k:Nat) (v4:Zf),k<=c.Aa.length/\g=c.Aa.length - k/\i=.int .i64 k/\CRs w W3 M q #[.slice a1 c.base.length c1,.slice a2 c.Af.length c2,.slice a3 c.hooks.length c3,.slice a4 c.Aa.length c4,.slice a5 c.now.length c5] (.slice G c.base.length d1) (.slice I c.Af.length d2) (.slice F c.hooks.length d3) (.slice E c.now.length H) c k v4 wr)
 case atStart=>exact⟨0,_,Zp _,rfl,rfl,b9⟩
 obtain⟨k,v4,hk,rfl,rfl,n⟩:=hrel;obtain⟨sl,NK⟩:=Qnm (c.Aa.take k);have ai:sl.length=k:=by rw[NK];simp;omega
 have Ci:=n.row;rw[<-NK]at Ci;obtain⟨va,Z,rfl,_⟩:=Ci.val;rw[ai]at n Ci;by_cases Az:k<c.Aa.length
 .obtain⟨b4,o4,s2,s3,rfl,UQ,x0,x1,x2,x3,x4,hp,ho⟩:=h.Aa.at_ (i:=k) Az
  have Ga:∀j u,w.cell? ⟨b4,j,none⟩=some u->wr.cell? ⟨b4,j,none⟩=some u:=λj u z=>(n.below.cell (p:=⟨b4,j,none⟩) (hS b4 UQ)).trans z;replace x0:=Ga _ _ x0;replace x1:=Ga _ _ x1;replace x2:=Ga _ _ x2;replace x3:=Ga _ _ x3;replace x4:=Ga _ _ x4;clear Ga;replace hp:=hp.later n.below;replace ho:=ho.later n.below;obtain⟨Oq,Qm⟩:=xB k Az;obtain⟨sm,Qh⟩:=Qnm (Aj c.Aa k);have ct:=Zd (show c.Aa.take (k+1)=sl++ [sm] by rw[NK,Qh,ZbH,Db Az];rfl);rw[<-Qh]at x0 x1 x4 hp ho Oq Qm;clear Qh NK;obtain⟨low,C,Ap,over,left⟩:=sm;dsimp only at x0 x1 x4 hp ho Oq Qm;obtain⟨a6,c6,rfl,l6,m6⟩:=hp.val;obtain⟨a7,c7,rfl,l7,m7⟩:=ho.val;obtain⟨K,Ig⟩:∃K:Nat->Prop,K=λx=>x≠q/\w+1<x:=⟨_,rfl⟩;have LP:∀x,w.heap.size+1<x->x≠q->K x:=λx hx l=>by rw[Ig];exact⟨l,hx⟩
  have qF:¬K w:=by rw[Ig];intro x;omega
  have l_:¬K (w+1):=by rw[Ig];intro x;omega
  have Tg:¬K q:=by rw[Ig];exact λx=>x.1 rfl
  have Qn:¬K b4:=by rw[Ig];intro x;have:=hS b4 UQ;omega
  clear Ig;have z0:=λp:Tw K wr=>p.cell (ch (i:=3) n.box (v:=.slice (some ⟨b4,o4,none⟩) c.Aa.length c4) rfl) qF;have z1:=λp:Tw K wr=>p.cell (ch (i:=3) n.qx (v:=.slice va k Z) rfl) Tg;have y0:=λp:Tw K wr=>p.cell x0 Qn;have y1:=λp:Tw K wr=>p.cell x1 Qn;have y2:=λp:Tw K wr=>p.cell x2 Qn;have y3:=λp:Tw K wr=>p.cell x3 Qn;have y4:=λp:Tw K wr=>p.cell x4 Qn;have TB:(k:Int)<(c.Aa.length:Int):=o!
  have fd:(0:Int)<=(k:Int):=o!
  have kD:q<wr:=(Za.1 n.qx).1;have kx:=ch (i:=3) n.box (v:=.slice (some ⟨b4,o4,none⟩) c.Aa.length c4) rfl;have bG:=n.below.size;have DR:w+1<wr.heap.size:=(Za.1 n.res).1;have Rb:M<=wr.heap.size:=n.z;go_wp2;clear kx;refine B0 (S:=λW=>∃p:Tw K wr,W=p.v) [11] [(false,7),(false,8),(false,9),(false,10),(false,11)] [0,1,2,3,4,5,6] k! (λ_ _ d _ _ h=>by cases d<;>exact h) k! (A5 (Ak.later (Zh _ _).drew)) ?_;refine A4 _ _ k! ?_;simp only[Z6,zd,ZG,ZD,ZC]
  repeat (first|go_big_quiet_step (fail)|quiet_step (fail))
  refine Z4 ?_;clear z0 z1 y0 y1 y2 y3 y4 x0 x1 x2 x3 x4;change Dl _ _ _ _ _ _ _;have Uh:YH wr wr wr.drew:=(Zh _ _).drew;refine Dd (f:=35) (args:= #[.agg #[.int .i64 low,.int .i64 C,.slice a6 Ap.length c6,.slice a7 over.length c7,.int .i64 left]]) rfl rfl g! ((aoP (hp.later Uh) (ho.later Uh) Oq Qm).mono ?_);rintro e w1 ⟨u2,u3,rfl,Bg,Hb,Lb⟩;have cu:Qb6 wr w1:=Uh.trans (Bg.mono (Zj _));have Kd:Ak K wr w1:=Ak.later cu;refine⟨_,rfl,.inr (A5 Kd),?_⟩;have Hb:SP (TT wr w1) w1 u2 Ap:=Hb;have Lb:SI (TT wr w1) w1 u3 over:=Own.tt Lb;obtain⟨p6,t6,rfl,_⟩:=Hb.val;obtain⟨p7,t7,rfl,_⟩:=Lb.val;obtain⟨uT,uU⟩:=Qnm (w1.alloc (.cells #[.int .i64 low,.int .i64 C,.slice p6 Ap.length t6,.slice p7 over.length t7,.int .i64 left] 49));have Vn:Qb6 w1 uT:=by rw[uU];exact bA (Zh _ _)
  have Jp:=cu.trans (Vn.mono cu.size);have WQ:Ak K wr uT:=Ak.later Jp;refine JZ (v:=.slice w1 1 1) (w':=uT) rfl rfl (by rw[uU];go_simp) (.inr (A5 WQ)) ?_;obtain⟨vals,AX,DF⟩:=Ci.later Jp;rw[ai]at AX;obtain⟨i0,hi,eL,k9,ck⟩:=zp eI;have ci:=Cz Tryz.underlying24;refine PW rfl rfl ?_;refine Zak _ _ _ 24 rfl M 49 i0 (.agg #[.int .i64 0,.int .i64 0,(),(),.int .i64 0]) 5 72 ci (Dz hi) eL k9 ck rfl d! _ k vals rfl AX w1 1 1 [.int .i64 low,.int .i64 C,.slice p6 Ap.length t6,.slice p7 over.length t7,.int .i64 left] rfl rfl (by rw[uU];exact Hc _ _ _) (by intro u z;simp at z;rcases z with rfl|rfl|rfl|rfl|rfl<;>rfl) u! o! (by have:=Jp.size;omega) ?_;intro v' w2 Cm AG Gc;have Em:∀g,(Zy va k Z).ownBlock=some g->M<=g/\∃cs,wr.heap[g]?=some (.cells cs 49 (0,0)):=Ci.own;have Js:Ak (λx=>(Zy va k Z).ownBlock=some x) uT w2:=Ak.grown AG λg J=>J;have D3:Ak K wr w2:=WQ.trans (Ak.grown AG λg J=>by
   obtain⟨h1,cs,h2⟩:=Em g J;exact LP g o! (λe=>by subst e;rw[n.qx]at h2;cases h2))
  refine⟨.inr (A5 D3),?_⟩;obtain⟨g',Ey,rfl⟩:=Zay Cm;have M9:=(D3.block q kD Tg).trans n.qx;have f3:=cf (i:=3) M9;have e3:=ch (i:=3) M9 (v:=.slice va k Z) rfl;refine Dw (v:=.pointer (some ⟨q,3,none⟩)) rfl rfl g! (.inr (A5 D3)) ?_;refine K8 (w':=w2.setCell ⟨q,3,none⟩ (.slice g' (k+1) Ey)) rfl rfl g! (.inl rfl) ?_;have bM:CRs w W3 M q #[.slice a1 c.base.length c1,.slice a2 c.Af.length c2,.slice a3 c.hooks.length c3,.slice (some ⟨b4,o4,none⟩) c.Aa.length c4,.slice a5 c.now.length c5] (.slice G c.base.length d1) (.slice I c.Af.length d2) (.slice F c.hooks.length d3) (.slice E c.now.length H) c (k+1) (.slice g' (k+1) Ey) (w2.setCell ⟨q,3,none⟩ (.slice g' (k+1) Ey)):=by
   have Th:Ak (λx=>x=q) w2 (w2.setCell ⟨q,3,none⟩ (.slice g' (k+1) Ey)):=(Ak.refl (λx=>x=q) w2).DT;have be:∀x,TT M w2 x->¬x=q:=λx hx e=>TT.not (e▸hx) M9 ⟨d!,d!,d!⟩;have bi:∀ {A:Zb} (hA:∀g cs,wr.heap[g]?=some (Zbi cs 49 (0,0))->A.heap[g]?=some (Zbi cs 49 (0,0))) x,TT M A x->¬(Zy va k Z).ownBlock=some x:=λhA x hx e=>by
    obtain⟨_,cs,h2⟩:=Em x e;exact TT.not hx (hA x cs h2) ⟨d!,d!,d!⟩
   have R:Ak (λx=>(Zy va k Z).ownBlock=some x) wr w2:=((Ak.later Jp).mono λ_ x=>x).trans Js;have mW:∀g,(Zy va k Z).ownBlock=some g->∃cs,wr.heap[g]?=some (.cells cs 49 (0,0)):=λg J=>(Em g J).2;have rK:=bi (A:=uT) (λg cs h=>(Jp.block g (Za.1 h).1).trans h);refine⟨?_,?_,?_,Ba M9 _,abh (adj n.base R mW d!) Th M9 d!,abh (adj n.Af R mW d!) Th M9 d!,abh (adj n.hooks R mW d!) Th M9 d!,abh (adj n.now R mW d!) Th M9 d!,?_,by have:=R.size;simp;omega⟩
   .exact bS ((n.below.trans (Jp.mono n.below.size)).trans (Js.below (λg J=>by have:=(Em g J).1;omega) (by have:=Jp.size;omega))) o!
   .exact(AZ o! _).trans ((D3.block _ o! qF).trans n.box)
   .exact(AZ o! _).trans ((D3.block _ DR l_).trans n.res)
   rw[ct.out];refine En.CN (A:=w2) ?_ Th be (λg J e=>by
    cases J;subst e;rcases Cm.2 with⟨e,_⟩|⟨g,cap,ed,e,_,h3,_⟩
    .cases e
    cases e;rw[M9]at h3;cases h3)
   rw[show k+1=sl.length+1 by rw[ai]]at*;have xG:Rs (TT M uT) uT [.int .i64 low,.int .i64 C,.slice p6 Ap.length t6,.slice p7 over.length t7,.int .i64 left] ⟨low,C,Ap,over,left⟩:=⟨_,_,rfl,Ug (M6 Hb Vn) Rb,LQ (Ei Lb Vn) Rb⟩;exact En.snoc (λi x hi=>xR (DF i x hi) Js rK) (by have:=AX.1;rw[this,ai]) rfl (xR xG Js rK) Cm
  have dl:=Zd bM;clear bM n D3 Js WQ Kd Jp Vn uU Bg cu Hb Lb AX Cm DF AG Gc Em Ci f3 e3 M9 hp ho;unfold Dl
  go_simp
  go_wp2;go_roundg (c.Aa.length - (k+1))
  case rel=>exact⟨k+1,_,Az,rfl,v!,dl.out⟩
  omega
 have T5:k=c.Aa.length:=o!
 rw[T5,ZcU]at NK;subst NK;subst T5;have kx:=ch (i:=3) n.box (v:=.slice a4 c.Aa.length c4) rfl;obtain⟨s0,s1,s2,s3,s4⟩:=Qc5 n.qx;obtain⟨f0,f1,f2,f3,f4⟩:=Qf5 n.res;obtain⟨r0,r1,r2,r3,r4⟩:=Qc5 n.res;have kD:q<wr:=(Za.1 n.qx).1;have bG:=n.below.size;have DR:w+1<wr.heap.size:=(Za.1 n.res).1;have HC:=Zd n;have HR:=Zd Ci;clear n Ci;go_wp2;refine ZN (v:=.agg #[.slice G c.base.length d1,.slice I c.Af.length d2,.slice F c.hooks.length d3,.slice va c.Aa.length Z,.slice E c.now.length H]) (by rw[A8 rfl];go_simp) rfl ?_;have ap:∀X,Qb6 w X->Ak (λx=>x=w.heap.size+1) wr X->afi w c (.returned (.agg #[.slice G c.base.length d1,.slice I c.Af.length d2,.slice F c.hooks.length d3,.slice va c.Aa.length Z,.slice E c.now.length H])) X:=λX Ov Pc=>by
  have hn:∀x,TT M wr x->¬x=w+1:=λx hx e=>by have:=hx.1;omega
  have mM:w<=W3.heap.size:=o!
  have J:∀g,(Zy va c.Aa.length Z).ownBlock=some g->¬g=w+1:=λg J e=>by have:=(HR.out.own g J).1;omega
  obtain⟨L1,L2,L3,T,O,N,L⟩:=HD.out;exact⟨_,_,_,_,_,M,rfl,Ov,aby (abh HC.out.base Pc HC.out.res d!) mM,aby (abh HC.out.Af Pc HC.out.res d!) mM,aby (abh HC.out.hooks Pc HC.out.res d!) mM,aby (abh HC.out.now Pc HC.out.res d!) mM,HR.out.CN Pc hn J,o!,L1,L2,L3,T,O,N,L⟩
 have Lc:=HC.out.below;refine ap _ ?_ ?_
 .repeat (with_reducible first|exact Lc|(refine bS ?_ o!))
 repeat (with_reducible first|exact Ak.refl _ _|(refine Ak.DT ?_))
def CSp.rc {u3:Zf}(h:CSp n M w u1 u2 u3 u4 u5 c):RC (Cb n w) w u1 u2 u3 u4 u5 c:=
 ⟨h.base.si,Sl.imp (h.Af.tt (.inr (.inr rfl))) (λb a=>a.new) λ_ _ x=>x,h.hooks.si,(h.row.ss (Zj _)).imp (λb a=>⟨Zr h.le a.1,a.2⟩) λ_ _ ⟨v2,v3,e,f,d⟩=>⟨v2,v3,e,Sl.imp f (λb a=>⟨Zr h.le a.1,a.2⟩) λ_ _ x=>x,Sl.imp d (λb a=>⟨Zr h.le a.1,a.2⟩) λ_ _ x=>x⟩,h.now.si⟩
def ai5 (S:Nat->Prop)(w:Zb)(cs:List Zf)(x:A_):Prop:=∃v1 v2 v3 v4 v5,cs=[v1,v2,v3,v4,v5]/\RC S w v1 v2 v3 v4 v5 x
def aif (S:Nat->Prop)(w:Zb)(b:Nat)(lv:Zf)(d:Nat)(c:A_)(e:Ending)(w':Zb):Prop:=
 ∃(f a:A_) (q g:Nat),e=.returned (.slice q 4 4)/\B3 b w w'/\BK w' b lv g/\g<=d+2000/\H6 f/\ac2 a/\w<=q/\Sl (λx=>S x\/Cb w w' x) (ai5 λx=>S x\/Cb w w' x) 5 w' (.slice q 4 4) [c,f,a,f]
def afa (b:l.Pairwise (· < ·))(a:∀x∈l,0<=x/\x<3):l.length<=3:=(show∀l∈Lj,l.length<=3 by decide) l (EM b a)
def aeC (h:BN c=0):∀i,i<c.Aa.length->(Aj c.Aa i).over.length<=3:=λi d=>by
 have e:=(Bj (Bj h).2).2;have f:=(JQ (Bj (Bj h).2).1).2;have a:=ae5 (Bj e).1 (Aj c.Aa i) (Z3 (Db d));exact afa a.1 λx b=>by have:=a.2 x b;omega
def H6.small (h:H6 c):ac2 c:=
 ⟨by have:=h.Fp;omega,by have:=h.PN;have:=h.Fp;omega,by have:=h.hooks;have:=h.Fp;omega,by have:=h.few;omega,by have:=h.now.1;have:=h.few;omega,λi a=>⟨by have:=(h.seam i a).few;omega,by have:=aeC h.begin i a;omega⟩⟩
variable {s:Ay}
def ah5 {l:List Ay}:Aj (l.set k s) j=if j=k/\k<l.length then s else Aj l j:=by
 unfold Aj;by_cases e:j=k
 .subst e
  by_cases a:j<l.length
  .simp[Y6,a]
  simp[Y6,a]
 rw[if_neg (λx=>e x.1),Y6,ZS (λx=>e x.symm),Y6]
def ac2.put (h:ac2 c)(b:s.Ap.length<=20/\s.over.length<=20):ac2 {c with Aa:=c.Aa.set i s}:=
 ⟨h.base,h.Af,h.hooks,by rw[ZcC];exact h.Aa,h.now,λj a=>by
  rw[ZcC]at a;rw[ah5];split
  .exact b
  exact h.part j a⟩
def CSp.CN {u3:Zf}(h:CSp n M A u1 u2 u3 u4 u5 c)(b:Ak T A B)(a:∀x,n<=x->¬T x):CSp n M B u1 u2 u3 u4 u5 c:=
 ⟨CO b a h.base,CO b a h.Af,CO b a h.hooks,CO b a h.now,h.row.CN b (λx d=>a x (Zr h.le d.1)) (λg e=>a g (Zr h.le (h.row.own g e).1)),h.le,h.l1,h.l2,h.l3,h.l5,h.d13,h.d15,h.d35⟩
def CSp.later {u3:Zf}(h:CSp n M A u1 u2 u3 u4 u5 c)(a:Qb6 A B):CSp n M B u1 u2 u3 u4 u5 c:=h.CN (T:=λ_=>False) (Ak.later a) λ_ _ x=>x
def CSp.box {u3:Zf}(h:CSp n M A u1 u2 u3 u4 u5 c)(b:Ak (λx=>x=q) A B)(a:A.heap[q]?=some (.cells cs 26 (0,0))):CSp n M B u1 u2 u3 u4 u5 c:=
 ⟨abh h.base b a d!,abh h.Af b a d!,abh h.hooks b a d!,abh h.now b a d!,h.row.CN b (λx f e=>TT.not (e▸f) a ⟨d!,d!,d!⟩) (λg i e=>by
  obtain⟨_,j,d⟩:=h.row.own g i;subst e;rw[a]at d;cases d),h.le,h.l1,h.l2,h.l3,h.l5,h.d13,h.d15,h.d35⟩
def ac6 {V:Zb}{d A:Nat}{F E D C B p n m l k z y v t s:Zf}{f co:A_}(H:B3 b w V)(I:BK V b lv A)(M:A<=d+2000)(N:H6 f)(L:ac2 co)
 (K:RC S V F E D C B c) (G:RC (Cb w V) V p n m l k f) (J:RC (Cb w V) V z y v t s co):
  aif S w b lv d c (.returned (.slice V 4 4)) (V.alloc (.cells #[F,E,D,C,B,p,n,m,l,k,z,y,v,t,s,p,n,m,l,k] 26)):=by
 have g:∀o,YH V V (V.alloc o):=λo=>bA (Zh _ _);have q:=H.size;have r:∀o x,Cb w V x->Cb w (V.alloc o) x:=λo x e=>⟨e.1,by rw[ZB];have:=e.2;omega⟩;refine⟨f,co,V,A,rfl,H.below (g _),I.later (g _),M,N,L,q,_,_,rfl,Zj _,d!,λi x e=>?_⟩
 match i,e with
 |0,e=>
  cases e;exact⟨V,0,[F,E,D,C,B],rfl,.inr ⟨q,by rw[ZB];omega⟩,rfl,(λj u a=>by
   match j,a with
   |0,a=>cases a;exact cn _ _ _ rfl
   |1,a=>cases a;exact cn _ _ _ rfl
   |2,a=>cases a;exact cn _ _ _ rfl
   |3,a=>cases a;exact cn _ _ _ rfl
   |4,a=>cases a;exact cn _ _ _ rfl),_,_,_,_,_,rfl,(K.later (g _)).imp λx e=>.inl e⟩
 |1,e=>
  cases e;exact⟨V,0,[p,n,m,l,k],rfl,.inr ⟨q,by rw[ZB];omega⟩,rfl,(λj u a=>by
   match j,a with
   |0,a=>cases a;exact cn _ _ _ rfl
   |1,a=>cases a;exact cn _ _ _ rfl
   |2,a=>cases a;exact cn _ _ _ rfl
   |3,a=>cases a;exact cn _ _ _ rfl
   |4,a=>cases a;exact cn _ _ _ rfl),_,_,_,_,_,rfl,(G.later (g _)).imp λx e=>.inr (r _ x e)⟩
 |2,e=>
  cases e;exact⟨V,0,[z,y,v,t,s],rfl,.inr ⟨q,by rw[ZB];omega⟩,rfl,(λj u a=>by
   match j,a with
   |0,a=>cases a;exact cn _ _ _ rfl
   |1,a=>cases a;exact cn _ _ _ rfl
   |2,a=>cases a;exact cn _ _ _ rfl
   |3,a=>cases a;exact cn _ _ _ rfl
   |4,a=>cases a;exact cn _ _ _ rfl),_,_,_,_,_,rfl,(J.later (g _)).imp λx e=>.inr (r _ x e)⟩
 |3,e=>
  cases e;exact⟨V,0,[p,n,m,l,k],rfl,.inr ⟨q,by rw[ZB];omega⟩,rfl,(λj u a=>by
   match j,a with
   |0,a=>cases a;exact cn _ _ _ rfl
   |1,a=>cases a;exact cn _ _ _ rfl
   |2,a=>cases a;exact cn _ _ _ rfl
   |3,a=>cases a;exact cn _ _ _ rfl
   |4,a=>cases a;exact cn _ _ _ rfl),_,_,_,_,_,rfl,(G.later (g _)).imp λx e=>.inr (r _ x e)⟩
def c28 {Sn:Nat->Prop}{d:Nat}(h:RC S w v1 v2 v3 v4 v5 c)(hS:∀x,S x->x<w.heap.size/\x≠b)(hn:SI Sn w lv nums)(E8:∀x,Sn x->x<w.heap.size/\x≠b)(hL:BK w b lv d)(hd:d+5000<4611686018427387904)(Qh:ac2 c):
  Calls Lp 8 #[.agg #[v1,v2,v3,v4,v5],.pointer b] w (aif S w b lv d c):=by
 obtain⟨a1,c1,a2,c2,a3,c3,a4,c4,a5,c5,rfl,rfl,rfl,rfl,rfl,l1,m1,l2,m2,l3,m3,l4,m4,l5,m5⟩:=h.vs;have IX:=DJ;have GK:b<w:=hL.lt;obtain⟨W1,NL⟩:=Qnm (w.alloc (.cells (Qe6 c a1 c1 a2 c2 a3 c3 a4 c4 a5 c5) 26));have Bg:Qb6 w W1:=by rw[NL];exact bA (Zh _ _)
 have lD:W1.heap[w.heap.size]?=some (.cells (Qe6 c a1 c1 a2 c2 a3 c3 a4 c4 a5 c5) 26 (0,0)):=by rw[NL];exact Bp _ _
 have DR:W1=w.heap.size+1:=by rw[NL,ZB]
 have no:=Zd (c44 (s:=3) (hn.later Bg) (λx a=>⟨by have:=(E8 x a).1;omega,(E8 x a).2⟩) (hL.later Bg) o! d!);go_enter Lp.func28,n28;go_wp2;rw[<-NL];clear NL;refine no.out.mono ?_;rintro e W2 ⟨j,u1,u2,u3,u4,u5,d2,rfl,M7,rB,yv,hM,_⟩;obtain⟨p1,e1,p2,e2,p3,e3,p4,e4,p5,e5,rfl,rfl,rfl,rfl,rfl,_⟩:=yv.vs;obtain⟨X2,Ia⟩:=Qnm (W2.alloc (.cells (Qe6 j p1 e1 p2 e2 p3 e3 p4 e4 p5 e5) 26));have lE:Qb6 W2 X2:=by rw[Ia];exact bA (Zh _ _)
 have so:X2=W2.heap.size+1:=by rw[Ia,ZB]
 have ka:X2.heap[W2.heap.size]?=some (.cells (Qe6 j p1 e1 p2 e2 p3 e3 p4 e4 p5 e5) 26 (0,0)):=by rw[Ia];exact Bp _ _
 have Ot:=M7.Cn;have EB:=Ot.size;have jt:=yv.later lE;have nm:=Ot.below lE;have ne:=nm.at_ lD o!;have t:=hM.small;have n7:=Zd (amE jt (λx a=>by have:=a.2;omega) (by have:=t.base;omega) (by have:=t.Af;omega) (by have:=t.hooks;omega) (by have:=t.Aa;omega) (by have:=t.now;omega) λi hi=>⟨by have:=(t.part i hi).1;omega,by have:=(t.part i hi).2;omega⟩);obtain⟨m,hm⟩:=Qnm W2.heap.size;rw[<-hm]at ka;have rx:W2<=m/\m<=W2.heap.size:=o!
 go_wp2;rw[<-Ia, <-hm];clear Ia hm;refine n7.out.mono ?_;rintro e W3 ⟨q1,q2,q3,q4,q5,M,rfl,Bv,ai⟩;obtain⟨r1,f1,rfl,_⟩:=JS ai.base;obtain⟨r2,f2,rfl,_⟩:=JS ai.Af;obtain⟨r3,f3,rfl,_⟩:=JS ai.hooks;obtain⟨r4,f4,rfl,_⟩:=ai.row.val;obtain⟨r5,f5,rfl,_⟩:=JS ai.now;obtain⟨X3,iz⟩:=Qnm (W3.alloc (.cells (Qe6 j r1 f1 r2 f2 r3 f3 r4 f4 r5 f5) 26));have mz:Qb6 W3 X3:=by rw[iz];exact bA (Zh _ _)
 have se:X3=W3.heap.size+1:=by rw[iz,ZB]
 have q9:X3.heap[W3.heap.size]?=some (.cells (Qe6 j r1 f1 r2 f2 r3 f3 r4 f4 r5 f5) 26 (0,0)):=by rw[iz];exact Bp _ _
 have re:=Bv.size;have fu:=Bv.trans (mz.mono re);have my:=nm.below fu;have hC:=ai.later mz;have mx:=(fu.block _ o!).trans ka;have mw:=(fu.block _ o!).trans ne;have mv:=jt.later fu;have jn:=((hn.later Bg).Cn my (λx a=>⟨by have:=(E8 x a).1;omega,(E8 x a).2⟩));have pp:=(M7.E4.later lE).later fu;obtain⟨o,ho⟩:=Qnm W3.heap.size;rw[<-ho]at q9;have iG:=Zd (c29 (n:=2) jn (λx a=>⟨by have:=(E8 x a).1;omega,(E8 x a).2⟩) pp o! d!);have nF:W3<=o/\o<=W3.heap.size:=o!
 go_wp2;rw[<-iz, <-ho];clear iz ho;refine iG.out.mono ?_;rintro e y ⟨r,d4,rfl,hr,S5,ed,rA⟩;have Ox:r<=2:=hr;have fC:Ak (λx=>x=b) X3 y:=S5.CN rfl;have R:=hC.CN fC (λx a e=>o!);have fK:=S5.at_ q9 o!;have fJ:=S5.at_ mx o!;have be:=S5.at_ mw o!;have fi:=mv.Ar (S5.same λx a=>by have:=a.1;omega);have Z:B3 b w y:=by
  have hh:B3 b W1 y:=my.trans S5;exact⟨hh.os.trans Bg.os,hh.tape.trans Bg.tape,hh.output.trans Bg.output,Zr Bg.size hh.size,λk hk G=>(hh.block k o! G).trans (Bg.block k hk)⟩
 have ru:=Z.size;have V:=h.Ar (Z.same λx a=>(hS x a).2);have rE:=S5.size;have x1:w<m:=o!
 have x2:m<o:=o!
 have x3:o<y:=o!
 clear no n7 iG lD ne ka mx mw q9 jt mv ai hC yv M7;obtain rfl|rfl|rfl:r=0\/r=1\/r=2:=o!
 .have rr:=Zd (WO V.now (by have:=Qh.now;omega))
  have o9:=ch (i:=4) be rfl;go_wp2;refine rr.out.mono ?_;rintro e W5 ⟨u,rfl,Cj,mt⟩;obtain⟨t5,s5,rfl,_⟩:=JS mt;have p9:=Cj.size;have fw:=(Cj.block _ x3).trans fK;obtain⟨B,ct⟩:=Qnm (W5.setCell ⟨o,4,none⟩ (.slice t5 c.now.length s5));have A:Ak (λx=>x=o) W5 B:=by rw[ct];exact(Ak.refl (λx=>x=o) W5).DT
  have ap:B.heap[o]?=some (.cells #[.slice r1 j.base.length f1,.slice r2 j.Af.length f2,.slice r3 j.hooks.length f3,.slice r4 j.Aa.length f4,.slice t5 c.now.length s5] 26 (0,0)):=by rw[ct];exact Ba fw _
  have rq:=(Cj.block _ o!).trans be;have rg:=(Cj.block _ o!).trans fJ;obtain⟨i6,b8,iX,bV,iS⟩:=Qc5 rq;obtain⟨ip,io,im,ii,g9⟩:=Qc5 rg;obtain⟨gt,bv,gn,bi,gj⟩:=Qc5 fw;have rC:=cf (i:=4) fw;have n1:¬w.heap.size=o:=o!
  have n2:¬m=o:=o!
  clear o9;have X:B3 b w B:=by
   have P:=Z.below Cj;exact⟨A.os.trans P.os,A.tape.trans P.tape,A.output.trans P.output,Zr P.size A.size,λk hk G=>(A.block k (by have:=P.size;omega) o!).trans (P.block k hk G)⟩
  have lJ:=A.size;have am:BK B b lv d4:=by
   obtain⟨st,B_⟩:=ed.later Cj;exact⟨st,(A.block b o! o!).trans B_⟩
  have g1:=(V.later Cj).Ar (A.same λx a=>show¬x=o by have:=hS x a;omega);have g2:=((fi.later Cj).Ar (A.same λx a=>show¬x=o by have:=a.2;omega)).imp (T:=Cb w B) λx a=>⟨by have:=a.1;omega,by have:=a.2;omega⟩;have g3:=(((R.later Cj).box A fw).rc).imp (T:=Cb w B) λx a=>⟨by have:=a.1;omega,a.2⟩;have g4:SI (Cb w B) B (.slice t5 c.now.length s5) c.now:=Sl.imp (Own.si (abh mt A fw d!)) (λx a=>⟨by have:=a.1;omega,a.2⟩) λ_ _ x=>x;have I:=ac6 (d:=d) X am o! hM (co:= {j with now:=c.now}) ⟨t.base,t.Af,t.hooks,t.Aa,Qh.now,t.part⟩ g1 g2 ⟨g3.base,g3.Af,g3.hooks,g3.Aa,g4⟩;clear g1 g2 g3 g4 X am;have ma:B=W5.heap.size:=by rw[ct];simp
  rw[ma]at I;clear ma;go_wp2;rw[<-ct];clear ct;go_ret;exact I
 .have lF:=ac6 (d:=d) Z ed o! hM t V (fi.imp (T:=Cb w y) λx a=>⟨by have:=a.1;omega,by have:=a.2;omega⟩) (R.rc.imp (T:=Cb w y) λx a=>⟨by have:=a.1;omega,a.2⟩)
  obtain⟨i6,b8,iX,bV,iS⟩:=Qc5 be;obtain⟨ip,io,im,ii,g9⟩:=Qc5 fJ;obtain⟨gt,bv,gn,bi,gj⟩:=Qc5 fK;by_cases h0:c.Aa.length=0
  .have hh:¬0<(c.Aa.length:Int):=by omega
   clear h0;go_wp2;go_ret;exact lF
  have hh:0<(c.Aa.length:Int):=o!
  go_wp2;obtain⟨g,eg⟩:∃g,r4=some ⟨g,0,none⟩:=by
   obtain⟨vals,h1,_⟩:=R.row;rcases h1.2 with⟨e,h2⟩|⟨g,cap,D,e,_⟩
   .have:=hM.few
    omega
   cases e;exact⟨g,rfl⟩
  subst eg;obtain⟨U,o4,v2,v3,ea,UQ,x0,x1,i8,i7,x4,hp,rH⟩:=V.Aa.at_ (i:=0) o!;subst ea;obtain⟨a6,c6,rfl,l6,m6⟩:=hp.val;obtain⟨a7,c7,rfl,l7,m7⟩:=rH.val;have fm:=Qh.part 0 o!;obtain⟨sm,an⟩:=Qnm (Aj c.Aa 0);have tb:=Zd an;rw[<-an]at x0 x1 i8 i7 x4 hp rH fm l6 l7;rw[Nat.zero_mul,Nat.add_zero]at x0 x1 i8 i7 x4;clear an;obtain⟨low,z,Ap,F,left⟩:=sm;dsimp only at x0 x1 i8 i7 x4 hp rH fm l6 l7;obtain⟨K,Ig⟩:∃K:Nat->Prop,K=λx=>x=b\/y<=x:=⟨_,rfl⟩;have fh:K b:=by rw[Ig];exact .inl rfl
  have LP:∀x,y.heap.size<=x->K x:=λx a=>by rw[Ig];exact .inr a
  have qF:∀x,x<y.heap.size->x≠b->¬K x:=λx h1 h2=>by rw[Ig];exact λe=>e.elim h2 o!
  clear Ig;have mi:=hS U UQ;have z0:=λp:Tw K y=>p.cell bi (qF _ (by show o<_;omega) (by show o≠b;omega));have z1:=λp:Tw K y=>p.cell bV (qF _ (by show w.heap.size<_;omega) (by show w≠b;omega));have z2:=λp:Tw K y=>p.cell x0 (qF _ (by show U<_;omega) (by show U≠b;omega));have z3:=λp:Tw K y=>p.cell x1 (qF _ (by show U<_;omega) (by show U≠b;omega));have z4:=λp:Tw K y=>p.cell i8 (qF _ (by show U<_;omega) (by show U≠b;omega));have z5:=λp:Tw K y=>p.cell i7 (qF _ (by show U<_;omega) (by show U≠b;omega));have z6:=λp:Tw K y=>p.cell x4 (qF _ (by show U<_;omega) (by show U≠b;omega));have Qu:IntKind.i64.wrap ((j.Aa.length:Int) - 1)=(j.Aa.length:Int) - 1:=by rw[zE];have:=hM.few;omega
  refine B0 (S:=λW=>∃p:Tw K y,W=p.v) [14] [(false,5),(false,6),(false,7),(false,12),(false,13),(false,14)] [0,1,2,3,4,8,9,10,11] k! (λ_ _ d _ _ h=>by cases d<;>exact h) k! (A5 (Ak.later (Zh _ _).drew)) ?_;refine A4 _ _ k! ?_;simp only[Z6,zd,ZG,ZD,ZC]
  repeat (first|go_big_quiet_step (fail)|quiet_step (fail))
  refine Z4 ?_;clear z0 z1 z2 z3 z4 z5 z6;change Dl _ _ _ _ _ _ _;have Uh:YH y y y.drew:=(Zh _ _).drew;have dl:Ak K y y.drew:=Ak.later Uh;refine Dw (v:=.int .i64 j.Aa.length) rfl rfl g! (.inr (A5 dl)) ?_;refine Dw (v:=.int .i64 ((j.Aa.length:Int) - 1)) rfl rfl g! (.inr (A5 dl)) ?_;refine Dd (f:=34) (args:= #[.pointer b,.int .i64 ((j.Aa.length:Int) - 1)]) rfl rfl g! ((c29 ((jn.Cn S5 (λx a=>⟨by have:=(E8 x a).1;omega,(E8 x a).2⟩)).later Uh) (λx a=>⟨by have:=(E8 x a).1;simp;omega,(E8 x a).2⟩) (ed.later Uh) o! (by have:=hM.few;omega)).mono ?_);rintro e W5 ⟨C,d5,rfl,pd,P,xZ,pm⟩;have L:B3 b y W5:=by
   exact⟨P.os,P.tape,P.output,P.size,λk hk G=>P.block k hk G⟩
  have mj:Ak K y W5:=L.CN fh;refine⟨_,rfl,.inr (A5 mj),?_⟩;have lm:C<j.Aa.length:=by have:=hM.few;omega
  have p9:=L.size;refine Dd (f:=35) (args:= #[.agg #[.int .i64 low,.int .i64 z,.slice a6 Ap.length c6,.slice a7 F.length c7,.int .i64 left]]) rfl rfl g! ((aoP (hp.Ar (L.same λx a=>(hS x a).2)) (rH.Ar (L.same λx a=>(hS x a).2)) (by have:=fm.1;omega) (by have:=fm.2;omega)).mono ?_);rintro e B ⟨u2,u3,rfl,DM,Hb,Lb⟩;have A:Ak K y B:=mj.trans (Ak.later DM);refine⟨_,rfl,.inr (A5 A),?_⟩;have Lb:SI (TT W5 B) B u3 F:=Own.tt Lb;obtain⟨p6,t6,rfl,_⟩:=Hb.val;obtain⟨p7,t7,rfl,_⟩:=Lb.val;have lJ:=DM.size;have J:=(R.CN (L.CN (K:=λx=>x=b) rfl) (λx a e=>o!)).later DM;have ap:=(DM.block _ o!).trans (L.at_ fK o!);have li:=(DM.block _ o!).trans (L.at_ fJ o!);have ky:=(DM.block _ o!).trans (L.at_ be o!);have X:=L.below DM;have kw:=fi.Ar (X.same λx a=>by have:=a.1;omega);have kv:=V.Ar (X.same λx a=>(hS x a).2);have am:=xZ.later DM;have E:B3 b w B:=Z.trans X;obtain⟨D,q,Q⟩:∃D,B.heap[g]?=some (.cells D 49 (0,0))/\∀k,k<5->∃v,D[C*5+k]?=some v:=by
   obtain⟨vals,h1,_⟩:=J.row;rcases h1.2 with⟨e,_⟩|⟨g',cap,D,e,g3,g4,g5,g6,g7,_⟩
   .cases e
   cases e;exact⟨D,g4,λk hk=>⟨_,Zx (by rw[g7];omega)⟩⟩
  obtain⟨w0,ci⟩:=Q 0 d!;obtain⟨w1,lX⟩:=Q 1 d!;obtain⟨w2,nj⟩:=Q 2 d!;obtain⟨w3,lK⟩:=Q 3 d!;obtain⟨w4,xX⟩:=Q 4 d!;have q0:=ch q ci;have q1:=ch q lX;have q2:=ch q nj;have q3:=ch q lK;have q4:=ch q xX;have b9:=cf (i:=C*5+0) q;have i9:=cf (i:=C*5+1) q;have o8:=cf (i:=C*5+2) q;have ow:=cf (i:=C*5+3) q;have ol:=cf (i:=C*5+4) q;rw[Nat.add_zero]at q0 b9;obtain⟨O,H⟩:=Qnm (((((B.setCell ⟨g,C*5,none⟩ (.int .i64 low)).setCell ⟨g,C*5+1,none⟩ (.int .i64 z)).setCell ⟨g,C*5+2,none⟩ (.slice p6 Ap.length t6)).setCell ⟨g,C*5+3,none⟩ (.slice p7 F.length t7)).setCell ⟨g,C*5+4,none⟩ (.int .i64 left));have pu:(C:Int)<(j.Aa.length:Int):=o!
  have pt:(0:Int)<=(C:Int):=o!
  refine Dw (v:=.pointer (some ⟨g,C*5,none⟩)) rfl rfl g! (.inr (A5 A)) ?_;refine K8 (w':=O) rfl rfl (by rw[H];go_simp) (.inl rfl) ?_;have l:Ak (λx=>x=g) B O:=by rw[H];exact(Ak.refl (λx=>x=g) B).DT.DT.DT.DT.DT
  have pi:=(J.row.own g rfl).1;have s8:=J.le;have ck:∀x,x<X2.heap.size->¬x=g:=λx a e=>o!
  have jp:¬o=g:=λe=>by subst e;rw[ap]at q;cases q
  have sr:g<y:=by
   obtain⟨_,cs,h⟩:=R.row.own g rfl;exact(Za.1 h).1
  have ml:Rs (TT M B) B [.int .i64 low,.int .i64 z,.slice p6 Ap.length t6,.slice p7 F.length t7,.int .i64 left] ⟨low,z,Ap,F,left⟩:=⟨_,_,rfl,Sl.imp Hb (λx a=>⟨by have:=a.1;omega,a.2⟩) (λ_ _ x=>x),Sl.imp Lb (λx a=>⟨by have:=a.1;omega,a.2⟩) λ_ _ x=>x⟩;have N:=En.put (s:=⟨low,z,Ap,F,left⟩) J.row lm ml;dsimp only at N;rw[<-H]at N;have Y:O=B.heap.size:=by rw[H];simp
  have fd:B3 b w O:=by
   exact⟨l.os.trans E.os,l.tape.trans E.tape,l.output.trans E.output,Zr E.size l.size,λk hk G=>(l.block k (by have:=E.size;omega) o!).trans (E.block k hk G)⟩
  have du:BK O b lv d5:=by
   obtain⟨st,B_⟩:=am;exact⟨st,(l.block b o! o!).trans B_⟩
  have U3:∀ {v:Zf} {e:Zs} {k n:Nat} {xs:List Zf} {base:Nat},B.ownsRow base e k v n xs->e≠49->O.ownsRow base e k v n xs:=λh he=>abh h l q he;have g1:=kv.Ar (l.same λx a=>show¬x=g by have:=hS x a;omega);have g2:=(kw.Ar (l.same λx a=>show¬x=g by have:=a.2;omega)).imp (T:=Cb w O) λx a=>⟨by have:=a.1;omega,by have:=a.2;omega⟩;have g3:RC (Cb w O) O (.slice r1 j.base.length f1) (.slice r2 j.Af.length f2) (.slice r3 j.hooks.length f3) (.slice g j.Aa.length f4) (.slice r5 j.now.length f5) {j with Aa:=j.Aa.set C ⟨low,z,Ap,F,left⟩}:=
   ⟨Sl.imp (Own.si (U3 J.base d!)) (λx a=>⟨by have:=a.1;omega,a.2⟩) (λ_ _ x=>x),Sl.imp (Ih.tt (U3 J.Af d!) (.inr (.inr rfl))) (λx a=>⟨by have:=a.1;omega,a.lt⟩) (λ_ _ x=>x),Sl.imp (Own.si (U3 J.hooks d!)) (λx a=>⟨by have:=a.1;omega,a.2⟩) (λ_ _ x=>x),(N.ss (Zj _)).imp (λx a=>⟨by have:=a.1;omega,a.2⟩) (λ_ _ ⟨v2,v3,e,h2,h3⟩=>⟨v2,v3,e,Sl.imp h2 (λx a=>⟨by have:=a.1;omega,a.2⟩) λ_ _ x=>x,Sl.imp h3 (λx a=>⟨by have:=a.1;omega,a.2⟩) λ_ _ x=>x⟩),Sl.imp (Own.si (U3 J.now d!)) (λx a=>⟨by have:=a.1;omega,a.2⟩) (λ_ _ x=>x)⟩
  have I:=ac6 (d:=d) fd du o! hM (co:= {j with Aa:=j.Aa.set C ⟨low,z,Ap,F,left⟩}) (t.put fm) g1 g2 g3;rw[Y]at I;have fI:=(l.block o o! jp).trans ap;have fH:=(l.block m o! (ck m o!)).trans li;have fy:=(l.block w o! (ck _ o!)).trans ky;obtain⟨i6,b8,iX,bV,iS⟩:=Qc5 fy;obtain⟨ip,io,im,ii,g9⟩:=Qc5 fH;obtain⟨gt,bv,gn,bi,gj⟩:=Qc5 fI;have lG:=Zd I;have lI:=Zd Y;clear H I g1 g2 g3 U3 N ml l fI fH fy q0 q1 q2 q3 q4 b9 i9 o8 ow ol ci lX nj lK xX Y du fd;unfold Dl
  go_simp
  go_wp2;rw[lI.out];go_ret;exact lG.out
 have lF:=ac6 (d:=d) Z ed o! hM t V (fi.imp (T:=Cb w y) λx a=>⟨by have:=a.1;omega,by have:=a.2;omega⟩) (R.rc.imp (T:=Cb w y) λx a=>⟨by have:=a.1;omega,a.2⟩);obtain⟨i6,b8,iX,bV,iS⟩:=Qc5 be;obtain⟨ip,io,im,ii,g9⟩:=Qc5 fJ;obtain⟨gt,bv,gn,bi,gj⟩:=Qc5 fK;by_cases h0:c.Af.length=0
 .have hh:¬0<(c.Af.length:Int):=by omega
  clear h0;go_wp2;go_ret;exact lF
 have hh:0<(c.Af.length:Int):=o!
 go_wp2;have mh:j.Af.length=j.base.length:=hM.PN;have td:=Zd mh;have sq:1<=j.Af.length/\j.Af.length<=3:=by have:=hM.Fp;omega
 clear mh;obtain⟨g,eg⟩:∃g,r2=some ⟨g,0,none⟩:=by
  rcases R.Af.2 with⟨e,h2⟩|⟨g,cap,D,e,_⟩
  .omega
  cases e;exact⟨g,rfl⟩
 subst eg;obtain⟨U,o4,ea,UQ,x0,x1⟩:=V.Af.at_ (i:=0) o!;subst ea;obtain⟨sm,an⟩:=Qnm (BV c.Af 0);rw[<-an]at x0 x1;rw[Nat.zero_mul,Nat.add_zero]at x0 x1;clear an;obtain⟨low,z⟩:=sm;dsimp only at x0 x1;obtain⟨K,Ig⟩:∃K:Nat->Prop,K=λx=>x=b\/y<=x:=⟨_,rfl⟩;have fh:K b:=by rw[Ig];exact .inl rfl
 have LP:∀x,y.heap.size<=x->K x:=λx a=>by rw[Ig];exact .inr a
 have qF:∀x,x<y.heap.size->x≠b->¬K x:=λx h1 h2=>by rw[Ig];exact λe=>e.elim h2 o!
 clear Ig;have mi:=hS U UQ;have z0:=λp:Tw K y=>p.cell bv (qF _ (by show o<_;omega) (by show o≠b;omega));have z1:=λp:Tw K y=>p.cell b8 (qF _ (by show w.heap.size<_;omega) (by show w≠b;omega));have z2:=λp:Tw K y=>p.cell x0 (qF _ (by show U<_;omega) (by show U≠b;omega));have z3:=λp:Tw K y=>p.cell x1 (qF _ (by show U<_;omega) (by show U≠b;omega));have Qu:IntKind.i64.wrap ((j.Af.length:Int) - 1)=(j.Af.length:Int) - 1:=by rw[zE];omega
 refine B0 (S:=λW=>∃p:Tw K y,W=p.v) [13] [(false,5),(false,6),(false,7),(false,12),(false,13)] [0,1,2,3,4,8,9,10,11] k! (λ_ _ d _ _ h=>by cases d<;>exact h) k! (A5 (Ak.later (Zh _ _).drew)) ?_;refine A4 _ _ k! ?_;simp only[Z6,zd,ZG,ZD,ZC]
 repeat (first|go_big_quiet_step (fail)|quiet_step (fail))
 refine Z4 ?_;clear z0 z1 z2 z3;change Dl _ _ _ _ _ _ _;have Uh:YH y y y.drew:=(Zh _ _).drew;have dl:Ak K y y.drew:=Ak.later Uh;refine Dw (v:=.int .i64 j.Af.length) rfl rfl g! (.inr (A5 dl)) ?_;refine Dw (v:=.int .i64 ((j.Af.length:Int) - 1)) rfl rfl g! (.inr (A5 dl)) ?_;refine Dd (f:=34) (args:= #[.pointer b,.int .i64 ((j.Af.length:Int) - 1)]) rfl rfl g! ((c29 ((jn.Cn S5 (λx a=>⟨by have:=(E8 x a).1;omega,(E8 x a).2⟩)).later Uh) (λx a=>⟨by have:=(E8 x a).1;simp;omega,(E8 x a).2⟩) (ed.later Uh) o! o!).mono ?_);rintro e B ⟨C,d5,rfl,pd,P,am,pm⟩;have X:B3 b y B:=by
  exact⟨P.os,P.tape,P.output,P.size,λk hk G=>P.block k hk G⟩
 have A:Ak K y B:=X.CN fh;refine⟨_,rfl,.inr (A5 A),?_⟩;have lm:C<j.Af.length:=o!
 have lJ:=X.size;have J:=R.CN (X.CN (K:=λx=>x=b) rfl) (λx a e=>o!);have ap:=X.at_ fK o!;have li:=X.at_ fJ o!;have ky:=X.at_ be o!;have kw:=fi.Ar (X.same λx a=>by have:=a.1;omega);have kv:=V.Ar (X.same λx a=>(hS x a).2);have E:B3 b w B:=Z.trans X;obtain⟨D,q,Q⟩:∃D,B.heap[g]?=some (.cells D 53 (0,0))/\∀k,k<2->∃v,D[C*2+k]?=some v:=by
  rcases J.Af.2 with⟨e,_⟩|⟨g',cap,D,e,g3,g4,g5,g6,g7,_⟩
  .cases e
  cases e;exact⟨D,g4,λk hk=>⟨_,Zx (by rw[g7];omega)⟩⟩
 obtain⟨w0,ci⟩:=Q 0 d!;obtain⟨w1,lX⟩:=Q 1 d!;have q0:=ch q ci;have q1:=ch q lX;have b9:=cf (i:=C*2+0) q;have i9:=cf (i:=C*2+1) q;rw[Nat.add_zero]at q0 b9;obtain⟨O,H⟩:=Qnm ((B.setCell ⟨g,C*2,none⟩ (.int .i64 low)).setCell ⟨g,C*2+1,none⟩ (.int .i64 z));have pu:(C:Int)<(j.Af.length:Int):=o!
 have pt:(0:Int)<=(C:Int):=o!
 refine Dw (v:=.pointer (some ⟨g,C*2,none⟩)) rfl rfl g! (.inr (A5 A)) ?_;refine K8 (w':=O) rfl rfl (by rw[H];go_simp) (.inl rfl) ?_;have l:Ak (λx=>x=g) B O:=by rw[H];exact(Ak.refl (λx=>x=g) B).DT.DT
 have pi:=(J3 J.Af g rfl).1;have rz:=J.l2 g rfl;have ck:∀x,x<X2.heap.size->¬x=g:=λx a e=>o!
 have jp:¬o=g:=λe=>by subst e;rw[ap]at q;cases q
 have N:=Ih.set J.Af lm (low,z);dsimp only at N;rw[<-H]at N;have Y:O=B.heap.size:=by rw[H];simp
 have fd:B3 b w O:=by
  exact⟨l.os.trans E.os,l.tape.trans E.tape,l.output.trans E.output,Zr E.size l.size,λk hk G=>(l.block k (by have:=E.size;omega) o!).trans (E.block k hk G)⟩
 have du:BK O b lv d5:=by
  obtain⟨st,B_⟩:=am;exact⟨st,(l.block b o! o!).trans B_⟩
 have U3:∀ {v:Zf} {e:Zs} {k n:Nat} {xs:List Zf} {base:Nat},B.ownsRow base e k v n xs->e≠53->O.ownsRow base e k v n xs:=λh he=>abh h l q he;have lL:=J.row.CN l (λx a e=>by have:=a.1;omega) (λx a e=>by have:=(J.row.own x a).1;omega);have ry:=J.le;have g1:=kv.Ar (l.same λx a=>show¬x=g by have:=hS x a;omega);have g2:=(kw.Ar (l.same λx a=>show¬x=g by have:=a.2;omega)).imp (T:=Cb w O) λx a=>⟨by have:=a.1;omega,by have:=a.2;omega⟩;have g3:RC (Cb w O) O (.slice r1 j.base.length f1) (.slice g j.Af.length f2) (.slice r3 j.hooks.length f3) (.slice r4 j.Aa.length f4) (.slice r5 j.now.length f5) {j with Af:=j.Af.set C (low,z)}:=
  ⟨Sl.imp (Own.si (U3 J.base d!)) (λx a=>⟨by have:=a.1;omega,a.2⟩) (λ_ _ x=>x),Sl.imp (Ih.tt N (.inr (.inr rfl))) (λx a=>⟨by have:=a.1;omega,a.lt⟩) (λ_ _ x=>x),Sl.imp (Own.si (U3 J.hooks d!)) (λx a=>⟨by have:=a.1;omega,a.2⟩) (λ_ _ x=>x),(lL.ss (Zj _)).imp (λx a=>⟨by have:=a.1;omega,a.2⟩) (λ_ _ ⟨v2,v3,e,h2,h3⟩=>⟨v2,v3,e,Sl.imp h2 (λx a=>⟨by have:=a.1;omega,a.2⟩) λ_ _ x=>x,Sl.imp h3 (λx a=>⟨by have:=a.1;omega,a.2⟩) λ_ _ x=>x⟩),Sl.imp (Own.si (U3 J.now d!)) (λx a=>⟨by have:=a.1;omega,a.2⟩) (λ_ _ x=>x)⟩
 have I:=ac6 (d:=d) fd du o! hM (co:= {j with Af:=j.Af.set C (low,z)}) ⟨t.base,by rw[ZcC];exact t.Af,t.hooks,t.Aa,t.now,t.part⟩ g1 g2 g3;rw[Y]at I;have fI:=(l.block o o! jp).trans ap;have fH:=(l.block m o! (ck m o!)).trans li;have fy:=(l.block w o! (ck _ o!)).trans ky;obtain⟨i6,b8,iX,bV,iS⟩:=Qc5 fy;obtain⟨ip,io,im,ii,g9⟩:=Qc5 fH;obtain⟨gt,bv,gn,bi,gj⟩:=Qc5 fI;have lG:=Zd I;have lI:=Zd Y;clear H I g1 g2 g3 U3 N lL l fI fH fy q0 q1 b9 i9 ci lX Y du fd;unfold Dl
 go_simp
 go_wp2;rw[lI.out];go_ret;exact lG.out
def ahp {l:List A_}{x:A_}(h:Sl S (ai5 S) 5 w (.slice q n cc) l)(b:l[k]?=some x):
  S q/\∃v1 v2 v3 v4 v5,w.cell? ⟨q,k*5,none⟩=some v1/\w.cell? ⟨q,k*5+1,none⟩=some v2/\w.cell? ⟨q,k*5+2,none⟩=some v3/\w.cell? ⟨q,k*5+3,none⟩=some v4/\w.cell? ⟨q,k*5+4,none⟩=some v5/\RC S w v1 v2 v3 v4 v5 x:=by
 obtain⟨p,m,e,_,_,f⟩:=h;cases e;obtain⟨o,i,cs,g,c,j,a,v1,v2,v3,v4,v5,rfl,d⟩:=f k x b;cases g;rw[zN]at a;exact⟨c,v1,v2,v3,v4,v5,by simpa using a 0 v1 rfl,a 1 v2 rfl,a 2 v3 rfl,a 3 v4 rfl,a 4 v5 rfl,d⟩
def akc {v7:Zf}{st:List Int}(h:RC (λx=>x<w.heap.size) w v1 v2 v3 v4 v5 c)(hs:SI (λx=>x<w.heap.size) w v6 st)(hn:SI (λx=>x<w.heap.size) w v7 nums)(hG:Jr w):Calls Lp 3 #[.agg #[v1,v2,v3,v4,v5],v6,v7] w (Two w (.bool true)):=by
 obtain⟨a1,c1,a2,c2,a3,c3,a4,c4,a5,c5,rfl,rfl,rfl,rfl,rfl,l1,m1,l2,m2,l3,m3,l4,m4,l5,m5⟩:=h.vs;obtain⟨a6,c6,rfl,l6,m6⟩:=hs.val;obtain⟨la,lc,rfl,_⟩:=hn.val;have IX:=DJ;obtain⟨X,hX⟩:=Qnm (w.alloc (.cells (Qe6 c a1 c1 a2 c2 a3 c3 a4 c4 a5 c5) 26));have Ov:Qb6 w X:=by rw[hX];exact bA (Zh _ _)
 have ww:X=w.heap.size+1:=by rw[hX,ZB]
 have my:X.heap[w.heap.size]?=some (.cells (Qe6 c a1 c1 a2 c2 a3 c3 a4 c4 a5 c5) 26 (0,0)):=by rw[hX];exact Bp _ _
 have rC:=Zd (c25 (h.later Ov) (λx (o:x<w)=>o!));go_enter Lp.func14,n14;go_wp2;rw[<-hX];clear hX;refine rC.out.mono ?_;rintro e W1 ⟨gt,rfl,oX,Bg⟩;have du:=bU Ov Bg;have kG:=hG.later du;have DR:=Bg.size;have l_:=(Bg.block _ o!).trans my;by_cases gj:gt=true\/20<st.length
 .cases gt with
  |true=>
   go_wp2_with (go_at_call 6;refine(c26 _ kG).mono ?_;rintro e V ⟨Ui,rfl|⟨x,rfl,Ss⟩⟩)
   .go_ret
    exact⟨bU du Ui,.inl rfl⟩
   .exact⟨rfl,bU du Ui,.inr ⟨_,rfl,Ss⟩⟩
  |false=>
   have vd:20<(st.length:Int):=by
    rcases gj with e|e
    .cases e
    omega
   go_wp2_with (go_at_call 6;refine(c26 _ kG).mono ?_;rintro e V ⟨Ui,rfl|⟨x,rfl,Ss⟩⟩)
   .go_ret
    exact⟨bU du Ui,.inl rfl⟩
   exact⟨rfl,bU du Ui,.inr ⟨_,rfl,Ss⟩⟩
 have mv:gt=false:=by cases gt;rfl;exact absurd (.inl rfl) gj
 have vd:¬20<(st.length:Int):=λe=>gj (.inr o!);have Qh:=oX mv;subst mv;clear gj oX rC my;obtain⟨k0,k1,k2,k3,k4⟩:=Qc5 l_;obtain⟨W2,MX⟩:=Qnm (W1.alloc (.cells #[.slice la nums.length lc,.int .i64 0,.int .u64 1] 75));have Bb:Qb6 W1 W2:=by rw[MX];exact bA (Zh _ _)
 have EB:W2=W1.heap.size+1:=by rw[MX,ZB]
 have rV:BK W2 W1 (.slice la nums.length lc) 0:=⟨1,by rw[MX];exact Bp _ _⟩;obtain⟨b,hb⟩:=Qnm W1.heap.size;rw[<-hb]at rV;have EC:W1<=b/\b<=W1.heap.size:=o!
 go_wp2;refine(c27 _ ⟨_,_,_,rfl⟩ _).mono ?_;rintro e ym ⟨rfl,hw⟩;rw[<-MX]at hw;have hw:=hw.symm;subst hw;rw[<-hb];clear hb MX;have B:=bU du Bb;have rB:=Zd (c28 (h.later B) (λx (o:x<w)=>⟨by have:=B.size;omega,o!⟩) (hn.later B) (λx (o:x<w)=>⟨by have:=B.size;omega,o!⟩) rV d! Qh);have mz:=(Bb.block _ o!).trans l_;clear k0 k1 k2 k3 k4;obtain⟨k0,k1,k2,k3,k4⟩:=Qc5 mz;go_wp2;refine rB.out.mono ?_;rintro e W3 ⟨s,fd,q,d3,rfl,H4,mx,yu,hM,mj,JA,ka⟩;have Rb:=H4.size;have BL:∀x,(x<w.heap.size\/Cb W2 W3 x)->x<W3.heap.size/\x≠b:=λx o=>by
  rcases o with o|o
  .have:=B.size;exact⟨o!,o!⟩
  have:=o.1;have:=o.2;exact⟨o!,o!⟩
 obtain⟨tb,p1,p2,p3,p4,p5,x0,x1,x2,x3,x4,i9⟩:=ahp (k:=1) ka rfl;rw[Nat.one_mul]at x0 x1 x2 x3 x4;obtain⟨vB,sr,vA,sq,vz,so,vy,se,vx,rE,rfl,rfl,rfl,rfl,rfl,_⟩:=i9.vs;have ed:=hM.small;have rA:=Zd (c30 i9 BL ((hn.later B).Cn H4 (λx (o:x<w)=>⟨by have:=B.size;omega,o!⟩)) (λx (o:x<w)=>⟨by have:=B.size;omega,o!⟩) mx (by have:=ed.Aa;omega) (by have:=ed.Aa;omega) λi hi=>by have:=(hM.valid.step i hi);omega);clear k0 k1 k2 k3 k4;go_wp2;refine rA.out.mono ?_;rintro e W4 ⟨v8,own,d4,rfl,S5,t9,yr,jp,ml,_⟩;obtain⟨oa,oc,rfl,_⟩:=jp.val;have uR:=Zd ml;have lE:own.length<=20:=by have:=ed.Aa;omega
 clear ml;have s8:=S5.size;obtain⟨Z,hZ⟩:=Qnm (W4.alloc (.cells #[.slice a6 st.length c6,.slice oa own.length oc,.slice oa own.length oc,.slice a6 st.length c6] 22));have kv:Qb6 W4 Z:=by rw[hZ];exact bA (Zh _ _)
 have bV:Z.heap[W4.heap.size]?=some (.cells #[.slice a6 st.length c6,.slice oa own.length oc,.slice oa own.length oc,.slice a6 st.length c6] 22 (0,0)):=by rw[hZ];exact Bp _ _
 obtain⟨qs,i6⟩:=Qnm W4.heap.size;rw[<-i6]at bV;have An:W4<=qs/\qs<=W4.heap.size:=o!
 go_wp2;rw[<-hZ, <-i6];clear hZ i6;have ws:=kv.size;have fu:B3 b W3 Z:=S5.below kv;have jt:Sl (λx=>x<Z.heap.size) (ai5 λx=>x<Z.heap.size) 5 Z (.slice q 4 4) [c,s,fd,s]:=by
  have rU:∀x,(x<w.heap.size\/Cb W2 W3 x)->x<Z:=λx o=>by have:=(BL x o).1;omega
  refine Sl.imp (Sl.Ar ka (fu.same λx o=>(BL x o).2) (R:=ai5 λx=>x<w.heap.size\/Cb W2 W3 x) ?_) rU ?_
  .rintro cs x ⟨y1,y2,y3,y4,y5,rfl,hR⟩
   exact⟨y1,y2,y3,y4,y5,rfl,hR.Ar (fu.same λx o=>(BL x o).2)⟩
  rintro cs x ⟨y1,y2,y3,y4,y5,rfl,hR⟩;exact⟨y1,y2,y3,y4,y5,rfl,hR.imp rU⟩
 have B_:SI (λx=>x<Z.heap.size) Z (.slice a6 st.length c6) st:=Sl.imp ((hs.later B).Ar (((H4.trans fu)).same λx (o:x<w)=>by have:=B.size;omega)) (λx (o:x<w)=>by have:=B.size;show x<Z;omega) λ_ _ x=>x;have AX:SI (λx=>x<Z.heap.size) Z (.slice oa own.length oc) own:=Sl.imp (jp.later kv) (λx o=>by have:=o.2;show x<Z;omega) λ_ _ x=>x;have lF:st.length<=20:=o!
 have i7:SL (λx=>x<Z.heap.size) Z (.slice qs 4 4) [st,own,own,st]:=by
  refine⟨_,_,rfl,Zj _,d!,λi x o=>?_⟩;have fI:qs<Z:=(Za.1 bV).1
  match i,o with
  |0,o=>cases o;exact⟨qs,0,[.slice a6 st.length c6],rfl,fI,rfl,(λj u H=>by match j,H with|0,H=>cases H;exact ch bV rfl),_,rfl,B_⟩
  |1,o=>cases o;exact⟨qs,0,[.slice oa own.length oc],rfl,fI,rfl,(λj u H=>by match j,H with|0,H=>cases H;exact ch bV rfl),_,rfl,AX⟩
  |2,o=>cases o;exact⟨qs,0,[.slice oa own.length oc],rfl,fI,rfl,(λj u H=>by match j,H with|0,H=>cases H;exact ch bV rfl),_,rfl,AX⟩
  |3,o=>cases o;exact⟨qs,0,[.slice a6 st.length c6],rfl,fI,rfl,(λj u H=>by match j,H with|0,H=>cases H;exact ch bV rfl),_,rfl,B_⟩
 have pu:Qb6 w Z:=B3.aj4 B (H4.trans fu) o!;have us:Jr Z:=hG.later pu;obtain⟨cl,dL⟩:=Qnm ([c,s,fd,s]);obtain⟨gn,Xc⟩:=Qnm ([st,own,own,st]);have rg:∀k,k<4->∃x,cl[k]?=some x/\ac2 x:=by
  intro k hk;rw[dL];obtain rfl|rfl|rfl|rfl:k=0\/k=1\/k=2\/k=3:=o!
  .exact⟨_,rfl,Qh⟩
  .exact⟨_,rfl,ed⟩
  .exact⟨_,rfl,mj⟩
  exact⟨_,rfl,ed⟩
 have re:∀k,k<4->(BM gn k).length<=20:=by
  intro k hk;rw[Xc];obtain rfl|rfl|rfl|rfl:k=0\/k=1\/k=2\/k=3:=o!
  .exact lF
  .exact lE
  .exact lE
  exact lF
 have pt:gn.length=4:=by rw[Xc];rfl
 rw[<-dL]at jt;rw[<-Xc]at i7;have yg:=Zd pt;have wn:=Zd jt;have vD:=Zd i7;have vE:=Zd rg;have vG:=Zd re;clear dL Xc jt i7 pt rg re B_ AX lF lE bV uR jp S5 t9 rA rB i9 x0 x1 x2 x3 x4 ka mx H4 fu ed hM mj Qh l_ mz rV BL tb h hs hn;go_loopg [11] 4 (λgg i wr=>∃k:Nat,k<=4/\gg=4 - k/\i=.int .i64 k/\Qb6 Z wr)
 case atStart=>exact⟨0,d!,rfl,rfl,Zh _ _⟩
 obtain⟨k,hk,rfl,rfl,b9⟩:=hrel;by_cases Az:k<4
 .obtain⟨x,o,bv⟩:=vE.out k Az
  have td:=vG.out k Az;obtain⟨_,p1,p2,p3,p4,p5,x0,x1,x2,x3,x4,i8⟩:=ahp wn.out o;obtain⟨be,e1,ap,e2,an,e3,am,e4,ai,e5,rfl,rfl,rfl,rfl,rfl,_⟩:=i8.vs;obtain⟨bs,os,u,vC,_,lH,H⟩:=SL.at_ (l:=gn) (a:=some ⟨qs,0,none⟩) (c:=4) (by rw[yg.out];exact vD.out) (i:=k) (by rw[yg.out];exact Az);cases vC;rw[zN]at lH;obtain⟨l,hl⟩:=Qnm (BM gn k);rw[<-hl]at H td;clear hl;obtain⟨ua,uc,rfl,_⟩:=H.val;obtain⟨V,hV⟩:=Qnm wr;subst hV;have xi:=b9.size;have rU:∀y,y<Z.heap.size->y<V.heap.size:=λy g=>o!
  have r:∀ {p:Addr} {v:Zf},Z.cell? p=some v->V.cell? p=some v:=λh=>(b9.cell (ZH _ _ h)).trans h;have jn:RC (λy=>y<V.heap.size) V (.slice be x.base.length e1) (.slice ap x.Af.length e2) (.slice an x.hooks.length e3) (.slice am x.Aa.length e4) (.slice ai x.now.length e5) x:=(i8.later b9).imp rU;have iX:SI (λy=>y<V.heap.size) V (.slice ua l.length uc) l:=Sl.imp (H.later b9) rU λ_ _ x=>x;replace x0:=r x0;replace x1:=r x1;replace x2:=r x2;replace x3:=r x3;replace x4:=r x4;replace lH:=r lH;clear r rU i8 H;have lK:=Zd (λW (m:Qb6 V W)=>aoQ (jn.later m) (λy (g:y<V.heap.size)=>by have:=m.size;omega) (by have:=bv.base;omega) (by have:=bv.Af;omega) (by have:=bv.hooks;omega) (by have:=bv.Aa;omega) (by have:=bv.now;omega) λi hi=>⟨by have:=(bv.part i hi).1;omega,by have:=(bv.part i hi).2;omega⟩);have io:=Zd (λW (m:Qb6 V W)=>WO (iX.later m) o!);have lJ:=Zd jn;have lI:=Zd iX;have TB:(k:Int)<4:=o!
  have AC:(0:Int)<=(k:Int):=o!
  have z0:=λp=>Al p x0;have z1:=λp=>Al p x1;have z2:=λp=>Al p x2;have z3:=λp=>Al p x3;have z4:=λp=>Al p x4;have z5:=λp=>Al p lH;clear jn iX;go_wp2
  rename Act->Zb->Prop=>KK
  have vw:∀(E:Zb) (t:Nat) (N M L K J ta:Option Addr) (n1 n2 n3 n4 n5 G:Nat),Qb6 V E->E.heap[t]?=some (.cells (Qe6 x N n1 M n2 L n3 K n4 J n5) 26 (0,0))->RC (λy=>y<E.heap.size) E (.slice N x.base.length n1) (.slice M x.Af.length n2) (.slice L x.hooks.length n3) (.slice K x.Aa.length n4) (.slice J x.now.length n5) x->SI (λy=>y<E.heap.size) E (.slice ta l.length G) l->KK {tmps:= #[Value.agg #[Zy a1 c.base.length c1,Zy a2 c.Af.length c2,Zy a3 c.hooks.length c3,Zy a4 c.Aa.length c4,Zy a5 c.now.length c5],Zy a6 st.length c6,Zy la nums.length lc,ZbT w,Ze,Ze,u6,ZbT b,Zy q 4 4,Zy oa own.length oc,Zy qs 4 4,ZL .i64 (k:Int),ZbT t,Zy ta l.length G,u14,u15,u16,u17,u18,u19,u20,u21,Value.agg #[Zy a1 c.base.length c1,Zy a2 c.Af.length c2,Zy a3 c.hooks.length c3,Zy a4 c.Aa.length c4,Zy a5 c.now.length c5],Value.bool false,Value.bool false,Zy a6 st.length c6,ZL .i64 (st.length:Int),Value.bool (decide (20<(st.length:Int))),Value.bool (decide (20<(st.length:Int))),Ze,Zy la nums.length lc,ZbT b,Value.agg #[Zy a1 c.base.length c1,Zy a2 c.Af.length c2,Zy a3 c.hooks.length c3,Zy a4 c.Aa.length c4,Zy a5 c.now.length c5],ZbT b,Zy q 4 4,ZbT b,Zy q 4 4,ZbT (some ⟨q,5,none⟩),Value.agg #[Zy vB s.base.length sr,Zy vA s.Af.length sq,Zy vz s.hooks.length so,Zy vy s.Aa.length se,Zy vx s.now.length rE],Zy oa own.length oc,Zy a6 st.length c6,Zy oa own.length oc,Zy oa own.length oc,Zy a6 st.length c6,Zy qs 4 4,ZL .i64 (k:Int),Zy q 4 4,ZL .i64 4,Value.bool true,u49,u50,Zy q 4 4,ZL .i64 (k:Int),ZbT (some ⟨q,k*5,none⟩),Value.agg #[Zy be x.base.length e1,Zy ap x.Af.length e2,Zy an x.hooks.length e3,Zy am x.Aa.length e4,Zy ai x.now.length e5],Value.agg #[Zy N x.base.length n1,Zy M x.Af.length n2,Zy L x.hooks.length n3,Zy K x.Aa.length n4,Zy J x.now.length n5],Zy qs 4 4,ZL .i64 (k:Int),ZbT (some ⟨qs,k,none⟩),Zy ua l.length uc,Zy ta l.length G,u61,u62,u63,u64,u65,u66,u67,u68,u69,u70,u71,u72,u73,u74,u75,u76,u77,u78,u79,u80,u81,u82,u83,u84,u85,u86,u87,u88,u89,u90,u91,u92,u93,u94,u95,u96,u97,u98,u99,u100,u101,u102,u103,u104,u105,u106,u107,u108,u109,u110,u111,u112,u113,u114,u115,u116,u117,u118,u119,u120,u121,u122,u123,u124,u125,u126,u127,u128,u129,u130,u131,u132,u133,Ze],defers:=[]} E:=by
   intro E t N M L K J ta n1 n2 n3 n4 n5 G P Ia dl ct;clear z0 z1 z2 z3 z4 z5 lK io;have yx:=P.size;have WS:=(Za.1 Ia).1;have iS:∀W,Qb6 E W->∀y,y<E.heap.size->y<W.heap.size:=λW m y g=>Zl g m.size;have ip:∀W,Qb6 V W->∀y,y<V.heap.size->y<W.heap.size:=λW m y g=>Zl g m.size;have im:=Zd (λW (m:Qb6 E W)=>c67 (dl.later m) (ct.later m) (iS W m));have ii:=Zd (λW (m:Qb6 V W)=>c68 (lJ.out.later m) (lI.out.later m) (ip W m));have g9:=Zd (λW (m:Qb6 E W)=>c69 (dl.later m) (ct.later m) (iS W m));have fH:=Zd (λW (m:Qb6 V W)=>c70 (lJ.out.later m) (lI.out.later m) (ip W m));obtain⟨ea,mt⟩:=Qnm (Ca x l);obtain⟨sv,mh⟩:=Qnm (abN x l);unfold aj0 at fH;obtain⟨fy,ma⟩:∃fy:ByteArray,fy=⟨(M3 x l).toArray⟩:=⟨_,rfl⟩;rw[<-mt]at im ii g9 fH;rw[<-mh]at im ii;rw[<-ma]at g9 fH;clear mt mh ma iS ip;have vF:=Zd dl;have wd:=Zd ct;obtain⟨g0,g1,g2,g3,g4⟩:=Qc5 Ia;clear dl ct;go_wp2;refine(im.out _ (Zh _ _)).mono ?_;rintro e Y3 ⟨va,rfl,rq,ha⟩;obtain⟨aa,ac,rfl,_⟩:=ha.val;have lG:=bU P rq;have rx:=Zd ha;clear g0 g1 g2 g3 g4 ha;have D:∀ {p:Addr} {v:Zf},V.cell? p=some v->Y3.cell? p=some v:=λh=>(lG.cell (ZH _ _ h)).trans h;obtain⟨z0,z1,z2,z3,z4⟩:=Qy5 D x0 x1 x2 x3 x4;have z5:=λp=>Al p (D lH);go_wp2;refine abn (S:=λW=>∃p,W=calm Y3 p) 14 [] (.one 8 (.free 9 (.free 10 (.free 11 (.one 12 (.one 13 .leaf)))))) [0,1,2,3,4,5,6,7] k! (λ_ _ d _ _ h=>by cases d<;>exact h) k! (AL (Zh _ _).drew) ?_;refine A4 _ _ k! ?_;simp only[Z6,zd,ZG,ZD,ZC]
   repeat (first|go_big_quiet_step (fail)|quiet_step (fail))
   refine Z4 ?_;clear z0 z1 z2 z3 z4 z5 D;change abg _ _ _ _ _ _ _ _;have lm:YH Y3 Y3 Y3.drew:=(Zh _ _).drew;refine abq (f:=13) (args:= #[.agg (Qe6 x be e1 ap e2 an e3 am e4 ai e5),.slice ua l.length uc]) rfl rfl g! ((ii.out _ (bU lG lm)).mono ?_);rintro e Y4 ⟨vb,rfl,pp,UQ⟩;obtain⟨ba,bc,rfl,_⟩:=UQ.val;have li:Qb6 Y3 Y4:=bU lm pp;have b8:∃p,Y4=calm Y3 p:=AL li;refine .inl ⟨_,rfl,.inr b8,?_⟩;refine abx (v:=.tuple #[.slice ba sv.length bc,.int .i64 ea]) b8 rfl rfl (λw _=>g!) ?_;refine abx (v:=.slice ba sv.length bc) b8 rfl rfl (λw _=>g!) ?_;refine abx (v:=.int .i64 ea) b8 rfl rfl (λw _=>g!) ?_;refine abo (v:=.slice ba sv.length bc) (w':=Y4) rfl rfl g! (.inr b8) ?_;refine abo (v:=.int .i64 ea) (w':=Y4) rfl rfl g! (.inr b8) ?_;unfold abg
   go_simp
   have fw:=bU rq li;have At:=bU P fw;have Ks:=(fw.block _ WS).trans Ia;have rr:=Zd UQ;have ru:=Zd (rx.out.later li);have s8:=lG.size;clear UQ b8 lm pp rx;obtain⟨g0,g1,g2,g3,g4⟩:=Qc5 Ks;go_wp2;refine(g9.out _ fw).mono ?_;rintro e Y5 ⟨rfl,pm⟩;have vi:=bU fw pm;have C:=bU P vi;clear g0 g1 g2 g3 g4;have D:∀ {p:Addr} {v:Zf},V.cell? p=some v->Y5.cell? p=some v:=λh=>(C.cell (ZH _ _ h)).trans h;obtain⟨z0,z1,z2,z3,z4⟩:=Qy5 D x0 x1 x2 x3 x4;have z5:=λp=>Al p (D lH);go_wp2;refine abn (S:=λW=>∃p,W=calm Y5 p) 14 [] (.one 8 (.free 9 (.free 10 (.free 11 (.one 12 (.one 13 .leaf)))))) [0,1,2,3,4,5,6,7] k! (λ_ _ d _ _ h=>by cases d<;>exact h) k! (AL (Zh _ _).drew) ?_;refine A4 _ _ k! ?_;simp only[Z6,zd,ZG,ZD,ZC]
   repeat (first|go_big_quiet_step (fail)|quiet_step (fail))
   refine Z4 ?_;clear z0 z1 z2 z3 z4 z5 D;change abg _ _ _ _ _ _ _ _;have ky:YH Y5 Y5 Y5.drew:=(Zh _ _).drew;refine abq (f:=15) (args:= #[.agg (Qe6 x be e1 ap e2 an e3 am e4 ai e5),.slice ua l.length uc]) rfl rfl g! ((fH.out _ (bU C ky)).mono ?_);rintro e Y6 ⟨rfl,pi⟩;have pd:Qb6 Y5 Y6:=bU ky pi;have rX:∃p,Y6=calm Y5 p:=AL pd;refine .inl ⟨_,rfl,.inr rX,?_⟩;refine abx (v:=.tuple #[.string fy,.int .i64 ea]) rX rfl rfl (λw _=>g!) ?_;refine abx (v:=.string fy) rX rfl rfl (λw _=>g!) ?_;refine abx (v:=.int .i64 ea) rX rfl rfl (λw _=>g!) ?_;refine abo (v:=.string fy) (w':=Y6) rfl rfl g! (.inr rX) ?_;refine abo (v:=.int .i64 ea) (w':=Y6) rfl rfl g! (.inr rX) ?_;unfold abg
   go_simp
   have kw:=bU pm pd;have ck:=bU fw kw;have n:=bU P ck;have tn:=(ck.block _ WS).trans Ia;have nm:SL (λy=>y<Y6.heap.size) Y6 (.slice aa sv.length ac) sv:=SL.imp (ru.out.later kw).sl λy g=>g.2;have ne:SL (λy=>y<Y6.heap.size) Y6 (.slice ba sv.length bc) sv:=SL.imp (rr.out.later kw).sl λy g=>g.2;have o9:RC (λy=>y<Y6.heap.size) Y6 (.slice N x.base.length n1) (.slice M x.Af.length n2) (.slice L x.hooks.length n3) (.slice K x.Aa.length n4) (.slice J x.now.length n5) x:=(vF.out.later ck).imp λy g=>Zl g ck.size;have o8:RC (λy=>y<Y6.heap.size) Y6 (.slice be x.base.length e1) (.slice ap x.Af.length e2) (.slice an x.hooks.length e3) (.slice am x.Aa.length e4) (.slice ai x.now.length e5) x:=(lJ.out.later n).imp λy g=>Zl g n.size;have ow:SI (λy=>y<Y6.heap.size) Y6 (.slice ta l.length G) l:=Sl.imp (wd.out.later ck) (λy g=>Zl g ck.size) λ_ _ x=>x;have ol:SI (λy=>y<Y6.heap.size) Y6 (.slice ua l.length uc) l:=Sl.imp (lI.out.later n) (λy g=>Zl g n.size) λ_ _ x=>x;have bi:∀W,Qb6 Y6 W->∀y,y<Y6.heap.size->y<W.heap.size:=λW m y g=>Zl g m.size;have rz:=Zd (λW (m:Qb6 Y6 W)=>c36 (o9.later m) (o8.later m) (bi W m) (bi W m));have ry:=Zd (λW (m:Qb6 Y6 W)=>show Calls Lp 16 #[.slice aa sv.length ac,.slice ba sv.length bc] W λe w'=>e=.returned (.bool true)/\Qb6 W w' from by
    have:=c37 (SL.later nm m) (SL.later ne m) (bi W m) (bi W m);rwa[show O' sv sv=true from decide_eq_true rfl]at this)
   have cL:=Zd (λW (m:Qb6 Y6 W)=>show Calls Lp 18 #[.slice ta l.length G,.slice ua l.length uc] W λe w'=>e=.returned (.bool true)/\Qb6 W w' from by
    have:=c46 (ow.later m) (ol.later m) (bi W m) (bi W m);rwa[Vu]at this)
   have D:∀ {p:Addr} {v:Zf},V.cell? p=some v->Y6.cell? p=some v:=λh=>(n.cell (ZH _ _ h)).trans h;obtain⟨z0,z1,z2,z3,z4⟩:=Qy5 D x0 x1 x2 x3 x4;have z5:=λp=>Al p (D lH);obtain⟨s0,s1,s2,s3,s4⟩:=Qz5 tn;clear o9 o8 ow ol nm ne bi D rX ky pi ru rr im ii g9 fH Ks;go_wp2;refine Av k! k! ?_
   repeat (first|go_big_quiet_step ((first|(go_at_call 17;exact AV (rz.out _ (AE _ _)))|(go_at_call 16;exact AV (ry.out _ (AE _ _)))|(go_at_call 18;exact AV (cL.out _ (AE _ _)))))|quiet_step ((first|(go_at_call 17;exact AV (rz.out _ (AE _ _)))|(go_at_call 16;exact AV (ry.out _ (AE _ _)))|(go_at_call 18;exact AV (cL.out _ (AE _ _))))))
   refine Z4 ?_;rintro _ ⟨p,rfl⟩;have yw:=AE Y6 p;obtain⟨YE,mw⟩:=Qnm (calm Y6 p);rw[<-mw]at yw⊢;clear mw z0 z1 z2 z3 z4 z5 s0 s1 s2 s3 s4;have ut:=bU b9 (bU n yw);go_wp2;go_roundg (4 - (k+1))
   case rel=>exact⟨k+1,Az,rfl,v!,ut⟩
   omega
  refine abn (S:=λW=>∃p,W=calm V p) 13 [] (.fork 4 (.fork 9 (.one 10 (.one 11 (.one 12 .leaf))) 10 (.one 9 (.one 11 (.one 12 .leaf)))) 10 (.one 4 (.one 9 (.one 11 (.one 12 .leaf))))) [0,1,2,3,5,6,7,8] k! (λ_ _ d _ _ h=>by cases d<;>exact h) k! (AL (Zh _ _).drew) ?_;refine A4 _ _ k! ?_;simp only[Z6,zd,ZG,ZD,ZC]
  repeat (first|go_big_quiet_step (fail)|quiet_step (fail))
  refine Z4 ?_;clear z0 z1 z2 z3 z4 z5;change abg _ _ _ _ _ _ _ _;have Uh:YH V V V.drew:=(Zh _ _).drew;refine adh ?hA ?hB
  case' hA=>
   refine abq (f:=10) (args:= #[.agg (Qe6 x be e1 ap e2 an e3 am e4 ai e5)]) rfl rfl g! ((lK.out _ Uh).mono ?_);rintro e W5 ⟨y1,y2,y3,y4,y5,rfl,Cj,fi⟩;have C:Qb6 V W5:=bU Uh Cj;have ci:=fi.rc;obtain⟨N,n1,M,n2,L,n3,K,n4,J,n5,rfl,rfl,rfl,rfl,rfl,_⟩:=ci.vs;clear fi;refine .inl ⟨_,rfl,.inr (AL C),?_⟩;refine adh ?oT ?aT
  case' oT=>
   refine abq (f:=11) (args:= #[.slice ua l.length uc]) rfl rfl g! ((io.out _ C).mono ?_);rintro e I ⟨v,rfl,DM,fm⟩;have n:Qb6 V I:=bU C DM;have z:=fm.si;obtain⟨ta,G,rfl,_⟩:=z.val;refine .inl ⟨_,rfl,.inr (AL n),?_⟩;obtain⟨A,O⟩:=Qnm (I.alloc (.cells Qz6 26));have U:Qb6 I A:=by rw[O];exact bA (Zh _ _)
   have yp:A.heap[I.heap.size]?=some (.cells Qz6 26 (0,0)):=by rw[O];exact Bp _ _
   have F:Qb6 V A:=bU n U;have H_:V<=I.heap.size:=(n).size;refine abo (v:=.pointer I) (w':=A) rfl rfl (by rw[O];go_simp) (.inr (AL F)) ?_;have lL:A=I.heap.size+1:=by rw[O,ZB]
   obtain⟨t,Q⟩:=Qnm I.heap.size;have n7:t<=I.heap.size/\I<=t:=o!
   rw[<-Q]at yp H_⊢;clear Q O;have no:=DM.size;have fJ:=((ci.later DM).later U).imp (T:=λy=>y<A.heap.size/\y≠t) λy g=>by have:=g.2;omega
   have z:=Sl.imp (z.later U) (T:=λy=>y<A.heap.size/\y≠t) (λy g=>by have:=g.2;omega) λ_ _ x=>x;have fK:=F;obtain⟨Y,hY⟩:=Qnm A;subst hY
  case' aT=>
   obtain⟨A,O⟩:=Qnm (W5.alloc (.cells Qz6 26));have U:Qb6 W5 A:=by rw[O];exact bA (Zh _ _)
   have yp:A.heap[W5.heap.size]?=some (.cells Qz6 26 (0,0)):=by rw[O];exact Bp _ _
   have F:Qb6 V A:=bU C U;have H_:V<=W5.heap.size:=(C).size;refine abo (v:=.pointer W5) (w':=A) rfl rfl (by rw[O];go_simp) (.inr (AL F)) ?_;have lL:A=W5.heap.size+1:=by rw[O,ZB]
   obtain⟨t,Q⟩:=Qnm W5.heap.size;have n7:t<=W5.heap.size/\W5<=t:=o!
   rw[<-Q]at yp H_⊢;clear Q O;refine abq (f:=11) (args:= #[.slice ua l.length uc]) rfl rfl g! ((io.out _ F).mono ?_);rintro e I ⟨v,rfl,DM,fm⟩;have n:Qb6 V I:=bU F DM;have z:=fm.si;obtain⟨ta,G,rfl,_⟩:=z.val;refine .inl ⟨_,rfl,.inr (AL n),?_⟩;have no:=DM.size;have fJ:=((ci.later U).later DM).imp (T:=λy=>y<I.heap.size/\y≠t) λy g=>by have:=g.2;omega
   have z:=Sl.imp z (T:=λy=>y<I.heap.size/\y≠t) (λy g=>by have:=g.1;have:=g.2;omega) λ_ _ x=>x;have yp:=(DM.block _ (Za.1 yp).1).trans yp;have fK:=n;obtain⟨Y,hY⟩:=Qnm I;subst hY
  case' hB=>
   obtain⟨A,O⟩:=Qnm (V.drew.alloc (.cells Qz6 26));have U:YH V.drew V.drew A:=by rw[O];exact bA (Zh _ _)
   have yp:A.heap[V.drew.heap.size]?=some (.cells Qz6 26 (0,0)):=by rw[O];exact Bp _ _
   have F:Qb6 V A:=bU Uh U;have H_:V<=V.drew.heap.size:=(Uh).size;refine abo (v:=.pointer V.drew) (w':=A) rfl rfl (by rw[O];go_simp) (.inr (AL F)) ?_;have lL:A=V.drew.heap.size+1:=by rw[O,ZB]
   obtain⟨t,Q⟩:=Qnm V.drew.heap.size;have n7:t<=V.drew.heap.size/\V.drew<=t:=o!
   rw[<-Q]at yp H_⊢;clear Q O;refine abq (f:=10) (args:= #[.agg (Qe6 x be e1 ap e2 an e3 am e4 ai e5)]) rfl rfl g! ((lK.out _ F).mono ?_);rintro e W5 ⟨y1,y2,y3,y4,y5,rfl,Cj,fi⟩;have C:Qb6 V W5:=bU F Cj;have ci:=fi.rc;obtain⟨N,n1,M,n2,L,n3,K,n4,J,n5,rfl,rfl,rfl,rfl,rfl,_⟩:=ci.vs;clear fi;refine .inl ⟨_,rfl,.inr (AL C),?_⟩;refine abq (f:=11) (args:= #[.slice ua l.length uc]) rfl rfl g! ((io.out _ C).mono ?_);rintro e I ⟨v,rfl,DM,fm⟩;have n:Qb6 V I:=bU C DM;have z:=fm.si;obtain⟨ta,G,rfl,_⟩:=z.val;refine .inl ⟨_,rfl,.inr (AL n),?_⟩;have no:=DM.size;have p9:=Cj.size;have fJ:=(ci.later DM).imp (T:=λy=>y<I.heap.size/\y≠t) λy g=>by have:=g.1;have:=g.2;omega
   have z:=Sl.imp z (T:=λy=>y<I.heap.size/\y≠t) (λy g=>by have:=g.1;have:=g.2;omega) λ_ _ x=>x;have yp:=(DM.block _ (by have:=(Za.1 yp).1;have:=Cj.size;omega)).trans ((Cj.block _ (Za.1 yp).1).trans yp);have fK:=n;obtain⟨Y,hY⟩:=Qnm I;subst hY
  all_goals
   obtain⟨g0,g1,g2,g3,g4⟩:=Qc5 yp;obtain⟨f0,f1,f2,f3,f4⟩:=Qf5 yp;obtain⟨E,rD⟩:=Qnm ((((((Y.setCell t (.slice N x.base.length n1)).setCell ⟨t,1,none⟩ (.slice M x.Af.length n2)).setCell ⟨t,2,none⟩ (.slice L x.hooks.length n3)).setCell ⟨t,3,none⟩ (.slice K x.Aa.length n4)).setCell ⟨t,4,none⟩ (.slice J x.now.length n5)));have D3:Ak (λy=>y=t) Y E:=by rw[rD];exact(Ak.refl (λy=>y=t) Y).DT.DT.DT.DT.DT
   have P:Qb6 V E:=by rw[rD];exact bS (bS (bS (bS (bS fK H_) H_) H_) H_) H_
   have Ia:E.heap[t]?=some (.cells (Qe6 x N n1 M n2 L n3 K n4 J n5) 26 (0,0)):=by rw[rD];exact Ba (Ba (Ba (Ba (Ba yp _) _) _) _) _
   refine agi (w':=E) rfl rfl (by rw[rD];go_simp) (.inr (AL P)) ?_;refine abo (v:=.slice ta l.length G) (w':=E) rfl rfl g! (.inr (AL P)) ?_;clear rD g0 g1 g2 g3 g4 f0 f1 f2 f3 f4;unfold abg
   go_simp
   have yq:=D3.size;have dl:=(fJ.Ar (D3.same λy g=>show¬y=t from g.2)).imp (T:=λy=>y<E.heap.size) λy g=>by have:=g.1;show y<E;omega
   have ct:=Sl.imp (Sl.Ar z (D3.same λy g=>show¬y=t from g.2) λ_ _ x=>x) (T:=λy=>y<E.heap.size) (λy g=>by have:=g.1;show y<E;omega) λ_ _ x=>x;clear fJ z yp fK D3;exact vw _ _ _ _ _ _ _ _ _ _ _ _ _ _ P Ia dl ct
 have Lc:=bU pu b9;have un:=us.later b9;go_wp2_with (go_at_call 6;refine(c26 _ un).mono ?_;rintro e V ⟨Ui,rfl|⟨x,rfl,Ss⟩⟩)
 .go_ret
  exact⟨bU Lc Ui,.inl rfl⟩
 exact⟨rfl,bU Lc Ui,.inr ⟨_,rfl,Ss⟩⟩
end Go.Proofs.Fit
namespace Go.Proofs.YtbhpocnedbajlaaGreatDoor
open Go Go.Conc Go.RowKit Go.Proofs.Fit
set_option maxRecDepth 100000
def afN:(Rows.seamSamesRow.inPlace==Tryz.prog.inPlace 3)=true:=k!
def adP:(Rows.seamSamesRow.unfollowed==Tryz.prog.unfollowed 3)=true:=k!
def afb:(Rows.seamSamesRow.recurses==Tryz.prog.recurses 3)=true:=k!
def ai8:(Rows.seamSamesRow.named==Tryz.prog.varsNamed 3)=true:=k!
def ai9:joinedFacts Zc 3 Tryz.f3 Rows.seamSamesSpec Rows.seamSamesRow=true:=
 kQ k! k! k! k! k! afN adP afb ai8 k! k! k! k! k! k! k! k! k! rfl rfl rfl rfl rfl rfl k! k! k!
def ahK (os:Os)(a:os.Started)(H:Type)(enc:Zs×Zf->H):ReturnsInLeavingWide {} Tryz.checked os 3 .any (λw args=>(Rows.seamSamesSpec.pre enc Zc Tryz.f3 [] false w args/\laidMetH Zc PT w)/\sizedMet enc Zc Tryz.f3 (ZbV Rows.seamSamesSpec) false w args)
   (Rows.seamSamesSpec.post enc Zc Tryz.f3 false true false false):=
 eO (s:=Rows.seamSamesSpec) a rfl rfl Tryz.func3 rfl rfl k! k! rfl k! (λf h=>by
    match f,h with
    | [_,_,_],_=>rfl)
   (ChangeSpec.witness_shaped (enc:=enc) (C:=Tryz.checked) (os:=os) (X:=λw _=>laidMetH Zc PT w) false (Vg os) #[.agg #[(),(),(),(),()],(),()] 8 rfl (World.shaped_of_RefB k! k!) k! k! k! (Ub os _))
   (λW base args f t b j _ d=>ahP rfl b j d λw q p o n m l k c r e h g i d=>akc h g i d)
def akt:Rows.SeamSamesSaid:=
 OpenClaim.holds_of_wide_leaving 3 Tryz.f3 rfl rfl rfl rfl rfl rfl rfl ⟨rfl,rfl,rfl,rfl,rfl⟩ rfl rfl rfl rfl rfl k! Tryz.func3 ai9
  (of_decide_eq_true k!) (by unfold Func.isWrapper;rw[if_neg (by decide+kernel)];exact⟨rfl,rfl⟩) (λc a H b _=>ahK c a H b)
def ajy:true=Rows.seamSamesRow.goesBy Tryz.pinned.checked.prog:=k!
theorem sames_holds:Rows.SeamSamesCardSaid:=
 kM [.handle] (true,"daf1fffbe909b58b3bc96c1e7b2812a59cb8545c37cdf1cf7a3b0b79339050e3") akt k! (OpenClaim.laidByTextAt_later rfl rfl qd abD) rfl ⟨rfl,rfl⟩ uI
  (λf fn c d=>by
   obtain rfl:f=3:=ZW ((show Tryz.prog.funcNamed "galloon/galloonlaw02.SeamSames" =some 3 by kernel_rfl).symm.trans c)|>.symm;obtain rfl:fn=Tryz.f3:=(ZW (Tryz.func3.symm.trans d)).symm;exact⟨abE,λj t a=>by
    have b:t∈ [26,22,22]:=by simpa using zY a
    have e:([26,22,22].all λu=> !Tryz.prog.wantsStandIn u)=true:=k!
    exact(show Tryz.prog.wantsStandIn t=false by simpa using Zdm.1 e t b)⟩)
  ajy
#print axioms sames_holds
end Go.Proofs.YtbhpocnedbajlaaGreatDoor
