/- SeamSewns: for every costume, every setting and every list of numbers, on every schedule and without a data race, the law returns true, and the arguments read afterwards as they read before. Conditions: those of the given row alone (the variable errors.errorType starts as the program's text lays it; the card ties that to the text). -/
import Derived.Test.YtpglimkffholhaaGreatDoorQ08
import Derived.Test.YtpglimkffholhaaGreatDoorQ11
import Derived.Lib.MinMax
set_option maxRecDepth 100000
set_option maxHeartbeats 6400000
noncomputable section
set_option linter.all false
open And renaming intro->ZY
open Array renaming toList_setIfInBounds->ZcM,replicate->Yu,getElem?_eq_some_iff->Za,getElem?_setIfInBounds_ne->Zk,getElem?_setIfInBounds_self_of_lt->ZV,getElem?_eq_getElem->Zx,mem_of_getElem?->zY
open Bool renaming and_eq_true->ZF,eq_iff_iff->ZcG
open Go renaming Value->Zf,World->Zb,callFunc->Zz,TypeId->Zs,Program->Zo,FuncId->ZaQ,Operand->Zbv,below_drewN->Y5,undef->Ze,loadVar->Zdd,bodyPost_ret->ZN,wpQuiet_nil->Z4,YieldsIf->ZbF,wpOp_mono->Zcc,wp_region_any->Zd5,execOp->Zby,info_parts->zp,wpList_append_own->Yc,wp_append_own->Zak,ownsRow_succ->Zay
open Go.Act renaming put->Zck
open Go.Addr renaming add->Zcu
open Go.Calls renaming quiet_of_same->Zb5
open Go.Code renaming region->zU
open Go.DataW renaming TrodAll->Za9
open Go.Ending renaming returned->Zbx
open Go.Instr renaming field->ZdO,makeSlice->Zdp
open Go.IntKind renaming wrap_i64->zE
open Go.IntWalk renaming i64_in->ZcD
open Go.Lib renaming hid->Zd
open Go.Obj renaming cells->Zbi
open Go.OpenSpec renaming ofChange->ZbV
open Go.Oper renaming semAt_some->Zdk,wp->ZbA,upon_value->Zdi,upon_enter->Zdj,upon_skip->ZcQ
open Go.Proofs.Tryz renaming prog->Zc,underlying22->YE,underlying23->Zdg
open Go.Region renaming Mode->YO,ready->zs,free->Za3,noSelect->YF,wanted->Yf
open Go.Result renaming andThen->zu
open Go.RowKit renaming Below->YH
open Go.RowKit.Below renaming refl->Zh
open Go.Sem renaming run_bind->zg
open Go.Value renaming okWide->Zbk,int->ZL,slice->Zy,pointer->ZbT
open Go.World renaming size_alloc->ZB,block_lt_of_cell?->ZH,ownsRow_nil->zq,ownsRow_made->YC
open List renaming getElem?_eq_getElem->zf,mem_of_getElem?->Z3,mem_singleton->Yh,ext_getElem?->YA,getElem?_eq_none->ZP,range->Yr,getD_eq_getElem?_getD->Y6,pairwise_iff_getElem->ZdK,getElem_of_mem->Zas,all_eq_true->Zdm,length_set->ZcC,length_take->ZcV,drop_eq_getElem_cons->ZO,take_add_one->ZbH,drop_eq_nil_iff->Z7,take_of_length_le->Zb3,getElem?_eq_some_iff->Zm,getElem?_take_of_lt->Z2,getElem?_drop->Yl,nil_append->zP,filterMap_cons->Z6,filterMap_nil->zd,getElem?_toArray->ZG,getElem?_cons_succ->ZD,getElem?_cons_zero->ZC,getElem?_map->YL,length_append->ZA,eq_nil_of_length_eq_zero->YM,length_cons->zb,take_length->ZcU,getElem?_set_ne->ZS
open Nat renaming zero_le->Zp,not_lt_zero->ZbY,zero_add->zN,le_refl->Zj,lt_of_lt_of_le->Zl,pow_le_pow_right->YX,two_pow_pos->Zdz,le_trans->Zr,le_of_eq->ZcS
open Option renaming bind_eq_some_iff->ZX
open Option.some renaming inj->ZW
open True renaming intro->Yz
namespace Go.Proofs.Fit
open Go
@[simp] def Lp.func9:Lp.funcs[3]?=some Tryz.f3:=(AP.same 3 rfl rfl).trans Tryz.func3
@[simp] def Lp.func25:Lp.funcs[4]?=some Tryz.f4:=(AP.same 4 rfl rfl).trans Tryz.func4
@[simp] def Lp.call25 (args:Array Zf)(w:Zb):(Zz 4 args).run Lp w=.ok (.enter 4 args) w:=Ao Lp 4 Lp.func25 rfl rfl args w
@[simp] def Lp.call27 (args:Array Zf)(w:Zb):(Zz 6 args).run Lp w=.ok (.enter 6 args) w:=Ao Lp 6 Lp.func27 rfl rfl args w
@[simp] def Lp.func28:Lp.funcs[7]?=some Tryz.f7:=(AP.same 7 rfl rfl).trans Tryz.func7
@[simp] def Lp.call28 (args:Array Zf)(w:Zb):(Zz 7 args).run Lp w=.ok (.enter 7 args) w:=Ao Lp 7 Lp.func28 rfl rfl args w
@[simp] def Lp.func36:Lp.funcs[18]?=some Tryz.f18:=(AP.same 18 rfl rfl).trans Tryz.func18
@[simp] def Lp.call36 (args:Array Zf)(w:Zb):(Zz 18 args).run Lp w=.ok (.enter 18 args) w:=Ao Lp 18 Lp.func36 rfl rfl args w
@[simp] def Lp.func43:Lp.funcs[42]?=some Tryz.f42:=(AP.same 42 rfl rfl).trans Tryz.func42
@[simp] def Lp.call43 (args:Array Zf)(w:Zb):(Zz 42 args).run Lp w=.ok (.enter 42 args) w:=Ao Lp 42 Lp.func43 rfl rfl args w
@[simp] def Lp.func50:Lp.funcs[63]?=some Tryz.f63:=(AP.same 63 rfl rfl).trans Tryz.func63
@[simp] def Lp.call50 (args:Array Zf)(w:Zb):(Zz 63 args).run Lp w=.ok (.enter 63 args) w:=Ao Lp 63 Lp.func50 rfl rfl args w
@[simp] def Lp.func51:Lp.funcs[11]?=some Tryz.f11:=(AP.same 11 rfl rfl).trans Tryz.func11
@[simp] def Lp.call51 (args:Array Zf)(w:Zb):(Zz 11 args).run Lp w=.ok (.enter 11 args) w:=Ao Lp 11 Lp.func51 rfl rfl args w
@[simp] def Lp.func57:Lp.funcs[12]?=some Tryz.f12:=(AP.same 12 rfl rfl).trans Tryz.func12
@[simp] def Lp.call57 (args:Array Zf)(w:Zb):(Zz 12 args).run Lp w=.ok (.enter 12 args) w:=Ao Lp 12 Lp.func57 rfl rfl args w
@[simp] def Lp.func58:Lp.funcs[14]?=some Tryz.f14:=(AP.same 14 rfl rfl).trans Tryz.func14
@[simp] def Lp.call58 (args:Array Zf)(w:Zb):(Zz 14 args).run Lp w=.ok (.enter 14 args) w:=Ao Lp 14 Lp.func58 rfl rfl args w
@[simp] def Lp.func59:Lp.funcs[16]?=some Tryz.f16:=(AP.same 16 rfl rfl).trans Tryz.func16
@[simp] def Lp.call59 (args:Array Zf)(w:Zb):(Zz 16 args).run Lp w=.ok (.enter 16 args) w:=Ao Lp 16 Lp.func59 rfl rfl args w
@[simp] def Lp.func60:Lp.funcs[17]?=some Tryz.f17:=(AP.same 17 rfl rfl).trans Tryz.func17
@[simp] def Lp.call60 (args:Array Zf)(w:Zb):(Zz 17 args).run Lp w=.ok (.enter 17 args) w:=Ao Lp 17 Lp.func60 rfl rfl args w
@[simp] def Lp.func93:Lp.funcs[64]?=some Tryz.f64:=(AP.same 64 rfl rfl).trans Tryz.func64
@[simp] def Lp.call93 (args:Array Zf)(w:Zb):(Zz 64 args).run Lp w=.ok (.enter 64 args) w:=Ao Lp 64 Lp.func93 rfl rfl args w
@[simp] def Lp.func94:Lp.funcs[36]?=some Tryz.f36:=(AP.same 36 rfl rfl).trans Tryz.func36
@[simp] def Lp.call94 (args:Array Zf)(w:Zb):(Zz 36 args).run Lp w=.ok (.enter 36 args) w:=Ao Lp 36 Lp.func94 rfl rfl args w
@[simp] def Lp.func95:Lp.funcs[35]?=some Tryz.f35:=(AP.same 35 rfl rfl).trans Tryz.func35
@[simp] def Lp.call95 (args:Array Zf)(w:Zb):(Zz 35 args).run Lp w=.ok (.enter 35 args) w:=Ao Lp 35 Lp.func95 rfl rfl args w
@[simp] def Lp.func96:Lp.funcs[41]?=some Tryz.f41:=(AP.same 41 rfl rfl).trans Tryz.func41
@[simp] def Lp.call96 (args:Array Zf)(w:Zb):(Zz 41 args).run Lp w=.ok (.enter 41 args) w:=Ao Lp 41 Lp.func96 rfl rfl args w
@[simp] def Lp.func97:Lp.funcs[43]?=some Tryz.f43:=(AP.same 43 rfl rfl).trans Tryz.func43
@[simp] def Lp.call97 (args:Array Zf)(w:Zb):(Zz 43 args).run Lp w=.ok (.enter 43 args) w:=Ao Lp 43 Lp.func97 rfl rfl args w
@[simp] def Lp.func107:Lp.funcs[88]?=some Tryz.f88:=(AP.same 88 rfl rfl).trans Tryz.func88
@[simp] def Lp.call107 (args:Array Zf)(w:Zb):(Zz 88 args).run Lp w=.ok (.enter 88 args) w:=Ao Lp 88 Lp.func107 rfl rfl args w
@[simp] def Lp.func114:Lp.funcs[34]?=some Tryz.f34:=(AP.same 34 rfl rfl).trans Tryz.func34
@[simp] def Lp.call114 (args:Array Zf)(w:Zb):(Zz 34 args).run Lp w=.ok (.enter 34 args) w:=Ao Lp 34 Lp.func114 rfl rfl args w
@[simp] def Lp.func116:Lp.funcs[87]?=some Tryz.f87:=(AP.same 87 rfl rfl).trans Tryz.func87
@[simp] def Lp.call116 (args:Array Zf)(w:Zb):(Zz 87 args).run Lp w=.ok (.enter 87 args) w:=Ao Lp 87 Lp.func116 rfl rfl args w
@[simp] def Lp.func117:Lp.funcs[89]?=some Tryz.f89:=(AP.same 89 rfl rfl).trans Tryz.func89
@[simp] def Lp.call117 (args:Array Zf)(w:Zb):(Zz 89 args).run Lp w=.ok (.enter 89 args) w:=Ao Lp 89 Lp.func117 rfl rfl args w
@[simp] def Lp.func118:Lp.funcs[65]?=some Tryz.f65:=(AP.same 65 rfl rfl).trans Tryz.func65
@[simp] def Lp.call118 (args:Array Zf)(w:Zb):(Zz 65 args).run Lp w=.ok (.enter 65 args) w:=Ao Lp 65 Lp.func118 rfl rfl args w
@[simp] def Lp.func125:Lp.funcs[39]?=some Tryz.f39:=(AP.same 39 rfl rfl).trans Tryz.func39
@[simp] def Lp.call125 (args:Array Zf)(w:Zb):(Zz 39 args).run Lp w=.ok (.enter 39 args) w:=Ao Lp 39 Lp.func125 rfl rfl args w
@[simp] def Lp.func135:Lp.funcs[90]?=some Tryz.f90:=(AP.same 90 rfl rfl).trans Tryz.func90
@[simp] def Lp.call135 (args:Array Zf)(w:Zb):(Zz 90 args).run Lp w=.ok (.enter 90 args) w:=Ao Lp 90 Lp.func135 rfl rfl args w
@[simp] def Lp.func160:Lp.funcs[117]?=some Tryz.f117:=(AP.same 117 rfl rfl).trans Tryz.func117
@[simp] def Lp.call160 (args:Array Zf)(w:Zb):(Zz 117 args).run Lp w=.ok (.enter 117 args) w:=Ao Lp 117 Lp.func160 rfl rfl args w
end Go.Proofs.Fit
namespace Go.Proofs.Fit
open Go Go.Conc Go.FA Go.RowKit
variable {W w A B w':Zb}
variable {n k b g cap i j q M:Nat}
variable {v v1 v2 v3 v4 v5 v' v6 u2 u1 u4 u5 lv:Zf}
def aef {a:Addr}{c:Nat}(h:W.cell? (a.add k)=some v):VR (Qk W) (.slice (some a) n c) (.slice (some a) n c):=by
 obtain⟨_,_,_,b⟩:=Sp h;rw[CF]at b;exact .slice n c ⟨pA b,rfl,rfl⟩
end Go.Proofs.Fit
namespace Go.Proofs.Fit
open Go
def aa1:Tryz.f3.ntmps=165:=rfl
def n25:Tryz.f4.ntmps=57:=rfl
def n28:Tryz.f7.ntmps=63:=rfl
def n36:Tryz.f18.ntmps=64:=rfl
def n43:Tryz.f42.ntmps=26:=rfl
def n50:Tryz.f63.ntmps=50:=rfl
def n51:Tryz.f11.ntmps=19:=rfl
def n57:Tryz.f12.ntmps=22:=rfl
def n58:Tryz.f14.ntmps=86:=rfl
def n59:Tryz.f16.ntmps=25:=rfl
def n60:Tryz.f17.ntmps=21:=rfl
def n93:Tryz.f64.ntmps=42:=rfl
def n94:Tryz.f36.ntmps=26:=rfl
def n95:Tryz.f35.ntmps=72:=rfl
def n96:Tryz.f41.ntmps=40:=rfl
def n97:Tryz.f43.ntmps=60:=rfl
def amb:Tryz.f88.ntmps=10:=rfl
def amc:Tryz.f34.ntmps=14:=rfl
def amd:Tryz.f87.ntmps=94:=rfl
def ame:Tryz.f89.ntmps=84:=rfl
def amf:Tryz.f65.ntmps=60:=rfl
def amg:Tryz.f39.ntmps=18:=rfl
def amh:Tryz.f90.ntmps=15:=rfl
def ami:Tryz.f117.ntmps=57:=rfl
end Go.Proofs.Fit
namespace Go.Proofs.Fit
open Go Go.RowKit
variable {H α:Type}
variable {W w A B w':Zb}
def ad9 {enc:Zs×Zf->H}{P:Zo}{base:Nat}{c:Nat->Bool}{d:Bool}{t:Zs}{f0 e:Field}(ht:P.underlying t=some (.struct #[f0,e]))(s:P.cellsOf t=2)(z:P.underlying f0.type=some (.int .i64))(x:P.underlying e.type=some (.int .i64))(C:P.cellsOf f0.type=1)(B:P.cellsOf e.type=1)(p:f0.offset=0)(o:e.offset=1):
  Reads enc P w base c d t Rp:=by
 intro n A y q;obtain⟨l,m,_,_,j,r,k⟩:=DataW.trod_struct ht q;have g:=k 0 f0 rfl;have f:=k 1 e rfl;rw[C,p]at g;rw[B,o]at f;have D:l.length=2:=r;rw[zf (by omega)]at g f;obtain⟨a,i⟩:=kJ z _ _ _ g;obtain⟨b,h⟩:=kJ x _ _ _ f;rw[s]at j
 match A,j with
 | [u,v],_=>
  unfold Ri at i h;simp at i h;exact⟨(a,b),by unfold Rp;rw[i,h]⟩
end Go.Proofs.Fit
namespace Go.Proofs.Fit
open Go Go.Conc Go.FA Go.ChangeShapes Go.WideShapes Go.RowKit
set_option maxRecDepth 100000
def Nr (w:Zb)(v:Zf):Prop:=(∃n c,v=.slice none n c)\/(∃a,v=.slice (some a) 0 0)\/∃a n c k u,v=.slice (some a) n c/\w.cell? (a.add k)=some u
variable {W w A B w':Zb}
variable {v v1 v2 v3 v4 v5 v' v6 u2 u1 u4 u5 lv:Zf}
def Nr.aa0 (h:Nr W v):VR (Qk W) v v:=by
 rcases h with⟨n,c,rfl⟩|⟨a,rfl⟩|⟨a,n,c,k,u,rfl,h⟩
 .exact .slice (a:=none) n c trivial
 .exact .void _ _
 exact aef h
section
variable {H:Type}{enc:Zs×Zf->H}{P:Zo}{w:Zb}{base:Nat}{held:Bool}{α:Type}
variable {e:Zs}
variable {n k b g cap i j q M:Nat}
def reads_held {t:Zs}{R:Zb->List Zf->α->Prop}(ht:P.underlying t=some (.slice e))(r:P.cellsOf e=k)(hp:0<k)(h:Reads enc P w base (λ_=>true) held e R):
  Reads enc P w base (λ_=>true) held t (λw cs (l:List α)=>∃v,cs=[v]/\Sl (Lv w) R k w v l/\Nr w v):=by
 intro n cs y j;obtain⟨l,v,rfl,q⟩:=bW ht r hp h n cs y j;refine⟨l,v,rfl,q,?_⟩;rcases DataW.trod_slice ht j with⟨e,_⟩|⟨a,b,cap,f,g,o,_,e,_,_,p,_,m,c,x,_⟩
 .cases e;exact .inl ⟨_,_,rfl⟩
 cases e;by_cases u:cap=0
 .obtain rfl:b=0:=by omega
  subst u;exact .inr (.inl ⟨_,rfl⟩)
 have go:∀i:Nat,(∃y,(w.cells? base (a.add (i*P.cellsOf e)) (P.cellsOf e)).bind (DataW.trod enc P w base (λ_=>true) held o e)=some y)->Nr w (.slice (some a) b cap):=λi ⟨y,h⟩=>by
  obtain⟨C,d,_⟩:=ZX.1 h;obtain⟨A,s⟩:=bR d;have:=s 0 _ (zf (by omega));rw[Addr.add_zero']at this;exact .inr (.inr ⟨a,b,cap,_,_,rfl,this⟩)
 by_cases z:b=0
 .obtain⟨B,d⟩:=x rfl
  exact go (b+0) ⟨_,(d 0 (by omega)).trans (zf (by omega))⟩
 exact go 0 ⟨_,(c 0 (by omega)).trans (zf (by omega))⟩
end
def RsH (w:Zb)(cs:List Zf)(s:Ay):Prop:=∃v2 v3,cs=[.int .i64 s.low,.int .i64 s.high,v2,v3,.int .i64 s.left]/\SP (Lv w) w v2 s.Ap/\SI (Lv w) w v3 s.over/\Nr w v2/\Nr w v3
section
variable {H:Type}{enc:Zs×Zf->H}{w:Zb}{base:Nat}{held:Bool}
def ahw:Tryz.prog.cellsOf 3=1:=by kernel_rfl
def aeQ:Tryz.prog.cellsOf 22=1:=by kernel_rfl
def ajF:Tryz.prog.cellsOf 23=1:=by kernel_rfl
def ajG:Tryz.prog.cellsOf 24=1:=by kernel_rfl
def ajH:Tryz.prog.cellsOf 45=1:=by kernel_rfl
def aif:Tryz.prog.cellsOf 47=5:=by kernel_rfl
def ajI:Tryz.prog.cellsOf 26=5:=by kernel_rfl
def ad7:Reads enc Zc w base (λ_=>true) held 3 Ri:=kJ (by kernel_rfl)
def abK:Reads enc Zc w base (λ_=>true) held 22 (λw cs (l:List Int)=>∃v,cs=[v]/\SI (Lv w) w v l/\Nr w v):=
 reads_held (t:=22) (e:=3) (by kernel_rfl) ahw (by decide) ad7
def adC:Reads enc Zc w base (λ_=>true) held 45 (λw cs (l:List (Int×Int))=>∃v,cs=[v]/\SP (Lv w) w v l/\Nr w v):=
 reads_held (t:=45) (e:=88) (by kernel_rfl) (by kernel_rfl) (by decide) (ad9 Tryz.underlying88 (by kernel_rfl) (by kernel_rfl) (by kernel_rfl) (by kernel_rfl) (by kernel_rfl) rfl rfl)
def adD:Reads enc Zc w base (λ_=>true) held 23 (λw cs (l:List (Int×Int))=>∃v,cs=[v]/\SP (Lv w) w v l/\Nr w v):=
 reads_held (t:=23) (e:=67) (by kernel_rfl) (by kernel_rfl) (by decide) (ad9 Tryz.underlying67 (by kernel_rfl) (by kernel_rfl) (by kernel_rfl) (by kernel_rfl) (by kernel_rfl) rfl rfl)
def aej:Reads enc Zc w base (λ_=>true) held 47 RsH:=by
 intro n b y s;obtain⟨a,m,_,_,l,t,c⟩:=DataW.trod_struct Tryz.underlying47 s;have D:a.length=5:=t;have k:DataW.trod enc Zc w base (λ_=>true) held m 3 ((b.drop 0).take (Tryz.prog.cellsOf 3))=a[0]? :=c 0 _ rfl;have j:DataW.trod enc Zc w base (λ_=>true) held m 3 ((b.drop 1).take (Tryz.prog.cellsOf 3))=a[1]? :=c 1 _ rfl;have i:DataW.trod enc Zc w base (λ_=>true) held m 45 ((b.drop 2).take (Tryz.prog.cellsOf 45))=a[2]? :=c 2 _ rfl;have h:DataW.trod enc Zc w base (λ_=>true) held m 22 ((b.drop 3).take (Tryz.prog.cellsOf 22))=a[3]? :=c 3 _ rfl;have g:DataW.trod enc Zc w base (λ_=>true) held m 3 ((b.drop 4).take (Tryz.prog.cellsOf 3))=a[4]? :=c 4 _ rfl;rw[ahw,zf (by omega)]at k;rw[ahw,zf (by omega)]at j;rw[ajH,zf (by omega)]at i;rw[aeQ,zf (by omega)]at h;rw[ahw,zf (by omega)]at g;rw[aif]at l;obtain⟨C,f⟩:=ad7 _ _ _ k;obtain⟨B,e⟩:=ad7 _ _ _ j;obtain⟨A,v⟩:=adC _ _ _ i;obtain⟨z,u⟩:=abK _ _ _ h;obtain⟨x,d⟩:=ad7 _ _ _ g
 match b,l with
 | [u0,u1,u2,u3,u4],_=>
  unfold Ri at f e d;obtain⟨v2,p,r,d2⟩:=v;obtain⟨v3,o,q,d3⟩:=u;simp at f e p o d;exact⟨⟨C,B,A,z,x⟩,v2,v3,by rw[f,e,d,p,o],r,q,d2,d3⟩
def adE:Reads enc Zc w base (λ_=>true) held 24 (λw cs (l:List Ay)=>∃v,cs=[v]/\Sl (Lv w) RsH 5 w v l/\Nr w v):=
 reads_held (t:=24) (e:=47) (by kernel_rfl) aif (by decide) aej
structure InC (w:Zb)(v1 v2 v3 v4 v5:Zf)(c:A_):Prop where
 base:SI (Lv w) w v1 c.base/\Nr w v1
 Af:SP (Lv w) w v2 c.Af/\Nr w v2
 hooks:SI (Lv w) w v3 c.hooks/\Nr w v3
 Aa:Sl (Lv w) RsH 5 w v4 c.Aa/\Nr w v4
 now:SI (Lv w) w v5 c.now/\Nr w v5
def adi:Reads enc Zc w base (λ_=>true) held 26 (λw cs (c:A_)=>∃v1 v2 v3 v4 v5,cs=[v1,v2,v3,v4,v5]/\InC w v1 v2 v3 v4 v5 c):=by
 intro n cs y r;obtain⟨a,m,_,_,i,s,b⟩:=DataW.trod_struct Tryz.underlying26 r;have F:a.length=5:=s;have h:DataW.trod enc Zc w base (λ_=>true) held m 22 ((cs.drop 0).take (Tryz.prog.cellsOf 22))=a[0]? :=b 0 _ rfl;have g:DataW.trod enc Zc w base (λ_=>true) held m 23 ((cs.drop 1).take (Tryz.prog.cellsOf 23))=a[1]? :=b 1 _ rfl;have f:DataW.trod enc Zc w base (λ_=>true) held m 22 ((cs.drop 2).take (Tryz.prog.cellsOf 22))=a[2]? :=b 2 _ rfl;have e:DataW.trod enc Zc w base (λ_=>true) held m 24 ((cs.drop 3).take (Tryz.prog.cellsOf 24))=a[3]? :=b 3 _ rfl;have d:DataW.trod enc Zc w base (λ_=>true) held m 22 ((cs.drop 4).take (Tryz.prog.cellsOf 22))=a[4]? :=b 4 _ rfl;rw[aeQ,zf (by omega)]at h;rw[ajF,zf (by omega)]at g;rw[aeQ,zf (by omega)]at f;rw[ajG,zf (by omega)]at e;rw[aeQ,zf (by omega)]at d;rw[ajI]at i;obtain⟨E,q,p,z⟩:=abK _ _ _ h;obtain⟨D,v1,o,x⟩:=adD _ _ _ g;obtain⟨C,v2,l,v⟩:=abK _ _ _ f;obtain⟨B,v3,k,u⟩:=adE _ _ _ e;obtain⟨A,v4,j,t⟩:=abK _ _ _ d
 match cs,i with
 | [u0,u1,u2,u3,u4],_=>
  simp at p o l k j;exact⟨⟨E,D,C,B,A⟩,q,v1,v2,v3,v4,by rw[p,o,l,k,j],z,x,v,u,t⟩
end
variable {H α:Type}
variable {t:Tape}
variable {n k b g cap i j q M:Nat}
def Sl.left {R R':Zb->List Zf->α->Prop}{l:List α}(h:Sl (Lv W) R k W v l)(m:∀cs x,R W cs x->(∀u∈cs,VR (Qk W) u u)/\R' (tp (BD W) t) cs x):Sl (Lv (tp (BD W) t)) R' k (tp (BD W) t) v l:=by
 obtain⟨a,c,r,q,p,n⟩:=h;refine⟨a,c,r,q,p,λi x g=>?_⟩;obtain⟨b,o,cs,A,z,y,w,s⟩:=n i x g;obtain⟨f,e⟩:=m _ _ s;refine⟨b,o,cs,A,?_,y,λj u d=>?_,e⟩
 .show b<(BD W).heap.size
  rw[ej];exact z
 exact SJ (w j u d) (f u (Z3 d))
variable {l nums:List Int}
def acK (h:SI (Lv W) W v l):SI (Lv (tp (BD W) t)) (tp (BD W) t) v l:=Sl.left h λc x a=>by
 unfold Ri at a;subst a;exact⟨λu b=>by obtain rfl:=Yh.1 b;exact .int _ _,rfl⟩
def afr {l:List (Int×Int)}(h:SP (Lv W) W v l):SP (Lv (tp (BD W) t)) (tp (BD W) t) v l:=Sl.left h λc x a=>by
 unfold Rp at a;subst a;exact⟨λu b=>by simp at b;rcases b with rfl|rfl<;>exact .int _ _,rfl⟩
def aiV {l:List Ay}(h:Sl (Lv W) RsH 5 W v l):SS (Lv (tp (BD W) t)) (tp (BD W) t) v l:=Sl.left h λe x d=>by
 obtain⟨v2,v3,rfl,c,b,d2,d3⟩:=d;refine⟨λu a=>?_,v2,v3,rfl,afr c,acK b⟩;simp at a;rcases a with rfl|rfl|rfl|rfl|rfl
 .exact .int _ _
 .exact .int _ _
 .exact d2.aa0
 .exact d3.aa0
 exact .int _ _
variable {c:A_}
def InC.left (t:Tape)(h:InC W v1 v2 v3 v4 v5 c):RC (Lv (tp (BD W) t)) (tp (BD W) t) v1 v2 v3 v4 v5 c:=
 ⟨acK h.base.1,afr h.Af.1,acK h.hooks.1,aiV h.Aa.1,acK h.now.1⟩
def InC.aa0 {W:Zb}{v1 v2 v3 v4 v5:Zf}{c:A_}(h:InC W v1 v2 v3 v4 v5 c):VR (Qk W) (.agg #[v1,v2,v3,v4,v5]) (.agg #[v1,v2,v3,v4,v5]):=by
 refine .P6 ⟨rfl,λi x y b a=>?_⟩
 match i,b,a with
 |0,b,a=>cases b;cases a;exact h.base.2.aa0
 |1,b,a=>cases b;cases a;exact h.Af.2.aa0
 |2,b,a=>cases b;cases a;exact h.hooks.2.aa0
 |3,b,a=>cases b;cases a;exact h.Aa.2.aa0
 |4,b,a=>cases b;cases a;exact h.now.2.aa0
section
variable {H:Type}{enc:Zs×Zf->H}{W:Zb}
variable {ps:List MemPlace}
def aek {base:Nat}{d:DataW H}(ok:Zbk Zc W .any base 26 v)(h:DataW.Trod enc Zc W 0 (λ_=>true) true 26 v d ps):∃v1 v2 v3 v4 v5 c,v=.agg #[v1,v2,v3,v4,v5]/\InC W v1 v2 v3 v4 v5 c:=by
 obtain⟨a,rfl,_⟩:=okWide_struct Tryz.underlying26 ok;obtain⟨n,b⟩:=h;obtain⟨c,v1,v2,v3,v4,v5,e,f⟩:=adi n _ _ b;refine⟨v1,v2,v3,v4,v5,c,?_,f⟩;have:a.toList=[v1,v2,v3,v4,v5]:=e;rw[<-Array.toList_inj.1 (show a.toList= #[v1,v2,v3,v4,v5].toList from this)]
def adF {base:Nat}{d:DataW H}(ok:Zbk Zc W .any base 22 v)(h:DataW.Trod enc Zc W 0 (λ_=>true) true 22 v d ps):∃l,SI (Lv W) W v l/\Nr W v:=by
 obtain⟨a,n,c,rfl⟩:=okWide_slice (t:=22) YE ok;obtain⟨n,f⟩:=h;obtain⟨l,u,e,b⟩:=abK n _ _ f;cases e;exact⟨l,b⟩
end
set_option maxRecDepth 100000
variable {args x cur cs:Array Zf}
variable {ps:List MemPlace}
def trodAll_three {enc:Zs×Zf->H}{j i g:Zs}{C:List (DataW H)}(h:Za9 enc Zc W 0 (λ_=>true) true [j,i,g] args.toList C ps):
  ∃x y z d1 d2 d3 e d c,args= #[x,y,z]/\DataW.Trod enc Zc W 0 (λ_=>true) true j x d1 e/\DataW.Trod enc Zc W 0 (λ_=>true) true i y d2 d/\DataW.Trod enc Zc W 0 (λ_=>true) true g z d3 c:=by
 obtain⟨x,m,d1,B,e,F,w,_,_,s,r⟩:=trodAll_cons h;obtain⟨y,k,d2,A,d,E,v,_,_,q,p⟩:=trodAll_cons r;obtain⟨z,b,d3,f,c,D,u,_,_,o,n⟩:=trodAll_cons p;have t:b=[]:=by
  cases b with
  |nil=>rfl
  |cons a l=>cases f<;>exact(show False from n).elim
 subst t u v;exact⟨x,y,z,d1,d2,d3,e,d,c,by rw[<-Array.toList_inj.1 (show args.toList= #[x,y,z].toList from w)],s,q,o⟩
def af6 {ρ:Ren}{x y z:Zf}(e:VR ρ x x)(d:VR ρ y y)(c:VR ρ z z):BS ρ #[x,y,z] #[x,y,z]:=⟨rfl,λi u v b a=>by
 match i,b,a with
 |0,b,a=>cases b;cases a;exact e
 |1,b,a=>cases b;cases a;exact d
 |2,b,a=>cases b;cases a;exact c⟩
variable {f:ZaQ}
def ahA {fn:Func}{base:Nat}{enc:Zs×Zf->H}{s:List (DataW H)}(hp:fn.params= #[26,22,22])
 (a:∀(j:Nat) t v,fn.params[j]?=some t->args[j]?=some v->Zbk Zc W .any base t v) (k:Za9 enc Zc W 0 (λ_=>true) true fn.params.toList args.toList s ps) (o:Jr (BD W))
 (b:∀(w:Zb) (v1 v2 v3 v4 v5 v6 g:Zf) (c:A_) (st nums:List Int),RC (λx=>x<w.heap.size) w v1 v2 v3 v4 v5 c->SI (λx=>x<w.heap.size) w v6 st->SI (λx=>x<w.heap.size) w g nums->Jr w->Calls Lp f #[.agg #[v1,v2,v3,v4,v5],v6,g] w (Two w (.bool true))):
  BS (Qk W) args args/\∀t,Calls Lp f args (tp (BD W) t) (Wr (tp (BD W) t)):=by
 rw[hp]at a k;obtain⟨x,y,z,d1,d2,d3,B,A,u,rfl,r,q,p⟩:=trodAll_three k;obtain⟨v1,v2,v3,v4,v5,c,rfl,i⟩:=aek (a 0 26 x rfl rfl) r;obtain⟨st,m,l⟩:=adF (a 1 22 y rfl rfl) q;obtain⟨nums,n,d⟩:=adF (a 2 22 z rfl rfl) p;exact⟨af6 i.aa0 l.aa0 d.aa0,λt=>(b _ _ _ _ _ _ _ _ _ _ _ (i.left t) (acK m) (acK n) o).mono λe w' h=>h⟩
end Go.Proofs.Fit
namespace Go.Proofs.Fit
open Go Go.RowKit
def g80 (w:Zb)(x y:Zbv)(xs a:Array Zf):(eqGuard .neq 67 x y (.agg xs) (.agg a)).run Lp w=.ok () w:=run_eqGuard_agg w _ _ _ _ _ _ (by kernel_rfl)
def q80 (w:Zb)(a b c d:Int):(binOp .neq 67 (.agg #[.int .i64 a,.int .i64 b]) (.agg #[.int .i64 c,.int .i64 d])).run Lp w=.ok (.bool ((a,b) !=(c,d))) w:=by
 rw[run_neq_struct,run_equalIn_agg (ht:=by kernel_rfl) (hp:=by kernel_rfl)];simp[go_sem];by_cases f:a=c<;>by_cases e:b=d<;>simp[f,e]
def adk (a b:List (Int×Int)):Bool:=decide (a=b)
def af7 {a b:List (Int×Int)}(hl:a.length=b.length)(h:∀j,j<a.length->BV a j=BV b j):a=b:=by
 apply YA;intro i;by_cases c:i<a.length
 .rw[EE c,EE (by omega),h i c]
 rw[ZP (by omega),ZP (by omega)]
variable {S T:Nat->Prop}
variable {W w A B w':Zb}
variable {v v1 v2 v3 v4 v5 v' v6 u2 u1 u4 u5 lv:Zf}
def c43 {a b:List (Int×Int)}(z:SP S w v a)(y:SP T w v' b)(B:∀b,S b->b<w.heap.size)(A:∀b,T b->b<w.heap.size):
  Calls Lp 42 #[v,v'] w λe w'=>e=.returned (.bool (adk a b))/\YH w.heap.size w w':=by
 obtain⟨Z,X,rfl,Q,O⟩:=z.val;obtain⟨Y,W,rfl,P,N⟩:=y.val;have IX:=DJ;by_cases d:a.length=b.length
 .have s:=Zd d
  clear d;have l:((a.length:Int) !=b.length)=false:=by simp[s.out]
  go_enter Lp.func43,n43;go_wp2;go_loopg [5] a.length (λg i wr=>∃k:Nat,k<=a.length/\g=a.length - k/\i=.int .i64 k/\(∀j,j<k->BV a j=BV b j)/\YH w.heap.size w wr)
  case atStart=>exact⟨0,Zp _,rfl,rfl,λj m=>absurd m (ZbY _),Zh _ _⟩
  obtain⟨k,V,rfl,rfl,F,c⟩:=hrel;have n:=Zd F;clear F;by_cases M:k<a.length
  .have r:k<b.length:=by have:=s.out;omega
   obtain⟨h,x,rfl,D,J,G⟩:=z.at_ M;obtain⟨f,u,rfl,E,I,o⟩:=y.at_ r;rw[<-c.cell (p:=⟨h,x+k*2,none⟩) (B h D)]at J;rw[<-c.cell (p:=⟨h,x+k*2+1,none⟩) (B h D)]at G;rw[<-c.cell (p:=⟨f,u+k*2,none⟩) (A f E)]at I;rw[<-c.cell (p:=⟨f,u+k*2+1,none⟩) (A f E)]at o;have U:(k:Int)<(a.length:Int):=by omega
   have R:(k:Int)<(b.length:Int):=by omega
   have L:=q80;have K:=g80;go_wp2;go_quiet (fail);go_wp2
   .have q:(((BV a k).fst,(BV a k).snd) !=((BV b k).fst,(BV b k).snd))=true:=by assumption
    go_ret;refine⟨?_,Y5 c _⟩;have:adk a b=false:=by
     unfold adk;refine decide_eq_false λe=>?_;rw[e]at q;simp at q
    rw[this];rfl
   have q:(((BV a k).fst,(BV a k).snd) !=((BV b k).fst,(BV b k).snd))=false:=by assumption
   have H:BV a k=BV b k:=by simp at q;exact Prod.ext q.1 q.2
   go_roundg (a.length - (k+1))
   case rel=>exact⟨k+1,by omega,rfl,by go_num,λj m=>by
    by_cases e:j=k
    .rw[e];exact H
    exact n.out j (by omega),Y5 c _⟩
   omega
  have C:adk a b=true:=decide_eq_true (af7 s.out λj m=>n.out j (by omega));have t:=Zd C;clear C n;go_wp2;go_ret;exact⟨by rw[t.out];rfl,c⟩
 have l:((a.length:Int) !=b.length)=true:=by simp;omega
 have t:=Zd (show adk a b=false from decide_eq_false λe=>d (by rw[e]));clear d;go_enter Lp.func43,n43;go_wp2;go_ret;exact⟨by rw[t.out];rfl,Zh _ _⟩
def aiJ (l:List Int)(a:List Bool):List Bool:=l.foldl (λo x=>o.set x.toNat true) a
def yn (n:Nat):Nat->List (List Int)->List Bool->List Bool
 |_,[],a=>a
 |i,s::r,a=>yn n (i+1) r (if i=n\/a.getD i false=true then aiJ s a else a)
def iV (n:Nat)(l:List (List Int)):Nat->List Bool->List Bool
 |0,a=>a
 |k+1,a=>iV n l k (yn n 0 l a)
def abl (l:List Ay):List (List Int):=l.map (·.over)
def aiK (o:List (List Int))(n:Nat):List Bool:=iV n o o.length (List.replicate o.length false)
def abU (l:List Ay)(n:Nat):List Bool:=aiK (abl l) n
def rh (ab:Nat->Nat)(i:Nat):List (List Int)->Nat->Nat
 | []=>ab
 |s::r=>rh (HJ ab i s) (i+1) r
def iW (ab:Nat->Nat)(l:List (List Int)):Nat->Nat->Nat
 |0=>ab
 |n+1=>iW (rh ab 0 l) l n
def ri (l:List (List Int)):Nat->Nat:=iW (λ_=>0) l l.length
def adG:∀(l:List Ay) (ab:Nat->Nat) (i:Nat),K6 ab i l=rh ab i (abl l)
 | [],_,_=>rfl
 |s::r,ab,i=>adG r (HJ ab i s.over) (i+1)
def adl (l:List Ay):∀(n:Nat) (ab:Nat->Nat),G5 ab l n=iW ab (abl l) n
 |0,_=>rfl
 |n+1,ab=>by
  show G5 (K6 ab 0 l) l n=iW (rh ab 0 (abl l)) (abl l) n;rw[adl l n,adG]
def acj (l:List Ay):Ax l=ri (abl l):=by
 unfold Ax ri;rw[adl,show(abl l).length=l.length by simp[abl]]
def WU (o:List (List Int)):Bool:=(Yr o.length).all λn=>(Yr o.length).all λk=>(aiK o n).getD k false==hasB (ri o n) k
def Lj:List (List Int):=[[],[0],[1],[2],[0,1],[0,2],[1,2],[0,1,2]]
def acD:∀a∈Lj,WU [a.filter (· <1)]=true:=by decide+kernel
def acE:∀a∈Lj,∀b∈Lj,WU [a.filter (· <2),b.filter (· <2)]=true:=by decide+kernel
def acF:∀a∈Lj,∀b∈Lj,∀c∈Lj,WU [a,b,c]=true:=by decide+kernel
variable {l nums:List Int}
def EM (f:l.Pairwise (· < ·))(e:∀x∈l,0<=x/\x<3):l∈Lj:=by
 have g:∀x:Int,0<=x/\x<3->x=0\/x=1\/x=2:=λx h=>by omega
 match l,f,e with
 | [],_,_=>simp[Lj]
 | [a],_,e=>
  rcases g a (e a (by simp)) with rfl|rfl|rfl<;>simp[Lj]
 | [a,b],f,e=>
  have i:a<b:=by simpa using f
  rcases g a (e a (by simp)) with rfl|rfl|rfl<;>rcases g b (e b (by simp)) with rfl|rfl|rfl<;>first|(exfalso;omega)|simp[Lj]
 | [a,b,c],f,e=>
  have i:a<b/\b<c:=by
   simp at f;exact⟨f.1.1,f.2⟩
  have j:=e a (by simp);have m:=e c (by simp);obtain rfl:a=0:=by omega
  obtain rfl:c=2:=by omega
  obtain rfl:b=1:=by omega
  simp[Lj]
 |a::b::c::d::r,f,e=>
  exfalso;simp only[List.pairwise_cons]at f;have i:=f.1 b (by simp);have o:=f.2.1 c (by simp);have n:=f.2.2.1 d (by simp);have j:=e a (by simp);have k:=e d (by simp);omega
def filter_lt {n:Int}(a:∀x∈l,0<=x/\x<n):l.filter (· <n)=l:=List.filter_eq_self.2 λx h=>by simpa using(a x h).2
def vU {o:List (List Int)}(g:o.length<=3)(e:∀l∈o,l.Pairwise (· < ·))(d:∀l∈o,∀x∈l,0<=x/\x<o.length):WU o=true:=by
 match o,g,e,d with
 | [],_,_,_=>rfl
 | [a],_,e,d=>
  have f:=d a (by simp);have:=acD a (EM (e a (by simp)) λx h=>by have:=f x h;simp at this;omega);rwa[filter_lt (λx h=>by have:=f x h;simpa using this)]at this
 | [a,b],_,e,d=>
  have f:=d a (by simp);have i:=d b (by simp);have:=acE a (EM (e a (by simp)) λx h=>by have:=f x h;simp at this;omega) b (EM (e b (by simp)) λx h=>by have:=i x h;simp at this;omega);rwa[filter_lt (λx h=>by have:=f x h;simpa using this),filter_lt (λx h=>by have:=i x h;simpa using this)]at this
 | [a,b,c],_,e,d=>
  exact acF a (EM (e a (by simp)) λx h=>by have:=d a (by simp) x h;simpa using this) b (EM (e b (by simp)) λx h=>by have:=d b (by simp) x h;simpa using this)
   c (EM (e c (by simp)) λx h=>by have:=d c (by simp) x h;simpa using this)
 |_::_::_::_::_,g,_,_=>simp at g
variable {n k b g cap i j q M:Nat}
def afs {number:Nat}(h:CY (Ed n number l) 0 l=0):l.Pairwise (· < ·)/\∀x∈l,0<=x/\x<n:=by
 have a:∀k (a:k<l.length),(0<=l[k]/\l[k]<n)/\(0<k->nth l (k - 1)<l[k]):=λk a=>by
  have:=Gs h k l[k] (zf a);unfold Ed at this;split at this
  .cases this
  next g=>
  split at this
  .cases this
  next f=>
  refine⟨?_,λs=>?_⟩
  .have:=G' (n:=l[k]) (lo:=0) (hi:=(n:Int) - 1) (by cases e:AD l[k] 0 ((n:Int) - 1);rfl;exact absurd (.inl e) g)
   omega
  exact Int.lt_of_not_ge λb=>f ⟨by omega,by rw[zN];exact b⟩
 refine⟨?_,λx o=>?_⟩
 .have step:∀i (hi:i+1<l.length),l[i]<l[i+1]:=λi hi=>by
   have:=(a (i+1) hi).2 (Nat.succ_pos _);simpa[nth,Y6,show i<l.length by omega]using this
  have c:∀d i (hi:i+d+1<l.length),l[i]<l[i+d+1]:=by
   intro d
   induction d with
   |zero=>intro i hi;exact step i hi
   |succ d m=>
    intro i hi;have g:=m i (by omega);have f:=step (i+d+1) (by omega);have e:l[i+(d+1)+1]=l[i+d+1+1]:=rfl;rw[e];omega
  rw[ZdK];intro i j hi r p;have:=c (j - i - 1) i (by omega);have e:l[i+(j - i - 1)+1]'(by omega)=l[j]:=by congr 1;omega
  rwa[e]at this
 obtain⟨k,q,rfl⟩:=Zas o;exact(a k q).1
def af8 {l:List Ay}(d:l.length<=3)(h:∀s∈l,s.over.Pairwise (· < ·)/\∀x∈s.over,0<=x/\x<l.length)(f:n<l.length)(e:k<l.length):(abU l n).getD k false=hasB (Ax l n) k:=by
 have c:(abl l).length=l.length:=by simp[abl]
 have:=vU (o:=abl l) (by omega) (λo b=>by obtain⟨s,a,rfl⟩:=List.mem_map.1 b;exact(h s a).1)
  (λo b=>by obtain⟨s,a,rfl⟩:=List.mem_map.1 b;rw[c];exact(h s a).2)
 unfold WU at this;rw[Zdm]at this;have:=this n (by rw[List.mem_range];omega);rw[Zdm]at this;have:=this k (by rw[List.mem_range];omega);rw[acj];exact eq_of_beq this
def bU (h:YH w.heap.size w A)(k:YH A.heap.size A B):YH w.heap.size w B:=h.trans (k.mono h.size)
def adH {a b:Bool}(h:a=b):Zbx (.bool a)=.returned (.bool b):=by rw[h]
def ac4 (c:A_)(l:List Int):List Int:=if Eg c l=0 then AB (DS c l) else []
def aev:AB 0=[]:=by decide
variable {c:A_}
def c51 (h:RC S w v1 v2 v3 v4 v5 c)(hl:SI S w v6 l)(Z:∀b,S b->b<w.heap.size):
  Calls Lp 11 #[.agg #[v1,v2,v3,v4,v5],v6] w λe w'=>∃v,e=.returned (.tuple #[v,.int .i64 (Eg c l)])/\YH w.heap.size w w'/\SI (Cb w.heap.size w') w' v (ac4 c l):=by
 obtain⟨V,P,U,O,T,N,R,M,Q,L,rfl,rfl,rfl,rfl,rfl,l1,m1,l2,m2,l3,m3,l4,m4,l5,m5⟩:=h.vs;obtain⟨a6,c6,rfl,l6,m6⟩:=hl.val;have IX:maxLen=9223372036854775807:=rfl;have p:YH w.heap.size w (w.alloc (.cells #[.slice V c.base.length P,.slice U c.Af.length O,.slice T c.hooks.length N,.slice R c.Aa.length M,.slice Q c.now.length L] 26)):=(Zh _ _).alloc (Zj _) _;have j:=Zd (λW a=>ao2 (w:=W) (h.later a) (hl.later a) (A3 Z a));have m:∃t,t<8/\AB t=ac4 c l/\∀(W:Zb) (a:YH w.heap.size w W),Calls Lp 32 #[.agg #[.slice V c.base.length P,.slice U c.Af.length O,.slice T c.hooks.length N,.slice R c.Aa.length M,.slice Q c.now.length L],.slice a6 l.length c6] W λe w'=>∃(y u s r q:Option Addr) (D C B A z d1 d2 d3 d4 J G k1 F:Nat),e=.returned (.tuple #[.agg #[.slice y D d1,.slice u C d2,.slice s B d3,.slice r A d4,.slice q z J,.int .u8 G,.int .u8 k1,.int .u8 F],.int .u8 t,.int .i64 (Eg c l)])/\YH W.heap.size W w':=by
  by_cases i:Eg c l=0
  .obtain⟨n,_⟩:=Bj i
   obtain⟨Jz,ER⟩:=Bj n;have f:=EG Jz;have hn:l.length<=c.Aa.length:=by have:=(Fb ER).1;omega
   refine⟨DS c l,U9 (S3 f.over) (by have:=f.few;omega),by unfold ac4;rw[if_pos i],λW a=>(j.out W a).mono ?_⟩;rintro e w' ⟨g,t,rfl,k,d,_⟩;obtain⟨rfl,rfl⟩:=d i;exact⟨_,_,_,_,_,_,_,_,_,_,_,_,_,_,_,_,_,_,rfl,k⟩
  refine⟨0,by omega,by unfold ac4;rw[if_neg i,aev],λW a=>(j.out W a).mono ?_⟩;rintro e w' ⟨g,t,rfl,k,_,d⟩;obtain⟨rfl,rfl⟩:=d i;exact⟨_,_,_,_,_,_,_,_,_,_,_,_,_,_,_,_,_,_,rfl,k⟩
 obtain⟨t,Y,K,H⟩:=m;have X:=Zd H;have HT:=Zd K;obtain⟨E,I⟩:∃E,E=Eg c l:=⟨_,rfl⟩;rw[<-I]at X⊢;clear H K I;go_enter Lp.func51,n51;go_wp2_with (first|(go_at_call 32;refine(X.out _ p).mono ?_;rintro e w1 ⟨y,u,s,r,q,D,C,B,A,z,d1,d2,d3,d4,J,G,k1,F,rfl,k⟩;have o:=p.trans (k.mono p.size))|(go_at_call 33;refine(abf Y).mono ?_;rintro e w2 ⟨v,rfl,De,f,_⟩;have Cj:=(bA o).trans (De.mono (bA o).size);obtain⟨a7,c7,rfl,l7,m7⟩:=f.val));go_ret2;refine⟨_,rfl,Cj,?_⟩;rw[<-HT.out];exact Sl.imp f (λx (d:Cb _ _ x)=>⟨by have h1:=d.1;have h2:=o.size;simp at h1;omega,d.2⟩) λ_ _ x=>x
def fH:Nat->Nat->List (List Int)
 |0,_=> [[]]
 |m+1,n=>((Yr n).drop m).flatMap λlast=>(fH m last).map (· ++ [(last:Int)])
def ac2 {fn:Func}{p u:Tmp}{ty:Zs}(h:fn.results= #[.cell p ty,.tmp u])(tmps:Array Zf)(P:Zo)(w:Zb):
  (results fn tmps).run P w=((asAddr (tmps.getD p Ze)).run P w).andThen λa w₁=>((Zdd ty a).run P w₁).andThen λv w₂=>.ok (.tuple #[v,tmps.getD u Ze]) w₂:=by
 simp only[results,h];simp[zg,zu]
def ace (h:∃a c,v=.slice a n c/\n<=c/\c<=maxLen):∃n a c,v=.slice a n c:=by
 obtain⟨a,c,e,_⟩:=h;exact⟨n,a,c,e⟩
def ajJ (w:Zb)(c:A_)(l:List Int)(e:Ending)(w':Zb):Prop:=∃(u1 u2 u3 u4 u5:Zf),e=.returned (.tuple #[.agg #[u1,u2,u3,u4,u5],.int .i64 (Eg c l)])/\YH w.heap.size w w'/\(Eg c l=0->RC (Cb w.heap.size w') w' u1 u2 u3 u4 u5 (FH c l (DS c l)))/\(Eg c l≠0->u1=.slice none 0 0/\u2=.slice none 0 0/\u3=.slice none 0 0/\u4=.slice none 0 0/\u5=.slice none 0 0)
def aft (w:Zb)(v1 v2 v3 v4 v5 a b c:Zf):Sem.run Lp (ZdO 73 (.agg #[v1,v2,v3,v4,v5,a,b,c]) 0) w=.ok (.agg #[v1,v2,v3,v4,v5]) w:=by
 rfl
def amj (h:RC S w v1 v2 v3 v4 v5 c)(hl:SI S w v6 l)(Q:∀b,S b->b<w.heap.size)(mA:∀i,i<c.Aa.length->(Aj c.Aa i).over.length<=1000):
  Calls Lp 16 #[.agg #[v1,v2,v3,v4,v5],v6] w (ajJ w c l):=by
 obtain⟨L,G,K,F,J,E,I,D,H,C,rfl,rfl,rfl,rfl,rfl,l1,m1,l2,m2,l3,m3,l4,m4,l5,m5⟩:=h.vs;obtain⟨a6,c6,rfl,l6,m6⟩:=hl.val;have IX:=DJ;have p:YH w.heap.size w ((w.alloc (.cells #[.slice L c.base.length G,.slice K c.Af.length F,.slice J c.hooks.length E,.slice I c.Aa.length D,.slice H c.now.length C] 26)).alloc (.cells #[.slice none 0 0,.slice none 0 0,.slice none 0 0,.slice none 0 0,.slice none 0 0] 26)):=bA (bA (Zh _ _));by_cases m:Eg c l=0
 .obtain⟨s,_⟩:=Bj m
  obtain⟨Jz,ER⟩:=Bj s;have k:=EG Jz;obtain⟨UO,_⟩:=Fb ER;have uz:=k.uy;have O:=k.few;have n8:=k.Fp;have P:=k.PN;have N:=k.hooks;have bP:∀x,x∈AB (DS c l)->0<=x/\x<c.Aa.length:=MT k (by omega);have Z:DS c l<8:=U9 (S3 k.over) (by omega);have d:Hid (∀W,YH w.heap.size w W->Calls Lp 32 #[.agg #[.slice L c.base.length G,.slice K c.Af.length F,.slice J c.hooks.length E,.slice I c.Aa.length D,.slice H c.now.length C],.slice a6 l.length c6] W λe w'=>e=.returned (.tuple #[.agg #[.slice L c.base.length G,.slice K c.Af.length F,.slice J c.hooks.length E,.slice I c.Aa.length D,.slice H c.now.length C,.int .u8 (Ax c.Aa 0),.int .u8 (Ax c.Aa 1),.int .u8 (Ax c.Aa 2)],.int .u8 (DS c l),.int .i64 0])/\YH W.heap.size W w'):=Zd λW f=>(ao2 (w:=W) (h.later f) (hl.later f) (A3 Q f)).mono (by
   rintro e w' ⟨g,t,rfl,j,n,_⟩;obtain⟨rfl,rfl⟩:=n m;rw[m];exact⟨rfl,j⟩)
  have o:=Zd (λW (f:YH w.heap.size w W)=>c92 (w:=W) (l:=l) (t:=DS c l) (h.later f) (hl.later f) (A3 Q f) Z bP (λi A=>by have:=k.left i A;omega) (by omega) (by omega) (by omega) (by omega) (by omega) (by omega) (λi A=>⟨by have:=k.Ap i A;omega,mA i A⟩) (by omega) (Ax c.Aa 0) (Ax c.Aa 1) (Ax c.Aa 2));have HZ:=Zd m;obtain⟨k0,kq⟩:∃x,x=Ax c.Aa 0:=⟨_,rfl⟩;obtain⟨k1,r⟩:∃x,x=Ax c.Aa 1:=⟨_,rfl⟩;obtain⟨k2,q⟩:∃x,x=Ax c.Aa 2:=⟨_,rfl⟩;rw[<-kq, <-r, <-q]at d o;obtain⟨t,M⟩:∃x,x=DS c l:=⟨_,rfl⟩;have HT:=Zd M;rw[<-M]at d o;clear m s Jz ER k UO uz O n8 P N bP Z kq r q M;go_enter Lp.func59,n59;go_wp2_with (first|(go_at_call 32;refine(d.out _ p).mono ?_;rintro e w1 ⟨rfl,j⟩;have u:=p.trans (j.mono p.size);obtain⟨Fl,DR⟩:=bw j;obtain⟨L6,xr⟩:=E7 j)|(go_at_call 40;refine(o.out _ (bA u)).mono ?_;rintro e w2 ⟨u1,u2,u3,u4,u5,rfl,R,a⟩;obtain⟨n1,Y,d1,rfl⟩:=(ace a.base.val);obtain⟨n2,X,d2,rfl⟩:=(ace a.Af.val);obtain⟨n3,V,d3,rfl⟩:=(ace a.hooks.val);obtain⟨n4,U,d4,rfl⟩:=(ace a.Aa.val);obtain⟨n5,T,d5,rfl⟩:=(ace a.now.val);obtain⟨NP,MK⟩:=E7 R;have hz:=bI R;have Cj:=(bA u).trans (R.mono (bA u).size)));rw[aft];go_wp2_with (fail);refine ZN (v:=.tuple #[.agg #[.slice Y n1 d1,.slice X n2 d2,.slice V n3 d3,.slice U n4 d4,.slice T n5 d5],.int .i64 0]) (by rw[ac2 rfl];go_simp) rfl ?_;have DM:=Cj;refine⟨.slice Y n1 d1,.slice X n2 d2,.slice V n3 d3,.slice U n4 d4,.slice T n5 d5,by rw[HZ.out],?_,λ_=>?_,λy=>absurd HZ.out y⟩
  .repeat (with_reducible first|exact Cj|refine bA ?_|(refine bS ?_ (by omega))|refine bD ?_|refine bN ?_)
  rw[<-HT.out];rw[ZB]at a;have z:∀b,Cb (w1.heap.size+1) w2 b->b≠w.heap.size+1:=λb B e=>by have:=B.1;omega
  exact(a.Ar (ahl (ahl (ahl (ahl (ahl (CE.refl _ _) z) z) z) z) z)).imp λb B=>⟨by have:=B.1;omega,by simp only[World.size_setCell];exact B.2⟩
 have d:Hid (∀W,YH w.heap.size w W->Calls Lp 32 #[.agg #[.slice L c.base.length G,.slice K c.Af.length F,.slice J c.hooks.length E,.slice I c.Aa.length D,.slice H c.now.length C],.slice a6 l.length c6] W λe w'=>e=.returned (.tuple #[.agg #[.slice none 0 0,.slice none 0 0,.slice none 0 0,.slice none 0 0,.slice none 0 0,.int .u8 0,.int .u8 0,.int .u8 0],.int .u8 0,.int .i64 (Eg c l)])/\YH W.heap.size W w'):=Zd λW f=>(ao2 (w:=W) (h.later f) (hl.later f) (A3 Q f)).mono (by
  rintro e w' ⟨g,t,rfl,j,_,n⟩;obtain⟨rfl,rfl⟩:=n m;exact⟨rfl,j⟩)
 obtain⟨x,n⟩:∃x,x=Eg c l:=⟨_,rfl⟩;rw[<-n]at d m;have HX:=Zd n;clear n;go_enter Lp.func59,n59;go_wp2_with (go_at_call 32;refine(d.out _ p).mono ?_;rintro e w1 ⟨rfl,j⟩;have u:=p.trans (j.mono p.size);obtain⟨Fl,DR⟩:=bw j;obtain⟨L6,xr⟩:=E7 j);refine ZN (v:=.tuple #[.agg #[.slice none 0 0,.slice none 0 0,.slice none 0 0,.slice none 0 0,.slice none 0 0],.int .i64 x]) (by rw[ac2 rfl];go_simp) rfl ?_;refine⟨.slice none 0 0,.slice none 0 0,.slice none 0 0,.slice none 0 0,.slice none 0 0,by rw[HX.out],?_,λy=>absurd (HX.out.trans y) m,λ_=>⟨rfl,rfl,rfl,rfl,rfl⟩⟩
 repeat (with_reducible first|exact u|refine bA ?_|(refine bS ?_ (by omega))|refine bD ?_|refine bN ?_)
def g64 (w:Zb)(x y:Zbv)(xs a:Array Zf):(eqGuard .neq 88 x y (.agg xs) (.agg a)).run Lp w=.ok () w:=run_eqGuard_agg w _ _ _ _ _ _ (by kernel_rfl)
def q64 (w:Zb)(a b:Int):(binOp .neq 88 (.agg #[.int .i64 a,.int .i64 b]) (.agg #[.int .i64 a,.int .i64 b])).run Lp w=.ok (.bool false) w:=by
 rw[run_neq_struct,run_equalIn_agg (ht:=by kernel_rfl) (hp:=by kernel_rfl)];simp[go_sem]
def adm:Ke l l=true:=decide_eq_true rfl
def aeC {l:List (Int×Int)}:adk l l=true:=decide_eq_true rfl
variable {s:Ay}
def c97 {u3:Zf}(hp:SP S w v2 s.Ap)(x:SI S w v3 s.over)(v:SP T w u2 s.Ap)(o:SI T w u3 s.over)(l:∀b,S b->b<w.heap.size)(j:∀b,T b->b<w.heap.size):
  Calls Lp 43 #[.agg #[.int .i64 s.low,.int .i64 s.high,v2,v3,.int .i64 s.left],.agg #[.int .i64 s.low,.int .i64 s.high,u2,u3,.int .i64 s.left]] w λe w'=>e=.returned (.bool true)/\YH w.heap.size w w':=by
 obtain⟨C,A,rfl,l1,m1⟩:=hp.val;obtain⟨B,z,rfl,l2,m2⟩:=x.val;obtain⟨X,Q,rfl,l3,m3⟩:=v.val;obtain⟨V,P,rfl,l4,m4⟩:=o.val;have IX:=DJ;have n:YH w.heap.size w ((w.alloc (.cells #[.int .i64 s.low,.int .i64 s.high,.slice C s.Ap.length A,.slice B s.over.length z,.int .i64 s.left] 47)).alloc (.cells #[.int .i64 s.low,.int .i64 s.high,.slice X s.Ap.length Q,.slice V s.over.length P,.int .i64 s.left] 47)):=bA (bA (Zh _ _));have y:=Zd (λW (a:YH w.heap.size w W)=>c46 (w:=W) (x.later a) (o.later a) (A3 l a) (A3 j a));rw[adm]at y;go_enter Lp.func97,n97;go_wp2_with (go_at_call 15;refine(y.out _ n).mono ?_;rintro e w1 ⟨rfl,c⟩;have F:=n.trans (c.mono n.size);obtain⟨Z,DR⟩:=bw c;obtain⟨Y,H⟩:=E7 c);have u:=(c.block w.heap.size (by simp;omega)).trans (Bf (Bp w (.cells #[.int .i64 s.low,.int .i64 s.high,.slice C s.Ap.length A,.slice B s.over.length z,.int .i64 s.left] 47)) _);have t:=(c.block (w.heap.size+1) (by simp)).trans (Jq w _ _);have M:=ch (i:=2) u rfl;have K:=ch (i:=2) t rfl;clear u t c Y H;go_loopg [5] s.Ap.length (λg i wr=>∃k:Nat,k<=s.Ap.length/\g=s.Ap.length - k/\i=.int .i64 k/\YH w1.heap.size w1 wr)
 case atStart=>exact⟨0,Zp _,rfl,rfl,Zh _ _⟩
 obtain⟨k,hk,rfl,rfl,a⟩:=hrel;have d:=F.trans (a.mono F.size);have L:=(a.cell (p:=⟨w.heap.size,2,none⟩) Z).trans M;have J:=(a.cell (p:=⟨w.heap.size+1,2,none⟩) DR).trans K;by_cases G:k<s.Ap.length
 .obtain⟨h,r,rfl,D,O,I⟩:=hp.at_ G
  obtain⟨f,q,rfl,E,N,m⟩:=v.at_ G;rw[<-d.cell (p:=⟨h,r+k*2,none⟩) (l h D)]at O;rw[<-d.cell (p:=⟨h,r+k*2+1,none⟩) (l h D)]at I;rw[<-d.cell (p:=⟨f,q+k*2,none⟩) (j f E)]at N;rw[<-d.cell (p:=⟨f,q+k*2+1,none⟩) (j f E)]at m;have i1:(k:Int)<(s.Ap.length:Int):=by omega
  have U:=q64;have R:=g64;go_wp2;go_quiet (fail);go_wp2;go_roundg (s.Ap.length - (k+1))
  case rel=>exact⟨k+1,by omega,rfl,by go_num,Y5 a _⟩
  omega
 go_wp2;go_ret;exact⟨rfl,d⟩
def amk {u3:Zf}(hp:SP S w v2 s.Ap)(f:SI S w v3 s.over)(d:SP T w u2 s.Ap)(c:SI T w u3 s.over)(h:∀b,S b->b<w.heap.size)(g:∀b,T b->b<w.heap.size):
  ∀W,YH w.heap.size w W->Calls Lp 43 #[.agg #[.int .i64 s.low,.int .i64 s.high,v2,v3,.int .i64 s.left],.agg #[.int .i64 s.low,.int .i64 s.high,u2,u3,.int .i64 s.left]] W λe w'=>e=.returned (.bool true)/\YH W.heap.size W w':=
 λ_ a=>c97 (hp.later a) (f.later a) (d.later a) (c.later a) (A3 h a) (A3 g a)
def c36 {u3:Zf}(h:RC S w v1 v2 v3 v4 v5 c)(g:RC T w u1 u2 u3 u4 u5 c)(l:∀b,S b->b<w.heap.size)(j:∀b,T b->b<w.heap.size):
  Calls Lp 18 #[.agg #[v1,v2,v3,v4,v5],.agg #[u1,u2,u3,u4,u5]] w λe w'=>e=.returned (.bool true)/\YH w.heap.size w w':=by
 obtain⟨a1,c1,U,K,R,J,Q,I,P,H,rfl,rfl,rfl,rfl,rfl,l1,m1,l2,m2,l3,m3,l4,m4,l5,m5⟩:=h.vs;obtain⟨b1,d1,O,d2,N,d3,M,d4,L,G,rfl,rfl,rfl,rfl,rfl,k1,n1,k2,n2,k3,n3,k4,n4,k5,n5⟩:=g.vs;have IX:=DJ;have Bg:YH w.heap.size w ((w.alloc (.cells #[.slice a1 c.base.length c1,.slice U c.Af.length K,.slice R c.hooks.length J,.slice Q c.Aa.length I,.slice P c.now.length H] 26)).alloc (.cells #[.slice b1 c.base.length d1,.slice O c.Af.length d2,.slice N c.hooks.length d3,.slice M c.Aa.length d4,.slice L c.now.length G] 26)):=bA (bA (Zh _ _));have r0:=λ{i:Nat} {v:Zf}=>ch (i:=i) (v:=v) (Bf (Bp w (.cells #[.slice a1 c.base.length c1,.slice U c.Af.length K,.slice R c.hooks.length J,.slice Q c.Aa.length I,.slice P c.now.length H] 26)) (.cells #[.slice b1 c.base.length d1,.slice O c.Af.length d2,.slice N c.hooks.length d3,.slice M c.Aa.length d4,.slice L c.now.length G] 26));have V:=λ{i:Nat} {v:Zf}=>ch (i:=i) (v:=v) (Jq w (.cells #[.slice a1 c.base.length c1,.slice U c.Af.length K,.slice R c.hooks.length J,.slice Q c.Aa.length I,.slice P c.now.length H] 26) (.cells #[.slice b1 c.base.length d1,.slice O c.Af.length d2,.slice N c.hooks.length d3,.slice M c.Aa.length d4,.slice L c.now.length G] 26));have HR:Hid (∀(W:Zb),YH ((w.alloc (.cells #[.slice a1 c.base.length c1,.slice U c.Af.length K,.slice R c.hooks.length J,.slice Q c.Aa.length I,.slice P c.now.length H] 26)).alloc (.cells #[.slice b1 c.base.length d1,.slice O c.Af.length d2,.slice N c.hooks.length d3,.slice M c.Aa.length d4,.slice L c.now.length G] 26)).heap.size ((w.alloc (.cells #[.slice a1 c.base.length c1,.slice U c.Af.length K,.slice R c.hooks.length J,.slice Q c.Aa.length I,.slice P c.now.length H] 26)).alloc (.cells #[.slice b1 c.base.length d1,.slice O c.Af.length d2,.slice N c.hooks.length d3,.slice M c.Aa.length d4,.slice L c.now.length G] 26)) W->
   W.cell? ⟨w.heap.size,1,none⟩=some (.slice U c.Af.length K)/\W.cell? ⟨w.heap.size,2,none⟩=some (.slice R c.hooks.length J)/\W.cell? ⟨w.heap.size,3,none⟩=some (.slice Q c.Aa.length I)/\W.cell? ⟨w.heap.size,4,none⟩=some (.slice P c.now.length H)/\
   W.cell? ⟨w.heap.size+1,1,none⟩=some (.slice O c.Af.length d2)/\W.cell? ⟨w.heap.size+1,2,none⟩=some (.slice N c.hooks.length d3)/\W.cell? ⟨w.heap.size+1,3,none⟩=some (.slice M c.Aa.length d4)/\W.cell? ⟨w.heap.size+1,4,none⟩=some (.slice L c.now.length G)):=Zd λW a=>by
  obtain⟨u,_⟩:=E7 a;exact⟨(u _ _ (by simp;omega)).trans (r0 rfl),(u _ _ (by simp;omega)).trans (r0 rfl),(u _ _ (by simp;omega)).trans (r0 rfl),(u _ _ (by simp;omega)).trans (r0 rfl),(u _ _ (by simp)).trans (V rfl),(u _ _ (by simp)).trans (V rfl),(u _ _ (by simp)).trans (V rfl),(u _ _ (by simp)).trans (V rfl)⟩
 clear r0 V;have HA:=Zd (λW (a:YH w.heap.size w W)=>c46 (w:=W) (h.base.later a) (g.base.later a) (A3 l a) (A3 j a));have HE:=Zd (λW (a:YH w.heap.size w W)=>c43 (w:=W) (h.Af.later a) (g.Af.later a) (A3 l a) (A3 j a));have HH:=Zd (λW (a:YH w.heap.size w W)=>c46 (w:=W) (h.hooks.later a) (g.hooks.later a) (A3 l a) (A3 j a));have an:=Zd (λW (a:YH w.heap.size w W)=>c46 (w:=W) (h.now.later a) (g.now.later a) (A3 l a) (A3 j a));rw[adm]at HA HH an;rw[aeC]at HE;go_enter Lp.func36,n36;go_wp2_with (go_at_call 15;refine(HA.out _ Bg).mono ?_;rintro e w1 ⟨rfl,Bb⟩;have oT:=Bg.trans (Bb.mono Bg.size);obtain⟨C,B,q,A,z,y,o,x⟩:=HR.out _ Bb);have ai:=Bb;clear Bb;refine(HE.out _ oT).mono ?_;rintro e w2 ⟨rfl,f⟩;have E:=ai.trans (f.mono ai.size);have aT:=oT.trans (f.mono oT.size);clear f C B q A z y o x;obtain⟨C,B,q,A,z,y,o,x⟩:=HR.out _ E;dsimp only;go_wp2_with (fail);refine(HH.out _ aT).mono ?_;rintro e w3 ⟨rfl,f⟩;have D:=E.trans (f.mono E.size);have xa:=aT.trans (f.mono aT.size);clear f C B q A z y o x;obtain⟨C,B,q,A,z,y,o,x⟩:=HR.out _ D;dsimp only;go_wp2_with (fail);refine(an.out _ xa).mono ?_;rintro e w4 ⟨rfl,f⟩;have iu:=D.trans (f.mono D.size);have am:=xa.trans (f.mono xa.size);clear f C B q A z y o x;obtain⟨C,B,q,A,z,y,o,x⟩:=HR.out _ iu;dsimp only;go_wp2_with (fail);clear C B A z y x;go_loopg [5] c.Aa.length (λg i wr=>∃k:Nat,k<=c.Aa.length/\g=c.Aa.length - k/\i=.int .i64 k/\YH w4.heap.size w4 wr)
 case atStart=>exact⟨0,Zp _,rfl,rfl,Zh _ _⟩
 obtain⟨k,hk,rfl,rfl,a⟩:=hrel;have d:=am.trans (a.mono am.size);have ap:=iu.trans (a.mono iu.size);clear q o;obtain⟨_,_,q,_,_,_,o,_⟩:=HR.out _ ap;by_cases Az:k<c.Aa.length
 .obtain⟨n,o1,s2,s3,rfl,q1,h0,h1,h2,h3,h4,hp,ho⟩:=h.Aa.at_ Az
  obtain⟨m,o2,t2,t3,rfl,Z,t,s,j2,j3,r,lR,rH⟩:=g.Aa.at_ Az;have F:=Zd (amk hp ho lR rH l j);obtain⟨sm,Qh⟩:∃sm,sm=Aj c.Aa k:=⟨_,rfl⟩;rw[<-Qh]at h0 h1 h4 t s r F;clear Qh;have i1:(k:Int)<(c.Aa.length:Int):=by omega
  have X:=λp=>Al p q;have Y:=λp=>Al p o;have h0:=λp=>Al p ((d.cell (p:=⟨n,o1+k*5,none⟩) (l n q1)).trans h0);have h1:=λp=>Al p ((d.cell (p:=⟨n,o1+k*5+1,none⟩) (l n q1)).trans h1);have h2:=λp=>Al p ((d.cell (p:=⟨n,o1+k*5+2,none⟩) (l n q1)).trans h2);have h3:=λp=>Al p ((d.cell (p:=⟨n,o1+k*5+3,none⟩) (l n q1)).trans h3);have h4:=λp=>Al p ((d.cell (p:=⟨n,o1+k*5+4,none⟩) (l n q1)).trans h4);have t:=λp=>Al p ((d.cell (p:=⟨m,o2+k*5,none⟩) (j m Z)).trans t);have s:=λp=>Al p ((d.cell (p:=⟨m,o2+k*5+1,none⟩) (j m Z)).trans s);have j2:=λp=>Al p ((d.cell (p:=⟨m,o2+k*5+2,none⟩) (j m Z)).trans j2);have j3:=λp=>Al p ((d.cell (p:=⟨m,o2+k*5+3,none⟩) (j m Z)).trans j3);have r:=λp=>Al p ((d.cell (p:=⟨m,o2+k*5+4,none⟩) (j m Z)).trans r);have HB:=Zd (λp=>d.trans ((AE wr p).mono d.size));have HQ:=Zd (λp=>a.trans ((AE wr p).mono a.size));go_wp2;refine Av (by kernel_rfl) (by kernel_rfl) ?_
  repeat (first|go_big_quiet_step ((go_at_call 43;exact AV (F.out _ (HB.out _))))|quiet_step ((go_at_call 43;exact AV (F.out _ (HB.out _)))))
  refine Z4 ?_;rintro _ ⟨p,rfl⟩;clear X Y h0 h1 h2 h3 h4 t s j2 j3 r;have yw:=HQ.out p;go_wp2;go_roundg (c.Aa.length - (k+1))
  case rel=>exact⟨k+1,by omega,rfl,by go_num,yw⟩
  omega
 go_wp2;go_ret;exact⟨rfl,d⟩
attribute [local go_sem] Zdk
def ade:∀(l:List (Int×Int)) (i:Nat) (p:Int×Int),i<l.length->((l.flatMap λp=> [ZL .i64 p.1,.int .i64 p.2]).set (i*2) (.int .i64 p.1)).set (i*2+1) (.int .i64 p.2)=(l.set i p).flatMap λp=> [ZL .i64 p.1,.int .i64 p.2]
 | [],_,_,h=>by cases h
 |q::r,0,p,_=>rfl
 |q::r,i+1,p,h=>by
  have:=ade r i p (by simpa using h);rw[List.set_cons_succ,List.flatMap_cons,List.flatMap_cons, <-this,show(i+1)*2=i*2+1+1 by omega]
  rfl
variable {e:Zs}
def Ih.set {base:Nat}{l:List (Int×Int)}(h:Ih w base (.slice (some ⟨g,0,none⟩) n cap) l e)(hi:i<l.length)(p:Int×Int):
  Ih ((w.setCell ⟨g,i*2,none⟩ (.int .i64 p.1)).setCell ⟨g,i*2+1,none⟩ (.int .i64 p.2)) base (.slice (some ⟨g,0,none⟩) n cap) (l.set i p) e:=by
 obtain⟨o,m⟩:=h;rcases m with⟨a,_⟩|⟨r,s,q,a,k,j,f,d,c,b⟩
 .cases a
 cases a;refine⟨?_,.inr ⟨g,cap,_,by rw[ZcC],k,Ba (Ba j _) _,by simpa using f,d,by simpa using c,?_⟩⟩
 .rw[<-ade l i p hi]
  simpa using o
 rw[<-ade l i p hi];simp only[ZcM,ZcC,List.take_set];rw[b]
variable {H α:Type}
def take_set {N O:List α}{x:α}(c:j<N.length)(b:j<O.length)(h:N[j]?=some x):(N.take j++O.drop j).set j x=N.take (j+1)++O.drop (j+1):=by
 have a:(N.take j).length=j:=by rw[ZcV];omega
 rw[List.set_append_right _ _ (by omega),a,Nat.sub_self,ZO b,List.set_cons_zero,ZbH,h];simp
inductive HT
 |leaf
 |one (i:Nat) (r:HT)
 |free (i:Nat) (r:HT)
 |fork (i:Nat) (x:HT) (j:Nat) (y:HT)
def HT.len:HT->Nat
 | .leaf=>0
 | .one _ r=>r.len+1
 | .free _ r=>r.len+1
 | .fork _ x _ _=>x.len+1
section
variable {P:Zo}{ops:Array Oper}{Q:Exit->Act->Zb->Prop}{md:YO}{S:Zb->Prop}{T:Nat->Zb->Prop}
def abq (P:Zo)(b:Array Oper)(Q:Exit->Act->Zb->Prop)(S:Zb->Prop)(T:Nat->Zb->Prop):HT->Act->Zb->Prop
 | .leaf,a,w=>Q .normal a w
 | .one i r,a,w=>wpOp P b Q i (λa' w'=>T i w'/\abq P b Q S T r a' w') a w
 | .free i r,a,w=>S w/\∃o v,b[i]?=some o/\ZbF P b S o v a/\abq P b Q S T r (a.put o.dst v) w
 | .fork i x j y,a,w=>wpOp P b Q i (λa' w'=>T i w'/\abq P b Q S T x a' w') a w/\wpOp P b Q j (λa' w'=>T j w'/\abq P b Q S T y a' w') a w
def htB (b:YO)(a:Array Oper)(n:Nat)(lates:List Nat):HT->Array Bool->Bool
 | .leaf,listed=>(zs b a listed).isEmpty
 | .one i r,listed=>decide (zs b a listed=[i])&&htB b a n lates r (listed.setIfInBounds i true)
 | .free i r,listed=>(zs b a listed).contains i&&Za3 b a listed i&&pQ b a n lates i&&htB b a n lates r (listed.setIfInBounds i true)
 | .fork i x j y,listed=>decide (zs b a listed=[i,j])&&decide (x.len=y.len)&&htB b a n lates x (listed.setIfInBounds i true)&&htB b a n lates y (listed.setIfInBounds j true)
def abS {n:Nat}{lates:List Nat}(q:YF ops=true)(l:∀c a d v w,Q (.panic c) (Zck a d v) w->Q (.panic c) a w):
  ∀(t:HT) (listed:Array Bool) (a:Act) (w:Zb),Dn md ops listed->htB md ops n lates t listed=true->abq P ops Q S (FG lates S) t a w->Cy P md ops Q (FG lates S) t.len listed a w
 | .leaf,_,_,_,_,b,h=>⟨by simpa[htB]using b,h⟩
 | .one i r,listed,a,w,e,b,h=>by
  simp only[htB,ZF,decide_eq_true_eq]at b;refine⟨λm=>(by rw[b.1]at m;cases m),λj u=>?_⟩;have s:=u;rw[b.1]at u;have:j=i:=by simpa using u
  subst this;exact Zcc (λp w' x=>⟨x.1,abS q l r _ p w' (e.step s) b.2 x.2⟩) h
 | .free i r,listed,a,w,e,b,h=>by
  simp only[htB,ZF]at b;obtain⟨F,o,v,E,D,h⟩:=h;have A:i∈zs md ops listed:=by simpa using b.1.1.1
  exact Me (S:=S) (n:=n) (f:=r.len) E q (λc a w x=>l c a o.dst v w x) (λw x=>.inr x) (iw b.1.2) listed a w e b.1.1.2 A D F (abS q l r _ _ w (e.step A) b.2 h)
 | .fork i x j y,listed,a,w,e,b,h=>by
  simp only[htB,ZF,decide_eq_true_eq]at b;obtain⟨⟨⟨B,I⟩,H⟩,G⟩:=b;refine⟨λm=>(by rw[B]at m;cases m),λk g=>?_⟩;have C:=g;rw[B]at g;rcases List.mem_cons.1 g with rfl|g
  .exact Zcc (λp w' z=>⟨z.1,abS q l x _ p w' (e.step C) H z.2⟩) h.1
  have:k=j:=by simpa using g
  subst this;exact Zcc (λp w' z=>⟨z.1,by have:=abS q l y _ p w' (e.step C) G z.2;rwa[<-I]at this⟩) h.2
variable {a:Act}
def aby {id:Nat}{l:List Oper}(n:Nat)(lates:List Nat)(t:HT)(ls:List Nat)(i:P.follows .mixedOrders=true)(g:∀c a d v w,Q (.panic c) (Zck a d v) w->Q (.panic c) a w)
 (b:(YF l.toArray&&decide (t.len+ls.length=l.toArray.size)&&lsB .any l.toArray n lates (htB .any l.toArray n lates t) ls (Yu l.toArray.size false))=true) (j:S w.drew)
 (h:MQ P l.toArray S (λa'=>abq P l.toArray Q S (FG lates S) t a' w.drew) ls a):(zU id l.toArray true).wp P Q a w:=by
 simp only[ZF,decide_eq_true_eq]at b;refine Zd5 i (JV (T:=FG lates S) _ _ _ _ ?_);have e:Dn .any l.toArray (Yu l.toArray.size false):=λk ok _ f=>by
  rw[show(Yu l.toArray.size false).getD k false=false by unfold Array.getD;split<;>simp]at f;cases f
 have:=Vd b.1.1 g j (λlisted a m p o=>abS b.1.1 g t listed a w.drew m p o) ls _ a e b.2 h;rw[b.1.2]at this;exact this
variable {r:HT}
variable {o:Oper}
def afu (b:ops[i]?=some o)(c:o.guard=none)(h:o.wp P a w (λa' w'=>T i w'/\abq P ops Q S T r a' w') Q):abq P ops Q S T (.one i r) a w:=by
 unfold abq wpOp;simp only[b];rw[if_pos (by simp[Yf,c])];exact .inl h
def abN (c:ops[i]?=some o)(d:o.guard=none)(b:(Zby a.eval o).run P w=.ok (.value v) w')(e:T i w')
 (h:abq P ops Q S T r (a.put o.dst v) w'):abq P ops Q S T (.one i r) a w:=by
 refine afu c d ?_;unfold ZbA;rw[b,Zdi];exact⟨e,h⟩
variable {f:ZaQ}
variable {args x cur cs:Array Zf}
def abI (c:ops[i]?=some o)(d:o.guard=none)(b:(Zby a.eval o).run P w=.ok (.enter f args) w)
 (g:Calls P f args w λe w'=>(∃v,e=.returned v/\T i w'/\abq P ops Q S T r (a.put o.dst v) w')\/∃x,e=.panicked x/\Q (.panic x) a w'):abq P ops Q S T (.one i r) a w:=by
 refine afu c d ?_;unfold ZbA;rw[b,Zdj];refine g.mono λe w' h=>?_;rcases h with⟨v,rfl,h⟩|⟨x,rfl,h⟩
 .exact h
 exact h
def adI (c:ops[i]?=some o)(d:o.guard=none)(b:(Zby a.eval o).run P w=.ok .skip w')(e:T i w')
 (h:abq P ops Q S T r (a.put o.dst Ze) w'):abq P ops Q S T (.one i r) a w:=by
 refine afu c d ?_;unfold ZbA;rw[b,ZcQ];exact⟨e,h⟩
def abo (e:S w)(c:ops[i]?=some o)(d:o.guard=none)(b:∀w,S w->(Zby a.eval o).run P w=.ok (.value v) w)
 (h:abq P ops Q S T r (a.put o.dst v) w):abq P ops Q S T (.free i r) a w:=
 ⟨e,o,v,c,.inl ⟨by simp[Yf,d],b⟩,h⟩
def adt {x y:HT}(c:abq P ops Q S T (.one i x) a w)(b:abq P ops Q S T (.one j y) a w):abq P ops Q S T (.fork i x j y) a w:=⟨c,b⟩
end
def ad2 (now:List Int):Nat->List Int->List Bool
 |_,[]=> []
 |i,n::r=>(!decide (n=nth now i))::ad2 now (i+1) r
def rB (ab:Nat->Nat):Nat->List Bool->Nat->Nat
 |_,[],s=>s
 |i,b::r,s=>rB ab (i+1) r (if b=true then s|||Iv (ab i) i else s)
def adJ (ab:Nat->Nat)(now:List Int):∀(l:List Int) (i s:Nat),JR ab now i l s=rB ab i (ad2 now i l) s
 | [],_,_=>rfl
 |n::r,i,s=>by
  unfold JR ad2 rB;rw[adJ ab now r];by_cases h:n=nth now i<;>simp[h]
def adn (now:List Int):∀(l:List Int) (i:Nat),(ad2 now i l).length=l.length
 | [],_=>rfl
 |_::r,i=>by simp[ad2,adn now r]
def vD (o:List (List Int))(D:List Bool)(l:List Int):Bool:=((Yr o.length).all λi=> !(D.getD i false)||l.contains (i:Int))&&l.all λx=>(o.getD x.toNat []).all λy=>l.contains y
def aj3 (n m i:Nat):List (List Int):=(fH m n).drop i++((Yr (n+1)).drop (m+1)).flatMap λk=>fH k n
def WX (o:List (List Int))(D:List Bool):Bool:=(aj3 o.length 0 0).find? (vD o D)==some (AB (rB (ri o) 0 D 0))
def P3:List Bool:=[true,false]
def Hd (b:Bool):b∈P3:=by cases b<;>simp[P3]
def acN:∀a∈Lj,∀d∈P3,WX [a.filter (· <1)] [d]=true:=by decide+kernel
def acO:∀a∈Lj,∀b∈Lj,∀d∈P3,∀e∈P3,WX [a.filter (· <2),b.filter (· <2)] [d,e]=true:=by decide+kernel
def acP:∀a∈Lj,∀b∈Lj,∀c∈Lj,∀d∈P3,∀e∈P3,∀f∈P3,WX [a,b,c] [d,e,f]=true:=by decide+kernel
variable {D st:List Bool}
def least {o:List (List Int)}(j:1<=o.length)(k:o.length<=3)(n:D.length=o.length)(i:∀l∈o,l.Pairwise (· < ·))(g:∀l∈o,∀x∈l,0<=x/\x<o.length):WX o D=true:=by
 match o,D,j,k,n,i,g with
 | [a],[d],_,_,_,i,g=>
  have j:=g a (by simp);have:=acN a (EM (i a (by simp)) λx h=>by have:=j x h;simp at this;omega) d (Hd d);rwa[filter_lt (λx h=>by have:=j x h;simpa using this)]at this
 | [a,b],[d,e],_,_,_,i,g=>
  have j:=g a (by simp);have m:=g b (by simp);have:=acO a (EM (i a (by simp)) λx h=>by have:=j x h;simp at this;omega) b (EM (i b (by simp)) λx h=>by have:=m x h;simp at this;omega) d (Hd d) e (Hd e);rwa[filter_lt (λx h=>by have:=j x h;simpa using this),filter_lt (λx h=>by have:=m x h;simpa using this)]at this
 | [a,b,c],[d,e,f],_,_,_,i,g=>
  exact acP a (EM (i a (by simp)) λx h=>by have:=g a (by simp) x h;simpa using this) b (EM (i b (by simp)) λx h=>by have:=g b (by simp) x h;simpa using this)
   c (EM (i c (by simp)) λx h=>by have:=g c (by simp) x h;simpa using this) d (Hd d) e (Hd e) f (Hd f)
 |_::_::_::_::_,_,_,k,_,_,_=>simp at k
def Vu (l:List Int):Ke l l=true:=by simp[Ke]
def B3.aj4 (h:YH w.heap.size w A)(c:B3 b A B)(d:w.heap.size<=b):YH w.heap.size w B:=h.trans ((c.CN (K:=λx=>x=b) rfl).below (λx a=>by have:x=b:=a;omega) h.size)
def adu (n lo hi:Int)(w:Zb):Calls Lp 90 #[.int .i64 n,.int .i64 lo,.int .i64 hi] w λe w'=>e=.returned (.bool (!AD n lo hi))/\w'=w:=by
 go_enter Lp.func135,amh;go_wp2
 all_goals go_ret
 all_goals refine⟨?_,rfl⟩
 all_goals simp_all[AD]
 have c:¬n<lo:=by omega
 by_cases b:n<=hi
 .have a:¬hi<n:=by omega
  simp[b,c,a]
 have a:hi<n:=by omega
 simp[b,a]
def aj1 (n a:Int)(w:Zb):Calls Lp 88 #[.int .i64 n,.int .i64 a] w λe w'=>e=.returned (.int .i64 (Di n a))/\w'=w:=by
 go_enter Lp.func107,amb;go_wp2
 all_goals go_ret
 all_goals simp_all[Di]
 all_goals omega
variable {p:Int×Int}
variable {lo hi:Int}
def aeR (h:AD p.1 lo hi=true):CV p lo hi=1:=if_pos (.inl h)
def aeS (h:AD p.2 lo hi=true):CV p lo hi=1:=if_pos (.inr h)
def aeU (b:AD p.1 lo hi=false)(a:AD p.2 lo hi=false)(h:p.2<p.1):CV p lo hi=5:=by
 unfold CV;rw[if_neg (by rw[b,a];simp),if_pos h]
def adv (b:AD p.1 lo hi=false)(a:AD p.2 lo hi=false)(h:¬p.2<p.1):CV p lo hi=0:=by
 unfold CV;rw[if_neg (by rw[b,a];simp),if_neg h]
def amn (h:RC S w v1 v2 v3 v4 v5 c)(E:∀b,S b->b<w.heap.size):Calls Lp 87 #[.agg #[v1,v2,v3,v4,v5]] w λe w'=>e=.returned (.int .i64 (Dq c))/\YH w.heap.size w w':=by
 obtain⟨O,J,N,I,M,H,L,G,K,F,rfl,rfl,rfl,rfl,rfl,l1,m1,l2,m2,l3,m3,l4,m4,l5,m5⟩:=h.vs;have IX:=DJ;go_enter Lp.func116,amd;have z:YH w.heap.size w (w.alloc (.cells #[.slice O c.base.length J,.slice N c.Af.length I,.slice M c.hooks.length H,.slice L c.Aa.length G,.slice K c.now.length F] 26)):=(Zh _ _).alloc (Zj _) _;have Y:=Bp w (.cells #[.slice O c.base.length J,.slice N c.Af.length I,.slice M c.hooks.length H,.slice L c.Aa.length G,.slice K c.now.length F] 26);go_wp2_with (go_at_call 88;refine(aj1 _ _ _).mono ?_;rintro e w' ⟨rfl,rfl⟩)
 .have D:(Di c.base.length 3 !=0)=true:=by assumption
  go_ret;exact⟨Bw (by rw[Dq,K4 (Gr D)]),z⟩
 rename (Di _ _ !=0)=false=>D
 have l:=Zd D;clear D;go_loopg [4] c.base.length (λg i wr=>∃k:Nat,k<=c.base.length/\g=c.base.length - k/\i=.int .i64 k/\Bc (Fo 1 60) (c.base.drop k)=Bc (Fo 1 60) c.base/\wr=(w.alloc (.cells #[.slice O c.base.length J,.slice N c.Af.length I,.slice M c.hooks.length H,.slice L c.Aa.length G,.slice K c.now.length F] 26)))
 case atStart=>exact⟨0,Zp _,rfl,rfl,rfl,rfl⟩
 obtain⟨k,V,rfl,rfl,m,rfl⟩:=hrel;have a:=Zd m;clear m;by_cases n:k<c.base.length
 .obtain⟨b,o,rfl,u,T⟩:=h.base.at_ n
  have OJ:=z.cell (p:=⟨b,o+k,none⟩) (E b u);rw[T]at OJ;have d:=Zd (E_ (f:=Fo 1 60) (Bn n));go_wp2_with (go_at_call 90;refine(adu _ _ _ _).mono ?_;rintro e w' ⟨rfl,rfl⟩)
  .have r:AD (nth c.base k) 1 60=true:=by assumption
   go_ret;have U:Bc (Fo 1 60) c.base=1:=by rw[<-a.out,d.out,Ws r];rfl
   exact⟨Bw (by rw[Dq,BR (FE l.out),U];rfl),z⟩
  have r:AD (nth c.base k) 1 60=false:=by assumption
  go_roundg (c.base.length - (k+1))
  case rel=>exact⟨k+1,by omega,rfl,by go_num,by rw[<-a.out,d.out,SK r];rfl,rfl⟩
  omega
 have s:=Zd (show Bc (Fo 1 60) c.base=0 by rw[<-a.out];exact FZ (by omega));clear a;go_wp2
 .have C:((c.Af.length:Int) !=c.base.length)=true:=by assumption
  go_ret;exact⟨Bw (by rw[Dq,BR (FE l.out),BR s.out,if_pos (xp C)]),z⟩
 rename (_ !=_)=false=>C
 have y:=Zd C;clear C;go_loopg [5] c.Af.length (λg i wr=>∃k:Nat,k<=c.Af.length/\g=c.Af.length - k/\i=.int .i64 k/\Bc (λp=>CV p (-9) 9) (c.Af.drop k)=Bc (λp=>CV p (-9) 9) c.Af/\YH w.heap.size w wr/\wr.heap[w.heap.size]?=some (.cells #[.slice O c.base.length J,.slice N c.Af.length I,.slice M c.hooks.length H,.slice L c.Aa.length G,.slice K c.now.length F] 26 (0,0)))
 case atStart=>exact⟨0,Zp _,rfl,rfl,rfl,z,Y⟩
 obtain⟨k,V,rfl,rfl,m,j,P⟩:=hrel;have a:=Zd m;clear m;have k0:=ch (i:=0) P rfl;have k1:=ch (i:=1) P rfl;have k2:=ch (i:=2) P rfl;by_cases n:k<c.Af.length
 .obtain⟨b,o,rfl,u,R,X⟩:=h.Af.at_ n
  rw[<-j.cell (p:=⟨b,o+k*2,none⟩) (E b u)]at R;rw[<-j.cell (p:=⟨b,o+k*2+1,none⟩) (E b u)]at X;have d:=Zd (E_ (f:=λp=>CV p (-9) 9) (EE n));go_wp2_with (go_at_call 90;refine(adu _ _ _ _).mono ?_;rintro e w' ⟨rfl,rfl⟩)
  .have t:AD (BV c.Af k).1 (-9) 9=true:=by assumption
   go_ret;have A:Bc (λp=>CV p (-9) 9) c.Af=1:=by rw[<-a.out,d.out,aeR t];rfl
   exact⟨Bw (by rw[Dq,BR (FE l.out),BR s.out,if_neg (λx=>x (U2 y.out)),A];rfl),j⟩
  .have t:AD (BV c.Af k).2 (-9) 9=true:=by assumption
   go_ret;have A:Bc (λp=>CV p (-9) 9) c.Af=1:=by rw[<-a.out,d.out,aeS t];rfl
   exact⟨Bw (by rw[Dq,BR (FE l.out),BR s.out,if_neg (λx=>x (U2 y.out)),A];rfl),j⟩
  rename AD (BV c.Af k).2 _ _=false=>q
  rename¬AD (BV c.Af k).1 _ _=true=>t
  have v:=Zd (Bool.eq_false_iff.2 t);have B:=Zd q;clear t q;go_quiet (fail)
  all_goals go_wp2
  .have Q:(BV c.Af k).2<(BV c.Af k).1:=by assumption
   go_ret;have A:Bc (λp=>CV p (-9) 9) c.Af=5:=by rw[<-a.out,d.out,aeU v.out B.out Q];rfl
   exact⟨Bw (by rw[Dq,BR (FE l.out),BR s.out,if_neg (λx=>x (U2 y.out)),A];rfl),Y5 j _⟩
  have Q:¬(BV c.Af k).2<(BV c.Af k).1:=by omega
  go_roundg (c.Af.length - (k+1))
  case rel=>exact⟨k+1,by omega,rfl,by go_num,by rw[<-a.out,d.out,adv v.out B.out Q];rfl,Y5 j _,by simpa using P⟩
  omega
 have v:=Zd (show Bc (λp=>CV p (-9) 9) c.Af=0 by rw[<-a.out];exact FZ (by omega));clear a;go_wp2
 .have q:((c.hooks.length:Int) !=c.base.length)=true:=by assumption
  go_ret;exact⟨Bw (by rw[Dq,BR (FE l.out),BR s.out,if_neg (λx=>x (U2 y.out)),BR v.out,if_pos (xp q)]),j⟩
 rename (_ !=_)=false=>q
 have B:=Zd q;clear q;go_loopg [6] c.hooks.length (λg i W=>∃k:Nat,k<=c.hooks.length/\g=c.hooks.length - k/\i=.int .i64 k/\Bc (Fo 0 5) (c.hooks.drop k)=Bc (Fo 0 5) c.hooks/\W=wr)
 case atStart=>exact⟨0,Zp _,rfl,rfl,rfl,rfl⟩
 obtain⟨k,V,rfl,rfl,m,rfl⟩:=hrel;have a:=Zd m;clear m;by_cases n:k<c.hooks.length
 .obtain⟨b,o,rfl,u,T⟩:=h.hooks.at_ n
  rw[<-j.cell (p:=⟨b,o+k,none⟩) (E b u)]at T;have d:=Zd (E_ (f:=Fo 0 5) (Bn n));go_wp2_with (go_at_call 90;refine(adu _ _ _ _).mono ?_;rintro e w' ⟨rfl,rfl⟩)
  .have r:AD (nth c.hooks k) 0 5=true:=by assumption
   go_ret;have U:Bc (Fo 0 5) c.hooks=1:=by rw[<-a.out,d.out,Ws r];rfl
   exact⟨Bw (by rw[Dq,BR (FE l.out),BR s.out,if_neg (λx=>x (U2 y.out)),BR v.out,if_neg (λx=>x (U2 B.out)),U]),j⟩
  have r:AD (nth c.hooks k) 0 5=false:=by assumption
  go_roundg (c.hooks.length - (k+1))
  case rel=>exact⟨k+1,by omega,rfl,by go_num,by rw[<-a.out,d.out,SK r];rfl,rfl⟩
  omega
 have Z:=Zd (show Bc (Fo 0 5) c.hooks=0 by rw[<-a.out];exact FZ (by omega));clear a;go_wp2;go_ret;exact⟨Bw (by rw[Dq,BR (FE l.out),BR s.out,if_neg (λx=>x (U2 y.out)),BR v.out,if_neg (λx=>x (U2 B.out)),Z.out]),j⟩
def acf (g:Nat)(l:List (Int×Int)):Int:=PM (Di l.length 2) (CY (Fa g l) 0 l)
def amo {a:List (Int×Int)}(hp:SP S w v a)(T:g<=maxLen)(B:∀b,S b->b<w.heap.size):Calls Lp 117 #[.int .i64 g,v] w λe w'=>e=.returned (.int .i64 (acf g a))/\YH w.heap.size w w':=by
 obtain⟨V,U,rfl,Q,P⟩:=hp.val;have X:=DJ;have F:=Zd (show acf g a=PM (Di a.length 2) (CY (Fa g a) 0 a) from rfl);go_enter Lp.func160,ami;go_wp2_with (go_at_call 88;refine(aj1 _ _ _).mono ?_;rintro e w' ⟨rfl,y⟩;have y:=y.symm;subst y)
 .have t:(Di a.length 2 !=0)=true:=by assumption
  go_ret;exact⟨Bw (by rw[F.out,K4 (Gr t)]),Zh _ _⟩
 rename (Di _ _ !=0)=false=>t
 have r:=Zd (show acf g a=CY (Fa g a) 0 a by rw[F.out,BR (FE t)]);have W:=Zd t;clear t F;go_loopg [6] a.length (λN i wr=>∃k:Nat,k<=a.length/\N=a.length - k/\i=.int .i64 k/\CY (Fa g a) k (a.drop k)=CY (Fa g a) 0 a/\YH w.heap.size w wr)
 case atStart=>exact⟨0,Zp _,rfl,rfl,rfl,Zh _ _⟩
 obtain⟨k,R,rfl,rfl,K,h⟩:=hrel;have m:=Zd K;clear K;by_cases L:k<a.length
 .obtain⟨q,z,rfl,C,E,D⟩:=hp.at_ L
  obtain⟨O,M,e,_,J,_⟩:=hp.at_ (i:=0) (by omega);cases e;rw[<-h.cell (p:=⟨q,z+k*2,none⟩) (B q C)]at E;rw[<-h.cell (p:=⟨q,z+k*2+1,none⟩) (B q C)]at D;rw[<-h.cell (p:=⟨q,z+0*2,none⟩) (B q C)]at J;have n:=Zd (K5 (f:=Fa g a) (EE L));obtain⟨x,A⟩:∃x,x=BV a k:=⟨_,rfl⟩;rw[<-A]at E D n;have Y:=Zd A;clear A;obtain⟨c,d⟩:=x;dsimp only at E D;rw[Nat.zero_mul,Nat.add_zero]at J;go_wp2_with (go_at_call 90;refine(adu _ _ _ _).mono ?_;rintro e w' ⟨rfl,rfl⟩)
  .have j:AD c 0 ((g:Int) - 1)=true:=by assumption
   have l:Fa g a k (c,d)=3:=by unfold Fa;rw[if_pos j]
   go_ret;exact⟨Bw (by rw[r.out, <-m.out,n.out,l];rfl),h⟩
  .have j:AD c 0 ((g:Int) - 1)=false:=by assumption
   have o:AD d (-4) 4=true:=by assumption
   have l:Fa g a k (c,d)=1:=by unfold Fa;rw[if_neg (by rw[j];decide),if_pos (.inr o)]
   go_ret;exact⟨Bw (by rw[r.out, <-m.out,n.out,l];rfl),h⟩
  .have j:AD c 0 ((g:Int) - 1)=false:=by assumption
   have o:(d==0)=true:=by assumption
   have l:Fa g a k (c,d)=1:=by unfold Fa;rw[if_neg (by rw[j];decide),if_pos (.inl (by simpa using o))]
   go_ret;exact⟨Bw (by rw[r.out, <-m.out,n.out,l];rfl),h⟩
  rename AD c 0 _=false=>j
  rename¬AD d _ _=true=>o
  rename (d==0)=false=>H
  have l:Fa g a k (c,d)=if 0<k/\c=(BV a 0).1 then 4 else 0:=by unfold Fa;rw[if_neg (by rw[j];decide),if_neg (λx=>x.elim (by simpa using H) o)]
  have G:=Zd l;clear l j o H;by_cases I:0<k
  .go_quiet (fail)
   go_wp2
   .have s:((BV a 0).1==c)=true:=by assumption
    go_ret;have u:Fa g a k (c,d)=4:=by rw[G.out,if_pos ⟨I,by simp at s;exact s.symm⟩]
    exact⟨Bw (by rw[r.out, <-m.out,n.out,u];rfl),Y5 h _⟩
   have s:((BV a 0).1==c)=false:=by assumption
   have u:Fa g a k (c,d)=0:=by rw[G.out,if_neg (λx=>by simp at s;exact s x.2.symm)]
   go_roundg (a.length - (k+1))
   case rel=>exact⟨k+1,by omega,rfl,by go_num,by rw[<-m.out,n.out,u];rfl,Y5 h _⟩
   omega
  go_quiet (fail);go_wp2;have u:Fa g a k (c,d)=0:=by rw[G.out,if_neg (λx=>I x.1)]
  go_roundg (a.length - (k+1))
  case rel=>exact⟨k+1,by omega,rfl,by go_num,by rw[<-m.out,n.out,u];rfl,Y5 h _⟩
  omega
 go_wp2;go_ret;exact⟨Bw (by rw[r.out, <-m.out];exact(MN (by omega)).symm),h⟩
def af9 (a b c:Int):PM (PM a b) c=PM a (PM b c):=by
 unfold PM;by_cases h:a=0
 .rw[if_pos h,if_pos h]
 rw[if_neg h,if_neg h,if_neg h]
def amq (h:RC S w v1 v2 v3 v4 v5 c)(hn:n<c.Aa.length)(K:∀b,S b->b<w.heap.size):Calls Lp 89 #[.agg #[v1,v2,v3,v4,v5],.int .i64 n] w λe w'=>e=.returned (.int .i64 (EF c n))/\YH w.heap.size w w':=by
 obtain⟨a1,c1,a2,c2,a3,c3,a4,c4,a5,c5,rfl,rfl,rfl,rfl,rfl,l1,m1,l2,m2,l3,m3,l4,m4,l5,m5⟩:=h.vs;have IX:=DJ;obtain⟨b,o,s2,s3,rfl,hb,ER,MM,LO,Z,V,P,J⟩:=h.Aa.at_ hn;obtain⟨a6,c6,rfl,l6,m6⟩:=P.val;obtain⟨a7,c7,rfl,l7,m7⟩:=J.val;have ig:=K b hb;obtain⟨s,O⟩:∃s,s=Aj c.Aa n:=⟨_,rfl⟩;have D:EF c n=PM (CV (s.low,s.high) (-2) 2) (PM (acf c.base.length s.Ap) (PM (CY (Ed c.Aa.length n s.over) 0 s.over) (Fo 0 4 s.left))):=by rw[EF,O,acf,af9]
 have C:=Zd D;rw[<-O]at ER MM LO Z V P J l6 l7;clear O D;obtain⟨a,j,BW,d,G⟩:=s;dsimp only at*;have Bg:YH w.heap.size w (w.alloc (.cells #[.slice a1 c.base.length c1,.slice a2 c.Af.length c2,.slice a3 c.hooks.length c3,.slice (some ⟨b,o,none⟩) c.Aa.length c4,.slice a5 c.now.length c5] 26)):=bA (Zh _ _);have F:=Zd (λW (t:YH w.heap.size w W)=>amo (w:=W) (g:=c.base.length) (P.later t) (by omega) (A3 K t));go_enter Lp.func117,ame;go_wp2_with (first|(go_at_call 90;refine(adu _ _ _ _).mono ?_;rintro e w' ⟨rfl,rfl⟩)|(go_at_call 117;refine(F.out _ (bA (bA (Zh _ _)))).mono ?_;rintro e w' ⟨rfl,Bv⟩;obtain⟨De,m,Q⟩:=kp Bv;have f0:=m 0 (.slice a1 c.base.length c1) rfl;have f3:=m 3 (.slice (some ⟨b,o,none⟩) c.Aa.length c4) rfl;have g3:=Q 3 (.slice a7 d.length c7) rfl;have Y:=Q 4 (.int .i64 G) rfl;clear m Q))
 .have r:AD a (-2) 2=true:=by assumption
  go_ret;exact⟨Bw (by rw[C.out,aeR (p:=(a,j)) r];rfl),bA (bA (Zh _ _))⟩
 .have r:AD j (-2) 2=true:=by assumption
  go_ret;exact⟨Bw (by rw[C.out,aeS (p:=(a,j)) r];rfl),bA (bA (Zh _ _))⟩
 .have r:¬AD a (-2) 2=true:=by assumption
  have A:AD j (-2) 2=false:=by assumption
  have l:j<a:=by assumption
  go_ret;exact⟨Bw (by rw[C.out,aeU (p:=(a,j)) (Bool.eq_false_iff.2 r) A l];rfl),bA (bA (Zh _ _))⟩
 .have r:¬AD a (-2) 2=true:=by assumption
  have A:AD j (-2) 2=false:=by assumption
  have l:a<=j:=by assumption
  have q:(acf c.base.length BW !=0)=true:=by assumption
  go_ret;exact⟨Bw (by rw[C.out,adv (p:=(a,j)) (Bool.eq_false_iff.2 r) A (by show¬j<a;omega),BR rfl,K4 (Gr q)]),De⟩
 rename¬AD a (-2) 2=true=>r
 rename AD j (-2) 2=false=>A
 rename a<=j=>l
 rename (acf _ _ !=0)=false=>q
 have I:=Zd (show EF c n=PM (CY (Ed c.Aa.length n d) 0 d) (Fo 0 4 G) by rw[C.out,adv (p:=(a,j)) (Bool.eq_false_iff.2 r) A (by show¬j<a;omega),BR rfl,BR (FE q)]);clear r A l C ER MM LO Z V F;have Q4:=Zd q;clear q;have D':=ZH w' _ Y;have Sb:w.heap.size+1<w'.heap.size:=D';clear D';go_loopg [7] d.length (λg i wr=>∃k:Nat,k<=d.length/\g=d.length - k/\i=.int .i64 k/\CY (Ed c.Aa.length n d) k (d.drop k)=CY (Ed c.Aa.length n d) 0 d/\YH w.heap.size w wr/\YH w'.heap.size w' wr)
 case atStart=>exact⟨0,Zp _,rfl,rfl,rfl,De,Zh _ _⟩
 obtain⟨k,hk,rfl,rfl,CP,u,t⟩:=hrel;have m:=Zd CP;clear CP;rw[<-t.cell (p:=⟨w.heap.size,0,none⟩) (by simp;omega)]at f0;rw[<-t.cell (p:=⟨w.heap.size,3,none⟩) (by simp;omega)]at f3;rw[<-t.cell (p:=⟨w.heap.size+1,3,none⟩) (by simp;omega)]at g3;rw[<-t.cell (p:=⟨w.heap.size+1,4,none⟩) (by simp;omega)]at Y;by_cases Az:k<d.length
 .obtain⟨E,L,rfl,U3,L6⟩:=J.at_ Az
  rw[<-u.cell (p:=⟨E,L+k,none⟩) (K E U3)]at L6;have R:0<k->wr.cell? ⟨E,L+(k - 1),none⟩=some (.int .i64 (nth d (k - 1))):=λh0=>by
   obtain⟨am,ai,e,_,X⟩:=J.at_ (i:=k - 1) (by omega);cases e;rw[<-u.cell (p:=⟨E,L+(k - 1),none⟩) (K E U3)]at X;exact X
  have B:=Zd (K5 (f:=Ed c.Aa.length n d) (Bn Az));obtain⟨x,N⟩:∃x,x=nth d k:=⟨_,rfl⟩;rw[<-N]at L6 B;have HX:=Zd N;have T:=Zd R;clear N R;cases l:AD x 0 ((c.Aa.length:Int) - 1) with
  |true=>
   go_wp2;go_quiet (first|(go_at_call 90;refine Zb5 (adu _ _ _ _)));go_wp2;go_ret;have v:Ed c.Aa.length n d k x=3:=by unfold Ed;rw[if_pos (.inl l)]
   exact⟨Bw (by rw[I.out, <-m.out,B.out,v];rfl),Y5 u _⟩
  |false=>
   go_wp2;go_quiet (first|(go_at_call 90;refine Zb5 (adu _ _ _ _)));go_wp2
   .have q:(x==(n:Int))=true:=by assumption
    go_ret;have v:Ed c.Aa.length n d k x=3:=by unfold Ed;rw[if_pos (.inr (by simpa using q))]
    exact⟨Bw (by rw[I.out, <-m.out,B.out,v];rfl),Y5 u _⟩
   rename (x==(n:Int))=false=>q
   have z:=Zd (show¬(AD x 0 ((c.Aa.length:Int) - 1)=true\/x=n) from λy=>y.elim (by rw[l];decide) (by simpa using q));clear l q;by_cases M:0<k
   .have R:=T.out M
    go_quiet (fail);go_wp2
    .have U:x<=nth d (k - 1):=by assumption
     have v:Ed c.Aa.length n d k x=5:=by unfold Ed;rw[if_neg z.out,if_pos ⟨M,U⟩]
     go_ret;exact⟨Bw (by rw[I.out, <-m.out,B.out,v];rfl),Y5 (Y5 u _) _⟩
    have U:nth d (k - 1)<x:=by assumption
    have v:Ed c.Aa.length n d k x=0:=by unfold Ed;rw[if_neg z.out,if_neg (λy=>by have:=y.2;omega)]
    go_roundg (d.length - (k+1))
    case rel=>exact⟨k+1,by omega,rfl,by go_num,by rw[<-m.out,B.out,v];rfl,Y5 u _,Y5 t _⟩
    omega
   go_quiet (fail);go_wp2;have v:Ed c.Aa.length n d k x=0:=by unfold Ed;rw[if_neg z.out,if_neg (λy=>M y.1)]
   go_roundg (d.length - (k+1))
   case rel=>exact⟨k+1,by omega,rfl,by go_num,by rw[<-m.out,B.out,v];rfl,Y5 u _,Y5 t _⟩
   omega
 have H:=Zd (show EF c n=Fo 0 4 G by rw[I.out,BR (by rw[<-m.out];exact MN (by omega))]);clear m;go_wp2_with (go_at_call 90;refine(adu _ _ _ _).mono ?_;rintro e w' ⟨rfl,rfl⟩)
 .have l:AD G 0 4=true:=by assumption
  go_ret;exact⟨Bw (by rw[H.out,Ws l]),u⟩
 have l:AD G 0 4=false:=by assumption
 go_ret;exact⟨Bw (by rw[H.out,SK l]),u⟩
def c93 (h:RC S w v1 v2 v3 v4 v5 c)(hl:SI S w v6 l)(r:∀b,S b->b<w.heap.size):Calls Lp 64 #[.agg #[v1,v2,v3,v4,v5],v6] w λe w'=>e=.returned (.int .i64 (Ct c l))/\YH w.heap.size w w':=by
 obtain⟨Q,M,P,L,O,K,z,y,N,J,rfl,rfl,rfl,rfl,rfl,l1,m1,l2,m2,l3,m3,l4,m4,l5,m5⟩:=h.vs;obtain⟨a6,c6,rfl,l6,Z⟩:=hl.val;have IX:=DJ;have s:YH w.heap.size w (w.alloc (.cells #[.slice Q c.base.length M,.slice P c.Af.length L,.slice O c.hooks.length K,.slice z c.Aa.length y,.slice N c.now.length J] 26)):=(Zh _ _).alloc (Zj _) _;by_cases t:l.length<c.Aa.length
 .go_enter Lp.func93,n93
  go_wp2;go_ret;exact⟨Bw (by rw[Ct,if_pos t]),s⟩
 by_cases A:c.Aa.length<l.length
 .go_enter Lp.func93,n93
  go_wp2;go_ret;exact⟨Bw (by rw[Ct,if_neg t,if_pos A]),s⟩
 have a:l.length=c.Aa.length:=by omega
 have x:Ct c l=Bc (λp:Int×Ay=>Fo p.2.low p.2.high p.1) (l.zip c.Aa):=by rw[Ct,if_neg t,if_neg A]
 have j:(l.zip c.Aa).length=l.length:=by simp[a]
 have B:=Zd x;have V:=Zd j;have W:=Zd a;clear x j a;go_enter Lp.func93,n93;go_wp2;go_loopg [5] l.length (λg i wr=>∃k:Nat,k<=l.length/\g=l.length - k/\i=.int .i64 k/\Bc (λp:Int×Ay=>Fo p.2.low p.2.high p.1) ((l.zip c.Aa).drop k)=Bc (λp:Int×Ay=>Fo p.2.low p.2.high p.1) (l.zip c.Aa)/\YH w.heap.size w wr/\wr.cell? ⟨w.heap.size,3,none⟩=some (.slice z c.Aa.length y))
 case atStart=>exact⟨0,Zp _,rfl,rfl,rfl,s,by simp⟩
 obtain⟨k,hk,rfl,rfl,E,d,G⟩:=hrel;have m:=Zd E;clear E;by_cases F:k<l.length
 .have C:k<c.Aa.length:=by have:=W.out;omega
  obtain⟨b,o,rfl,I,H⟩:=hl.at_ F;obtain⟨n,u,Y,X,rfl,D,T,U,_⟩:=h.Aa.at_ C;rw[<-d.cell (p:=⟨b,o+k,none⟩) (r b I)]at H;rw[<-d.cell (p:=⟨n,u+k*5,none⟩) (r n D)]at T;rw[<-d.cell (p:=⟨n,u+k*5+1,none⟩) (r n D)]at U;have v:=Zd (E_ (f:=λp:Int×Ay=>Fo p.2.low p.2.high p.1) (Ra F C));go_wp2;go_quiet (first|(go_at_call 90;refine Zb5 (adu _ _ _ _)))
  all_goals go_wp2
  .have q:AD (nth l k) (Aj c.Aa k).low (Aj c.Aa k).high=true:=by assumption
   go_ret;exact⟨Bw (by rw[B.out, <-m.out,v.out,Ws q];rfl),Y5 d _⟩
  have q:AD (nth l k) (Aj c.Aa k).low (Aj c.Aa k).high=false:=by assumption
  go_roundg (l.length - (k+1))
  case rel=>exact⟨k+1,by omega,rfl,by go_num,by rw[<-m.out,v.out,SK q];rfl,Y5 d _,by simpa using G⟩
  omega
 have R:=Zd (show Ct c l=0 by rw[B.out, <-m.out];exact FZ (by have:=V.out;omega));clear m;go_wp2;go_ret;exact⟨Bw R.out.symm,d⟩
def ajM:(Tryz.prog.info? 4).map (λi=>(i.zero,i.size,i.bytes))=some (some (.bool false),1,1):=by kernel_rfl
def ac6 (st:List Bool):Array Zf:=(st.map Value.bool).toArray
def adK (n:Nat)(e:n<=1000)(w:Zb):(Zdp 123 (.int .i64 n) (.int .i64 n)).run Lp w=.ok (.slice (some ⟨w.heap.size,0,none⟩) n n) (w.alloc (.cells (ac6 (List.replicate n false)) 4)):=by
 obtain⟨a,hi,b,d,c⟩:=zp ajM;have h:=run_make (P:=Lp) w 123 4 a (.bool false) (Cz Tryz.underlying123) (Dz hi) b .i64 .i64 n n (by omega) (Int.le_refl _) (by rw[c];omega) (by omega);rw[h,d];simp only[Int.toNat_natCast]
 congr 3
 unfold ac6;apply Array.ext
 .simp[madeCells]
 intro i g f;simp[madeCells,Value.cells,Nat.mod_one]
def afv (st:List Bool)(k:Nat):(ac6 st).setIfInBounds k (.bool true)=ac6 (st.set k true):=by
 unfold ac6;simp
def abR (h:k<st.length):(ac6 st)[k]?=some (.bool (st.getD k false)):=by
 unfold ac6;simp[Y6,h]
def aeD (h:k<l.length):aiJ (l.drop k) st=aiJ (l.drop (k+1)) (st.set (nth l k).toNat true):=by
 unfold aiJ;rw[ZO h,List.foldl_cons]
 congr 2
 simp[nth,h]
def aeF {o:List (List Int)}(h:i<o.length):yn n i (o.drop i) st=yn n (i+1) (o.drop (i+1)) (if i=n\/st.getD i false=true then aiJ (o.getD i []) st else st):=by
 rw[ZO h];show yn n (i+1) (o.drop (i+1)) (if i=n\/st.getD i false=true then aiJ o[i] st else st)=_;rw[show o.getD i []=o[i] by simp[Y6,h]]
structure AbW (w:Zb)(x:Array Zf)(n:Nat)(st:List Bool)(wr:Zb):Prop where
 below:YH w.heap.size w wr
 box:wr.heap[w.heap.size]?=some (.cells x 26 (0,0))
 row:wr.heap[w.heap.size+1]?=some (.cells (ac6 st) 4 (0,0))
 len:st.length=n
variable {args x cur cs:Array Zf}
def AbW.set {wr:Zb}(h:AbW w x n st wr)(k:Nat):AbW w x n (st.set k true) (wr.setCell ⟨w.heap.size+1,k,none⟩ (.bool true)):=
 ⟨bS h.below (by omega),(AZ (by omega) _).trans h.box,by rw[Ba h.row _,afv],by rw[ZcC];exact h.len⟩
def ajN (h:RC S w v1 v2 v3 v4 v5 c)(Jw:JO c.Aa)(R:∀b,S b->b<w.heap.size):
  Calls Lp 65 #[.agg #[v1,v2,v3,v4,v5],.int .i64 n] w λe w'=>e=.returned (.slice (some ⟨w.heap.size+1,0,none⟩) c.Aa.length c.Aa.length)/\YH w.heap.size w w'/\w'.heap[w.heap.size+1]?=some (.cells (ac6 (abU c.Aa n)) 4 (0,0))/\(abU c.Aa n).length=c.Aa.length:=by
 obtain⟨M,I,L,H,K,G,T,F,J,E,rfl,rfl,rfl,rfl,rfl,l1,m1,l2,m2,l3,m3,l4,m4,l5,m5⟩:=h.vs;have IX:=DJ;have Jm:=Jw.few;have am:=λW=>adK c.Aa.length (by omega) W;have m:(abl c.Aa).length=c.Aa.length:=by simp[abl]
 have A:iV n (abl c.Aa) c.Aa.length (List.replicate c.Aa.length false)=abU c.Aa n:=by unfold abU aiK;rw[m]
 have HF:=Zd A;have HO:=Zd m;clear A m;go_enter Lp.func118,amf;go_wp2;go_loopg [6] c.Aa.length (λg i wr=>∃(r:Nat) (st:List Bool),r<=c.Aa.length/\g=c.Aa.length - r/\i=.int .i64 r/\iV n (abl c.Aa) (c.Aa.length - r) st=abU c.Aa n/\AbW w #[.slice M c.base.length I,.slice L c.Af.length H,.slice K c.hooks.length G,.slice T c.Aa.length F,.slice J c.now.length E] c.Aa.length st wr)
 case atStart=>exact⟨0,_,Zp _,rfl,rfl,HF.out,⟨bA (bA (Zh _ _)),Bf (Bp _ _) _,by have:=Bp (w.alloc (.cells #[.slice M c.base.length I,.slice L c.Af.length H,.slice K c.hooks.length G,.slice T c.Aa.length F,.slice J c.now.length E] 26)) (.cells (ac6 (List.replicate c.Aa.length false)) 4);rwa[ZB]at this,by simp⟩⟩
 obtain⟨r,st,hr,rfl,rfl,z,v⟩:=hrel;have B_:=Zd z;clear z;have Y:=ch (i:=3) v.box rfl;by_cases Az:r<c.Aa.length
 .go_wp2
  go_loopg [7] c.Aa.length (λg i wx=>∃(j:Nat) (d:List Bool),j<=c.Aa.length/\g=c.Aa.length - j/\i=.int .i64 j/\yn n j ((abl c.Aa).drop j) d=yn n 0 (abl c.Aa) st/\AbW w #[.slice M c.base.length I,.slice L c.Af.length H,.slice K c.hooks.length G,.slice T c.Aa.length F,.slice J c.now.length E] c.Aa.length d wx)
  case atStart=>exact⟨0,st,Zp _,rfl,rfl,rfl,v⟩
  obtain⟨j,d,hj,rfl,rfl,B,s⟩:=hrel;have V:=Zd B;clear B;have Y:=ch (i:=3) s.box rfl;by_cases O:j<c.Aa.length
  .have t:=ch s.row (abR (k:=j) (by have:=s.len;omega))
   have lY:(abl c.Aa).getD j []=(Aj c.Aa j).over:=by simp[abl,Aj,Y6,O]
   have Z:=Zd (aeF (n:=n) (i:=j) (o:=abl c.Aa) (st:=d) (by have:=HO.out;omega));rcases(show j=n\/(¬j=n/\d.getD j false=true)\/¬j=n/\d.getD j false=false by
    by_cases e:j=n
    .exact .inl e
    cases e2:d.getD j false
    .exact .inr (.inr ⟨e,rfl⟩)
    exact .inr (.inl ⟨e,rfl⟩)) with hj1|⟨hj1,xK⟩|⟨hj1,xK⟩
   rotate_left 2
   .have BL:¬(j:Int)=n:=by omega
    rw[xK]at t;go_wp2;go_roundg (c.Aa.length - (j+1))
    case rel=>exact⟨j+1,d,by omega,rfl,by go_num,by rw[<-V.out,Z.out,if_neg (λx=>x.elim hj1 (by rw[xK];decide))],s⟩
    omega
   case' inl=>
    subst hj1;go_wp2;have HC:=Zd (show j=j\/d.getD j false=true from .inl rfl)
   case' inr.inl=>
    have BL:¬(j:Int)=n:=by omega
    have HC:=Zd (show j=n\/d.getD j false=true from .inr xK);rw[xK]at t;clear hj1 xK;go_wp2;clear BL
   all_goals
    obtain⟨b,o,v2,v3,ea,hb,_,_,_,U,_,_,Q⟩:=h.Aa.at_ O;subst ea;obtain⟨a7,c7,rfl,l7,m7⟩:=Q.val;obtain⟨a,C⟩:∃a,a=(Aj c.Aa j).over:=⟨_,rfl⟩;have rU:∀k,k<a.length->0<=nth a k/\nth a k<c.Aa.length:=by rw[C];exact Jw.over j O
    have HV:=Zd C;rw[<-C]at U Q l7;clear C;rw[<-s.below.cell (p:=⟨b,o+j*5+3,none⟩) (R b hb)]at U;go_loopg [8] a.length (λg i X=>∃(k:Nat) (l:List Bool),k<=a.length/\g=a.length - k/\i=.int .i64 k/\aiJ (a.drop k) l=aiJ a d/\YH w.heap.size wr X/\AbW w #[.slice M c.base.length I,.slice L c.Af.length H,.slice K c.hooks.length G,.slice (some ⟨b,o,none⟩) c.Aa.length F,.slice J c.now.length E] c.Aa.length l X)
    case atStart=>exact⟨0,d,Zp _,rfl,rfl,rfl,Zh _ _,s⟩
    obtain⟨k,l,hk,rfl,rfl,B,U5,f⟩:=hrel;have et:=Zd B;clear B;have Y:=ch (i:=3) f.box rfl;rw[<-U5.cell (p:=⟨b,o+j*5+3,none⟩) (R b hb)]at U;by_cases q:k<a.length
    .obtain⟨b7,o7,rfl,U3,u⟩:=Q.at_ q
     have y:=rU k q;obtain⟨x,P⟩:∃x:Nat,nth a k=x:=⟨_,(Int.toNat_of_nonneg y.1).symm⟩;have D:=aeD (st:=l) q;rw[P]at u y D;rw[Int.toNat_natCast]at D;have HD:=Zd D;have HX:=Zd P;clear D P;have ai:x<c.Aa.length:=by omega
     rw[<-f.below.cell (p:=⟨b7,o7+k,none⟩) (R b7 U3)]at u;have kx:=ch f.row (abR (k:=x) (by have:=f.len;omega));have fx:=cf (i:=x) f.row;go_wp2;go_roundg (a.length - (k+1))
     case rel=>exact⟨k+1,l.set x true,by omega,rfl,by go_num,by rw[<-et.out,HD.out],U5.setCell (p:=⟨w.heap.size+1,x,none⟩) (Nat.le_succ _) _,f.set x⟩
     omega
    go_wp2;have N:=et.out;rw[Z7.2 (show a.length<=k by omega)]at N;have N:l=aiJ a d:=N;go_roundg (c.Aa.length - (j+1))
    case rel=>exact⟨j+1,l,by omega,rfl,by go_num,by rw[<-V.out,Z.out,if_pos HC.out,lY, <-HV.out,N],f⟩
    omega
  go_wp2;go_roundg (c.Aa.length - (r+1))
  case rel=>exact⟨r+1,d,by omega,rfl,by go_num,by rw[<-B_.out,show c.Aa.length - r=(c.Aa.length - (r+1))+1 by omega];show _=iV n _ _ (yn n 0 _ st);rw[<-V.out,Z7.2 (by have:=HO.out;omega)];rfl,s⟩
  omega
 go_wp2;go_ret;have hz:c.Aa.length - r=0:=by omega
 have e:=B_.out;rw[hz]at e;have e':st=abU c.Aa n:=e;exact⟨rfl,v.below,by rw[<-e'];exact v.row,by rw[<-e'];exact v.len⟩
def adf (f:JP c=0):∀s∈c.Aa,s.over.Pairwise (· < ·)/\∀x∈s.over,0<=x/\x<c.Aa.length:=λs d=>by
 obtain⟨k,a,e⟩:=Zas d;have h:=Gs f k s (by rw[zf a,e]);rw[zN]at h;unfold EF at h;have b:=(Bj (Bj (Bj (Bj h).2).2).2).1;have g:Aj c.Aa k=s:=by
  have:=Db a;rw[zf a,e]at this;exact(ZW this).symm
 rw[g]at b;exact afs b
def adL (d:Di c.Aa.length 3=0)(b:JP c=0)(hi:i<c.Aa.length)(a:k<c.Aa.length):(abU c.Aa i).getD k false=hasB (Ax c.Aa i) k:=
 af8 (by have:=(JQ d).2;omega) (adf b) hi a
def ahB {l:List Ay}(a:k<l.length)(h:hasB (Ax l k) k=true):H0 l=false:=ks a (by rw[h];rfl)
def ahK {l:List Ay}(h:∀k,k<l.length->hasB (Ax l k) k=false):H0 l=true:=by
 unfold H0;rw[Zdm];intro k a;rw[h k (List.mem_range.1 a)]
 rfl
def c50 (h:RC S w v1 v2 v3 v4 v5 c)(A:∀b,S b->b<w.heap.size):Calls Lp 63 #[.agg #[v1,v2,v3,v4,v5]] w λe w'=>e=.returned (.int .i64 (BN c))/\YH w.heap.size w w':=by
 obtain⟨L,F,K,E,J,D,I,C,H,B,rfl,rfl,rfl,rfl,rfl,l1,m1,l2,m2,l3,m3,l4,m4,l5,m5⟩:=h.vs;have IX:=DJ;obtain⟨xs,be⟩:∃xs:Array Zf,xs= #[.slice L c.base.length F,.slice K c.Af.length E,.slice J c.hooks.length D,.slice I c.Aa.length C,.slice H c.now.length B]:=⟨_,rfl⟩;have N:=Zd (show BN c=PM (Dq c) (PM (Di c.Aa.length 3) (PM (JP c) (if H0 c.Aa=true then Ct c c.now else 9))) from rfl);have V:=Zd (λW (d:YH w.heap.size w W)=>amn (h.later d) (A3 A d));have U:=Zd (λW (d:YH w.heap.size w W) n (hn:n<c.Aa.length)=>amq (h.later d) hn (A3 A d));have X:=Zd (λW (d:YH w.heap.size w W) n (M:JO c.Aa)=>ajN (n:=n) (h.later d) M (A3 A d));have an:=Zd (λW (d:YH w.heap.size w W)=>c93 (h.later d) (h.later d).now (A3 A d));go_enter Lp.func50,n50;go_wp2_with (first|(go_at_call 87;refine(V.out _ (bA (Zh _ _))).mono ?_;rintro e W1 ⟨rfl,Bg⟩;(have P:=(Bg.block _ (by rw[ZB];exact Nat.lt_succ_self _)).trans (Bp w (.cells #[.slice L c.base.length F,.slice K c.Af.length E,.slice J c.hooks.length D,.slice I c.Aa.length C,.slice H c.now.length B] 26)));(have Y:YH w.heap.size w W1:=(bA (Zh _ _)).trans (Bg.mono (by rw[ZB];omega)));(have y:=ch (i:=3) P rfl);(have x:=ch (i:=4) P rfl))|(go_at_call 88;refine(aj1 _ _ _).mono ?_;rintro e w' ⟨rfl,O⟩;have O:=O.symm;subst O))
 .have q:(Dq c !=0)=true:=by assumption
  go_ret;exact⟨Bw (by rw[N.out,K4 (Gr q)]),Y⟩
 .have q:(Dq c !=0)=false:=by assumption
  have p:(Di c.Aa.length 3 !=0)=true:=by assumption
  go_ret;exact⟨Bw (by rw[N.out,BR (FE q),K4 (Gr p)]),Y⟩
 rename (Dq c !=0)=false=>q
 rename (Di _ _ !=0)=false=>p
 have Z:=Zd (SQ (FE p));have mG:=Zd (fun(h2:JP c=0) i k=>adL (c:=c) (i:=i) (k:=k) (FE p) h2);have um:=Zd (show BN c=PM (JP c) (if H0 c.Aa=true then Ct c c.now else 9) by rw[N.out,BR (FE q),BR (FE p)]);have Q1:=Zd q;have Q2:=Zd p;clear q p Bg y x N;go_loopg [5] c.Aa.length (λg i wr=>∃k:Nat,k<=c.Aa.length/\g=c.Aa.length - k/\i=.int .i64 k/\CY (λi _=>EF c i) k (c.Aa.drop k)=JP c/\YH w.heap.size w wr/\wr.heap[w.heap.size]?=some (.cells #[.slice L c.base.length F,.slice K c.Af.length E,.slice J c.hooks.length D,.slice I c.Aa.length C,.slice H c.now.length B] 26 (0,0)))
 case atStart=>exact⟨0,Zp _,rfl,rfl,rfl,Y,P⟩
 obtain⟨k,hk,rfl,rfl,CP,a,o⟩:=hrel;have z:=Zd CP;clear CP;obtain⟨k0,k1,k2,y,x⟩:=Qc5 o;have Q:=(Za.1 o).1;by_cases u:k<c.Aa.length
 .have hd:=Zd (K5 (f:=λi _=>EF c i) (Db u))
  go_wp2_with (go_at_call 89;refine(U.out _ a _ u).mono ?_;rintro e w2 ⟨rfl,l⟩)
  .have m:(EF c k !=0)=true:=by assumption
   have t:JP c=EF c k:=by rw[<-z.out,hd.out,if_neg (Gr m)]
   go_ret;exact⟨Bw (by rw[um.out,t,K4 (Gr m)]),a.trans (l.mono a.size)⟩
  have m:(EF c k !=0)=false:=by assumption
  go_roundg (c.Aa.length - (k+1))
  case rel=>exact⟨k+1,by omega,rfl,by go_num,by rw[<-z.out,hd.out,if_pos (FE m)],a.trans (l.mono a.size),(l.block _ Q).trans o⟩
  omega
 have t:JP c=0:=by rw[<-z.out];exact MN (by omega)
 have M:=Z.out t;have HA:=Zd (mG.out t);have xq:=Zd (show BN c=(if H0 c.Aa=true then Ct c c.now else 9) by rw[um.out,BR t]);have HK:=Zd M;clear z t M;go_wp2;go_loopg [7] c.Aa.length (λg i wx=>∃k:Nat,k<=c.Aa.length/\g=c.Aa.length - k/\i=.int .i64 k/\(∀j,j<k->hasB (Ax c.Aa j) j=false)/\YH w.heap.size w wx/\wx.heap[w.heap.size]?=some (.cells #[.slice L c.base.length F,.slice K c.Af.length E,.slice J c.hooks.length D,.slice I c.Aa.length C,.slice H c.now.length B] 26 (0,0)))
 case atStart=>exact⟨0,Zp _,rfl,rfl,λj T=>absurd T (ZbY _),a,o⟩
 obtain⟨k,hk,rfl,rfl,tE,a,o⟩:=hrel;have R:=Zd tE;clear tE k0 k1 k2 y x;obtain⟨k0,k1,k2,y,x⟩:=Qc5 o;have Q:=(Za.1 o).1;by_cases u:k<c.Aa.length
 .have r:=HA.out k k u u
  obtain⟨G,s⟩:∃G,G=hasB (Ax c.Aa k) k:=⟨_,rfl⟩;rw[<-s]at r;have v:=Zd s;have ai:=Zd r;clear s r;go_wp2_with (go_at_call 65;refine(X.out _ a k HK.out).mono ?_;rintro e w2 ⟨rfl,l,Ci,ap⟩;have kx:=ch Ci (abR (k:=k) (by omega));rw[ai.out]at kx)
  .have m:G=true:=by assumption
   go_ret;exact⟨Bw (by rw[xq.out,if_neg (by rw[ahB u (v.out.symm.trans m)];decide)]),a.trans (l.mono a.size)⟩
  have m:G=false:=by assumption
  go_roundg (c.Aa.length - (k+1))
  case rel=>exact⟨k+1,by omega,rfl,by go_num,λj T=>by
   by_cases e:j=k
   .rw[e];exact v.out.symm.trans m
   exact R.out j (by omega),a.trans (l.mono a.size),(l.block _ Q).trans o⟩
  omega
 have am:=Zd (show BN c=Ct c c.now by rw[xq.out,if_pos (ahK λj T=>R.out j (by omega))]);clear R;go_wp2_with (go_at_call 64;refine(an.out _ a).mono ?_;rintro e w2 ⟨rfl,l⟩);go_ret;exact⟨Bw am.out.symm,a.trans (l.mono a.size)⟩
def amu (h:RC S w v1 v2 v3 v4 v5 c)(hl:SI S w v6 l)(m:∀b,S b->b<w.heap.size):Calls Lp 34 #[.agg #[v1,v2,v3,v4,v5],v6] w λe w'=>e=.returned (.int .i64 (Ca c l))/\YH w.heap.size w w':=by
 obtain⟨z,t,y,s,x,r,v,q,u,p,rfl,rfl,rfl,rfl,rfl,M,G,L,F,K,E,J,D,I,C⟩:=h.vs;obtain⟨T,R,rfl,H,B⟩:=hl.val;have U:=DJ;have n:=Zd (show Ca c l=PM (BN c) (Ct c l) from rfl);have k:=Zd (λW (a:YH w.heap.size w W)=>c50 (h.later a) (A3 m a));have j:=Zd (λW (a:YH w.heap.size w W)=>c93 (h.later a) (hl.later a) (A3 m a));go_enter Lp.func114,amc;go_wp2_with (first|(go_at_call 63;refine(k.out _ (bA (Zh _ _))).mono ?_;rintro e W1 ⟨rfl,o⟩;(have d:=(o.block _ (by rw[ZB];exact Nat.lt_succ_self _)).trans (Bp w (.cells #[.slice z c.base.length t,.slice y c.Af.length s,.slice x c.hooks.length r,.slice v c.Aa.length q,.slice u c.now.length p] 26)));(have f:YH w.heap.size w W1:=(bA (Zh _ _)).trans (o.mono (by rw[ZB];omega)));(have Q:=ch (i:=0) d rfl);(have k1:=ch (i:=1) d rfl);(have P:=ch (i:=2) d rfl);(have O:=ch (i:=3) d rfl);(have N:=ch (i:=4) d rfl))|(go_at_call 64;refine(j.out _ f).mono ?_;rintro e w' ⟨rfl,A⟩))
 .have g:(BN c !=0)=true:=by assumption
  go_ret;exact⟨Bw (by rw[n.out,K4 (Gr g)]),f⟩
 have g:(BN c !=0)=false:=by assumption
 go_ret;exact⟨Bw (by rw[n.out,BR (FE g)]),f.trans (A.mono f.size)⟩
structure ac3 (c:A_):Prop where
 base:c.base.length<=20
 Af:c.Af.length<=20
 hooks:c.hooks.length<=20
 Aa:c.Aa.length<=20
 now:c.now.length<=20
 part:∀i,i<c.Aa.length->(Aj c.Aa i).Ap.length<=20/\(Aj c.Aa i).over.length<=20
def adM (w:Zb)(c:A_)(e:Ending)(w':Zb):Prop:=∃b,e=.returned (.bool b)/\(b=false->ac3 c)/\YH w.heap.size w w'
def adM.yes (h:YH w.heap.size w w'):adM w c (.returned (.bool true)) w':=⟨true,rfl,(λx=>by cases x),h⟩
def c25 (h:RC S w v1 v2 v3 v4 v5 c)(n:∀b,S b->b<w.heap.size):
  Calls Lp 4 #[.agg #[v1,v2,v3,v4,v5]] w (adM w c):=by
 obtain⟨B,v,A,u,z,t,y,s,x,r,rfl,rfl,rfl,rfl,rfl,l1,W,l2,V,l3,U,l4,T,Z,R⟩:=h.vs;have IX:=DJ;obtain⟨W1,a⟩:∃W1,W1=w.alloc (.cells #[.slice B c.base.length v,.slice A c.Af.length u,.slice z c.hooks.length t,.slice y c.Aa.length s,.slice x c.now.length r] 26):=⟨_,rfl⟩;have f:YH w.heap.size w W1:=by rw[a];exact bA (Zh _ _)
 have D:W1.heap[w.heap.size]?=some (.cells #[.slice B c.base.length v,.slice A c.Af.length u,.slice z c.hooks.length t,.slice y c.Aa.length s,.slice x c.now.length r] 26 (0,0)):=by rw[a];exact Bp _ _
 obtain⟨H,k1,G,F,E⟩:=Qc5 D;by_cases q:20<c.base.length\/20<c.Af.length\/20<c.hooks.length\/20<c.Aa.length\/20<c.now.length
 .go_enter Lp.func25,n25
  clear H k1 G F E;go_wp2
  all_goals first
   |(exfalso;omega)
   |skip
  all_goals
   go_ret;exact adM.yes (bA (Zh _ _))
 have g1:¬20<(c.base.length:Int):=by omega
 have g2:¬20<(c.Af.length:Int):=by omega
 have g3:¬20<(c.hooks.length:Int):=by omega
 have g4:¬20<(c.Aa.length:Int):=by omega
 have g5:¬20<(c.now.length:Int):=by omega
 have N:=Zd q;clear q;go_enter Lp.func25,n25;have L:=f;rw[a]at L;go_wp2;go_loopg [3] c.Aa.length (λg i wr=>∃k:Nat,k<=c.Aa.length/\g=c.Aa.length - k/\i=.int .i64 k/\(∀j,j<k->(Aj c.Aa j).Ap.length<=20/\(Aj c.Aa j).over.length<=20)/\wr=W1)
 case atStart=>exact⟨0,Zp _,rfl,rfl,λj l=>absurd l (ZbY _),a.symm⟩
 obtain⟨k,hk,rfl,rfl,d,rfl⟩:=hrel;have C:=Zd d;clear d;by_cases O:k<c.Aa.length
 .obtain⟨b,o,v2,v3,rfl,m,_,_,K,M,_,I,J⟩:=h.Aa.at_ O
  obtain⟨a6,c6,rfl,Y,Q⟩:=I.val;obtain⟨a7,c7,rfl,X,P⟩:=J.val;rw[<-f.cell (p:=⟨b,o+k*5+2,none⟩) (n b m)]at K;rw[<-f.cell (p:=⟨b,o+k*5+3,none⟩) (n b m)]at M;clear a;by_cases h6:20<(Aj c.Aa k).Ap.length\/20<(Aj c.Aa k).over.length
  .go_wp2
   all_goals first
    |(exfalso;omega)
    |skip
   all_goals
    go_ret;exact adM.yes f
  have g6:¬20<((Aj c.Aa k).Ap.length:Int):=by omega
  have g7:¬20<((Aj c.Aa k).over.length:Int):=by omega
  go_wp2;go_roundg (c.Aa.length - (k+1))
  case rel=>exact⟨k+1,by omega,rfl,by go_num,λj l=>by
   by_cases e:j=k
   .rw[e];omega
   exact C.out j (by omega),rfl⟩
  omega
 clear a;go_wp2;go_ret;have:=N.out;exact⟨false,rfl,λ_=>⟨by omega,by omega,by omega,by omega,by omega,λi hi=>C.out i (by omega)⟩,f⟩
def ad3 {ab:Nat->Nat}{now:List Int}:∀(l:List Int) (a s k:Nat),k<l.length->JR ab now a (l.take (k+1)) s=if nth l k=nth now (a+k) then JR ab now a (l.take k) s else JR ab now a (l.take k) s|||Iv (ab (a+k)) (a+k)
 |x::r,a,s,0,_=>rfl
 |x::r,a,s,k+1,h=>by
  have b:k<r.length:=by simpa using h
  have:=ad3 (ab:=ab) (now:=now) r (a+1) (if x=nth now a then s else s|||Iv (ab a) a) k b;rw[show a+1+k=a+(k+1) by omega]at this;exact this
def ahL (s t i j:Nat):hasB (s|||Iv t i) j=(hasB s j||(hasB t j||decide (i=j))):=by
 unfold hasB Iv;rw[Nat.testBit_or,Nat.testBit_or,Nat.one_shiftLeft,Nat.testBit_two_pow]
def acL {s n:Nat}(h:s<2^n):∀k,n<=k->FF s k=FF s n
 |0,b=>by rw[Nat.le_zero.1 b]
 |k+1,b=>by
  by_cases e:n=k+1
  .rw[e]
  rw[eF,if_neg,acL h k (by omega)];intro a;have:=Nat.testBit_lt_two_pow (Zl h (YX (by decide) (show n<=k by omega)));unfold hasB at a;rw[this]at a;cases a
def ado (a:Fq c)(hl:l.length<=c.Aa.length):DS c l<2^c.Aa.length:=
 JW (LH a.over) l 0 0 (by omega) (Zdz _)
def afa (a:Fq c)(hl:l.length<=c.Aa.length):FF (DS c l) c.Aa.length=AB (DS c l):=
 (acL (ado a hl) 3 a.few.2).symm
def afb (a:Fq c)(hl:l.length<=c.Aa.length)(k:Nat):(FF (DS c l) k).length<=c.Aa.length:=by
 by_cases e:k<=c.Aa.length
 .exact Zr (Jo _ _) e
 rw[acL (ado a hl) k (by omega)];exact Jo _ _
def afw (st:List Bool)(k:Nat)(b:Bool):(ac6 st).setIfInBounds k (.bool b)=ac6 (st.set k b):=by
 unfold ac6;simp
def AbW.put {wr:Zb}(h:AbW w x n st wr)(k:Nat)(b:Bool):AbW w x n (st.set k b) (wr.setCell ⟨w.heap.size+1,k,none⟩ (.bool b)):=
 ⟨bS h.below (by omega),(AZ (by omega) _).trans h.box,by rw[Ba h.row _,afw],by rw[ZcC];exact h.len⟩
def AbW.later {wr:Zb}(h:AbW w x n st wr)(a:YH wr.heap.size wr W):AbW w x n st W:=
 ⟨h.below.trans (a.mono h.below.size),(a.block _ (Za.1 h.box).1).trans h.box,(a.block _ (Za.1 h.row).1).trans h.row,h.len⟩
def adN (st:List Bool)(k j:Nat)(b:Bool)(a:k<st.length):(st.set k b).getD j false=if k=j then b else st.getD j false:=by
 simp only[Y6,List.getElem?_set];by_cases e:k=j
 .subst e
  rw[if_pos rfl,if_pos rfl,if_pos a]
  rfl
 rw[if_neg e,if_neg e]
def c95 (h:RC S w v1 v2 v3 v4 v5 c)(hl:SI S w v6 l)(an:Ca c l=0)(hS:∀b,S b->b<w.heap.size):
  Calls Lp 35 #[.agg #[v1,v2,v3,v4,v5],v6] w λe w'=>∃v,e=.returned v/\YH w.heap.size w w'/\SI (Cb w.heap.size w') w' v (AB (DS c l)):=by
 obtain⟨a1,X,Z,V,Y,U,O,L,a5,K,rfl,rfl,rfl,rfl,rfl,l1,m1,l2,m2,l3,m3,l4,m4,l5,m5⟩:=h.vs;obtain⟨a6,c6,rfl,l6,m6⟩:=hl.val;obtain⟨i0,hi,Fl,DR,EB⟩:=zp KY;have hu:=Cz YE;have IX:=DJ;obtain⟨Jz,ER⟩:=Bj an;have hv:=EG Jz;have UO:=(Fb ER).1;obtain⟨_,FD⟩:=Bj Jz;obtain⟨bi,EC⟩:=Bj FD;have am:=(Bj EC).1;have Jm:=hv.few;have uX:c.now.length=c.Aa.length:=by
  have:=(Bj EC).2;split at this
  .exact(Fb this).1
  cases this
 have HA:=Zd (λi (hi:i<c.Aa.length) j (d:j<c.Aa.length)=>adL bi am hi d);have fI:=λW=>adK c.Aa.length (by omega) W;obtain⟨tp,y⟩:∃tp:Nat->Nat,tp=λk=>JR (Ax c.Aa) c.now 0 (l.take k) 0:=⟨_,rfl⟩;have fu:=Zd (show tp 0=0 by rw[y];rfl);have fi:=Zd (show∀k,k<c.Aa.length->tp (k+1)=if nth l k=nth c.now k then tp k else tp k|||Iv (Ax c.Aa k) k from λk hk=>by
  rw[y];have:=ad3 (ab:=Ax c.Aa) (now:=c.now) l 0 0 k (by omega);rwa[zN]at this)
 have fm:=Zd (show tp c.Aa.length=DS c l by
  rw[y];show JR _ _ 0 (l.take c.Aa.length) 0=JR _ _ 0 l 0;rw[Zb3 (by omega)])
 have gj:=Zd (show∀k,(FF (DS c l) k).length<=c.Aa.length from afb hv (by omega));have fw:=Zd (show FF (DS c l) c.Aa.length=AB (DS c l) from afa hv (by omega));have fd:=Zd (λW (hW:YH w.heap.size w W) (n:Nat)=>ajN (n:=n) (h.later hW) hv.over (A3 hS hW));have ct:=Zd uX;have cA:=Zd UO;clear uX UO y an Jz ER FD EC am bi;have be:AbW w #[.slice a1 c.base.length X,.slice Z c.Af.length V,.slice Y c.hooks.length U,.slice O c.Aa.length L,.slice a5 c.now.length K] c.Aa.length (List.replicate c.Aa.length false) ((w.alloc (.cells #[.slice a1 c.base.length X,.slice Z c.Af.length V,.slice Y c.hooks.length U,.slice O c.Aa.length L,.slice a5 c.now.length K] 26)).alloc (.cells (ac6 (List.replicate c.Aa.length false)) 4)):=by
  exact⟨bA (bA (Zh _ _)),Bf (Bp _ _) _,by have:=Bp (w.alloc (.cells #[.slice a1 c.base.length X,.slice Z c.Af.length V,.slice Y c.hooks.length U,.slice O c.Aa.length L,.slice a5 c.now.length K] 26)) (.cells (ac6 (List.replicate c.Aa.length false)) 4);rwa[ZB]at this,by simp⟩
 go_enter Lp.func95,n95;go_wp2;go_loopg [6] c.Aa.length (λg i wr=>∃(k:Nat) (T:List Bool),k<=c.Aa.length/\g=c.Aa.length - k/\i=.int .i64 k/\(∀j,j<c.Aa.length->T.getD j false=hasB (tp k) j)/\AbW w #[.slice a1 c.base.length X,.slice Z c.Af.length V,.slice Y c.hooks.length U,.slice O c.Aa.length L,.slice a5 c.now.length K] c.Aa.length T wr)
 case atStart=>exact⟨0,_,Zp _,rfl,rfl,λj d=>by rw[fu.out];simp[hasB,Y6,d],be⟩
 obtain⟨k,T,hk,rfl,rfl,aW,C⟩:=hrel;have hT:=Zd aW;clear aW be;have k3:=ch (i:=3) C.box (v:=.slice O c.Aa.length L) rfl;have k4:=ch (i:=4) C.box (v:=.slice a5 c.now.length K) rfl;by_cases Az:k<c.Aa.length
 .have z:k<c.now.length:=by have:=ct.out;omega
  have lQ:k<l.length:=by have:=cA.out;omega
  obtain⟨b5,o5,rfl,wN,I⟩:=h.now.at_ z;obtain⟨b6,o6,rfl,Xj,H⟩:=hl.at_ lQ;rw[<-C.below.cell (p:=⟨b5,o5+k,none⟩) (hS b5 wN)]at I;rw[<-C.below.cell (p:=⟨b6,o6+k,none⟩) (hS b6 Xj)]at H;have HS:=Zd (fi.out k Az);have z1:=λp=>Al p I;have z2:=λp=>Al p H;have z4:=λp=>Al p k4;go_wp2;refine Av (by kernel_rfl) (by kernel_rfl) ?_
  repeat (first|go_big_quiet_step (fail)|quiet_step (fail))
  refine Z4 ?_;rintro _ ⟨p,rfl⟩;have yw:=AE wr p;obtain⟨N,ai⟩:∃N,N=calm wr p:=⟨_,rfl⟩;rw[<-ai]at yw⊢;clear ai z1 z2 z4 k3 k4 I H;have o:=C.later yw;obtain⟨k0,k1,k2,k3,k4⟩:=Qc5 o.box;have fx:=cf (i:=k) o.row;have D:=ch o.row (abR (k:=k) (by have:=o.len;omega));by_cases f:nth l k=nth c.now k
  .have P:=Zd (show tp (k+1)=tp k by rw[HS.out,if_pos f])
   have B:(nth l k==nth c.now k)=true:=by simpa using f
   clear f;go_wp2;go_roundg (c.Aa.length - (k+1))
   case rel=>exact⟨k+1,T,by omega,rfl,by go_num,λj d=>by rw[P.out];exact hT.out j d,o⟩
   omega
  have P:=Zd (show tp (k+1)=tp k|||Iv (Ax c.Aa k) k by rw[HS.out,if_neg f]);have B:(nth l k==nth c.now k)=false:=by simpa using f
  clear f;obtain⟨W1,NL⟩:∃W1,W1=N.setCell ⟨w.heap.size+1,k,none⟩ (.bool true):=⟨_,rfl⟩;have Q:=o.put k true;rw[<-NL]at Q;have ed:=Zd (fd.out W1 Q.below k);obtain⟨q,E⟩:∃q,q=W1.heap.size+1:=⟨_,rfl⟩;have M9:q=W1.heap.size+1:=E;go_wp2;rw[<-NL];clear NL;refine ed.out.mono ?_;rintro e W2 ⟨rfl,bK,mA,ci⟩;rw[<-E]at mA⊢;clear E;have aT:=Q.later bK;have HQ:=Zd M9;have J:(T.set k true).length=c.Aa.length:=Q.len;have rU:=(Za.1 mA).1;have du:=Q.row;have lX:=(Za.1 Q.row).1;have fy:w.heap.size+1<q:=by have:=HQ.out;omega
  clear M9 du lX D fx k0 k1 k2 k3 k4;obtain⟨s,M⟩:∃s,s=abU c.Aa k:=⟨_,rfl⟩;have uW:=Zd M;rw[<-M]at mA ci;clear M;go_wp2;go_loopg [8] c.Aa.length (λg i wx=>∃(j:Nat) (a:List Bool),j<=c.Aa.length/\g=c.Aa.length - j/\i=.int .i64 j/\(∀m,m<c.Aa.length->a.getD m false=((T.set k true).getD m false||(decide (m<j)&&s.getD m false)))/\AbW w #[.slice a1 c.base.length X,.slice Z c.Af.length V,.slice Y c.hooks.length U,.slice O c.Aa.length L,.slice (some ⟨b5,o5,none⟩) c.now.length K] c.Aa.length a wx/\wx.heap[q]?=some (.cells (ac6 s) 4 (0,0)))
  case atStart=>exact⟨0,_,Zp _,rfl,rfl,λm F=>by simp,aT,mA⟩
  obtain⟨j,a,d,rfl,rfl,bV,r,bv⟩:=hrel;have D3:=Zd bV;clear bV;by_cases lp:j<c.Aa.length
  .have ck:=Zd r.len
   have mK:j<s.length:=by omega
   have D:=ch r.row (abR (k:=j) (by have:=r.len;omega));have fx:=cf (i:=j) r.row;have ky:=ch bv (abR (k:=j) mK);have Bu:∀b:Bool,b=(a.getD j false||s.getD j false)->(∀m,m<c.Aa.length->(a.set j b).getD m false=((T.set k true).getD m false||(decide (m<j+1)&&s.getD m false)))/\AbW w #[.slice a1 c.base.length X,.slice Z c.Af.length V,.slice Y c.hooks.length U,.slice O c.Aa.length L,.slice (some ⟨b5,o5,none⟩) c.now.length K] c.Aa.length (a.set j b) (wr.setCell ⟨w.heap.size+1,j,none⟩ (.bool b))/\(wr.setCell ⟨w.heap.size+1,j,none⟩ (.bool b)).heap[q]?=some (.cells (ac6 s) 4 (0,0)):=λb hb=>by
    refine⟨λm F=>?_,r.put j b,(AZ (by omega) _).trans bv⟩;rw[adN _ _ _ _ (by have:=ck.out;omega)];by_cases e:j=m
    .subst e
     rw[if_pos rfl,hb,D3.out j F];simp
    rw[if_neg e,D3.out m F];rw[show decide (m<j+1)=decide (m<j) from decide_eq_decide.2 (by omega)]
   have qO:=Zd Bu;clear Bu;cases R:a.getD j false<;>cases e2:s.getD j false
   all_goals
    rw[R]at D;rw[e2]at ky;go_wp2;go_roundg (c.Aa.length - (j+1))
    case rel=>exact⟨j+1,_,by omega,rfl,by go_num,qO.out _ (by rw[R,e2];rfl)⟩
    omega
  have G:j=c.Aa.length:=by omega
  go_wp2;go_roundg (c.Aa.length - (k+1))
  case rel=>exact⟨k+1,a,by omega,rfl,by go_num,λm F=>by
   rw[D3.out m F,P.out,ahL,adN _ _ _ _ (by have:=J;rw[ZcC]at this;omega),uW.out,HA.out k Az m F,show decide (m<j)=true from decide_eq_true (by omega),Bool.true_and];by_cases e:k=m
   .subst e;simp
   rw[if_neg e,hT.out m F];simp[e],r⟩
  omega
 have z:k=c.Aa.length:=by omega
 have J:=Zd (show∀j,j<c.Aa.length->T.getD j false=hasB (DS c l) j from λj d=>by rw[hT.out j d,z,fm.out]);obtain⟨t,ht⟩:∃t,t=DS c l:=⟨_,rfl⟩;have b8:=Zd ht;obtain⟨A,Hv⟩:∃A,A=wr:=⟨_,rfl⟩;subst Hv;have r:=C;have fK:=C.len;clear z hT ht C;go_wp2;go_loopg [9,10] c.Aa.length (λg v i wx=>∃j:Nat,j<=c.Aa.length/\g=c.Aa.length - j/\i=.int .i64 j/\wx.ownsRow A.heap.size 3 1 v (FF t j).length ((FF t j).map (ZL .i64))/\YH A.heap.size A wx)
 case atStart=>exact⟨0,Zp _,rfl,rfl,zq _ _ _ _,Zh _ _⟩
 obtain⟨j,d,rfl,rfl,AX,hB⟩:=hrel;have fJ:=Jo t j;have D':=hB.size;by_cases lp:j<c.Aa.length
 .have HS:=Zd (eF t j)
  have ap:=r.later hB;have D:=ch ap.row (abR (k:=j) (by have:=ap.len;omega));rw[show T.getD j false=hasB t j by rw[J.out j lp,b8.out]]at D;cases B:hasB t j with
  |true=>
   rw[B]at D;have R:=Zd (show FF t (j+1)=FF t j++ [(j:Int)] by rw[HS.out,if_pos B]);clear B;go_wp2_with (at_builtin;refine Yc _ rfl _ _ 22 rfl A.heap.size 3 i0 (.int .i64 0) 1 8 hu (Dz hi) Fl DR EB rfl (by decide) _ _ _ rfl (AX.alloc _) ⟨_,0,none⟩ 1 1 [.int .i64 j] rfl rfl (by intro j u d;match j,d with|0,d=>(simp at d;subst d;simp[Zcu])) (by intro u hu;simp at hu;subst hu;rfl) (by unfold maxLen;omega) (by omega) (by simp;omega) ?_;intro v' w1 Bi AG Gc);have hg:(wr.alloc (.cells #[.int .i64 j] 3)).grownBy w1 u9.ownBlock:=AG;have Bg:YH A.heap.size A w1:=Bm (bA hB) hg (λk hk=>(AX.lt k hk).1) (by simp;omega);have Cm:w1.ownsRow A.heap.size 3 1 v' (FF t (j+1)).length ((FF t (j+1)).map (ZL .i64)):=by
    rw[R.out];simpa using Bi
   go_roundg (c.Aa.length - (j+1))
   case rel=>exact⟨j+1,by omega,rfl,by go_num,Cm,Bg⟩
   case measure=>omega
  |false=>
   rw[B]at D;have R:=Zd (show FF t (j+1)=FF t j by rw[HS.out,if_neg (by rw[B];decide)]);clear B;go_wp2;go_roundg (c.Aa.length - (j+1))
   case rel=>exact⟨j+1,by omega,rfl,by go_num,by rw[R.out];exact AX,hB⟩
   omega
 have G:j=c.Aa.length:=by omega
 have b9:=eC AX;have HE:=Zd (show FF t j=AB (DS c l) by rw[G,b8.out,fw.out]);have dl:=Sl.imp (T:=Cb w.heap.size wr) b9 (λx hx=>⟨Zr r.below.size hx.1,hx.2⟩) λ_ _ x=>x;have Lc:YH w.heap.size w wr:=r.below.trans (hB.mono r.below.size);clear G;go_wp2;go_ret;exact⟨_,rfl,Lc,by rw[<-HE.out];exact dl⟩
def c94 (h:RC S w v1 v2 v3 v4 v5 c)(hl:SI T w v6 l)(R:∀i,i<c.Aa.length->0<=(Aj c.Aa i).left)(Q:∀x,x∈l->0<=x/\x<c.Aa.length)(U:∀b,S b->b<w.heap.size)(K:∀b,T b->b<w.heap.size):
  Calls Lp 36 #[.agg #[v1,v2,v3,v4,v5],v6] w λe w'=>e=.returned (.int .i64 ((l.find? (SU c)).getD (-1)))/\YH w.heap.size w w':=by
 obtain⟨a1,Y,a2,X,a3,W,a4,L,Z,V,rfl,rfl,rfl,rfl,rfl,l1,m1,l2,m2,l3,m3,l4,m4,l5,m5⟩:=h.vs;obtain⟨a6,c6,rfl,l6,m6⟩:=hl.val;have IX:=DJ;obtain⟨F,hF⟩:∃F,F=l.find? (SU c):=⟨_,rfl⟩;rw[<-hF];have HF:=Zd (show(l.drop 0).find? (SU c)=F from hF.symm);clear hF;go_enter Lp.func94,n94;go_wp2;go_loopg [5] l.length (λg i wr=>∃k:Nat,k<=l.length/\g=l.length - k/\i=.int .i64 k/\(l.drop k).find? (SU c)=F/\YH w.heap.size w wr/\wr.heap[w.heap.size]?=some (.cells #[.slice a1 c.base.length Y,.slice a2 c.Af.length X,.slice a3 c.hooks.length W,.slice a4 c.Aa.length L,.slice Z c.now.length V] 26 (0,0)))
 case atStart=>exact⟨0,Zp _,rfl,rfl,HF.out,bA (Zh _ _),Bp _ _⟩
 obtain⟨k,hk,rfl,rfl,M,m,B⟩:=hrel;have y:=Zd M;clear M;by_cases D:k<l.length
 .obtain⟨b,o,rfl,J,s⟩:=hl.at_ D
  have z:=Zd (U_ (f:=SU c) D);obtain⟨Oo,MF⟩:=Q _ (Rd D);obtain⟨x,H⟩:∃x:Nat,nth l k=x:=⟨(nth l k).toNat,by omega⟩;rw[H]at s z MF Oo;clear H;have E:x<c.Aa.length:=by omega
  obtain⟨C,G,s2,s3,rfl,G1,_,_,_,_,t,_,_⟩:=h.Aa.at_ (i:=x) E;rw[<-m.cell (p:=⟨C,G+x*5+4,none⟩) (U C G1)]at t;rw[<-m.cell (p:=⟨b,o+k,none⟩) (K b J)]at s;have u:=Zd (R x E);have I:=ch (i:=3) B (v:=.slice (some ⟨C,G,none⟩) c.Aa.length L) rfl;have P:=λp=>Al p s;have O:=λp=>Al p t;have N:=λp=>Al p I;go_wp2;refine Av (by kernel_rfl) (by kernel_rfl) ?_
  repeat (first|go_big_quiet_step (fail)|quiet_step (fail))
  refine Z4 ?_;rintro _ ⟨p,rfl⟩;have r:=AE wr p;obtain⟨q,a⟩:∃q,q=calm wr p:=⟨_,rfl⟩;rw[<-a]at r⊢;have A:=(r.block _ (Za.1 B).1).trans B;have j:=bU m r;rw[<-r.cell (p:=⟨b,o+k,none⟩) (Zl (K b J) m.size)]at s;clear a P O N I t;by_cases d:(Aj c.Aa x).left=0
  .have T6:((Aj c.Aa x).left==0)=true:=by simpa using d
   have n:=Zd (show F=some (x:Int) by rw[<-y.out,z.out,if_pos (by simp[SU,d])]);clear d;go_wp2;go_ret;exact⟨Bw (by rw[n.out];rfl),j⟩
  have T6:((Aj c.Aa x).left==0)=false:=by simpa using d
  have n:=Zd (show(l.drop (k+1)).find? (SU c)=F by rw[<-y.out,z.out,if_neg (by have:=u.out;simp[SU];omega)]);clear d;go_wp2;go_roundg (l.length - (k+1))
  case rel=>exact⟨k+1,by omega,rfl,by go_num,n.out,j,A⟩
  omega
 have n:=Zd (show F=none by rw[<-y.out,Z7.2 (by omega)];rfl);go_wp2;go_ret;exact⟨Bw (by rw[n.out];rfl),m⟩
def adp {a b:Int}(h:a=b):Zbx (.tuple #[v,.int .i64 a])=.returned (.tuple #[v,.int .i64 b]):=by rw[h]
def c57 (h:RC S w v1 v2 v3 v4 v5 c)(hl:SI S w v6 l)(A:∀b,S b->b<w.heap.size):
  Calls Lp 12 #[.agg #[v1,v2,v3,v4,v5],v6] w (iy w (ac4 c l) (Eg c l)):=by
 obtain⟨Z,U,Y,T,X,R,W,Q,V,P,rfl,rfl,rfl,rfl,rfl,l1,m1,l2,m2,l3,m3,l4,m4,l5,m5⟩:=h.vs;obtain⟨a6,c6,rfl,l6,m6⟩:=hl.val;have IX:=DJ;obtain⟨W1,r⟩:∃W1,W1=w.alloc (.cells #[.slice Z c.base.length U,.slice Y c.Af.length T,.slice X c.hooks.length R,.slice W c.Aa.length Q,.slice V c.now.length P] 26):=⟨_,rfl⟩;have s:YH w.heap.size w W1:=by rw[r];exact bA (Zh _ _)
 have K:W1.heap[w.heap.size]?=some (.cells #[.slice Z c.base.length U,.slice Y c.Af.length T,.slice X c.hooks.length R,.slice W c.Aa.length Q,.slice V c.now.length P] 26 (0,0)):=by rw[r];exact Bp _ _
 have C:=Zd (amu (h.later s) (hl.later s) (A3 A s));go_enter Lp.func57,n57;go_wp2;rw[<-r];clear r;refine C.out.mono ?_;rintro e W2 ⟨rfl,Bb⟩;have f:=bU s Bb;have F:=(Bb.block _ (Za.1 K).1).trans K;obtain⟨O,k1,N,M,L⟩:=Qc5 F;by_cases a:Ca c l=0
 .have G:=EG (Bj a).1
  have UO:=(Fb (Bj a).2).1;have p:=Zd (c95 (h.later f) (hl.later f) a (A3 A f));have B:(AB (DS c l)).length<=3:=Jo _ 3;have o:=MT G (l:=l) (by omega);have n:=Zd (show Eg c l=PM 0 (if JU c (DS c l)=none then 0 else 12) by unfold Eg;rw[a]);rw[a];have d:=Zd (show ac4 c l=if Eg c l=0 then AB (DS c l) else [] from rfl);have H:=Zd λi hi=>(G.left i hi).1;obtain⟨t,g⟩:∃t,t=AB (DS c l):=⟨_,rfl⟩;have HT:=Zd g;have k:∀x,x∈t->0<=x/\x<c.Aa.length:=by rw[g];exact o
  rw[<-g]at p B d;have HF:=Zd (show JU c (DS c l)=t.find? (SU c) by rw[g];rfl);clear g o UO G a;go_wp2;refine p.out.mono ?_;rintro e W3 ⟨v,rfl,Bv,z⟩;obtain⟨p7,c7,rfl,l7,m7⟩:=z.val;have iz:=(Bv.block _ (Za.1 F).1).trans F;have u:=bU f Bv;have I:=Zd (c94 (h.later u) z H.out k (A3 A u) (λx q=>q.2));clear O k1 N M L;obtain⟨O,k1,N,M,L⟩:=Qc5 iz;go_wp2;refine I.out.mono ?_;rintro e W4 ⟨rfl,J⟩;have m:=bU u J;have y:SI (Cb w.heap.size W4) W4 (.slice p7 t.length c7) t:=Sl.imp (z.later J) (λx q=>⟨Zr f.size q.1,Zl q.2 J.size⟩) λ_ _ x=>x;cases j:t.find? (SU c) with
  |none=>
   have E:=Zd (show Eg c l=0 by rw[n.out,HF.out,j];rfl);clear j;go_wp2;go_ret2;exact⟨_,adp E.out.symm,m,by rw[d.out,if_pos E.out];exact y⟩
  |some x=>
   have Oo:0<=x:=(k x (List.mem_of_find?_eq_some j)).1;have E:=Zd (show Eg c l=12 by rw[n.out,HF.out,j];rfl);clear j;go_wp2;go_ret2;exact⟨_,adp E.out.symm,m,by rw[d.out,if_neg (by rw[E.out];decide)];exact WC⟩
 have n:=Zd (show Eg c l=Ca c l by unfold Eg;rw[K4 a]);have hq:(Ca c l !=0)=true:=by simpa using a
 have D:=Zd (show ac4 c l=[] by unfold ac4;rw[if_neg (by rw[n.out];exact a)]);clear a;go_wp2;go_ret2;exact⟨_,adp n.out.symm,f,by rw[D.out];exact WC⟩
structure aas (S:Nat->Prop)(w:Zb)(q:Nat)(ss:List Ay)(cur:Array Zf)(wr:Zb):Prop where
 arr:wr.heap[q]?=some (.cells cur 47 (0,0))
 at_:∀i,i<ss.length->∃v2 v3,cur[i*5]?=some (.int .i64 (Aj ss i).low)/\cur[i*5+1]?=some (.int .i64 (Aj ss i).high)/\cur[i*5+2]?=some v2/\cur[i*5+3]?=some v3/\cur[i*5+4]?=some (.int .i64 (Aj ss i).left)/\
  SP S w v2 (Aj ss i).Ap/\SI S w v3 (Aj ss i).over
def aas.dec {wr:Zb}{a:List Ay}(h:aas S w q a cur wr)(hi:i<a.length):
  aas S w q (Kn a i) (cur.setIfInBounds (i*5+4) (.int .i64 ((Aj a i).left - 1))) (wr.setCell ⟨q,i*5+4,none⟩ (.int .i64 ((Aj a i).left - 1))):=by
 refine⟨Ba h.arr _,λj d=>?_⟩;rw[Gw]at d;obtain⟨v2,v3,l,k,g,f,e,c,b⟩:=h.at_ j d;have n:=(Za.1 e).1;simp only[LI hi];by_cases m:j=i
 .subst m
  rw[if_pos rfl];refine⟨v2,v3,?_,?_,?_,?_,?_,c,b⟩
  .rw[Zk (by omega)];exact l
  .rw[Zk (by omega)];exact k
  .rw[Zk (by omega)];exact g
  .rw[Zk (by omega)];exact f
  rw[ZV n]
 rw[if_neg m];refine⟨v2,v3,?_,?_,?_,?_,?_,c,b⟩
 .rw[Zk (by omega)];exact l
 .rw[Zk (by omega)];exact k
 .rw[Zk (by omega)];exact g
 .rw[Zk (by omega)];exact f
 rw[Zk (by omega)];exact e
def aas.sl {wr:Zb}{b:List Ay}(h:aas S w q b cur wr)(e:YH w.heap.size w wr)(d:∀x,S x->T x)(l:T q)(n:b.length<=cap)(m:cap<=maxLen):Sl T (λW=>Rs T W) 5 wr (.slice (some ⟨q,0,none⟩) b.length cap) b:=by
 refine⟨_,_,rfl,n,m,λi x c=>?_⟩;have hi:=(Zm.1 c).1;have k:x=Aj b i:=by have:=Db hi;rw[c]at this;exact ZW this
 subst k;obtain⟨v2,v3,t,s,r,p,o,g,f⟩:=h.at_ i hi;refine⟨q,0,[.int .i64 (Aj b i).low,.int .i64 (Aj b i).high,v2,v3,.int .i64 (Aj b i).left],rfl,l,rfl,λj u a=>?_,v2,v3,rfl,(g.later e).imp d λ_ _ x=>x,(f.later e).imp d λ_ _ x=>x⟩;rw[zN];refine ch h.arr ?_
 match j,a with
 |0,a=>cases a;exact t
 |1,a=>cases a;exact s
 |2,a=>cases a;exact r
 |3,a=>cases a;exact p
 |4,a=>cases a;exact o
def aas.later {wr:Zb}{a:List Ay}(h:aas S w q a cur wr)(b:YH wr.heap.size wr W):aas S w q a cur W:=
 ⟨(b.block _ (Za.1 h.arr).1).trans h.arr,h.at_⟩
variable {news xs:List Zf}
def ajU {wr:Zb}{a:List Ay}(k:wr.heap[q]?=some (.cells cur 47 (0,0)))(h:a.length=n)(l:cur.toList.take (n*5)=news)(m:∀(i:Nat) (x:Ay),a[i]?=some x->Rs S w ((news.drop (i*5)).take 5) x):aas S w q a cur wr:=by
 subst h;refine⟨k,λi hi=>?_⟩;obtain⟨v2,v3,e,g,f⟩:=m i _ (Db hi);have b:∀j u,[.int .i64 (Aj a i).low,.int .i64 (Aj a i).high,v2,v3,.int .i64 (Aj a i).left][j]?=some u->cur[i*5+j]?=some u:=λj u c=>by
  have d:j<5:=by have:=(Zm.1 c).1;simpa using this
  rw[<-e,Z2 d,Yl, <-l,Z2 (by have:=ij hi d;omega)]at c;simpa using c
 exact⟨v2,v3,b 0 _ rfl,b 1 _ rfl,b 2 _ rfl,b 3 _ rfl,b 4 _ rfl,g,f⟩
def afx (w1:Zb)(p:Addr)(u:Zf)(e:Zs)(k:Nat):((w1.setCell p u).alloc (.cells #[] e)).ownsRow w1.heap.size e k (.slice (some ⟨w1.heap.size,0,none⟩) 0 0) 0 []:=by
 have h:(w1.setCell p u).heap.size=w1.heap.size:=by simp
 have:=YC (base:=w1.heap.size) (e:=e) (size:=k) (w1.setCell p u) #[] 0 (by rw[h];exact Zj _) (Zp _) (by simp);rwa[h]at this
def ahM {base:Nat}(h:w.ownsRow base e k v n xs)(l:0<n):∃q cap cur,v=.slice (some ⟨q,0,none⟩) n cap/\base<=q/\w.heap[q]?=some (.cells cur e (0,0))/\n<=cap/\cap<=maxLen/\cur.toList.take (n*k)=xs:=by
 rcases h.2 with⟨_,j⟩|⟨q,cap,cur,c,d,f,g,a,i,b⟩
 .omega
 exact⟨q,cap,cur,c,d,f,g,a,b⟩
def ahO (h:YH w.heap.size w A)(a:B3 b A B)(d:w.heap.size<=b):YH w.heap.size w B:=
 ⟨a.os.trans h.os,a.tape.trans h.tape,a.output.trans h.output,Zr h.size a.size,λk c=>(a.block k (Zl c h.size) (by omega)).trans (h.block k c)⟩
def ajV (S:Nat->Prop)(w:Zb)(c:A_)(l:List Int)(e:Ending)(w':Zb):Prop:=∃(u1 u2 u3 u4 u5:Zf),e=.returned (.agg #[u1,u2,u3,u4,u5])/\YH w.heap.size w w'/\RC (λx=>S x\/Cb w.heap.size w' x) w' u1 u2 u3 u4 u5 (FH c l (DS c l))
def c96 (h:RC S w v1 v2 v3 v4 v5 c)(hl:SI S w v6 l)(N:Ca c l=0)(hS:∀b,S b->b<w.heap.size):
  Calls Lp 41 #[.agg #[v1,v2,v3,v4,v5],v6] w (ajV S w c l):=by
 obtain⟨K,H,J,G,I,F,a4,E,a5,c5,rfl,rfl,rfl,rfl,rfl,l1,m1,l2,m2,l3,m3,l4,m4,l5,m5⟩:=h.vs;obtain⟨a6,c6,rfl,l6,m6⟩:=hl.val;have IX:=DJ;have HV:=EG (Bj N).1;have UO:=Zd (Fb (Bj N).2).1;have Jm:=HV.few;have kw:=Zd HV.left;have fw:∀x,x∈AB (DS c l)->0<=x/\x<c.Aa.length:=MT HV (l:=l) (by have:=UO.out;omega);clear HV;obtain⟨fi,rfl⟩:∃ad,a6=some ad:=by
  obtain⟨b,o,e,_⟩:=hl.at_ (i:=0) (by have:=UO.out;omega);exact⟨_,e⟩
 obtain⟨f,rfl⟩:∃ad,a4=some ad:=by
  obtain⟨b,o,v2,v3,e,_⟩:=h.Aa.at_ (i:=0) (by omega);exact⟨_,e⟩
 obtain⟨i9,M,IV,ai⟩:=Sl.row hl (by decide) fi rfl;have g9:=row_one (by decide) M IV pJ;have dl:=kY (R:=Ri) M IV;obtain⟨i8,tX,an,am⟩:=Sl.row h.Aa (by decide) f rfl;have ii:=row_one (by decide) tX an ah8;have ka:=Zd an;have li:=Zd (λW (hW:YH w.heap.size w W) j u B=>(hW.cell (ZH _ _ (ai j u B))).trans (ai j u B));have lm:=Zd (λW (hW:YH w.heap.size w W) j u B=>(hW.cell (ZH _ _ (am j u B))).trans (am j u B));clear ai am IV an;have i7:=Zd dl;clear dl;obtain⟨i0,hi,Fl,DR,EB⟩:=zp KY;have hu:=Cz YE;obtain⟨jp,gi,ip,io,im⟩:=zp eI;have jn:=Cz Tryz.underlying24;obtain⟨W1,NL⟩:∃W1,W1=(w.alloc (.cells #[.slice K c.base.length H,.slice J c.Af.length G,.slice I c.hooks.length F,.slice (some f) c.Aa.length E,.slice a5 c.now.length c5] 26)).alloc (.cells #[.slice none 0 0,.slice none 0 0,.slice none 0 0,.slice none 0 0,.slice none 0 0] 26):=⟨_,rfl⟩;have Bg:YH w.heap.size w W1:=by rw[NL];exact bA (bA (Zh _ _))
 have lD:W1.heap[w.heap.size]?=some (.cells #[.slice K c.base.length H,.slice J c.Af.length G,.slice I c.hooks.length F,.slice (some f) c.Aa.length E,.slice a5 c.now.length c5] 26 (0,0)):=by rw[NL];exact Bf (Bp _ _) _
 have P:W1.heap[w.heap.size+1]?=some (.cells #[.slice none 0 0,.slice none 0 0,.slice none 0 0,.slice none 0 0,.slice none 0 0] 26 (0,0)):=by rw[NL];exact Jq w _ _
 have lE:=Zd (c95 (h.later Bg) (hl.later Bg) N (A3 hS Bg));clear N;go_enter Lp.func96,n96;go_wp2;rw[<-NL];clear NL;refine lE.out.mono ?_;rintro e a ⟨v,rfl,Bb,hv⟩;obtain⟨t,ht⟩:∃t,t=AB (DS c l):=⟨_,rfl⟩;have HT:=Zd (show FH c l (DS c l)= {c with now:=l,Aa:=CJ c.Aa t} by rw[ht];rfl);rw[<-ht]at hv fw;have lL:t.length<=3:=by rw[ht];exact Jo _ 3
 clear ht;obtain⟨p7,c7,rfl,l7,m7⟩:=hv.val;have iv:=bU Bg Bb;have Ia:=(Bb.block _ (Za.1 lD).1).trans lD;have yv:=(Bb.block _ (Za.1 P).1).trans P;obtain⟨k0,k1,k2,k3,k4⟩:=Qc5 Ia;have yd:((a.alloc (.cells #[.slice K c.base.length H,.slice J c.Af.length G,.slice I c.hooks.length F,.slice (some f) c.Aa.length E,.slice a5 c.now.length c5] 26)).alloc (.cells #[] 3)).ownsRow (a.heap.size+1) 3 1 (.slice (some ⟨a.heap.size+1,0,none⟩) 0 0) 0 []:=by
  have:=YC (base:=a.heap.size+1) (e:=3) (size:=1) (a.alloc (.cells #[.slice K c.base.length H,.slice J c.Af.length G,.slice I c.hooks.length F,.slice (some f) c.Aa.length E,.slice a5 c.now.length c5] 26)) #[] 0 (by rw[ZB];exact Zj _) (Zp _) rfl;rwa[ZB]at this
 have HK:=Zd (show((a.alloc (.cells #[.slice K c.base.length H,.slice J c.Af.length G,.slice I c.hooks.length F,.slice (some f) c.Aa.length E,.slice a5 c.now.length c5] 26)).alloc (.cells #[] 3)).heap[a.heap.size]?=some (.cells #[.slice K c.base.length H,.slice J c.Af.length G,.slice I c.hooks.length F,.slice (some f) c.Aa.length E,.slice a5 c.now.length c5] 26 (0,0)) from Bf (Bp _ _) _);have ml:=Bb.size;have k9:=(Za.1 P).1;have mj:¬a.heap.size=w.heap.size:=by omega
 have i6:¬w.heap.size=a.heap.size:=by omega
 have fm:=Zd Ia;have fu:=Zd yv;have A:=Zd iv;clear Ia yv;go_wp2_with (first|(at_builtin;refine Yc _ rfl _ _ 22 rfl (a.heap.size+1) 3 i0 (.int .i64 0) 1 8 hu (Dz hi) Fl DR EB rfl (by decide) _ 0 [] rfl yd fi l.length c6 i9 rfl M (λj u B=>ca (ca (li.out _ A.out j u B) _) _) g9 (by have:=UO.out;unfold maxLen;omega) (by have:=UO.out;omega) (by simp) ?_;intro v' w1 Bi AG Gc;clear yd k0 k1 k2 k3 k4;rw[zN,zP,i7.out]at Bi;(have Bv:YH a.heap.size a w1:=Bm (bA (bA (Zh _ _))) AG (λk hk=>by cases hk;exact Nat.le_succ _) (by simp;omega));(have et:=eC Bi);obtain⟨n,z,rfl,_⟩:=et.val;(have U4:=(AG.block a.heap.size (by simp;omega) (λe=>by have:=ZW (show some a.heap.size=some (a.heap.size+1) from e);omega)).trans HK.out);(have n4:=ch (i:=4) U4 (v:=.slice a5 c.now.length c5) rfl);(have f4:=cf (i:=4) U4);(have iz:=(Bv.block _ (by omega)).trans fm.out);(have k3:=ca (ch (i:=3) ((AZ (b:=a.heap.size) (i:=4) i6 (.slice n l.length z)).trans iz) (v:=.slice (some f) c.Aa.length E) rfl) (.cells #[] 47));(have rp:=bU A.out Bv);(have ap:YH w.heap.size w (w1.setCell ⟨a.heap.size,4,none⟩ (.slice n l.length z)):=bS rp A.out.size);(have ed:((w1.setCell ⟨a.heap.size,4,none⟩ (.slice n l.length z)).alloc (.cells #[] 47)).ownsRow w1.heap.size 47 5 (.slice (some ⟨w1.heap.size,0,none⟩) 0 0) 0 []:=afx w1 _ _ 47 5);clear AG Gc)|(at_builtin;refine Yc _ rfl _ _ 24 rfl w1.heap.size 47 jp (.agg #[.int .i64 0,.int .i64 0,.slice none 0 0,.slice none 0 0,.int .i64 0]) 5 72 jn (Dz gi) ip io im rfl (by decide) _ 0 [] rfl ed f c.Aa.length E i8 rfl tX (λj u B=>ca (lm.out _ ap j u B) _) ii (by unfold maxLen;omega) (by omega) (by simp) ?_;intro v' w4 rz fd iX;rw[zN,zP]at rz;(have De:YH w1.heap.size (w1.setCell ⟨a.heap.size,4,none⟩ (.slice n l.length z)) w4:=Bm ((Zh w1.heap.size (w1.setCell ⟨a.heap.size,4,none⟩ (.slice n l.length z))).alloc (by simp) _) fd (λk hk=>by cases hk;exact Zj _) (by simp));obtain⟨q,cap,cur,rfl,T6,M9,JA,fK,iB⟩:=ahM rz (by omega);(have L:w4.heap[a.heap.size]?=some (.cells #[.slice K c.base.length H,.slice J c.Af.length G,.slice I c.hooks.length F,.slice (some f) c.Aa.length E,.slice n l.length z] 26 (0,0)):=(De.block _ (Za.1 U4).1).trans (Ba U4 _));(have n3:=ch (i:=3) L (v:=.slice (some f) c.Aa.length E) rfl);(have f3:=cf (i:=3) L);clear n4 f4 k3 ed fd iX));have lJ:a.heap.size<w1.heap.size:=(Za.1 U4).1;have fJ:¬q=a.heap.size:=by omega
 have qM:¬a.heap.size=q:=by omega
 obtain⟨D,Jy⟩:∃D,D=w4.setCell ⟨a.heap.size,3,none⟩ (.slice (some ⟨q,0,none⟩) c.Aa.length cap):=⟨_,rfl⟩;have fG:D.heap[a.heap.size]?=some (.cells #[.slice K c.base.length H,.slice J c.Af.length G,.slice I c.hooks.length F,.slice (some ⟨q,0,none⟩) c.Aa.length cap,.slice n l.length z] 26 (0,0)):=by rw[Jy];exact Ba L _
 have bi:YH (w1.setCell ⟨a.heap.size,4,none⟩ (.slice n l.length z)).heap.size (w1.setCell ⟨a.heap.size,4,none⟩ (.slice n l.length z)) w4:=by
  rw[show(w1.setCell ⟨a.heap.size,4,none⟩ (.slice n l.length z)).heap.size=w1.heap.size by simp];exact De
 have C:B3 a.heap.size w1 D:=by rw[Jy];exact((B3.refl _ _).set.below bi).set
 have Cj:YH w.heap.size w D:=by rw[Jy];exact bS (bU ap bi) A.out.size
 have be:aas S w q c.Aa cur D:=by rw[Jy];exact ajU ((AZ fJ _).trans M9) rfl iB ka.out
 have b9:SI (Cb W1.heap.size a) D (.slice p7 t.length c7) t:=(hv.later Bv).Ar (C.same λy r=>by have:=r.2;omega);have ci:SI (λy=>a.heap.size<y/\y<w1.heap.size) D (.slice n l.length z) l:=Sl.imp (et.Ar (C.same λy r=>by have:=r.1;omega)) (λy r=>⟨by have:=r.1;omega,r.2⟩) λ_ _ x=>x;have gn:D.heap[w.heap.size+1]?=some (.cells #[.slice none 0 0,.slice none 0 0,.slice none 0 0,.slice none 0 0,.slice none 0 0] 26 (0,0)):=(C.block _ (by omega) (by omega)).trans ((Bv.block _ (by omega)).trans fu.out);have mh:=C.size;have lK:q<D.heap.size:=(Za.1 be.arr).1;have kv:=Zd ci;have jt:=Zd b9;have lC:=Zd Cj;rw[<-Jy];clear Jy L De bi C ap M9 iB rz et hv Bi U4 iz rp ci n3 f3 HK fu fm lD P M tX b9 Cj Bv;go_loopg [7] t.length (λg i wr=>∃(k:Nat) (m:List Ay) (bv:Array Zf),k<=t.length/\g=t.length - k/\i=.int .i64 k/\m.length=c.Aa.length/\CJ m (t.drop k)=CJ c.Aa t/\(∀j,j<c.Aa.length->-(k:Int)<=(Aj m j).left/\(Aj m j).left<=4)/\B3 q D wr/\aas S w q m bv wr)
 case atStart=>exact⟨0,c.Aa,cur,Zp _,rfl,rfl,rfl,rfl,λj B=>by have:=kw.out j B;omega,B3.refl _ _,be⟩
 obtain⟨k,m,bv,hk,rfl,rfl,du,CP,U,O,hA⟩:=hrel;have hf:=Zd CP;have iD:=Zd du;clear CP du be;have b8:=(O.block _ (by omega) qM).trans fG;by_cases Az:k<t.length
 .obtain⟨b,o,rfl,hb,hc⟩:=jt.out.at_ Az
  have OJ:=CE.cell (O.same (T:=λb=>b≠q) (λ_ h=>h)) (p:=⟨b,o+k,none⟩) (by have:=hb.2;simp;omega) hc;clear hc;obtain⟨Oo,MF⟩:=fw _ (Rd Az);have Pv:=Zd (eM (s:=m) Az);obtain⟨y,bV⟩:∃y:Nat,nth t k=y:=⟨(nth t k).toNat,by omega⟩;rw[bV]at OJ Oo MF Pv;clear bV;have Y:y<c.Aa.length:=by omega
  have V:y<m.length:=by rw[iD.out];exact Y
  have lI:(y:Int)<(c.Aa.length:Int):=by omega
  obtain⟨y2,y3,_,_,_,_,e4,_,_⟩:=hA.at_ y V;obtain⟨xr,MK⟩:=U y Y;have ct:=Zd U;have Uh:YH wr.heap.size wr wr.drew:=(Zh _ _).drew;have Q:=hA.later Uh;have HD:=Zd (Q.dec V);have HU:=Zd ((O.below Uh).set (i:=y*5+4) (v:=.int .i64 ((Aj m y).left - 1)));have r4:=ch hA.arr e4;have f4:=cf (i:=y*5+4) Q.arr;have fy:=ch Q.arr e4;have b3:=ch (i:=3) b8 (v:=.slice (some ⟨q,0,none⟩) c.Aa.length cap) rfl;have z1:=λp=>Al p OJ;have z2:=λp=>Al p r4;have z3:=λp=>Al p b3;clear hA O U e4 Q;obtain⟨lf,U⟩:∃lf,lf=(Aj m y).left:=⟨_,rfl⟩;rw[<-U]at r4 fy xr MK HD HU z2;have mp:=Zd U;clear U;have Qu:IntKind.i64.wrap (lf - 1)=lf - 1:=ZcD _ (by omega);go_wp2;refine B0 (S:=λW=>∃p,W=calm wr p) [12] [(false,9),(false,10),(false,11),(false,12)] [0,1,2,3,4,5,6,7,8] (by kernel_rfl) (λ_ _ d _ _ h=>by cases d<;>exact h) (by kernel_rfl) (AL Uh) ?_;refine A4 _ _ (by kernel_rfl) ?_;simp only[Z6,zd,ZG,ZD,ZC]
  repeat (first|go_big_quiet_step (fail)|quiet_step (fail))
  refine Z4 ?_;clear z1 z2 z3 b3 OJ r4;change Dl _ _ _ _ _ _ _;refine Dw (v:=.int .i64 (lf - 1)) rfl rfl (by go_simp) (.inr (AL Uh)) ?_;refine Dw (v:=.pointer (some ⟨q,y*5,none⟩)) rfl rfl (by go_simp) (.inr (AL Uh)) ?_;refine Dw (v:=.pointer (some ⟨q,y*5+4,none⟩)) rfl rfl (by go_simp) (.inr (AL Uh)) ?_;refine K8 (w':=wr.drew.setCell ⟨q,y*5+4,none⟩ (.int .i64 (lf - 1))) rfl rfl (by go_simp) (.inl rfl) ?_;unfold Dl
  go_simp
  go_wp2;go_roundg (t.length - (k+1))
  case rel=>exact⟨k+1,Kn m y,_,by omega,rfl,by go_num,by rw[Gw];exact iD.out,by rw[<-hf.out,Pv.out];rfl,λi hi=>by
   have:=ct.out i hi;rw[LI V];split
   .have:=ct.out y Y
    show -((k+1:Nat):Int)<=(Aj m y).left - 1/\(Aj m y).left - 1<=4;omega
   omega,HU.out,HD.out⟩
  omega
 have gj:=Zd (show m=CJ c.Aa t by rw[<-hf.out,Z7.2 (by omega)];rfl);have ck:=(O.block _ (by have:=O.size;omega) (by omega)).trans gn;obtain⟨t0,t1,t2,t3,t4⟩:=Qc5 b8;obtain⟨g0,g1,g2,g3,g4⟩:=Qc5 ck;obtain⟨f0,f1,f2,f3,f4⟩:=Qf5 ck;go_wp2;refine ZN (v:=.agg #[.slice K c.base.length H,.slice J c.Af.length G,.slice I c.hooks.length F,.slice (some ⟨q,0,none⟩) c.Aa.length cap,.slice n l.length z]) (by rw[A8 rfl];go_simp) rfl ?_;have iS:YH w.heap.size w wr:=ahO lC.out O (by have:=A.out.size;omega);have lF:=O.size;have fI:∀X,YH w.heap.size w X->Ak (λx=>x=w.heap.size+1) wr X->ajV S w c l (.returned (.agg #[.slice K c.base.length H,.slice J c.Af.length G,.slice I c.hooks.length F,.slice (some ⟨q,0,none⟩) c.Aa.length cap,.slice n l.length z])) X:=λX Ov Pc=>by
  have lG:=Pc.size;have gt:aas S w q m bv X:=⟨(Pc.block _ (by omega) (by omega)).trans hA.arr,hA.at_⟩;have NK:=gt.sl (T:=λx=>S x\/Cb w.heap.size X x) Ov (λx Z=>.inl Z) (.inr ⟨by have:=A.out.size;omega,by omega⟩) (by rw[iD.out];exact JA) fK;rw[iD.out,gj.out]at NK;refine⟨_,_,_,_,_,rfl,Ov,?_⟩;rw[HT.out];refine⟨(h.base.later Ov).imp (λx Z=>.inl Z) λ_ _ x=>x,(h.Af.later Ov).imp (λx Z=>.inl Z) λ_ _ x=>x,(h.hooks.later Ov).imp (λx Z=>.inl Z) λ_ _ x=>x,NK,?_⟩;have n1:=kv.out.Ar (O.same λy r=>by have:=r.2;omega);exact Sl.imp (n1.Ar (Pc.same λy r=>show¬y=w.heap.size+1 by have:=r.1;omega)) (λy r=>.inr ⟨by have:=r.1;omega,by have:=r.2;omega⟩) λ_ _ x=>x
 refine fI _ ?_ ?_
 .repeat (with_reducible first|exact iS|(refine bS ?_ (by omega)))
 repeat (with_reducible first|exact Ak.refl _ _|(refine Ak.DT ?_))
def afT (S:Nat->Prop)(w:Zb)(c:A_)(l:List Int)(e:Ending)(w':Zb):Prop:=∃(u1 u2 u3 u4 u5:Zf),e=.returned (.tuple #[.agg #[u1,u2,u3,u4,u5],.int .i64 (Eg c l)])/\YH w.heap.size w w'/\(Eg c l=0->RC (λx=>S x\/Cb w.heap.size w' x) w' u1 u2 u3 u4 u5 (FH c l (DS c l)))/\(Eg c l≠0->u1=.slice none 0 0/\u2=.slice none 0 0/\u3=.slice none 0 0/\u4=.slice none 0 0/\u5=.slice none 0 0)
def c60 (h:RC S w v1 v2 v3 v4 v5 c)(hl:SI S w v6 l)(q:∀b,S b->b<w.heap.size):
  Calls Lp 17 #[.agg #[v1,v2,v3,v4,v5],v6] w (afT S w c l):=by
 obtain⟨W,Q,V,P,U,O,T,N,R,M,rfl,rfl,rfl,rfl,rfl,l1,m1,l2,m2,l3,m3,l4,m4,l5,m5⟩:=h.vs;obtain⟨a6,c6,rfl,l6,m6⟩:=hl.val;have IX:=DJ;obtain⟨W1,k⟩:∃W1,W1=(w.alloc (.cells #[.slice W c.base.length Q,.slice V c.Af.length P,.slice U c.hooks.length O,.slice T c.Aa.length N,.slice R c.now.length M] 26)).alloc (.cells #[.slice none 0 0,.slice none 0 0,.slice none 0 0,.slice none 0 0,.slice none 0 0] 26):=⟨_,rfl⟩;have o:YH w.heap.size w W1:=by rw[k];exact bA (bA (Zh _ _))
 have K:W1.heap[w.heap.size]?=some (.cells #[.slice W c.base.length Q,.slice V c.Af.length P,.slice U c.hooks.length O,.slice T c.Aa.length N,.slice R c.now.length M] 26 (0,0)):=by rw[k];exact Bf (Bp _ _) _
 have j:W1.heap[w.heap.size+1]?=some (.cells #[.slice none 0 0,.slice none 0 0,.slice none 0 0,.slice none 0 0,.slice none 0 0] 26 (0,0)):=by rw[k];exact Jq w _ _
 have u:=Zd (c57 (h.later o) (hl.later o) (A3 q o));go_enter Lp.func60,n60;go_wp2;rw[<-k];clear k;refine u.out.mono ?_;rintro e W2 ⟨v,rfl,z,hv⟩;obtain⟨p7,c7,rfl,l7,m7⟩:=hv.val;have m:=bU o z;have Ia:=(z.block _ (Za.1 K).1).trans K;have n:=(z.block _ (Za.1 j).1).trans j;have EB:=(Za.1 n).1;by_cases d:Eg c l=0
 .have i:Ca c l=0:=(Bj d).1
  have t:=Zd (c96 (h.later m) (hl.later m) i (A3 q m));have HZ:=Zd d;rw[d];clear i d;obtain⟨k0,k1,k2,k3,k4⟩:=Qc5 Ia;go_wp2;refine t.out.mono ?_;rintro e W3 ⟨u1,u2,u3,u4,u5,rfl,Bv,g⟩;obtain⟨J,E,d1,rfl⟩:=ace g.base.val;obtain⟨I,D,d2,rfl⟩:=ace g.Af.val;obtain⟨H,C,d3,rfl⟩:=ace g.hooks.val;obtain⟨G,B,d4,rfl⟩:=ace g.Aa.val;obtain⟨F,A,L,rfl⟩:=ace g.now.val;have Z:=(Bv.block _ EB).trans n;have rp:=bU m Bv;obtain⟨g0,g1,g2,g3,g4⟩:=Qc5 Z;obtain⟨f0,f1,f2,f3,f4⟩:=Qf5 Z;clear k0 k1 k2 k3 k4;go_wp2;refine ZN (v:=.tuple #[.agg #[.slice E J d1,.slice D I d2,.slice C H d3,.slice B G d4,.slice A F L],.int .i64 0]) (by rw[ac2 rfl];go_simp) rfl ?_;have f:∀X,YH w.heap.size w X->Ak (λx=>x=w.heap.size+1) W3 X->afT S w c l (.returned (.tuple #[.agg #[.slice E J d1,.slice D I d2,.slice C H d3,.slice B G d4,.slice A F L],.int .i64 0])) X:=λX s Y=>by
   have ai:=Y.size;refine⟨_,_,_,_,_,adp HZ.out.symm,s,λ_=>?_,λy=>absurd HZ.out y⟩;refine(g.Ar (Y.same λy a=>show¬y=w.heap.size+1 from ?_)).imp λy a=>?_
   .rcases a with a|a
    .have:=q y a;omega
    have:=a.1;omega
   rcases a with a|a
   .exact .inl a
   exact .inr ⟨by have:=a.1;omega,by have:=a.2;omega⟩
  refine f _ ?_ ?_
  .repeat (with_reducible first|exact rp|(refine bS ?_ (by omega)))
  repeat (with_reducible first|exact Ak.refl _ _|(refine Ak.DT ?_))
 obtain⟨x,p⟩:∃x,x=Eg c l:=⟨_,rfl⟩;rw[<-p]at d⊢;have HX:=Zd p;clear p;obtain⟨g0,g1,g2,g3,g4⟩:=Qc5 n;obtain⟨f0,f1,f2,f3,f4⟩:=Qf5 n;have hq:(x !=0)=true:=by simpa using d
 have r:=Zd d;clear d;go_wp2;refine ZN (v:=.tuple #[.agg #[.slice none 0 0,.slice none 0 0,.slice none 0 0,.slice none 0 0,.slice none 0 0],.int .i64 x]) (by rw[ac2 rfl];go_simp) rfl ?_;have f:∀X,YH w.heap.size w X->afT S w c l (.returned (.tuple #[.agg #[.slice none 0 0,.slice none 0 0,.slice none 0 0,.slice none 0 0,.slice none 0 0],.int .i64 x])) X:=λX s=>
  ⟨_,_,_,_,_,adp HX.out,s,λy=>absurd (HX.out.trans y) r.out,λ_=>⟨rfl,rfl,rfl,rfl,rfl⟩⟩
 refine f _ ?_
 repeat (with_reducible first|exact m|(refine bS ?_ (by omega)))
def adj {n:Int}(h:k<l.length):(l.drop k).contains n=(nth l k==n||(l.drop (k+1)).contains n):=by
 obtain⟨a,e⟩:=Zm.1 (Bn h);rw[ZO a,e,List.contains_cons];rw[show(n==nth l k)=(nth l k==n) by rw[ZcG,beq_iff_eq,beq_iff_eq];exact eq_comm]
def aje {n:Int}(hl:SI T w v l):Calls Lp 39 #[v,.int .i64 n] w λe w'=>e=.returned (.bool (l.contains n))/\w'=w:=by
 obtain⟨a,c,rfl,t,s⟩:=hl.val;have z:=DJ;obtain⟨B,h⟩:∃B,B=l.contains n:=⟨_,rfl⟩;rw[<-h];have r:=Zd (show(l.drop 0).contains n=B from h.symm);clear h;go_enter Lp.func125,amg;go_wp2;go_loopg [5] l.length (λg i wr=>∃k:Nat,k<=l.length/\g=l.length - k/\i=.int .i64 k/\(l.drop k).contains n=B/\wr=w)
 case atStart=>exact⟨0,Zp _,rfl,rfl,r.out,rfl⟩
 obtain⟨k,u,rfl,rfl,p,rfl⟩:=hrel;have f:=Zd p;clear p;by_cases q:k<l.length
 .obtain⟨b,o,rfl,y,x⟩:=hl.at_ q
  have m:=Zd (adj (n:=n) q);cases j:nth l k==n with
  |true=>
   have d:=Zd (show B=true by rw[<-f.out,m.out,j];rfl);go_wp2;go_ret;exact⟨adH d.out.symm,rfl⟩
  |false=>
   have d:=Zd (show(l.drop (k+1)).contains n=B by rw[<-f.out,m.out,j];rfl);go_wp2;go_roundg (l.length - (k+1))
   case rel=>exact⟨k+1,by omega,rfl,by go_num,d.out,rfl⟩
   omega
 have d:=Zd (show B=false by rw[<-f.out,Z7.2 (by omega)];rfl);go_wp2;go_ret;exact⟨adH d.out.symm,rfl⟩
def afc (o:List (List Int))(l a:List Int)(i:Int):Bool:= !a.contains i&&l.all λk=>a.contains k|| !(o.getD k.toNat []).contains i
def aeG (o:List (List Int))(l:List Int):Nat->List Int->List Int
 |0,a=>a
 |f+1,a=>aeG o l f (a++ [(l.find? (afc o l a)).getD (-1)])
def afX (s:List Ay)(i:Nat):(abl s).getD i []=(Aj s i).over:=by
 unfold abl Aj;rw[Y6,Y6,YL];cases s[i]? <;>rfl
def adw (c:A_)(l:List Int):List Int:=if Eg c l=0 then aeG (abl c.Aa) (AB (DS c l)) (AB (DS c l)).length [] else []
def c58 (h:RC S w v1 v2 v3 v4 v5 c)(hl:SI S w v6 l)(hS:∀b,S b->b<w.heap.size):
  Calls Lp 14 #[.agg #[v1,v2,v3,v4,v5],v6] w (iy w (adw c l) (Eg c l)):=by
 obtain⟨a1,c1,a2,c2,a3,c3,a4,c4,a5,c5,rfl,rfl,rfl,rfl,rfl,l1,m1,l2,m2,l3,m3,l4,m4,l5,m5⟩:=h.vs;obtain⟨a6,c6,rfl,l6,m6⟩:=hl.val;have IX:=DJ;obtain⟨i0,hi,Fl,DR,EB⟩:=zp KY;have hu:=Cz YE;obtain⟨W1,NL⟩:∃W1,W1=w.alloc (.cells #[.slice a1 c.base.length c1,.slice a2 c.Af.length c2,.slice a3 c.hooks.length c3,.slice a4 c.Aa.length c4,.slice a5 c.now.length c5] 26):=⟨_,rfl⟩;have Bg:YH w.heap.size w W1:=by rw[NL];exact bA (Zh _ _)
 have lD:W1.heap[w.heap.size]?=some (.cells #[.slice a1 c.base.length c1,.slice a2 c.Af.length c2,.slice a3 c.hooks.length c3,.slice a4 c.Aa.length c4,.slice a5 c.now.length c5] 26 (0,0)):=by rw[NL];exact Bp _ _
 have g9:=Zd (c57 (h.later Bg) (hl.later Bg) (A3 hS Bg));go_enter Lp.func58,n58;go_wp2;rw[<-NL];clear NL;refine g9.out.mono ?_;rintro e K ⟨v,rfl,Bb,hv⟩;have Lc:=bU Bg Bb;have Ia:=(Bb.block _ (Za.1 lD).1).trans lD;by_cases s:Eg c l=0
 .obtain⟨t,ht⟩:∃t,t=AB (DS c l):=⟨_,rfl⟩
  have r:ac4 c l=t:=by rw[ht];exact if_pos s
  rw[r]at hv;have fJ:=Zd (show adw c l=aeG (abl c.Aa) t t.length [] by rw[ht];exact if_pos s);obtain⟨p7,c7,rfl,l7,m7⟩:=hv.val;have bV:∀x,x∈t->0<=x/\x<c.Aa.length:=by
   rw[ht];exact MT (EG (Bj (Bj s).1).1) (by have:=(Fb (Bj (Bj s).1).2).1;omega)
  have im:t.length<=3:=by rw[ht];exact Jo _ 3
  have HZ:=Zd s;rw[s];clear s r ht;obtain⟨R,hR⟩:∃R,R=adw c l:=⟨_,rfl⟩;have HR:=Zd hR;rw[<-hR];clear hR;go_wp2;go_loopg [8] t.length (λg u wr=>∃a:List Int,a.length<=t.length/\g=t.length - a.length/\aeG (abl c.Aa) t (t.length - a.length) a=R/\wr.ownsRow K.heap.size 3 1 u a.length (a.map (ZL .i64))/\YH K.heap.size K wr)
  case atStart=>exact⟨[],Zp _,rfl,by rw[HR.out,fJ.out];rfl,zq _ _ _ _,Zh _ _⟩
  obtain⟨a,mK,rfl,CP,AX,hB⟩:=hrel;have hf:=Zd CP;clear CP;have B:=eC AX;obtain⟨Z,co,rfl,lo,mo⟩:=B.val;have fm:=Zd AX;clear AX;obtain⟨V,hV⟩:∃V,V=wr:=⟨_,rfl⟩;subst hV;by_cases Az:a.length<t.length
  .obtain⟨F,hF⟩:∃F,F=t.find? (afc (abl c.Aa) t a):=⟨_,rfl⟩
   have am:=Zd (show aeG (abl c.Aa) t (t.length - (a.length+1)) (a++ [F.getD (-1)])=R by
    rw[<-hf.out,show t.length - a.length=(t.length - (a.length+1))+1 by omega,hF];rfl)
   have HF:=Zd hF;clear hF;go_wp2;go_loopg [9,10] t.length (λg nx i wx=>∃(k:Nat) (A:Option Int),k<=t.length/\g=t.length - k/\i=.int .i64 k/\nx=.int .i64 (A.getD (-1))/\(A=none->(t.drop k).find? (afc (abl c.Aa) t a)=F)/\(∀x,A=some x->0<=x/\F=some x)/\YH V.heap.size V wx)
   case atStart=>exact⟨0,none,Zp _,rfl,rfl,rfl,λ_=>HF.out.symm,(λx hx=>by cases hx),Zh _ _⟩
   obtain⟨k,A,hk,rfl,rfl,rfl,I,H,U5⟩:=hrel;obtain⟨V2,gF⟩:∃V2,V2=wr:=⟨_,rfl⟩;subst gF;have G:=hB.trans (U5.mono hB.size);have iv:=G.size;by_cases D:A=none/\k<t.length
   .obtain⟨rfl,d⟩:=D
    have J:=Zd (I rfl);clear I H;obtain⟨b,o,rfl,hb,hc⟩:=hv.at_ d;have hd:=Zd (U_ (f:=afc (abl c.Aa) t a) d);obtain⟨Oo,_⟩:=bV _ (Rd d);obtain⟨x,lV⟩:∃x:Nat,nth t k=x:=⟨(nth t k).toNat,by omega⟩;rw[lV]at hc hd;clear lV Oo;rw[<-G.cell (p:=⟨b,o+k,none⟩) (by have:=hb.2;exact this)]at hc;have X:=B.later U5;have O:=aje (n:=x) X;obtain⟨Y,cu⟩:∃Y,Y=a.contains (x:Int):=⟨_,rfl⟩;rw[<-cu]at O;have H1:=Zd O;obtain⟨f,M⟩:∃f:Int->Bool,f=λy=>a.contains y|| !((abl c.Aa).getD y.toNat []).contains (x:Int):=⟨_,rfl⟩;obtain⟨C,hC⟩:∃C,C=afc (abl c.Aa) t a x:=⟨_,rfl⟩;have gn:=Zd (show(!Y&&(t.drop 0).all f)=C by rw[hC,M,cu];rfl);have gj:=Zd M;rw[<-hC]at hd;clear O hC M cu;have ip:(-1:Int)<0:=by decide
    go_wp2_with (go_at_call 39;refine H1.out.mono ?_;rintro e w' ⟨rfl,uA⟩;(have uA:=uA.symm);subst uA);obtain⟨V3,ed⟩:∃V3,V3=V2:=⟨_,rfl⟩;subst ed;have fI:=Zd X;have b8:=Zd G;clear H1 X B;go_loopg [11,12] t.length (λg fy i wy=>∃(m:Nat) (P:Bool),m<=t.length/\g=t.length - m/\i=.int .i64 m/\fy=.bool P/\(P&&(t.drop m).all f)=C/\YH V3.heap.size V3 wy)
    case atStart=>exact⟨0,_,Zp _,rfl,rfl,rfl,gn.out,Zh _ _⟩
    obtain⟨m,P,hm,rfl,rfl,rfl,be,q⟩:=hrel;have lY:=Zd be;clear be;have U:=b8.out.trans (q.mono b8.out.size);have ap:=bU Lc U;have du:=(q.cell (ZH _ _ hc)).trans hc;by_cases uw:m<t.length
    .obtain⟨b2,o2,e2,EC,NP⟩:=hv.at_ uw
     cases e2;obtain⟨mC,mD⟩:=bV _ (Rd uw);obtain⟨y,ai⟩:∃y:Nat,nth t m=y:=⟨(nth t m).toNat,by omega⟩;have E:=pS (f:=f) uw;rw[ai]at NP E mD mC;clear ai;have ck:y<c.Aa.length:=by omega
     rw[<-U.cell (p:=⟨b,o+m,none⟩) (by have:=EC.2;exact this)]at NP;obtain⟨b3,o3,v2,v3,ea,Xi,_,_,_,Vr,_,_,ho⟩:=h.Aa.at_ ck;subst ea;obtain⟨ov,mA⟩:∃ov,ov=(Aj c.Aa y).over:=⟨_,rfl⟩;rw[<-mA]at ho;obtain⟨a8,c8,rfl,l8,m8⟩:=ho.val;obtain⟨Q,hQ⟩:∃Q,Q=a.contains (y:Int):=⟨_,rfl⟩;obtain⟨Q2,N⟩:∃Q2,Q2=ov.contains (x:Int):=⟨_,rfl⟩;rw[show f (y:Int)=(Q|| !Q2) by rw[gj.out,hQ,N,mA, <-afX];rfl]at E;have gt:=Zd E;clear E mA;rw[<-ap.cell (p:=⟨b3,o3+y*5+3,none⟩) (hS b3 Xi)]at Vr;have k3:=ch (i:=3) ((U.block _ (Za.1 Ia).1).trans Ia) (v:=.slice (some ⟨b3,o3,none⟩) c.Aa.length c4) rfl;have io:w.heap.size<K.heap.size:=(Za.1 Ia).1;have fu:=fI.out.later q;have dl:=ho.later ap;have H1:=Zd (λW (hW:YH wr.heap.size wr W)=>show Calls Lp 39 #[.slice Z a.length co,.int .i64 y] W λe w'=>e=.returned (.bool Q)/\YH W.heap.size W w' from by
      rw[hQ];exact(aje (n:=y) (fu.later hW)).mono λe w' ⟨O,h2⟩=>⟨O,h2▸Zh _ _⟩)
     have bv:=Zd (λW (hW:YH wr.heap.size wr W)=>show Calls Lp 39 #[.slice a8 ov.length c8,.int .i64 x] W λe w'=>e=.returned (.bool Q2)/\YH W.heap.size W w' from by
      rw[N];exact(aje (n:=x) (dl.later hW)).mono λe w' ⟨O,h2⟩=>⟨O,h2▸Zh _ _⟩)
     clear hQ N;have z1:=λp=>Al p du;have z2:=λp=>Al p NP;have z3:=λp=>Al p k3;have z4:=λp=>Al p Vr;have iS:=Zd q;cases P
     case' true=>cases Q
     case' true.false=>cases Q2
     all_goals
      go_wp2;refine Av (by kernel_rfl) (by kernel_rfl) ?_
      repeat (first|go_big_quiet_step ((go_at_call 39;first|with_reducible exact AV (H1.out _ (AE _ _))|with_reducible exact AV (bv.out _ (AE _ _))))|quiet_step ((go_at_call 39;first|with_reducible exact AV (H1.out _ (AE _ _))|with_reducible exact AV (bv.out _ (AE _ _)))))
      refine Z4 ?_;rintro _ ⟨p,rfl⟩;have yw:=q.trans ((AE wr p).mono q.size);clear z1 z2 z3 z4;go_wp2;go_roundg (t.length - (m+1))
      case rel=>exact⟨m+1,_,by omega,rfl,by go_num,rfl,by rw[<-lY.out];first|rfl|(rw[gt.out];rfl),yw⟩
      omega
    have an:P=C:=by
     rw[<-lY.out,Z7.2 (show t.length<=m by omega)];cases P<;>rfl
    have ci:=Zd (U5.trans (q.mono U5.size));have b9:=Zd an;clear an;cases P with
    |true=>
     have e1:=Zd (show F=some (x:Int) by rw[<-J.out,hd.out,if_pos b9.out.symm]);go_wp2;go_roundg (t.length - (k+1))
     case rel=>exact⟨k+1,some (x:Int),by omega,rfl,by go_num,rfl,(λe=>by cases e),(λz L=>by cases L;exact⟨by omega,e1.out⟩),ci.out⟩
     case measure=>omega
    |false=>
     have e1:=Zd (show(t.drop (k+1)).find? (afc (abl c.Aa) t a)=F by rw[<-J.out,hd.out,if_neg (by rw[<-b9.out];decide)]);go_wp2;go_roundg (t.length - (k+1))
     case rel=>exact⟨k+1,none,by omega,rfl,by go_num,rfl,(λ_=>e1.out),(λz L=>by cases L),ci.out⟩
     omega
   have L:F.getD (-1)=A.getD (-1):=by
    cases A with
    |none=>
     have d:¬k<t.length:=λx=>D ⟨rfl,x⟩;have:=I rfl;rw[Z7.2 (by omega)]at this;rw[<-this]
     rfl
    |some x=>rw[(H x rfl).2]
   have bi:(k<t.length/\¬A.getD (-1)<0)\/¬k<t.length:=by
    by_cases d:k<t.length
    .left
     cases A with
     |none=>exact absurd ⟨rfl,d⟩ D
     |some x=>exact⟨d,by have:=(H x rfl).1;show¬x<0;omega⟩
    exact .inr d
   obtain⟨z,kL⟩:∃z,z=A.getD (-1):=⟨_,rfl⟩;rw[<-kL]at L bi⊢;have fK:=Zd (show aeG (abl c.Aa) t (t.length - (a++ [z]).length) (a++ [z])=R by rw[<-L,ZA];exact am.out);have Cm:=Fu fm.out U5;clear kL L I H D am;rcases bi with⟨d,ii⟩|d
   all_goals
    go_wp2_with (at_builtin;refine Yc _ rfl _ _ 22 rfl K.heap.size 3 i0 (.int .i64 0) 1 8 hu (Dz hi) Fl DR EB rfl (by decide) _ _ _ rfl (Cm.alloc _) ⟨_,0,none⟩ 1 1 [.int .i64 z] rfl rfl (by intro j u hj;match j,hj with|0,hj=>(simp at hj;subst hj;simp[Zcu])) (by intro u hu;simp at hu;subst hu;rfl) (by unfold maxLen;omega) (by omega) (by simp;omega) ?_;intro v' w1 Bi AG Gc);have hg:(V2.alloc (.cells #[.int .i64 z] 3)).grownBy w1 (Zy Z a.length co).ownBlock:=AG;have cu:YH K.heap.size K w1:=Bm (bA G) hg (λk hk=>(Cm.lt k hk).1) (by simp;omega);have fw:w1.ownsRow K.heap.size 3 1 v' (a++ [z]).length ((a++ [z]).map (ZL .i64)):=by simpa using Bi
    go_roundg (t.length - (a.length+1))
    case rel=>exact⟨a++ [z],by simp;omega,by simp,fK.out,fw,cu⟩
    omega
  have fd:=Zd (show a=R by rw[<-hf.out,show t.length - a.length=0 by omega];rfl);have fi:=bU Lc hB;have ct:=Sl.imp (T:=Cb w.heap.size V) B (λx hx=>⟨Zr Lc.size hx.1,hx.2⟩) λ_ _ x=>x;go_wp2;go_ret2;exact⟨.slice Z a.length co,adp HZ.out.symm,fi,by rw[<-HR.out, <-fd.out];exact ct⟩
 have hq:(Eg c l !=0)=true:=by simpa using s
 have J:=Zd (show adw c l=[] from if_neg s);have r:ac4 c l=[]:=if_neg s;rw[r]at hv;obtain⟨p7,c7,rfl,l7,m7⟩:=hv.val;clear r s;go_wp2;go_ret2;exact⟨_,rfl,Lc,by rw[J.out];exact WC⟩
def adq (o:List (List Int)):Bool:=(Yr o.length).all λk=> !hasB (ri o k) k
def adO (o:List (List Int))(D:List Bool):Bool:=
 match IQ (ri o) (rB (ri o) 0 D 0) 3 [] 0 with
 |none=>false
 |some L=>L==aeG o (AB (rB (ri o) 0 D 0)) (AB (rB (ri o) 0 D 0)).length []
def ak3:∀a∈Lj,∀d∈P3,(!adq [a.filter (· <1)]||adO [a.filter (· <1)] [d])=true:=by decide+kernel
def ak4:∀a∈Lj,∀b∈Lj,∀d∈P3,∀e∈P3,(!adq [a.filter (· <2),b.filter (· <2)]||adO [a.filter (· <2),b.filter (· <2)] [d,e])=true:=by decide+kernel
def ak5:∀a∈Lj,∀b∈Lj,∀c∈Lj,∀d∈P3,∀e∈P3,∀f∈P3,(!adq [a,b,c]||adO [a,b,c] [d,e,f])=true:=by decide+kernel
def ag8 {o:List (List Int)}(j:1<=o.length)(k:o.length<=3)(n:D.length=o.length)(i:∀l∈o,l.Pairwise (· < ·))(g:∀l∈o,∀x∈l,0<=x/\x<o.length):(!adq o||adO o D)=true:=by
 match o,D,j,k,n,i,g with
 | [a],[d],_,_,_,i,g=>
  have j:=g a (by simp);have:=ak3 a (EM (i a (by simp)) λx h=>by have:=j x h;simp at this;omega) d (Hd d);rwa[filter_lt (λx h=>by have:=j x h;simpa using this)]at this
 | [a,b],[d,e],_,_,_,i,g=>
  have j:=g a (by simp);have m:=g b (by simp);have:=ak4 a (EM (i a (by simp)) λx h=>by have:=j x h;simp at this;omega) b (EM (i b (by simp)) λx h=>by have:=m x h;simp at this;omega) d (Hd d) e (Hd e);rwa[filter_lt (λx h=>by have:=j x h;simpa using this),filter_lt (λx h=>by have:=m x h;simpa using this)]at this
 | [a,b,c],[d,e,f],_,_,_,i,g=>
  exact ak5 a (EM (i a (by simp)) λx h=>by have:=g a (by simp) x h;simpa using this) b (EM (i b (by simp)) λx h=>by have:=g b (by simp) x h;simpa using this)
   c (EM (i c (by simp)) λx h=>by have:=g c (by simp) x h;simpa using this) d (Hd d) e (Hd e) f (Hd f)
 |_::_::_::_::_,_,_,k,_,_,_=>simp at k
def adr (h:Eg c l=0):WE c l=some (adw c l):=by
 have p:=(Bj h).1;obtain⟨j,b⟩:=Bj p;have d:=EG j;have q:=(Fb b).1;obtain⟨_,r⟩:=Bj j;obtain⟨_,t⟩:=Bj r;have f:=(Bj t).1;have a:(abl c.Aa).length=c.Aa.length:=by simp[abl]
 have i:=adf f;have:=ag8 (o:=abl c.Aa) (D:=ad2 c.now 0 l) (by have:=d.few;omega) (by have:=d.few;omega) (by rw[adn,a];exact q)
  (λo g=>by obtain⟨s,b,rfl⟩:=List.mem_map.1 g;exact(i s b).1) (λo g x k=>by obtain⟨s,b,rfl⟩:=List.mem_map.1 g;rw[a];exact(i s b).2 x k)
 have n:adq (abl c.Aa)=true:=by
  have:=d.ring;unfold H0 at this;rw[acj]at this;unfold adq;rwa[a]
 rw[n,Bool.not_true,Bool.false_or]at this;have m:DS c l=rB (ri (abl c.Aa)) 0 (ad2 c.now 0 l) 0:=by
  unfold DS Cx;rw[adJ,acj]
 unfold WE adw;rw[if_pos h,m,acj];unfold adO at this;cases e:IQ (ri (abl c.Aa)) (rB (ri (abl c.Aa)) 0 (ad2 c.now 0 l) 0) 3 [] 0 with
 |none=>rw[e]at this;cases this
 |some L=>rw[e]at this;exact congrArg some (eq_of_beq this)
def aeH (c:A_)(l:List Int):MV c l=adw c l:=by
 by_cases h:Eg c l=0
 .rw[MV,if_pos h,adr h];rfl
 rw[MV,if_neg h,adw,if_neg h]
def Dis (u v:Zf):Prop:=∀g,u.ownBlock=some g->v.ownBlock=some g->False
def adg {base:Nat}(h:A.ownsRow base e k v n xs):∀g,v.ownBlock=some g->g<A.heap.size:=λg a=>by
 obtain⟨_,cs,h⟩:=J3 h g a;exact(Za.1 h).1
def adx {base n' k':Nat}{e':Zs}{a:List Zf}(h:A.ownsRow base e k v n xs)(c:B.ownsRow A.heap.size e' k' v' n' a):Dis v v':=λg b d=>by
 have i:=adg h g b;have f:=(J3 c g d).1;omega
def abn {base:Nat}{t:Zs}(h:A.ownsRow base e k v n xs)(d:Ak (λx=>x=q) A B)(b:A.heap[q]?=some (.cells cs t (0,0)))(c:e≠t):B.ownsRow base e k v n xs:=
 Fc h d λx g a f=>by
  subst f;rw[b]at a;cases a;exact c rfl
def ad8 {base:Nat}{u:Zf}(h:A.ownsRow base e k v n xs)(d:Ak (λx=>u.ownBlock=some x) A B)(a:∀g,u.ownBlock=some g->∃cs,A.heap[g]?=some (.cells cs 47 (0,0)))(c:e≠47):B.ownsRow base e k v n xs:=
 Fc h d λx i b f=>by
  obtain⟨cs,a⟩:=a x f;rw[a]at b;cases b;exact c rfl
def abx {base a:Nat}(h:A.ownsRow base e k v n xs)(c:a<=base):A.ownsRow a e k v n xs:=by
 refine⟨h.1,?_⟩;rcases h.2 with b|⟨g,cap,cur,b,f,d⟩
 .exact .inl b
 exact .inr ⟨g,cap,cur,b,Zr c f,d⟩
structure CSp (n M:Nat)(w:Zb)(u1 u2 u3 u4 u5:Zf)(c:A_):Prop where
 base:Own w n u1 c.base
 Af:Ih w n u2 c.Af 67
 hooks:Own w n u3 c.hooks
 now:Own w n u5 c.now
 row:En M w M u4 c.Aa
 le:n<=M
 l1:∀g,u1.ownBlock=some g->g<M
 l2:∀g,u2.ownBlock=some g->g<M
 l3:∀g,u3.ownBlock=some g->g<M
 l5:∀g,u5.ownBlock=some g->g<M
 d13:Dis u1 u3
 d15:Dis u1 u5
 d35:Dis u3 u5
def af4 (w:Zb)(c:A_)(e:Ending)(w':Zb):Prop:=∃u1 u2 u3 u4 u5 M,e=.returned (.agg #[u1,u2,u3,u4,u5])/\YH w.heap.size w w'/\CSp w.heap.size M w' u1 u2 u3 u4 u5 c
def aeI {l:List (Int×Int)}(a:news.length=l.length*2)(h:∀i x,l[i]?=some x->(news.drop (i*2)).take 2=[.int .i64 x.1,.int .i64 x.2]):news=l.flatMap λp=> [ZL .i64 p.1,.int .i64 p.2]:=by
 induction l generalizing news with
 |nil=>exact YM (by simpa using a)
 |cons p l c=>
  have b:=h 0 p rfl;rw[Nat.zero_mul,List.drop_zero]at b;rw[List.flatMap_cons, <-b, <-c (news:=news.drop 2) (by rw[List.length_drop,a,zb];omega) λi x d=>by
   rw[List.drop_drop,show 2+i*2=(i+1)*2 by omega];exact h (i+1) x (by simpa using d)]
  exact(List.take_append_drop 2 news).symm
def amJ {l:List (Int×Int)}(h:Sl S Rp 2 w v l)(m:l.length<=1000):Calls Lp 31 #[v] w λe w'=>∃u,e=.returned u/\YH w.heap.size w w'/\Ih w' w.heap.size u l 67:=by
 obtain⟨a,c,rfl,L,K⟩:=h.val;obtain⟨s,hi,H,J,I⟩:=zp Wu;have t:=Cz Zdg;cases a with
 |none=>
  have y:l=[]:=by
   cases l with
   |nil=>rfl
   |cons x r=>
    obtain⟨N,M,i,_,_,C⟩:=h;cases i;obtain⟨b,o,cs,e,_⟩:=C 0 x rfl;cases e
  subst y;go_enter Lp.func40,n40;go_wp2;go_ret;exact⟨_,rfl,bA (Zh _ _),YC w #[] 0 (Zj _) (Zp _) rfl⟩
 |some p=>
  obtain⟨news,f,g,n⟩:=Sl.row h (by decide) p rfl;have i:=row_one (by decide) f g bC;have F:=Zd n;have D:=Zd g;clear n g;go_enter Lp.func40,n40;go_wp2_with (at_builtin;refine Yc _ rfl _ _ 23 rfl w.heap.size 67 s (.agg #[.int .i64 0,.int .i64 0]) 2 16 t (Dz hi) H J I rfl (by decide) _ 0 [] rfl (YC w #[] 0 (Zj _) (Zp _) rfl) p l.length c news rfl f (λj u A=>ca (F.out j u A) _) i (by unfold maxLen;omega) (by omega) (by simp) ?_;intro v' w1 d q G);have B:YH w.heap.size w w1:=Bm (bA (Zh _ _)) q (λk z=>by cases z;exact Zj _) (by simp);rw[zN,zP]at d;rw[aeI f D.out]at d;have E:=Zd d;clear d q G;go_ret;exact⟨_,rfl,B,E.out⟩
structure CRs (w:Zb)(n0 M q:Nat)(xs:Array Zf)(s1 s2 s3 s5:Zf)(c:A_)(k:Nat)(v4:Zf)(wr:Zb):Prop where
 below:YH w.heap.size w wr
 box:wr.heap[w.heap.size]?=some (.cells xs 26 (0,0))
 res:wr.heap[w.heap.size+1]?=some (.cells #[.slice none 0 0,.slice none 0 0,.slice none 0 0,.slice none 0 0,.slice none 0 0] 26 (0,0))
 qx:wr.heap[q]?=some (.cells #[s1,s2,s3,v4,s5] 26 (0,0))
 base:Own wr n0 s1 c.base
 Af:Ih wr n0 s2 c.Af 67
 hooks:Own wr n0 s3 c.hooks
 now:Own wr n0 s5 c.now
 row:En M wr M v4 (c.Aa.take k)
 z:M<=wr.heap.size
def amL (h:RC S w v1 v2 v3 v4 v5 c)(hS:∀b,S b->b<w.heap.size)(ig:c.base.length<=1000)(b9:c.Af.length<=1000)(b8:c.hooks.length<=1000)(Xm:c.Aa.length<=1000)(UO:c.now.length<=1000)(xB:∀i,i<c.Aa.length->(Aj c.Aa i).Ap.length<=1000/\(Aj c.Aa i).over.length<=1000):
  Calls Lp 9 #[.agg #[v1,v2,v3,v4,v5]] w (af4 w c):=by
 obtain⟨a1,c1,a2,c2,a3,c3,a4,c4,a5,c5,rfl,rfl,rfl,rfl,rfl,l1,m1,l2,m2,l3,m3,l4,m4,l5,m5⟩:=h.vs;have IX:=DJ;go_enter Lp.func33,n33;go_wp2;obtain⟨C,Hv⟩:∃C,C=(w.alloc (.cells #[.slice a1 c.base.length c1,.slice a2 c.Af.length c2,.slice a3 c.hooks.length c3,.slice a4 c.Aa.length c4,.slice a5 c.now.length c5] 26)).alloc (.cells #[.slice none 0 0,.slice none 0 0,.slice none 0 0,.slice none 0 0,.slice none 0 0] 26):=⟨_,rfl⟩;have Bv:YH w.heap.size w C:=by rw[Hv];exact bA (bA (Zh _ _))
 have F1:C.heap[w.heap.size]?=some (.cells #[.slice a1 c.base.length c1,.slice a2 c.Af.length c2,.slice a3 c.hooks.length c3,.slice a4 c.Aa.length c4,.slice a5 c.now.length c5] 26 (0,0)):=by rw[Hv];exact Bf (Bp _ _) _
 have O9:C.heap[w.heap.size+1]?=some (.cells #[.slice none 0 0,.slice none 0 0,.slice none 0 0,.slice none 0 0,.slice none 0 0] 26 (0,0)):=by rw[Hv];exact Jq _ _ _
 rw[<-Hv];clear Hv;have bV:w.heap.size+1<C.heap.size:=(Za.1 O9).1;refine Code.wp_mono (Q:=λe a' V=>e=.normal/\∃(q:Nat) (I L H G:Option Addr) (d1 d2 d3 J:Nat) (x5 x6 x7 x8 x9 jX Qj am MH Lx Ly K0 K1:Zf),a'= {tmps:= #[.agg #[.slice a1 c.base.length c1,.slice a2 c.Af.length c2,.slice a3 c.hooks.length c3,.slice a4 c.Aa.length c4,.slice a5 c.now.length c5],.pointer (some ⟨w.heap.size,0,none⟩),.pointer (some ⟨w.heap.size+1,0,none⟩),.pointer (some ⟨q,0,none⟩),Ze,x5,x6,x7,x8,x9,jX,Qj,am,MH,Lx,Ly,K0,K1,Ze,Ze,Ze,Ze,Ze,Ze,Ze,Ze,Ze,Ze,Ze,Ze,Ze,Ze,Ze,Ze,Ze,Ze,Ze],defers:=[]}/\w.heap.size+1<q/\YH C.heap.size C V/\V.heap[q]?=some (.cells #[.slice I c.base.length d1,.slice L c.Af.length d2,.slice H c.hooks.length d3,.slice none 0 0,.slice G c.now.length J] 26 (0,0))/\Own V C.heap.size (.slice I c.base.length d1) c.base/\Ih V C.heap.size (.slice L c.Af.length d2) c.Af 67/\Own V C.heap.size (.slice H c.hooks.length d3) c.hooks/\Own V C.heap.size (.slice G c.now.length J) c.now/\Dis (.slice I c.base.length d1) (.slice H c.hooks.length d3)/\Dis (.slice I c.base.length d1) (.slice G c.now.length J)/\Dis (.slice H c.hooks.length d3) (.slice G c.now.length J)) ?rest ?first
 case first=>
  have z0:=λp=>Al p (ch (i:=0) F1 (v:=.slice a1 c.base.length c1) rfl);have z1:=λp=>Al p (ch (i:=1) F1 (v:=.slice a2 c.Af.length c2) rfl);have z2:=λp=>Al p (ch (i:=2) F1 (v:=.slice a3 c.hooks.length c3) rfl);have z4:=λp=>Al p (ch (i:=4) F1 (v:=.slice a5 c.now.length c5) rfl);refine G6 (S:=λW=>∃p,W=calm C p) [0,1,3,4,6,7,9,10] 7 #[true,true,false,true,true,false,true,true,false,true,true,false,false,false,false] (by kernel_rfl) (λ_ _ _ _ _ h=>nomatch h.1) (by kernel_rfl) (AL (Zh _ _).drew) ?_;refine A4 _ _ (by kernel_rfl) ?_;simp only[Z6,zd,ZG,ZD,ZC]
  repeat (first|go_big_quiet_step (fail)|quiet_step (fail))
  refine Z4 ?_;clear z0 z1 z2 z4;change Cy _ _ _ _ _ _ _ _ _;obtain⟨V,hV⟩:∃V,V=C.drew:=⟨_,rfl⟩;have l:YH C.heap.size C V:=by rw[hV];exact(Zh _ _).drew
  rw[<-hV];clear hV;have n:=Yz;have s:=Yz;have z:=Yz;have t:=Yz;have y:=Yz;refine AK [2,13] (by kernel_rfl) (by simp) (Ix ?gA2 ?gB2)
  case' gB2=>
   refine EX (v:=.pointer (some ⟨V.heap.size,0,none⟩)) (w':=V.alloc (.cells #[.slice none 0 0,.slice none 0 0,.slice none 0 0,.slice none 0 0,.slice none 0 0] 26)) rfl rfl (by go_simp) ?_;obtain⟨m,o⟩:∃m,m=V.alloc (.cells #[.slice none 0 0,.slice none 0 0,.slice none 0 0,.slice none 0 0,.slice none 0 0] 26):=⟨_,rfl⟩;have a:YH V.heap.size V m:=by rw[o];exact bA (Zh _ _)
   have n:m.heap[V.heap.size]?=some (.cells #[.slice none 0 0,.slice none 0 0,.slice none 0 0,.slice none 0 0,.slice none 0 0] 26 (0,0)):=by rw[o];exact Bp _ _
   have F:=l.size;obtain⟨q,D⟩:∃q,q=V.heap.size:=⟨_,rfl⟩;rw[<-D]at n F
   try (have s:=Fu s a)
   try (have z:=Fu z a)
   try (have t:=Fu t a)
   try (have y:=Fu y a)
   have l:=l.trans (a.mono l.size);rw[<-o, <-D];refine⟨AL l,?_⟩;clear a D o;obtain⟨V,T⟩:∃Z,Z=m:=⟨_,rfl⟩;subst T;refine AK [2] (by kernel_rfl) (by simp) (BF ?_)
  all_goals
   refine DK (f:=10) (args:= #[.slice a1 c.base.length c1]) rfl rfl (by go_simp) ((WO (h.later (Bv.trans (l.mono Bv.size))).base ig).mono ?_);rintro e V ⟨u,rfl,a,B⟩;have s:=abx B l.size;obtain⟨I,d1,rfl,_,_⟩:=JS B;clear B
   try (have n:=(a.block _ (Za.1 n).1).trans n)
   try (have z:=Fu z a)
   try (have t:=Fu t a)
   try (have y:=Fu y a)
   have l:=l.trans (a.mono l.size);refine .inl ⟨_,rfl,AL l,?_⟩;clear a
  all_goals first
   |(have kL:=Za.1 n;clear kL;refine AK [5] (by kernel_rfl) (by simp) (BF ?_))
   |(refine AK [5,13] (by kernel_rfl) (by simp) (Ix ?gA5 ?gB5)
     case' gB5=>
      refine EX (v:=.pointer (some ⟨V.heap.size,0,none⟩)) (w':=V.alloc (.cells #[.slice none 0 0,.slice none 0 0,.slice none 0 0,.slice none 0 0,.slice none 0 0] 26)) rfl rfl (by go_simp) ?_;obtain⟨m,o⟩:∃m,m=V.alloc (.cells #[.slice none 0 0,.slice none 0 0,.slice none 0 0,.slice none 0 0,.slice none 0 0] 26):=⟨_,rfl⟩;have a:YH V.heap.size V m:=by rw[o];exact bA (Zh _ _)
      have n:m.heap[V.heap.size]?=some (.cells #[.slice none 0 0,.slice none 0 0,.slice none 0 0,.slice none 0 0,.slice none 0 0] 26 (0,0)):=by rw[o];exact Bp _ _
      have F:=l.size;obtain⟨q,D⟩:∃q,q=V.heap.size:=⟨_,rfl⟩;rw[<-D]at n F
      try (have s:=Fu s a)
      try (have z:=Fu z a)
      try (have t:=Fu t a)
      try (have y:=Fu y a)
      have l:=l.trans (a.mono l.size);rw[<-o, <-D];refine⟨AL l,?_⟩;clear a D o;obtain⟨V,T⟩:∃Z,Z=m:=⟨_,rfl⟩;subst T;refine AK [5] (by kernel_rfl) (by simp) (BF ?_))
  all_goals
   refine DK (f:=31) (args:= #[.slice a2 c.Af.length c2]) rfl rfl (by go_simp) ((amJ (h.later (Bv.trans (l.mono Bv.size))).Af b9).mono ?_);rintro e V ⟨u,rfl,a,B⟩;have z:=abx B l.size;obtain⟨L,d2,rfl,_,_⟩:=JS B;clear B
   try (have n:=(a.block _ (Za.1 n).1).trans n)
   try (have s:=Fu s a)
   try (have t:=Fu t a)
   try (have y:=Fu y a)
   have l:=l.trans (a.mono l.size);refine .inl ⟨_,rfl,AL l,?_⟩;clear a
  all_goals first
   |(have kL:=Za.1 n;clear kL;refine AK [8] (by kernel_rfl) (by simp) (BF ?_))
   |(refine AK [8,13] (by kernel_rfl) (by simp) (Ix ?gA8 ?gB8)
     case' gB8=>
      refine EX (v:=.pointer (some ⟨V.heap.size,0,none⟩)) (w':=V.alloc (.cells #[.slice none 0 0,.slice none 0 0,.slice none 0 0,.slice none 0 0,.slice none 0 0] 26)) rfl rfl (by go_simp) ?_;obtain⟨m,o⟩:∃m,m=V.alloc (.cells #[.slice none 0 0,.slice none 0 0,.slice none 0 0,.slice none 0 0,.slice none 0 0] 26):=⟨_,rfl⟩;have a:YH V.heap.size V m:=by rw[o];exact bA (Zh _ _)
      have n:m.heap[V.heap.size]?=some (.cells #[.slice none 0 0,.slice none 0 0,.slice none 0 0,.slice none 0 0,.slice none 0 0] 26 (0,0)):=by rw[o];exact Bp _ _
      have F:=l.size;obtain⟨q,D⟩:∃q,q=V.heap.size:=⟨_,rfl⟩;rw[<-D]at n F
      try (have s:=Fu s a)
      try (have z:=Fu z a)
      try (have t:=Fu t a)
      try (have y:=Fu y a)
      have l:=l.trans (a.mono l.size);rw[<-o, <-D];refine⟨AL l,?_⟩;clear a D o;obtain⟨V,T⟩:∃Z,Z=m:=⟨_,rfl⟩;subst T;refine AK [8] (by kernel_rfl) (by simp) (BF ?_))
  all_goals
   refine DK (f:=10) (args:= #[.slice a3 c.hooks.length c3]) rfl rfl (by go_simp) ((WO (h.later (Bv.trans (l.mono Bv.size))).hooks b8).mono ?_);rintro e V ⟨u,rfl,a,B⟩;have t:=abx B l.size;obtain⟨H,d3,rfl,_,_⟩:=JS B;have R:=adx s B;clear B
   try (have n:=(a.block _ (Za.1 n).1).trans n)
   try (have s:=Fu s a)
   try (have z:=Fu z a)
   try (have y:=Fu y a)
   have l:=l.trans (a.mono l.size);refine .inl ⟨_,rfl,AL l,?_⟩;clear a
  all_goals first
   |(have kL:=Za.1 n;clear kL;refine AK [11] (by kernel_rfl) (by simp) (BF ?_))
   |(refine AK [11,13] (by kernel_rfl) (by simp) (Ix ?gA11 ?gB11)
     case' gB11=>
      refine EX (v:=.pointer (some ⟨V.heap.size,0,none⟩)) (w':=V.alloc (.cells #[.slice none 0 0,.slice none 0 0,.slice none 0 0,.slice none 0 0,.slice none 0 0] 26)) rfl rfl (by go_simp) ?_;obtain⟨m,o⟩:∃m,m=V.alloc (.cells #[.slice none 0 0,.slice none 0 0,.slice none 0 0,.slice none 0 0,.slice none 0 0] 26):=⟨_,rfl⟩;have a:YH V.heap.size V m:=by rw[o];exact bA (Zh _ _)
      have n:m.heap[V.heap.size]?=some (.cells #[.slice none 0 0,.slice none 0 0,.slice none 0 0,.slice none 0 0,.slice none 0 0] 26 (0,0)):=by rw[o];exact Bp _ _
      have F:=l.size;obtain⟨q,D⟩:∃q,q=V.heap.size:=⟨_,rfl⟩;rw[<-D]at n F
      try (have s:=Fu s a)
      try (have z:=Fu z a)
      try (have t:=Fu t a)
      try (have y:=Fu y a)
      have l:=l.trans (a.mono l.size);rw[<-o, <-D];refine⟨AL l,?_⟩;clear a D o;obtain⟨V,T⟩:∃Z,Z=m:=⟨_,rfl⟩;subst T;refine AK [11] (by kernel_rfl) (by simp) (BF ?_))
  all_goals
   refine DK (f:=10) (args:= #[.slice a5 c.now.length c5]) rfl rfl (by go_simp) ((WO (h.later (Bv.trans (l.mono Bv.size))).now UO).mono ?_);rintro e V ⟨u,rfl,a,B⟩;have y:=abx B l.size;obtain⟨G,J,rfl,_,_⟩:=JS B;have P:=adx s B;have O:=adx t B;clear B
   try (have n:=(a.block _ (Za.1 n).1).trans n)
   try (have s:=Fu s a)
   try (have z:=Fu z a)
   try (have t:=Fu t a)
   have l:=l.trans (a.mono l.size);refine .inl ⟨_,rfl,AL l,?_⟩;clear a
  all_goals first
   |(have kL:=Za.1 n;clear kL;refine AK [12] (by kernel_rfl) (by simp) (BF ?_)
     refine EX (v:=.agg #[.slice I c.base.length d1,.slice L c.Af.length d2,.slice H c.hooks.length d3,.slice none 0 0,.slice G c.now.length J]) (w':=V) rfl rfl (by go_simp) ?_;refine⟨AL l,?_⟩)
   |(refine AK [12,13] (by kernel_rfl) (by simp) (Ix ?gA12 ?gB12)
     case' gB12=>
      refine EX (v:=.pointer (some ⟨V.heap.size,0,none⟩)) (w':=V.alloc (.cells #[.slice none 0 0,.slice none 0 0,.slice none 0 0,.slice none 0 0,.slice none 0 0] 26)) rfl rfl (by go_simp) ?_;obtain⟨m,o⟩:∃m,m=V.alloc (.cells #[.slice none 0 0,.slice none 0 0,.slice none 0 0,.slice none 0 0,.slice none 0 0] 26):=⟨_,rfl⟩;have a:YH V.heap.size V m:=by rw[o];exact bA (Zh _ _)
      have n:m.heap[V.heap.size]?=some (.cells #[.slice none 0 0,.slice none 0 0,.slice none 0 0,.slice none 0 0,.slice none 0 0] 26 (0,0)):=by rw[o];exact Bp _ _
      have F:=l.size;obtain⟨q,D⟩:∃q,q=V.heap.size:=⟨_,rfl⟩;rw[<-D]at n F
      try (have s:=Fu s a)
      try (have z:=Fu z a)
      try (have t:=Fu t a)
      try (have y:=Fu y a)
      have l:=l.trans (a.mono l.size);rw[<-o, <-D];refine⟨AL l,?_⟩;clear a D o;obtain⟨V,T⟩:∃Z,Z=m:=⟨_,rfl⟩;subst T;refine AK [12] (by kernel_rfl) (by simp) (BF ?_);refine EX (v:=.agg #[.slice I c.base.length d1,.slice L c.Af.length d2,.slice H c.hooks.length d3,.slice none 0 0,.slice G c.now.length J]) (w':=V) rfl rfl (by go_simp) ?_;refine⟨AL l,?_⟩
     case' gA12=>
      refine EX (v:=.agg #[.slice I c.base.length d1,.slice L c.Af.length d2,.slice H c.hooks.length d3,.slice none 0 0,.slice G c.now.length J]) (w':=V) rfl rfl (by go_simp) ?_;refine⟨AL l,?_⟩;refine AK [13] (by kernel_rfl) (by simp) (BF ?_);refine EX (v:=.pointer (some ⟨V.heap.size,0,none⟩)) (w':=V.alloc (.cells #[.slice none 0 0,.slice none 0 0,.slice none 0 0,.slice none 0 0,.slice none 0 0] 26)) rfl rfl (by go_simp) ?_;obtain⟨m,o⟩:∃m,m=V.alloc (.cells #[.slice none 0 0,.slice none 0 0,.slice none 0 0,.slice none 0 0,.slice none 0 0] 26):=⟨_,rfl⟩;have a:YH V.heap.size V m:=by rw[o];exact bA (Zh _ _)
      have n:m.heap[V.heap.size]?=some (.cells #[.slice none 0 0,.slice none 0 0,.slice none 0 0,.slice none 0 0,.slice none 0 0] 26 (0,0)):=by rw[o];exact Bp _ _
      have F:=l.size;obtain⟨q,D⟩:∃q,q=V.heap.size:=⟨_,rfl⟩;rw[<-D]at n F
      try (have s:=Fu s a)
      try (have z:=Fu z a)
      try (have t:=Fu t a)
      try (have y:=Fu y a)
      have l:=l.trans (a.mono l.size);rw[<-o, <-D];refine⟨AL l,?_⟩;clear a D o;obtain⟨V,T⟩:∃Z,Z=m:=⟨_,rfl⟩;subst T)
  all_goals
   refine AK [14] (by kernel_rfl) (by simp) (BF ?_);obtain⟨g0,g1,g2,g3,g4⟩:=Qc5 n;obtain⟨f0,f1,f2,f3,f4⟩:=Qf5 n;obtain⟨m,o⟩:∃m,m=((((V.setCell ⟨q,0,none⟩ (.slice I c.base.length d1)).setCell ⟨q,1,none⟩ (.slice L c.Af.length d2)).setCell ⟨q,2,none⟩ (.slice H c.hooks.length d3)).setCell ⟨q,3,none⟩ (.slice none 0 0)).setCell ⟨q,4,none⟩ (.slice G c.now.length J):=⟨_,rfl⟩;refine Rj (w':=m) rfl rfl (by rw[o];go_simp) ?_;have ap:YH C.heap.size C m:=by rw[o];exact bS (bS (bS (bS (bS l F) F) F) F) F
   have hT:Ak (λx=>x=q) V m:=by rw[o];exact(Ak.refl (λx=>x=q) V).DT.DT.DT.DT.DT
   refine⟨AL ap,rfl,?_⟩;exact⟨rfl,q,I,L,H,G,d1,d2,d3,J,_,_,_,_,_,_,_,_,_,_,_,_,_,rfl,by omega,ap,by rw[o];exact Ba (Ba (Ba (Ba (Ba n _) _) _) _) _,abn s hT n (by decide),abn z hT n (by decide),abn t hT n (by decide),abn y hT n (by decide),R,P,O⟩
 rintro e a' V ⟨rfl,q,I,L,H,G,d1,d2,d3,J,x5,x6,x7,x8,x9,jX,Qj,am,MH,Lx,Ly,K0,K1,rfl,F,l,n,s,z,t,y,R,P,O⟩;obtain⟨M,hM⟩:∃M,M=V.heap.size:=⟨_,rfl⟩;have ed:C.heap.size<=M:=by rw[hM];exact l.size
 have L1:=adg s;have L2:=adg z;have L3:=adg t;have Y:=adg y;rw[<-hM]at L1 L2 L3 Y;have HD:=Zd (ZY L1 (ZY L2 (ZY L3 (ZY Y (ZY R (ZY P O))))));clear L1 L2 L3 Y R P O;have ci:CRs w C.heap.size M q #[.slice a1 c.base.length c1,.slice a2 c.Af.length c2,.slice a3 c.hooks.length c3,.slice a4 c.Aa.length c4,.slice a5 c.now.length c5] (.slice I c.base.length d1) (.slice L c.Af.length d2) (.slice H c.hooks.length d3) (.slice G c.now.length J) c 0 (.slice none 0 0) V:=
  ⟨Bv.trans (l.mono Bv.size),(l.block _ (Za.1 F1).1).trans F1,(l.block _ bV).trans O9,n,s,z,t,y,⟨[],zq _ _ _ _,λi x hx=>by cases hx⟩,ZcS hM⟩
 clear hM l n s z t y F1 O9 Bv;dsimp only;go_wp2;go_loopg [4] c.Aa.length (λg i wr=>∃(k:Nat) (v4:Zf),k<=c.Aa.length/\g=c.Aa.length - k/\i=.int .i64 k/\CRs w C.heap.size M q #[.slice a1 c.base.length c1,.slice a2 c.Af.length c2,.slice a3 c.hooks.length c3,.slice a4 c.Aa.length c4,.slice a5 c.now.length c5] (.slice I c.base.length d1) (.slice L c.Af.length d2) (.slice H c.hooks.length d3) (.slice G c.now.length J) c k v4 wr)
 case atStart=>exact⟨0,_,Zp _,rfl,rfl,ci⟩
 obtain⟨k,v4,hk,rfl,rfl,r⟩:=hrel;obtain⟨sl,NK⟩:∃sl,sl=c.Aa.take k:=⟨_,rfl⟩;have ai:sl.length=k:=by rw[NK];simp;omega
 have Ci:=r.row;rw[<-NK]at Ci;obtain⟨va,vc,rfl,_⟩:=Ci.val;rw[ai]at r Ci;by_cases Az:k<c.Aa.length
 .obtain⟨b4,o4,s2,s3,rfl,UQ,x0,x1,x2,x3,x4,hp,ho⟩:=h.Aa.at_ (i:=k) Az
  have Ga:∀j u,w.cell? ⟨b4,j,none⟩=some u->wr.cell? ⟨b4,j,none⟩=some u:=λj u B=>(r.below.cell (p:=⟨b4,j,none⟩) (hS b4 UQ)).trans B;replace x0:=Ga _ _ x0;replace x1:=Ga _ _ x1;replace x2:=Ga _ _ x2;replace x3:=Ga _ _ x3;replace x4:=Ga _ _ x4;clear Ga;replace hp:=hp.later r.below;replace ho:=ho.later r.below;obtain⟨Oq,Qm⟩:=xB k Az;obtain⟨sm,Qh⟩:∃sm,sm=Aj c.Aa k:=⟨_,rfl⟩;have dl:=Zd (show c.Aa.take (k+1)=sl++ [sm] by rw[NK,Qh,ZbH,Db Az];rfl);rw[<-Qh]at x0 x1 x4 hp ho Oq Qm;clear Qh NK;obtain⟨low,E,Ap,over,left⟩:=sm;dsimp only at x0 x1 x4 hp ho Oq Qm;obtain⟨a6,c6,rfl,l6,m6⟩:=hp.val;obtain⟨a7,c7,rfl,l7,m7⟩:=ho.val;obtain⟨K,Ig⟩:∃K:Nat->Prop,K=λx=>x≠q/\w.heap.size+1<x:=⟨_,rfl⟩;have LP:∀x,w.heap.size+1<x->x≠q->K x:=λx hx n=>by rw[Ig];exact⟨n,hx⟩
  have qF:¬K w.heap.size:=by rw[Ig];intro x;omega
  have l_:¬K (w.heap.size+1):=by rw[Ig];intro x;omega
  have Tg:¬K q:=by rw[Ig];exact λx=>x.1 rfl
  have Qn:¬K b4:=by rw[Ig];intro x;have:=hS b4 UQ;omega
  clear Ig;have z0:=λp:Tw K wr=>p.cell (ch (i:=3) r.box (v:=.slice (some ⟨b4,o4,none⟩) c.Aa.length c4) rfl) qF;have z1:=λp:Tw K wr=>p.cell (ch (i:=3) r.qx (v:=.slice va k vc) rfl) Tg;have y0:=λp:Tw K wr=>p.cell x0 Qn;have y1:=λp:Tw K wr=>p.cell x1 Qn;have y2:=λp:Tw K wr=>p.cell x2 Qn;have y3:=λp:Tw K wr=>p.cell x3 Qn;have y4:=λp:Tw K wr=>p.cell x4 Qn;have TB:(k:Int)<(c.Aa.length:Int):=by omega
  have fd:(0:Int)<=(k:Int):=by omega
  have kD:q<wr.heap.size:=(Za.1 r.qx).1;have kx:=ch (i:=3) r.box (v:=.slice (some ⟨b4,o4,none⟩) c.Aa.length c4) rfl;have bG:=r.below.size;have DR:w.heap.size+1<wr.heap.size:=(Za.1 r.res).1;have Rb:M<=wr.heap.size:=r.z;go_wp2;clear kx;refine B0 (S:=λW=>∃p:Tw K wr,W=p.v) [11] [(false,7),(false,8),(false,9),(false,10),(false,11)] [0,1,2,3,4,5,6] (by kernel_rfl) (λ_ _ d _ _ h=>by cases d<;>exact h) (by kernel_rfl) (A5 (Ak.later (Zh _ _).drew)) ?_;refine A4 _ _ (by kernel_rfl) ?_;simp only[Z6,zd,ZG,ZD,ZC]
  repeat (first|go_big_quiet_step (fail)|quiet_step (fail))
  refine Z4 ?_;clear z0 z1 y0 y1 y2 y3 y4 x0 x1 x2 x3 x4;change Dl _ _ _ _ _ _ _;have Uh:YH wr.heap.size wr wr.drew:=(Zh _ _).drew;refine Dd (f:=29) (args:= #[.agg #[.int .i64 low,.int .i64 E,.slice a6 Ap.length c6,.slice a7 over.length c7,.int .i64 left]]) rfl rfl (by go_simp) ((aoP (hp.later Uh) (ho.later Uh) Oq Qm).mono ?_);rintro e w1 ⟨u2,u3,rfl,Bg,Hb,Lb⟩;have cu:YH wr.heap.size wr w1:=Uh.trans (Bg.mono (Zj _));have Kd:Ak K wr w1:=Ak.later cu;refine⟨_,rfl,.inr (A5 Kd),?_⟩;have Hb:SP (TT wr.heap.size w1) w1 u2 Ap:=Hb;have Lb:SI (TT wr.heap.size w1) w1 u3 over:=Own.tt Lb;obtain⟨p6,t6,rfl,_⟩:=Hb.val;obtain⟨p7,t7,rfl,_⟩:=Lb.val;obtain⟨uT,uU⟩:∃uT,uT=w1.alloc (.cells #[.int .i64 low,.int .i64 E,.slice p6 Ap.length t6,.slice p7 over.length t7,.int .i64 left] 47):=⟨_,rfl⟩;have Vn:YH w1.heap.size w1 uT:=by rw[uU];exact bA (Zh _ _)
  have Jp:=cu.trans (Vn.mono cu.size);have WQ:Ak K wr uT:=Ak.later Jp;refine JZ (v:=.slice (some ⟨w1.heap.size,0,none⟩) 1 1) (w':=uT) rfl rfl (by rw[uU];go_simp) (.inr (A5 WQ)) ?_;obtain⟨an,AX,DF⟩:=Ci.later Jp;rw[ai]at AX;obtain⟨i0,hi,eL,k9,ct⟩:=zp eI;have ck:=Cz Tryz.underlying24;refine PW rfl rfl ?_;refine Zak _ _ _ 24 rfl M 47 i0 (.agg #[.int .i64 0,.int .i64 0,.slice none 0 0,.slice none 0 0,.int .i64 0]) 5 72 ck (Dz hi) eL k9 ct rfl (by decide) _ k an rfl AX ⟨w1.heap.size,0,none⟩ 1 1 [.int .i64 low,.int .i64 E,.slice p6 Ap.length t6,.slice p7 over.length t7,.int .i64 left] rfl rfl (by rw[uU];exact Hc _ _ _) (by intro u B;simp at B;rcases B with rfl|rfl|rfl|rfl|rfl<;>rfl) (by unfold maxLen;omega) (by omega) (by have:=Jp.size;omega) ?_;intro v' w2 Cm AG Gc;have Em:∀g,(Zy va k vc).ownBlock=some g->M<=g/\∃cs,wr.heap[g]?=some (.cells cs 47 (0,0)):=Ci.own;have Js:Ak (λx=>(Zy va k vc).ownBlock=some x) uT w2:=Ak.grown AG λg N=>N;have D3:Ak K wr w2:=WQ.trans (Ak.grown AG λg N=>by
   obtain⟨h1,cs,h2⟩:=Em g N;exact LP g (by omega) (λe=>by subst e;rw[r.qx]at h2;cases h2))
  refine⟨.inr (A5 D3),?_⟩;obtain⟨g',Ey,rfl⟩:=Zay Cm;have M9:=(D3.block q kD Tg).trans r.qx;have f3:=cf (i:=3) M9;have e3:=ch (i:=3) M9 (v:=.slice va k vc) rfl;refine Dw (v:=.pointer (some ⟨q,3,none⟩)) rfl rfl (by go_simp) (.inr (A5 D3)) ?_;refine K8 (w':=w2.setCell ⟨q,3,none⟩ (.slice (some ⟨g',0,none⟩) (k+1) Ey)) rfl rfl (by go_simp) (.inl rfl) ?_;have bM:CRs w C.heap.size M q #[.slice a1 c.base.length c1,.slice a2 c.Af.length c2,.slice a3 c.hooks.length c3,.slice (some ⟨b4,o4,none⟩) c.Aa.length c4,.slice a5 c.now.length c5] (.slice I c.base.length d1) (.slice L c.Af.length d2) (.slice H c.hooks.length d3) (.slice G c.now.length J) c (k+1) (.slice (some ⟨g',0,none⟩) (k+1) Ey) (w2.setCell ⟨q,3,none⟩ (.slice (some ⟨g',0,none⟩) (k+1) Ey)):=by
   have Th:Ak (λx=>x=q) w2 (w2.setCell ⟨q,3,none⟩ (.slice (some ⟨g',0,none⟩) (k+1) Ey)):=(Ak.refl (λx=>x=q) w2).DT;have bi:∀x,TT M w2 x->¬x=q:=λx hx e=>TT.not (e▸hx) M9 ⟨by decide,by decide,by decide⟩;have bv:∀ {A:Zb} (hA:∀g cs,wr.heap[g]?=some (Zbi cs 47 (0,0))->A.heap[g]?=some (Zbi cs 47 (0,0))) x,TT M A x->¬(Zy va k vc).ownBlock=some x:=λhA x hx e=>by
    obtain⟨_,cs,h2⟩:=Em x e;exact TT.not hx (hA x cs h2) ⟨by decide,by decide,by decide⟩
   have U:Ak (λx=>(Zy va k vc).ownBlock=some x) wr w2:=((Ak.later Jp).mono λ_ x=>x).trans Js;have mW:∀g,(Zy va k vc).ownBlock=some g->∃cs,wr.heap[g]?=some (.cells cs 47 (0,0)):=λg N=>(Em g N).2;have rK:=bv (A:=uT) (λg cs h=>(Jp.block g (Za.1 h).1).trans h);refine⟨?_,?_,?_,Ba M9 _,abn (ad8 r.base U mW (by decide)) Th M9 (by decide),abn (ad8 r.Af U mW (by decide)) Th M9 (by decide),abn (ad8 r.hooks U mW (by decide)) Th M9 (by decide),abn (ad8 r.now U mW (by decide)) Th M9 (by decide),?_,by have:=U.size;simp;omega⟩
   .exact bS ((r.below.trans (Jp.mono r.below.size)).trans (Js.below (λg N=>by have:=(Em g N).1;omega) (by have:=Jp.size;omega))) (by omega)
   .exact(AZ (by omega) _).trans ((D3.block _ (by omega) qF).trans r.box)
   .exact(AZ (by omega) _).trans ((D3.block _ DR l_).trans r.res)
   rw[dl.out];refine En.CN (A:=w2) ?_ Th bi (λg N e=>by
    cases N;subst e;rcases Cm.2 with⟨e,_⟩|⟨g,cap,cur,e,_,h3,_⟩
    .cases e
    cases e;rw[M9]at h3;cases h3)
   rw[show k+1=sl.length+1 by rw[ai]]at*;have xG:Rs (TT M uT) uT [.int .i64 low,.int .i64 E,.slice p6 Ap.length t6,.slice p7 over.length t7,.int .i64 left] ⟨low,E,Ap,over,left⟩:=⟨_,_,rfl,Ug (M6 Hb Vn) Rb,LQ (Ei Lb Vn) Rb⟩;exact En.snoc (λi x hi=>xR (DF i x hi) Js rK) (by have:=AX.1;rw[this,ai]) rfl (xR xG Js rK) Cm
  have du:=Zd bM;clear bM r D3 Js WQ Kd Jp Vn uU Bg cu Hb Lb AX Cm DF AG Gc Em Ci f3 e3 M9 hp ho;unfold Dl
  go_simp
  go_wp2;go_roundg (c.Aa.length - (k+1))
  case rel=>exact⟨k+1,_,Az,rfl,by go_num,du.out⟩
  omega
 have T5:k=c.Aa.length:=by omega
 rw[T5,ZcU]at NK;subst NK;subst T5;have kx:=ch (i:=3) r.box (v:=.slice a4 c.Aa.length c4) rfl;obtain⟨s0,s1,s2,s3,s4⟩:=Qc5 r.qx;obtain⟨f0,f1,f2,f3,f4⟩:=Qf5 r.res;obtain⟨r0,r1,r2,r3,r4⟩:=Qc5 r.res;have kD:q<wr.heap.size:=(Za.1 r.qx).1;have bG:=r.below.size;have DR:w.heap.size+1<wr.heap.size:=(Za.1 r.res).1;have HC:=Zd r;have HR:=Zd Ci;clear r Ci;go_wp2;refine ZN (v:=.agg #[.slice I c.base.length d1,.slice L c.Af.length d2,.slice H c.hooks.length d3,.slice va c.Aa.length vc,.slice G c.now.length J]) (by rw[A8 rfl];go_simp) rfl ?_;have be:∀X,YH w.heap.size w X->Ak (λx=>x=w.heap.size+1) wr X->af4 w c (.returned (.agg #[.slice I c.base.length d1,.slice L c.Af.length d2,.slice H c.hooks.length d3,.slice va c.Aa.length vc,.slice G c.now.length J])) X:=λX Ov Pc=>by
  have hn:∀x,TT M wr x->¬x=w.heap.size+1:=λx hx e=>by have:=hx.1;omega
  have mM:w.heap.size<=C.heap.size:=by omega
  have N:∀g,(Zy va c.Aa.length vc).ownBlock=some g->¬g=w.heap.size+1:=λg N e=>by have:=(HR.out.own g N).1;omega
  obtain⟨L1,L2,L3,Y,R,P,O⟩:=HD.out;exact⟨_,_,_,_,_,M,rfl,Ov,abx (abn HC.out.base Pc HC.out.res (by decide)) mM,abx (abn HC.out.Af Pc HC.out.res (by decide)) mM,abx (abn HC.out.hooks Pc HC.out.res (by decide)) mM,abx (abn HC.out.now Pc HC.out.res (by decide)) mM,HR.out.CN Pc hn N,by omega,L1,L2,L3,Y,R,P,O⟩
 have Lc:=HC.out.below;refine be _ ?_ ?_
 .repeat (with_reducible first|exact Lc|(refine bS ?_ (by omega)))
 repeat (with_reducible first|exact Ak.refl _ _|(refine Ak.DT ?_))
def CSp.rc {u3:Zf}(h:CSp n M w u1 u2 u3 u4 u5 c):RC (Cb n w) w u1 u2 u3 u4 u5 c:=
 ⟨h.base.si,Sl.imp (h.Af.tt (.inr (.inr rfl))) (λb a=>a.new) λ_ _ x=>x,h.hooks.si,(h.row.ss (Zj _)).imp (λb a=>⟨Zr h.le a.1,a.2⟩) λ_ _ ⟨v2,v3,e,f,d⟩=>⟨v2,v3,e,Sl.imp f (λb a=>⟨Zr h.le a.1,a.2⟩) λ_ _ x=>x,Sl.imp d (λb a=>⟨Zr h.le a.1,a.2⟩) λ_ _ x=>x⟩,h.now.si⟩
def ahR (S:Nat->Prop)(w:Zb)(cs:List Zf)(x:A_):Prop:=∃v1 v2 v3 v4 v5,cs=[v1,v2,v3,v4,v5]/\RC S w v1 v2 v3 v4 v5 x
def aiD (S:Nat->Prop)(w:Zb)(b:Nat)(lv:Zf)(d:Nat)(c:A_)(e:Ending)(w':Zb):Prop:=
 ∃(f a:A_) (q g:Nat),e=.returned (.slice (some ⟨q,0,none⟩) 4 4)/\B3 b w w'/\BK w' b lv g/\g<=d+2000/\H6 f/\ac3 a/\w.heap.size<=q/\Sl (λx=>S x\/Cb w.heap.size w' x) (ahR λx=>S x\/Cb w.heap.size w' x) 5 w' (.slice (some ⟨q,0,none⟩) 4 4) [c,f,a,f]
def aeJ (b:l.Pairwise (· < ·))(a:∀x∈l,0<=x/\x<3):l.length<=3:=(show∀l∈Lj,l.length<=3 by decide) l (EM b a)
def adP (h:BN c=0):∀i,i<c.Aa.length->(Aj c.Aa i).over.length<=3:=λi hi=>by
 have d:=(Bj (Bj h).2).2;have e:=(JQ (Bj (Bj h).2).1).2;have a:=adf (Bj d).1 (Aj c.Aa i) (Z3 (Db hi));exact aeJ a.1 λx b=>by have:=a.2 x b;omega
def H6.small (h:H6 c):ac3 c:=
 ⟨by have:=h.Fp;omega,by have:=h.PN;have:=h.Fp;omega,by have:=h.hooks;have:=h.Fp;omega,by have:=h.few;omega,by have:=h.now.1;have:=h.few;omega,λi hi=>⟨by have:=(h.seam i hi).few;omega,by have:=adP h.begin i hi;omega⟩⟩
def ag9 {l:List Ay}:Aj (l.set k s) j=if j=k/\k<l.length then s else Aj l j:=by
 unfold Aj;by_cases e:j=k
 .subst e
  by_cases a:j<l.length
  .simp[Y6,a]
  simp[Y6,a]
 rw[if_neg (λx=>e x.1),Y6,ZS (λx=>e x.symm),Y6]
def ac3.put (h:ac3 c)(b:s.Ap.length<=20/\s.over.length<=20):ac3 {c with Aa:=c.Aa.set i s}:=
 ⟨h.base,h.Af,h.hooks,by rw[ZcC];exact h.Aa,h.now,λj a=>by
  rw[ZcC]at a;rw[ag9];split
  .exact b
  exact h.part j a⟩
def CSp.CN {u3:Zf}(h:CSp n M A u1 u2 u3 u4 u5 c)(b:Ak T A B)(a:∀x,n<=x->¬T x):CSp n M B u1 u2 u3 u4 u5 c:=
 ⟨CO b a h.base,CO b a h.Af,CO b a h.hooks,CO b a h.now,h.row.CN b (λx d=>a x (Zr h.le d.1)) (λg e=>a g (Zr h.le (h.row.own g e).1)),h.le,h.l1,h.l2,h.l3,h.l5,h.d13,h.d15,h.d35⟩
def CSp.later {u3:Zf}(h:CSp n M A u1 u2 u3 u4 u5 c)(a:YH A.heap.size A B):CSp n M B u1 u2 u3 u4 u5 c:=h.CN (T:=λ_=>False) (Ak.later a) λ_ _ x=>x
def CSp.box {u3:Zf}(h:CSp n M A u1 u2 u3 u4 u5 c)(b:Ak (λx=>x=q) A B)(a:A.heap[q]?=some (.cells cs 26 (0,0))):CSp n M B u1 u2 u3 u4 u5 c:=
 ⟨abn h.base b a (by decide),abn h.Af b a (by decide),abn h.hooks b a (by decide),abn h.now b a (by decide),h.row.CN b (λx f e=>TT.not (e▸f) a ⟨by decide,by decide,by decide⟩) (λg i e=>by
  obtain⟨_,j,d⟩:=h.row.own g i;subst e;rw[a]at d;cases d),h.le,h.l1,h.l2,h.l3,h.l5,h.d13,h.d15,h.d35⟩
def ac7 {V:Zb}{d z:Nat}{E D C B A n m l k h y v t s r:Zf}{f co:A_}(G:B3 b w V)(H:BK V b lv z)(L:z<=d+2000)(M:H6 f)(K:ac3 co)
 (J:RC S V E D C B A c) (F:RC (Cb w.heap.size V) V n m l k h f) (I:RC (Cb w.heap.size V) V y v t s r co):
  aiD S w b lv d c (.returned (.slice (some ⟨V.heap.size,0,none⟩) 4 4)) (V.alloc (.cells #[E,D,C,B,A,n,m,l,k,h,y,v,t,s,r,n,m,l,k,h] 26)):=by
 have g:∀o,YH V.heap.size V (V.alloc o):=λo=>bA (Zh _ _);have p:=G.size;have q:∀o x,Cb w.heap.size V x->Cb w.heap.size (V.alloc o) x:=λo x e=>⟨e.1,by rw[ZB];have:=e.2;omega⟩;refine⟨f,co,V.heap.size,z,rfl,G.below (g _),H.later (g _),L,M,K,p,_,_,rfl,Zj _,(by decide),λi x e=>?_⟩
 match i,e with
 |0,e=>
  cases e;exact⟨V.heap.size,0,[E,D,C,B,A],rfl,.inr ⟨p,by rw[ZB];omega⟩,rfl,(λj u a=>by
   match j,a with
   |0,a=>cases a;exact cn _ _ _ rfl
   |1,a=>cases a;exact cn _ _ _ rfl
   |2,a=>cases a;exact cn _ _ _ rfl
   |3,a=>cases a;exact cn _ _ _ rfl
   |4,a=>cases a;exact cn _ _ _ rfl),_,_,_,_,_,rfl,(J.later (g _)).imp λx e=>.inl e⟩
 |1,e=>
  cases e;exact⟨V.heap.size,0,[n,m,l,k,h],rfl,.inr ⟨p,by rw[ZB];omega⟩,rfl,(λj u a=>by
   match j,a with
   |0,a=>cases a;exact cn _ _ _ rfl
   |1,a=>cases a;exact cn _ _ _ rfl
   |2,a=>cases a;exact cn _ _ _ rfl
   |3,a=>cases a;exact cn _ _ _ rfl
   |4,a=>cases a;exact cn _ _ _ rfl),_,_,_,_,_,rfl,(F.later (g _)).imp λx e=>.inr (q _ x e)⟩
 |2,e=>
  cases e;exact⟨V.heap.size,0,[y,v,t,s,r],rfl,.inr ⟨p,by rw[ZB];omega⟩,rfl,(λj u a=>by
   match j,a with
   |0,a=>cases a;exact cn _ _ _ rfl
   |1,a=>cases a;exact cn _ _ _ rfl
   |2,a=>cases a;exact cn _ _ _ rfl
   |3,a=>cases a;exact cn _ _ _ rfl
   |4,a=>cases a;exact cn _ _ _ rfl),_,_,_,_,_,rfl,(I.later (g _)).imp λx e=>.inr (q _ x e)⟩
 |3,e=>
  cases e;exact⟨V.heap.size,0,[n,m,l,k,h],rfl,.inr ⟨p,by rw[ZB];omega⟩,rfl,(λj u a=>by
   match j,a with
   |0,a=>cases a;exact cn _ _ _ rfl
   |1,a=>cases a;exact cn _ _ _ rfl
   |2,a=>cases a;exact cn _ _ _ rfl
   |3,a=>cases a;exact cn _ _ _ rfl
   |4,a=>cases a;exact cn _ _ _ rfl),_,_,_,_,_,rfl,(F.later (g _)).imp λx e=>.inr (q _ x e)⟩
def c28 {Sn:Nat->Prop}{d:Nat}(h:RC S w v1 v2 v3 v4 v5 c)(hS:∀x,S x->x<w.heap.size/\x≠b)(hn:SI Sn w lv nums)(E8:∀x,Sn x->x<w.heap.size/\x≠b)(hL:BK w b lv d)(hd:d+5000<4611686018427387904)(Qh:ac3 c):
  Calls Lp 7 #[.agg #[v1,v2,v3,v4,v5],.pointer (some ⟨b,0,none⟩)] w (aiD S w b lv d c):=by
 obtain⟨a1,c1,a2,c2,a3,c3,a4,c4,a5,c5,rfl,rfl,rfl,rfl,rfl,l1,m1,l2,m2,l3,m3,l4,m4,l5,m5⟩:=h.vs;have IX:=DJ;have GK:b<w.heap.size:=hL.lt;obtain⟨W1,NL⟩:∃W1,W1=w.alloc (.cells #[.slice a1 c.base.length c1,.slice a2 c.Af.length c2,.slice a3 c.hooks.length c3,.slice a4 c.Aa.length c4,.slice a5 c.now.length c5] 26):=⟨_,rfl⟩;have Bg:YH w.heap.size w W1:=by rw[NL];exact bA (Zh _ _)
 have lD:W1.heap[w.heap.size]?=some (.cells #[.slice a1 c.base.length c1,.slice a2 c.Af.length c2,.slice a3 c.hooks.length c3,.slice a4 c.Aa.length c4,.slice a5 c.now.length c5] 26 (0,0)):=by rw[NL];exact Bp _ _
 have DR:W1.heap.size=w.heap.size+1:=by rw[NL,ZB]
 have no:=Zd (c44 (s:=3) (hn.later Bg) (λx a=>⟨by have:=(E8 x a).1;omega,(E8 x a).2⟩) (hL.later Bg) (by omega) (by decide));go_enter Lp.func28,n28;go_wp2;rw[<-NL];clear NL;refine no.out.mono ?_;rintro e W2 ⟨j,u1,u2,u3,u4,u5,d2,rfl,M7,rx,yv,hM,_⟩;obtain⟨p1,e1,p2,e2,p3,e3,p4,e4,p5,e5,rfl,rfl,rfl,rfl,rfl,_⟩:=yv.vs;obtain⟨X2,Ia⟩:∃X2,X2=W2.alloc (.cells #[.slice p1 j.base.length e1,.slice p2 j.Af.length e2,.slice p3 j.hooks.length e3,.slice p4 j.Aa.length e4,.slice p5 j.now.length e5] 26):=⟨_,rfl⟩;have lC:YH W2.heap.size W2 X2:=by rw[Ia];exact bA (Zh _ _)
 have sq:X2.heap.size=W2.heap.size+1:=by rw[Ia,ZB]
 have jt:X2.heap[W2.heap.size]?=some (.cells #[.slice p1 j.base.length e1,.slice p2 j.Af.length e2,.slice p3 j.hooks.length e3,.slice p4 j.Aa.length e4,.slice p5 j.now.length e5] 26 (0,0)):=by rw[Ia];exact Bp _ _
 have Ot:=M7.Cn;have EB:=Ot.size;have jp:=yv.later lC;have nm:=Ot.below lC;have ne:=nm.at_ lD (by omega);have t:=hM.small;have n7:=Zd (amL jp (λx a=>by have:=a.2;omega) (by have:=t.base;omega) (by have:=t.Af;omega) (by have:=t.hooks;omega) (by have:=t.Aa;omega) (by have:=t.now;omega) λi hi=>⟨by have:=(t.part i hi).1;omega,by have:=(t.part i hi).2;omega⟩);obtain⟨m,hm⟩:∃m,m=W2.heap.size:=⟨_,rfl⟩;rw[<-hm]at jt;have rm:W2.heap.size<=m/\m<=W2.heap.size:=by omega
 go_wp2;rw[<-Ia, <-hm];clear Ia hm;refine n7.out.mono ?_;rintro e W3 ⟨q1,q2,q3,q4,q5,M,rfl,Bv,Z⟩;obtain⟨r1,f1,rfl,_⟩:=JS Z.base;obtain⟨r2,f2,rfl,_⟩:=JS Z.Af;obtain⟨r3,f3,rfl,_⟩:=JS Z.hooks;obtain⟨r4,f4,rfl,_⟩:=Z.row.val;obtain⟨r5,f5,rfl,_⟩:=JS Z.now;obtain⟨X3,iz⟩:∃X3,X3=W3.alloc (.cells #[.slice r1 j.base.length f1,.slice r2 j.Af.length f2,.slice r3 j.hooks.length f3,.slice r4 j.Aa.length f4,.slice r5 j.now.length f5] 26):=⟨_,rfl⟩;have mz:YH W3.heap.size W3 X3:=by rw[iz];exact bA (Zh _ _)
 have so:X3.heap.size=W3.heap.size+1:=by rw[iz,ZB]
 have q9:X3.heap[W3.heap.size]?=some (.cells #[.slice r1 j.base.length f1,.slice r2 j.Af.length f2,.slice r3 j.hooks.length f3,.slice r4 j.Aa.length f4,.slice r5 j.now.length f5] 26 (0,0)):=by rw[iz];exact Bp _ _
 have pt:=Bv.size;have fu:=Bv.trans (mz.mono pt);have my:=nm.below fu;have hC:=Z.later mz;have mx:=(fu.block _ (by omega)).trans jt;have mw:=(fu.block _ (by omega)).trans ne;have mv:=jp.later fu;have i9:=((hn.later Bg).Cn my (λx a=>⟨by have:=(E8 x a).1;omega,(E8 x a).2⟩));have pi:=(M7.E4.later lC).later fu;obtain⟨o,ho⟩:∃o,o=W3.heap.size:=⟨_,rfl⟩;rw[<-ho]at q9;have iG:=Zd (c29 (n:=2) i9 (λx a=>⟨by have:=(E8 x a).1;omega,(E8 x a).2⟩) pi (by omega) (by decide));have nF:W3.heap.size<=o/\o<=W3.heap.size:=by omega
 go_wp2;rw[<-iz, <-ho];clear iz ho;refine iG.out.mono ?_;rintro e y ⟨r,d4,rfl,hr,S5,du,ru⟩;have Ox:r<=2:=hr;have fC:Ak (λx=>x=b) X3 y:=S5.CN rfl;have Q:=hC.CN fC (λx a e=>by omega);have fK:=S5.at_ q9 (by omega);have fJ:=S5.at_ mx (by omega);have ap:=S5.at_ mw (by omega);have fd:=mv.Ar (S5.same λx a=>by have:=a.1;omega);have Y:B3 b w y:=by
  have hh:B3 b W1 y:=my.trans S5;exact⟨hh.os.trans Bg.os,hh.tape.trans Bg.tape,hh.output.trans Bg.output,Zr Bg.size hh.size,λk hk F=>(hh.block k (by omega) F).trans (Bg.block k hk)⟩
 have rj:=Y.size;have U:=h.Ar (Y.same λx a=>(hS x a).2);have se:=S5.size;have x1:w.heap.size<m:=by omega
 have x2:m<o:=by omega
 have x3:o<y.heap.size:=by omega
 clear no n7 iG lD ne jt mx mw q9 jp mv Z hC yv M7;obtain rfl|rfl|rfl:r=0\/r=1\/r=2:=by omega
 .have rg:=Zd (WO U.now (by have:=Qh.now;omega))
  have o9:=ch (i:=4) ap rfl;go_wp2;refine rg.out.mono ?_;rintro e W5 ⟨u,rfl,Cj,mt⟩;obtain⟨t5,s5,rfl,_⟩:=JS mt;have p9:=Cj.size;have fi:=(Cj.block _ x3).trans fK;obtain⟨B,ck⟩:∃B,B=W5.setCell ⟨o,4,none⟩ (.slice t5 c.now.length s5):=⟨_,rfl⟩;have A:Ak (λx=>x=o) W5 B:=by rw[ck];exact(Ak.refl (λx=>x=o) W5).DT
  have an:B.heap[o]?=some (.cells #[.slice r1 j.base.length f1,.slice r2 j.Af.length f2,.slice r3 j.hooks.length f3,.slice r4 j.Aa.length f4,.slice t5 c.now.length s5] 26 (0,0)):=by rw[ck];exact Ba fi _
  have re:=(Cj.block _ (by omega)).trans ap;have pu:=(Cj.block _ (by omega)).trans fJ;obtain⟨iX,bV,iS,bv,iv⟩:=Qc5 re;obtain⟨ip,io,im,ii,g9⟩:=Qc5 pu;obtain⟨gt,bi,gn,be,gj⟩:=Qc5 fi;have ry:=cf (i:=4) fi;have n1:¬w.heap.size=o:=by omega
  have n2:¬m=o:=by omega
  clear o9;have V:B3 b w B:=by
   have O:=Y.below Cj;exact⟨A.os.trans O.os,A.tape.trans O.tape,A.output.trans O.output,Zr O.size A.size,λk hk F=>(A.block k (by have:=O.size;omega) (by omega)).trans (O.block k hk F)⟩
  have lJ:=A.size;have ai:BK B b lv d4:=by
   obtain⟨st,B_⟩:=du.later Cj;exact⟨st,(A.block b (by omega) (by omega)).trans B_⟩
  have g1:=(U.later Cj).Ar (A.same λx a=>show¬x=o by have:=hS x a;omega);have g2:=((fd.later Cj).Ar (A.same λx a=>show¬x=o by have:=a.2;omega)).imp (T:=Cb w.heap.size B) λx a=>⟨by have:=a.1;omega,by have:=a.2;omega⟩;have g3:=(((Q.later Cj).box A fi).rc).imp (T:=Cb w.heap.size B) λx a=>⟨by have:=a.1;omega,a.2⟩;have g4:SI (Cb w.heap.size B) B (.slice t5 c.now.length s5) c.now:=Sl.imp (Own.si (abn mt A fi (by decide))) (λx a=>⟨by have:=a.1;omega,a.2⟩) λ_ _ x=>x;have I:=ac7 (d:=d) V ai (by omega) hM (co:= {j with now:=c.now}) ⟨t.base,t.Af,t.hooks,t.Aa,Qh.now,t.part⟩ g1 g2 ⟨g3.base,g3.Af,g3.hooks,g3.Aa,g4⟩;clear g1 g2 g3 g4 V ai;have mh:B.heap.size=W5.heap.size:=by rw[ck];simp
  rw[mh]at I;clear mh;go_wp2;rw[<-ck];clear ck;go_ret;exact I
 .have lE:=ac7 (d:=d) Y du (by omega) hM t U (fd.imp (T:=Cb w.heap.size y) λx a=>⟨by have:=a.1;omega,by have:=a.2;omega⟩) (Q.rc.imp (T:=Cb w.heap.size y) λx a=>⟨by have:=a.1;omega,a.2⟩)
  obtain⟨iX,bV,iS,bv,iv⟩:=Qc5 ap;obtain⟨ip,io,im,ii,g9⟩:=Qc5 fJ;obtain⟨gt,bi,gn,be,gj⟩:=Qc5 fK;by_cases h0:c.Aa.length=0
  .have hh:¬0<(c.Aa.length:Int):=by omega
   clear h0;go_wp2;go_ret;exact lE
  have hh:0<(c.Aa.length:Int):=by omega
  go_wp2;obtain⟨g,eg⟩:∃g,r4=some ⟨g,0,none⟩:=by
   obtain⟨lI,h1,_⟩:=Q.row;rcases h1.2 with⟨e,h2⟩|⟨g,cap,cur,e,_⟩
   .have:=hM.few
    omega
   cases e;exact⟨g,rfl⟩
  subst eg;obtain⟨R,o4,v2,v3,ea,UQ,x0,x1,i7,i6,x4,hp,rH⟩:=U.Aa.at_ (i:=0) (by omega);subst ea;obtain⟨a6,c6,rfl,l6,m6⟩:=hp.val;obtain⟨a7,c7,rfl,l7,m7⟩:=rH.val;have fm:=Qh.part 0 (by omega);obtain⟨sm,am⟩:∃sm,sm=Aj c.Aa 0:=⟨_,rfl⟩;have sr:=Zd am;rw[<-am]at x0 x1 i7 i6 x4 hp rH fm l6 l7;rw[Nat.zero_mul,Nat.add_zero]at x0 x1 i7 i6 x4;clear am;obtain⟨low,z,Ap,E,left⟩:=sm;dsimp only at x0 x1 i7 i6 x4 hp rH fm l6 l7;obtain⟨K,Ig⟩:∃K:Nat->Prop,K=λx=>x=b\/y.heap.size<=x:=⟨_,rfl⟩;have fh:K b:=by rw[Ig];exact .inl rfl
  have LP:∀x,y.heap.size<=x->K x:=λx a=>by rw[Ig];exact .inr a
  have qF:∀x,x<y.heap.size->x≠b->¬K x:=λx h1 h2=>by rw[Ig];exact λe=>e.elim h2 (by omega)
  clear Ig;have mi:=hS R UQ;have z0:=λp:Tw K y=>p.cell be (qF _ (by show o<_;omega) (by show o≠b;omega));have z1:=λp:Tw K y=>p.cell bv (qF _ (by show w.heap.size<_;omega) (by show w.heap.size≠b;omega));have z2:=λp:Tw K y=>p.cell x0 (qF _ (by show R<_;omega) (by show R≠b;omega));have z3:=λp:Tw K y=>p.cell x1 (qF _ (by show R<_;omega) (by show R≠b;omega));have z4:=λp:Tw K y=>p.cell i7 (qF _ (by show R<_;omega) (by show R≠b;omega));have z5:=λp:Tw K y=>p.cell i6 (qF _ (by show R<_;omega) (by show R≠b;omega));have z6:=λp:Tw K y=>p.cell x4 (qF _ (by show R<_;omega) (by show R≠b;omega));have Qu:IntKind.i64.wrap ((j.Aa.length:Int) - 1)=(j.Aa.length:Int) - 1:=by rw[zE];have:=hM.few;omega
  refine B0 (S:=λW=>∃p:Tw K y,W=p.v) [14] [(false,5),(false,6),(false,7),(false,12),(false,13),(false,14)] [0,1,2,3,4,8,9,10,11] (by kernel_rfl) (λ_ _ d _ _ h=>by cases d<;>exact h) (by kernel_rfl) (A5 (Ak.later (Zh _ _).drew)) ?_;refine A4 _ _ (by kernel_rfl) ?_;simp only[Z6,zd,ZG,ZD,ZC]
  repeat (first|go_big_quiet_step (fail)|quiet_step (fail))
  refine Z4 ?_;clear z0 z1 z2 z3 z4 z5 z6;change Dl _ _ _ _ _ _ _;have Uh:YH y.heap.size y y.drew:=(Zh _ _).drew;have ct:Ak K y y.drew:=Ak.later Uh;refine Dw (v:=.int .i64 j.Aa.length) rfl rfl (by go_simp) (.inr (A5 ct)) ?_;refine Dw (v:=.int .i64 ((j.Aa.length:Int) - 1)) rfl rfl (by go_simp) (.inr (A5 ct)) ?_;refine Dd (f:=28) (args:= #[.pointer (some ⟨b,0,none⟩),.int .i64 ((j.Aa.length:Int) - 1)]) rfl rfl (by go_simp) ((c29 ((i9.Cn S5 (λx a=>⟨by have:=(E8 x a).1;omega,(E8 x a).2⟩)).later Uh) (λx a=>⟨by have:=(E8 x a).1;simp;omega,(E8 x a).2⟩) (du.later Uh) (by omega) (by have:=hM.few;omega)).mono ?_);rintro e W5 ⟨C,d5,rfl,pa,O,xZ,pd⟩;have L:B3 b y W5:=by
   exact⟨O.os,O.tape,O.output,O.size,λk hk F=>O.block k hk F⟩
  have ml:Ak K y W5:=L.CN fh;refine⟨_,rfl,.inr (A5 ml),?_⟩;have lm:C<j.Aa.length:=by have:=hM.few;omega
  have p9:=L.size;refine Dd (f:=29) (args:= #[.agg #[.int .i64 low,.int .i64 z,.slice a6 Ap.length c6,.slice a7 E.length c7,.int .i64 left]]) rfl rfl (by go_simp) ((aoP (hp.Ar (L.same λx a=>(hS x a).2)) (rH.Ar (L.same λx a=>(hS x a).2)) (by have:=fm.1;omega) (by have:=fm.2;omega)).mono ?_);rintro e B ⟨u2,u3,rfl,DM,Hb,Lb⟩;have A:Ak K y B:=ml.trans (Ak.later DM);refine⟨_,rfl,.inr (A5 A),?_⟩;have Lb:SI (TT W5.heap.size B) B u3 E:=Own.tt Lb;obtain⟨p6,t6,rfl,_⟩:=Hb.val;obtain⟨p7,t7,rfl,_⟩:=Lb.val;have lJ:=DM.size;have J:=(Q.CN (L.CN (K:=λx=>x=b) rfl) (λx a e=>by omega)).later DM;have an:=(DM.block _ (by omega)).trans (L.at_ fK (by omega));have li:=(DM.block _ (by omega)).trans (L.at_ fJ (by omega));have kw:=(DM.block _ (by omega)).trans (L.at_ ap (by omega));have V:=L.below DM;have kv:=fd.Ar (V.same λx a=>by have:=a.1;omega);have ka:=U.Ar (V.same λx a=>(hS x a).2);have ai:=xZ.later DM;have D:B3 b w B:=Y.trans V;obtain⟨cur,q,P⟩:∃cur,B.heap[g]?=some (.cells cur 47 (0,0))/\∀k,k<5->∃v,cur[C*5+k]?=some v:=by
   obtain⟨lI,h1,_⟩:=J.row;rcases h1.2 with⟨e,_⟩|⟨g',cap,cur,e,g3,g4,g5,g6,g7,_⟩
   .cases e
   cases e;exact⟨cur,g4,λk hk=>⟨_,Zx (by rw[g7];omega)⟩⟩
  obtain⟨w0,b9⟩:=P 0 (by decide);obtain⟨w1,lX⟩:=P 1 (by decide);obtain⟨w2,nj⟩:=P 2 (by decide);obtain⟨w3,lK⟩:=P 3 (by decide);obtain⟨w4,xX⟩:=P 4 (by decide);have q0:=ch q b9;have q1:=ch q lX;have q2:=ch q nj;have q3:=ch q lK;have q4:=ch q xX;have b8:=cf (i:=C*5+0) q;have i8:=cf (i:=C*5+1) q;have o8:=cf (i:=C*5+2) q;have ow:=cf (i:=C*5+3) q;have ol:=cf (i:=C*5+4) q;rw[Nat.add_zero]at q0 b8;obtain⟨H,G⟩:∃H,H=((((B.setCell ⟨g,C*5,none⟩ (.int .i64 low)).setCell ⟨g,C*5+1,none⟩ (.int .i64 z)).setCell ⟨g,C*5+2,none⟩ (.slice p6 Ap.length t6)).setCell ⟨g,C*5+3,none⟩ (.slice p7 E.length t7)).setCell ⟨g,C*5+4,none⟩ (.int .i64 left):=⟨_,rfl⟩;have pp:(C:Int)<(j.Aa.length:Int):=by omega
  have pm:(0:Int)<=(C:Int):=by omega
  refine Dw (v:=.pointer (some ⟨g,C*5,none⟩)) rfl rfl (by go_simp) (.inr (A5 A)) ?_;refine K8 (w':=H) rfl rfl (by rw[G];go_simp) (.inl rfl) ?_;have l:Ak (λx=>x=g) B H:=by rw[G];exact(Ak.refl (λx=>x=g) B).DT.DT.DT.DT.DT
  have pc:=(J.row.own g rfl).1;have rE:=J.le;have ci:∀x,x<X2.heap.size->¬x=g:=λx a e=>by omega
  have jn:¬o=g:=λe=>by subst e;rw[an]at q;cases q
  have rC:g<y.heap.size:=by
   obtain⟨_,cs,h⟩:=Q.row.own g rfl;exact(Za.1 h).1
  have mp:Rs (TT M B) B [.int .i64 low,.int .i64 z,.slice p6 Ap.length t6,.slice p7 E.length t7,.int .i64 left] ⟨low,z,Ap,E,left⟩:=⟨_,_,rfl,Sl.imp Hb (λx a=>⟨by have:=a.1;omega,a.2⟩) (λ_ _ x=>x),Sl.imp Lb (λx a=>⟨by have:=a.1;omega,a.2⟩) λ_ _ x=>x⟩;have N:=En.put (s:=⟨low,z,Ap,E,left⟩) J.row lm mp;dsimp only at N;rw[<-G]at N;have X:H.heap.size=B.heap.size:=by rw[G];simp
  have ed:B3 b w H:=by
   exact⟨l.os.trans D.os,l.tape.trans D.tape,l.output.trans D.output,Zr D.size l.size,λk hk F=>(l.block k (by have:=D.size;omega) (by omega)).trans (D.block k hk F)⟩
  have dl:BK H b lv d5:=by
   obtain⟨st,B_⟩:=ai;exact⟨st,(l.block b (by omega) (by omega)).trans B_⟩
  have U3:∀ {v:Zf} {e:Zs} {k n:Nat} {xs:List Zf} {base:Nat},B.ownsRow base e k v n xs->e≠47->H.ownsRow base e k v n xs:=λh he=>abn h l q he;have g1:=ka.Ar (l.same λx a=>show¬x=g by have:=hS x a;omega);have g2:=(kv.Ar (l.same λx a=>show¬x=g by have:=a.2;omega)).imp (T:=Cb w.heap.size H) λx a=>⟨by have:=a.1;omega,by have:=a.2;omega⟩;have g3:RC (Cb w.heap.size H) H (.slice r1 j.base.length f1) (.slice r2 j.Af.length f2) (.slice r3 j.hooks.length f3) (.slice (some ⟨g,0,none⟩) j.Aa.length f4) (.slice r5 j.now.length f5) {j with Aa:=j.Aa.set C ⟨low,z,Ap,E,left⟩}:=
   ⟨Sl.imp (Own.si (U3 J.base (by decide))) (λx a=>⟨by have:=a.1;omega,a.2⟩) (λ_ _ x=>x),Sl.imp (Ih.tt (U3 J.Af (by decide)) (.inr (.inr rfl))) (λx a=>⟨by have:=a.1;omega,a.lt⟩) (λ_ _ x=>x),Sl.imp (Own.si (U3 J.hooks (by decide))) (λx a=>⟨by have:=a.1;omega,a.2⟩) (λ_ _ x=>x),(N.ss (Zj _)).imp (λx a=>⟨by have:=a.1;omega,a.2⟩) (λ_ _ ⟨v2,v3,e,h2,h3⟩=>⟨v2,v3,e,Sl.imp h2 (λx a=>⟨by have:=a.1;omega,a.2⟩) λ_ _ x=>x,Sl.imp h3 (λx a=>⟨by have:=a.1;omega,a.2⟩) λ_ _ x=>x⟩),Sl.imp (Own.si (U3 J.now (by decide))) (λx a=>⟨by have:=a.1;omega,a.2⟩) (λ_ _ x=>x)⟩
  have I:=ac7 (d:=d) ed dl (by omega) hM (co:= {j with Aa:=j.Aa.set C ⟨low,z,Ap,E,left⟩}) (t.put fm) g1 g2 g3;rw[X]at I;have fI:=(l.block o (by omega) jn).trans an;have fy:=(l.block m (by omega) (ci m (by omega))).trans li;have fw:=(l.block w.heap.size (by omega) (ci _ (by omega))).trans kw;obtain⟨iX,bV,iS,bv,iv⟩:=Qc5 fw;obtain⟨ip,io,im,ii,g9⟩:=Qc5 fy;obtain⟨gt,bi,gn,be,gj⟩:=Qc5 fI;have lF:=Zd I;have lG:=Zd X;clear G I g1 g2 g3 U3 N mp l fI fy fw q0 q1 q2 q3 q4 b8 i8 o8 ow ol b9 lX nj lK xX X dl ed;unfold Dl
  go_simp
  go_wp2;rw[lG.out];go_ret;exact lF.out
 have lE:=ac7 (d:=d) Y du (by omega) hM t U (fd.imp (T:=Cb w.heap.size y) λx a=>⟨by have:=a.1;omega,by have:=a.2;omega⟩) (Q.rc.imp (T:=Cb w.heap.size y) λx a=>⟨by have:=a.1;omega,a.2⟩);obtain⟨iX,bV,iS,bv,iv⟩:=Qc5 ap;obtain⟨ip,io,im,ii,g9⟩:=Qc5 fJ;obtain⟨gt,bi,gn,be,gj⟩:=Qc5 fK;by_cases h0:c.Af.length=0
 .have hh:¬0<(c.Af.length:Int):=by omega
  clear h0;go_wp2;go_ret;exact lE
 have hh:0<(c.Af.length:Int):=by omega
 go_wp2;have mj:j.Af.length=j.base.length:=hM.PN;have s8:=Zd mj;have rA:1<=j.Af.length/\j.Af.length<=3:=by have:=hM.Fp;omega
 clear mj;obtain⟨g,eg⟩:∃g,r2=some ⟨g,0,none⟩:=by
  rcases Q.Af.2 with⟨e,h2⟩|⟨g,cap,cur,e,_⟩
  .omega
  cases e;exact⟨g,rfl⟩
 subst eg;obtain⟨R,o4,ea,UQ,x0,x1⟩:=U.Af.at_ (i:=0) (by omega);subst ea;obtain⟨sm,am⟩:∃sm,sm=BV c.Af 0:=⟨_,rfl⟩;rw[<-am]at x0 x1;rw[Nat.zero_mul,Nat.add_zero]at x0 x1;clear am;obtain⟨low,z⟩:=sm;dsimp only at x0 x1;obtain⟨K,Ig⟩:∃K:Nat->Prop,K=λx=>x=b\/y.heap.size<=x:=⟨_,rfl⟩;have fh:K b:=by rw[Ig];exact .inl rfl
 have LP:∀x,y.heap.size<=x->K x:=λx a=>by rw[Ig];exact .inr a
 have qF:∀x,x<y.heap.size->x≠b->¬K x:=λx h1 h2=>by rw[Ig];exact λe=>e.elim h2 (by omega)
 clear Ig;have mi:=hS R UQ;have z0:=λp:Tw K y=>p.cell bi (qF _ (by show o<_;omega) (by show o≠b;omega));have z1:=λp:Tw K y=>p.cell bV (qF _ (by show w.heap.size<_;omega) (by show w.heap.size≠b;omega));have z2:=λp:Tw K y=>p.cell x0 (qF _ (by show R<_;omega) (by show R≠b;omega));have z3:=λp:Tw K y=>p.cell x1 (qF _ (by show R<_;omega) (by show R≠b;omega));have Qu:IntKind.i64.wrap ((j.Af.length:Int) - 1)=(j.Af.length:Int) - 1:=by rw[zE];omega
 refine B0 (S:=λW=>∃p:Tw K y,W=p.v) [13] [(false,5),(false,6),(false,7),(false,12),(false,13)] [0,1,2,3,4,8,9,10,11] (by kernel_rfl) (λ_ _ d _ _ h=>by cases d<;>exact h) (by kernel_rfl) (A5 (Ak.later (Zh _ _).drew)) ?_;refine A4 _ _ (by kernel_rfl) ?_;simp only[Z6,zd,ZG,ZD,ZC]
 repeat (first|go_big_quiet_step (fail)|quiet_step (fail))
 refine Z4 ?_;clear z0 z1 z2 z3;change Dl _ _ _ _ _ _ _;have Uh:YH y.heap.size y y.drew:=(Zh _ _).drew;have ct:Ak K y y.drew:=Ak.later Uh;refine Dw (v:=.int .i64 j.Af.length) rfl rfl (by go_simp) (.inr (A5 ct)) ?_;refine Dw (v:=.int .i64 ((j.Af.length:Int) - 1)) rfl rfl (by go_simp) (.inr (A5 ct)) ?_;refine Dd (f:=28) (args:= #[.pointer (some ⟨b,0,none⟩),.int .i64 ((j.Af.length:Int) - 1)]) rfl rfl (by go_simp) ((c29 ((i9.Cn S5 (λx a=>⟨by have:=(E8 x a).1;omega,(E8 x a).2⟩)).later Uh) (λx a=>⟨by have:=(E8 x a).1;simp;omega,(E8 x a).2⟩) (du.later Uh) (by omega) (by omega)).mono ?_);rintro e B ⟨C,d5,rfl,pa,O,ai,pd⟩;have V:B3 b y B:=by
  exact⟨O.os,O.tape,O.output,O.size,λk hk F=>O.block k hk F⟩
 have A:Ak K y B:=V.CN fh;refine⟨_,rfl,.inr (A5 A),?_⟩;have lm:C<j.Af.length:=by omega
 have lJ:=V.size;have J:=Q.CN (V.CN (K:=λx=>x=b) rfl) (λx a e=>by omega);have an:=V.at_ fK (by omega);have li:=V.at_ fJ (by omega);have kw:=V.at_ ap (by omega);have kv:=fd.Ar (V.same λx a=>by have:=a.1;omega);have ka:=U.Ar (V.same λx a=>(hS x a).2);have D:B3 b w B:=Y.trans V;obtain⟨cur,q,P⟩:∃cur,B.heap[g]?=some (.cells cur 67 (0,0))/\∀k,k<2->∃v,cur[C*2+k]?=some v:=by
  rcases J.Af.2 with⟨e,_⟩|⟨g',cap,cur,e,g3,g4,g5,g6,g7,_⟩
  .cases e
  cases e;exact⟨cur,g4,λk hk=>⟨_,Zx (by rw[g7];omega)⟩⟩
 obtain⟨w0,b9⟩:=P 0 (by decide);obtain⟨w1,lX⟩:=P 1 (by decide);have q0:=ch q b9;have q1:=ch q lX;have b8:=cf (i:=C*2+0) q;have i8:=cf (i:=C*2+1) q;rw[Nat.add_zero]at q0 b8;obtain⟨H,G⟩:∃H,H=(B.setCell ⟨g,C*2,none⟩ (.int .i64 low)).setCell ⟨g,C*2+1,none⟩ (.int .i64 z):=⟨_,rfl⟩;have pp:(C:Int)<(j.Af.length:Int):=by omega
 have pm:(0:Int)<=(C:Int):=by omega
 refine Dw (v:=.pointer (some ⟨g,C*2,none⟩)) rfl rfl (by go_simp) (.inr (A5 A)) ?_;refine K8 (w':=H) rfl rfl (by rw[G];go_simp) (.inl rfl) ?_;have l:Ak (λx=>x=g) B H:=by rw[G];exact(Ak.refl (λx=>x=g) B).DT.DT
 have pc:=(J3 J.Af g rfl).1;have rr:=J.l2 g rfl;have ci:∀x,x<X2.heap.size->¬x=g:=λx a e=>by omega
 have jn:¬o=g:=λe=>by subst e;rw[an]at q;cases q
 have N:=Ih.set J.Af lm (low,z);dsimp only at N;rw[<-G]at N;have X:H.heap.size=B.heap.size:=by rw[G];simp
 have ed:B3 b w H:=by
  exact⟨l.os.trans D.os,l.tape.trans D.tape,l.output.trans D.output,Zr D.size l.size,λk hk F=>(l.block k (by have:=D.size;omega) (by omega)).trans (D.block k hk F)⟩
 have dl:BK H b lv d5:=by
  obtain⟨st,B_⟩:=ai;exact⟨st,(l.block b (by omega) (by omega)).trans B_⟩
 have U3:∀ {v:Zf} {e:Zs} {k n:Nat} {xs:List Zf} {base:Nat},B.ownsRow base e k v n xs->e≠67->H.ownsRow base e k v n xs:=λh he=>abn h l q he;have lL:=J.row.CN l (λx a e=>by have:=a.1;omega) (λx a e=>by have:=(J.row.own x a).1;omega);have rq:=J.le;have g1:=ka.Ar (l.same λx a=>show¬x=g by have:=hS x a;omega);have g2:=(kv.Ar (l.same λx a=>show¬x=g by have:=a.2;omega)).imp (T:=Cb w.heap.size H) λx a=>⟨by have:=a.1;omega,by have:=a.2;omega⟩;have g3:RC (Cb w.heap.size H) H (.slice r1 j.base.length f1) (.slice (some ⟨g,0,none⟩) j.Af.length f2) (.slice r3 j.hooks.length f3) (.slice r4 j.Aa.length f4) (.slice r5 j.now.length f5) {j with Af:=j.Af.set C (low,z)}:=
  ⟨Sl.imp (Own.si (U3 J.base (by decide))) (λx a=>⟨by have:=a.1;omega,a.2⟩) (λ_ _ x=>x),Sl.imp (Ih.tt N (.inr (.inr rfl))) (λx a=>⟨by have:=a.1;omega,a.lt⟩) (λ_ _ x=>x),Sl.imp (Own.si (U3 J.hooks (by decide))) (λx a=>⟨by have:=a.1;omega,a.2⟩) (λ_ _ x=>x),(lL.ss (Zj _)).imp (λx a=>⟨by have:=a.1;omega,a.2⟩) (λ_ _ ⟨v2,v3,e,h2,h3⟩=>⟨v2,v3,e,Sl.imp h2 (λx a=>⟨by have:=a.1;omega,a.2⟩) λ_ _ x=>x,Sl.imp h3 (λx a=>⟨by have:=a.1;omega,a.2⟩) λ_ _ x=>x⟩),Sl.imp (Own.si (U3 J.now (by decide))) (λx a=>⟨by have:=a.1;omega,a.2⟩) (λ_ _ x=>x)⟩
 have I:=ac7 (d:=d) ed dl (by omega) hM (co:= {j with Af:=j.Af.set C (low,z)}) ⟨t.base,by rw[ZcC];exact t.Af,t.hooks,t.Aa,t.now,t.part⟩ g1 g2 g3;rw[X]at I;have fI:=(l.block o (by omega) jn).trans an;have fy:=(l.block m (by omega) (ci m (by omega))).trans li;have fw:=(l.block w.heap.size (by omega) (ci _ (by omega))).trans kw;obtain⟨iX,bV,iS,bv,iv⟩:=Qc5 fw;obtain⟨ip,io,im,ii,g9⟩:=Qc5 fy;obtain⟨gt,bi,gn,be,gj⟩:=Qc5 fI;have lF:=Zd I;have lG:=Zd X;clear G I g1 g2 g3 U3 N lL l fI fy fw q0 q1 b8 i8 b9 lX X dl ed;unfold Dl
 go_simp
 go_wp2;rw[lG.out];go_ret;exact lF.out
def agi {i:Nat}{l:List A_}{x:A_}(h:Sl S (ahR S) 5 w (.slice (some ⟨q,0,none⟩) n i) l)(b:l[k]?=some x):
  S q/\∃v1 v2 v3 v4 v5,w.cell? ⟨q,k*5,none⟩=some v1/\w.cell? ⟨q,k*5+1,none⟩=some v2/\w.cell? ⟨q,k*5+2,none⟩=some v3/\w.cell? ⟨q,k*5+3,none⟩=some v4/\w.cell? ⟨q,k*5+4,none⟩=some v5/\RC S w v1 v2 v3 v4 v5 x:=by
 obtain⟨r,o,e,_,_,f⟩:=h;cases e;obtain⟨p,j,cs,g,c,m,a,v1,v2,v3,v4,v5,rfl,d⟩:=f k x b;cases g;rw[zN]at a;exact⟨c,v1,v2,v3,v4,v5,by simpa using a 0 v1 rfl,a 1 v2 rfl,a 2 v3 rfl,a 3 v4 rfl,a 4 v5 rfl,d⟩
def ads (c:A_)(l:List Int):A_:=if Eg c l=0 then FH c l (DS c l) else⟨[],[],[],[],[]⟩
def acv {R:Zb->List Zf->α->Prop}:Sl S R k w (.slice none 0 0) ([]:List α):=⟨none,0,rfl,Zj _,Zp _,λi x a=>by cases a⟩
def agj (S:Nat->Prop)(d:A_)(k:Int)(w:Zb)(e:Ending)(w':Zb):Prop:=∃(g f c b a:Option Addr) (k1 j i h k5:Nat),e=.returned (.tuple #[.agg #[.slice g d.base.length k1,.slice f d.Af.length j,.slice c d.hooks.length i,.slice b d.Aa.length h,.slice a d.now.length k5],.int .i64 k])/\YH w.heap.size w w'/\RC (λy=>S y\/Cb w.heap.size w' y) w' (.slice g d.base.length k1) (.slice f d.Af.length j) (.slice c d.hooks.length i) (.slice b d.Aa.length h) (.slice a d.now.length k5) d
def agk {u3:Zf}(n:YH w.heap.size w w')(o:Eg c l=0->RC (λy=>S y\/Cb w.heap.size w' y) w' u1 u2 u3 u4 u5 (FH c l (DS c l)))(m:Eg c l≠0->u1=.slice none 0 0/\u2=.slice none 0 0/\u3=.slice none 0 0/\u4=.slice none 0 0/\u5=.slice none 0 0):agj S (ads c l) (Eg c l) w (.returned (.tuple #[.agg #[u1,u2,u3,u4,u5],.int .i64 (Eg c l)])) w':=by
 have h:RC (λy=>S y\/Cb w.heap.size w' y) w' u1 u2 u3 u4 u5 (ads c l):=by
  unfold ads;by_cases e:Eg c l=0
  .rw[if_pos e]
   exact o e
  rw[if_neg e];obtain⟨rfl,rfl,rfl,rfl,rfl⟩:=m e;exact⟨acv,acv,acv,acv,acv⟩
 obtain⟨g,k1,f,k,d,j,b,i,a,k5,rfl,rfl,rfl,rfl,rfl,_⟩:=h.vs;exact⟨g,f,d,b,a,k1,k,j,i,k5,rfl,n,h⟩
def amR (h:RC S w v1 v2 v3 v4 v5 c)(hl:SI S w v6 l)(g:∀b,S b->b<w.heap.size)(a:∀i,i<c.Aa.length->(Aj c.Aa i).over.length<=1000):Calls Lp 16 #[.agg #[v1,v2,v3,v4,v5],v6] w (agj S (ads c l) (Eg c l) w):=by
 refine(amj h hl g a).mono ?_;rintro e w' ⟨u1,u2,u3,u4,u5,rfl,j,k,f⟩;exact agk j (λe=>(k e).imp λy d=>.inr d) f
def amS (h:RC S w v1 v2 v3 v4 v5 c)(hl:SI S w v6 l)(d:∀b,S b->b<w.heap.size):Calls Lp 17 #[.agg #[v1,v2,v3,v4,v5],v6] w (agj S (ads c l) (Eg c l) w):=by
 refine(c60 h hl d).mono ?_;rintro e w' ⟨u1,u2,u3,u4,u5,rfl,f,g,a⟩;exact agk f g a
def amT {v7:Zf}{st:List Int}(h:RC (λx=>x<w.heap.size) w v1 v2 v3 v4 v5 c)(hs:SI (λx=>x<w.heap.size) w v6 st)(hn:SI (λx=>x<w.heap.size) w v7 nums)(hG:Jr w):Calls Lp 3 #[.agg #[v1,v2,v3,v4,v5],v6,v7] w (Two w (.bool true)):=by
 obtain⟨a1,c1,a2,c2,a3,c3,a4,c4,a5,c5,rfl,rfl,rfl,rfl,rfl,l1,m1,l2,m2,l3,m3,l4,m4,l5,m5⟩:=h.vs;obtain⟨a6,c6,rfl,l6,m6⟩:=hs.val;obtain⟨la,lc,rfl,_⟩:=hn.val;have IX:=DJ;obtain⟨X,hX⟩:∃X,X=w.alloc (.cells #[.slice a1 c.base.length c1,.slice a2 c.Af.length c2,.slice a3 c.hooks.length c3,.slice a4 c.Aa.length c4,.slice a5 c.now.length c5] 26):=⟨_,rfl⟩;have Ov:YH w.heap.size w X:=by rw[hX];exact bA (Zh _ _)
 have DP:X.heap.size=w.heap.size+1:=by rw[hX,ZB]
 have rA:X.heap[w.heap.size]?=some (.cells #[.slice a1 c.base.length c1,.slice a2 c.Af.length c2,.slice a3 c.hooks.length c3,.slice a4 c.Aa.length c4,.slice a5 c.now.length c5] 26 (0,0)):=by rw[hX];exact Bp _ _
 have vE:=Zd (c25 (h.later Ov) (λx (r:x<w.heap.size)=>by omega));go_enter Lp.func9,aa1;go_wp2;rw[<-hX];clear hX;refine vE.out.mono ?_;rintro e W1 ⟨lF,rfl,oX,Bg⟩;have fw:=bU Ov Bg;have kG:=hG.later fw;have DR:=Bg.size;have l_:=(Bg.block _ (by omega)).trans rA;by_cases lE:lF=true\/20<st.length
 .cases lF with
  |true=>
   go_wp2_with (go_at_call 5;refine(c26 _ kG).mono ?_;rintro e V ⟨Ui,rfl|⟨x,rfl,Ss⟩⟩)
   .go_ret
    exact⟨bU fw Ui,.inl rfl⟩
   .exact⟨rfl,bU fw Ui,.inr ⟨_,rfl,Ss⟩⟩
  |false=>
   have At:20<(st.length:Int):=by
    rcases lE with e|e
    .cases e
    omega
   go_wp2_with (go_at_call 5;refine(c26 _ kG).mono ?_;rintro e V ⟨Ui,rfl|⟨x,rfl,Ss⟩⟩)
   .go_ret
    exact⟨bU fw Ui,.inl rfl⟩
   exact⟨rfl,bU fw Ui,.inr ⟨_,rfl,Ss⟩⟩
 have rr:lF=false:=by cases lF;rfl;exact absurd (.inl rfl) lE
 have At:¬20<(st.length:Int):=λe=>lE (.inr (by omega));have Qh:=oX rr;subst rr;clear lE oX vE rA;obtain⟨k0,k1,k2,k3,k4⟩:=Qc5 l_;obtain⟨W2,MX⟩:∃W2,W2=W1.alloc (.cells #[.slice la nums.length lc,.int .i64 0,.int .u64 1] 62):=⟨_,rfl⟩;have Bb:YH W1.heap.size W1 W2:=by rw[MX];exact bA (Zh _ _)
 have EB:W2.heap.size=W1.heap.size+1:=by rw[MX,ZB]
 have rV:BK W2 W1.heap.size (.slice la nums.length lc) 0:=⟨1,by rw[MX];exact Bp _ _⟩;obtain⟨b,hb⟩:∃b,b=W1.heap.size:=⟨_,rfl⟩;rw[<-hb]at rV;have EC:W1.heap.size<=b/\b<=W1.heap.size:=by omega
 go_wp2;refine(c27 _ ⟨_,_,_,rfl⟩ _).mono ?_;rintro e ym ⟨rfl,hw⟩;rw[<-MX]at hw;have hw:=hw.symm;subst hw;rw[<-hb];clear hb MX;have G:=bU fw Bb;have vC:=Zd (c28 (h.later G) (λx (r:x<w.heap.size)=>⟨by have:=G.size;omega,by omega⟩) (hn.later G) (λx (r:x<w.heap.size)=>⟨by have:=G.size;omega,by omega⟩) rV (by decide) Qh);have rC:=(Bb.block _ (by omega)).trans l_;clear k0 k1 k2 k3 k4;obtain⟨k0,k1,k2,k3,k4⟩:=Qc5 rC;go_wp2;refine vC.out.mono ?_;rintro e W3 ⟨C,fJ,q,d3,rfl,H4,ry,Fd,hM,rg,JA,n7⟩;have Rb:=H4.size;have BL:∀x,(x<w.heap.size\/Cb W2.heap.size W3 x)->x<W3.heap.size/\x≠b:=λx r=>by
  rcases r with r|r
  .have:=G.size;exact⟨by omega,by omega⟩
  have:=r.1;have:=r.2;exact⟨by omega,by omega⟩
 obtain⟨xi,p1,p2,p3,p4,p5,x0,x1,x2,x3,x4,mz⟩:=agi (k:=1) n7 rfl;rw[Nat.one_mul]at x0 x1 x2 x3 x4;obtain⟨BY,ws,BE,wn,A9,wd,AT,vG,AS,vF,rfl,rfl,rfl,rfl,rfl,_⟩:=mz.vs;have fy:=hM.small;have vB:=Zd (c30 mz BL ((hn.later G).Cn H4 (λx (r:x<w.heap.size)=>⟨by have:=G.size;omega,by omega⟩)) (λx (r:x<w.heap.size)=>⟨by have:=G.size;omega,by omega⟩) ry (by have:=fy.Aa;omega) (by have:=fy.Aa;omega) λi hi=>by have:=(hM.valid.step i hi);omega);clear k0 k1 k2 k3 k4;go_wp2;refine vB.out.mono ?_;rintro e W4 ⟨v8,own,d4,rfl,S5,yu,EQ,nm,rj,_⟩;obtain⟨oa,oc,rfl,_⟩:=nm.val;have uR:=Zd rj;have pa:own.length<=20:=by have:=fy.Aa;omega
 clear rj;have EI:=S5.size;obtain⟨Z,hZ⟩:∃Z,Z=W4.alloc (.cells #[.slice a6 st.length c6,.slice oa own.length oc,.slice oa own.length oc,.slice a6 st.length c6] 22):=⟨_,rfl⟩;have ol:YH W4.heap.size W4 Z:=by rw[hZ];exact bA (Zh _ _)
 have ck:Z.heap[W4.heap.size]?=some (.cells #[.slice a6 st.length c6,.slice oa own.length oc,.slice oa own.length oc,.slice a6 st.length c6] 22 (0,0)):=by rw[hZ];exact Bp _ _
 obtain⟨qs,mp⟩:∃qs,qs=W4.heap.size:=⟨_,rfl⟩;rw[<-mp]at ck;have GB:W4.heap.size<=qs/\qs<=W4.heap.size:=by omega
 go_wp2;rw[<-hZ, <-mp];clear hZ mp;have DO:=ol.size;have iS:B3 b W3 Z:=S5.below ol;have no:Sl (λx=>x<Z.heap.size) (ahR λx=>x<Z.heap.size) 5 Z (.slice (some ⟨q,0,none⟩) 4 4) [c,C,fJ,C]:=by
  have rU:∀x,(x<w.heap.size\/Cb W2.heap.size W3 x)->x<Z.heap.size:=λx r=>by have:=(BL x r).1;omega
  refine Sl.imp (Sl.Ar n7 (iS.same λx r=>(BL x r).2) (R:=ahR λx=>x<w.heap.size\/Cb W2.heap.size W3 x) ?_) rU ?_
  .rintro cs x ⟨y1,y2,y3,y4,y5,rfl,hR⟩
   exact⟨y1,y2,y3,y4,y5,rfl,hR.Ar (iS.same λx r=>(BL x r).2)⟩
  rintro cs x ⟨y1,y2,y3,y4,y5,rfl,hR⟩;exact⟨y1,y2,y3,y4,y5,rfl,hR.imp rU⟩
 have B_:SI (λx=>x<Z.heap.size) Z (.slice a6 st.length c6) st:=Sl.imp ((hs.later G).Ar (((H4.trans iS)).same λx (r:x<w.heap.size)=>by have:=G.size;omega)) (λx (r:x<w.heap.size)=>by have:=G.size;show x<Z.heap.size;omega) λ_ _ x=>x;have AX:SI (λx=>x<Z.heap.size) Z (.slice oa own.length oc) own:=Sl.imp (nm.later ol) (λx r=>by have:=r.2;show x<Z.heap.size;omega) λ_ _ x=>x;have pc:st.length<=20:=by omega
 have mx:SL (λx=>x<Z.heap.size) Z (.slice (some ⟨qs,0,none⟩) 4 4) [st,own,own,st]:=by
  refine⟨_,_,rfl,Zj _,by decide,λi x r=>?_⟩;have i8:qs<Z.heap.size:=(Za.1 ck).1
  match i,r with
  |0,r=>cases r;exact⟨qs,0,[.slice a6 st.length c6],rfl,i8,rfl,(λj u E=>by match j,E with|0,E=>cases E;exact ch ck rfl),_,rfl,B_⟩
  |1,r=>cases r;exact⟨qs,0,[.slice oa own.length oc],rfl,i8,rfl,(λj u E=>by match j,E with|0,E=>cases E;exact ch ck rfl),_,rfl,AX⟩
  |2,r=>cases r;exact⟨qs,0,[.slice oa own.length oc],rfl,i8,rfl,(λj u E=>by match j,E with|0,E=>cases E;exact ch ck rfl),_,rfl,AX⟩
  |3,r=>cases r;exact⟨qs,0,[.slice a6 st.length c6],rfl,i8,rfl,(λj u E=>by match j,E with|0,E=>cases E;exact ch ck rfl),_,rfl,B_⟩
 have tn:YH w.heap.size w Z:=B3.aj4 G (H4.trans iS) (by omega);have z7:Jr Z:=hG.later tn;obtain⟨cl,dL⟩:∃cl,cl=[c,C,fJ,C]:=⟨_,rfl⟩;obtain⟨fI,Xc⟩:∃fI,fI=[st,own,own,st]:=⟨_,rfl⟩;have ut:∀k,k<4->∃x,cl[k]?=some x/\ac3 x:=by
  intro k hk;rw[dL];obtain rfl|rfl|rfl|rfl:k=0\/k=1\/k=2\/k=3:=by omega
  .exact⟨_,rfl,Qh⟩
  .exact⟨_,rfl,fy⟩
  .exact⟨_,rfl,rg⟩
  exact⟨_,rfl,fy⟩
 have us:∀k,k<4->(BM fI k).length<=20:=by
  intro k hk;rw[Xc];obtain rfl|rfl|rfl|rfl:k=0\/k=1\/k=2\/k=3:=by omega
  .exact pc
  .exact pa
  .exact pa
  exact pc
 have td:fI.length=4:=by rw[Xc];rfl
 rw[<-dL]at no;rw[<-Xc]at mx;have yg:=Zd td;have DB:=Zd no;have B9:=Zd mx;have CA:=Zd ut;have Do:=Zd us;clear dL Xc no mx td ut us B_ AX pc pa ck uR nm S5 yu vB vC mz x0 x1 x2 x3 x4 n7 ry H4 iS fy hM rg Qh l_ rC rV BL xi h hs hn;go_loopg [11] 4 (λgg i wr=>∃k:Nat,k<=4/\gg=4 - k/\i=.int .i64 k/\YH Z.heap.size Z wr)
 case atStart=>exact⟨0,by decide,rfl,rfl,Zh _ _⟩
 obtain⟨k,hk,rfl,rfl,dl⟩:=hrel;by_cases Az:k<4
 .obtain⟨x,r,bv⟩:=CA.out k Az
  have yq:=Do.out k Az;obtain⟨_,p1,p2,p3,p4,p5,x0,x1,x2,x3,x4,my⟩:=agi DB.out r;obtain⟨an,e1,am,e2,ai,e3,U,e4,Q,e5,rfl,rfl,rfl,rfl,rfl,_⟩:=my.vs;obtain⟨bs,os,u,B8,_,lH,E⟩:=SL.at_ (l:=fI) (a:=some ⟨qs,0,none⟩) (c:=4) (by rw[yg.out];exact B9.out) (i:=k) (by rw[yg.out];exact Az);cases B8;rw[zN]at lH;obtain⟨l,hl⟩:∃l,l=BM fI k:=⟨_,rfl⟩;rw[<-hl]at E yq;clear hl;obtain⟨ua,uc,rfl,_⟩:=E.val;obtain⟨V,hV⟩:∃V,V=wr:=⟨_,rfl⟩;subst hV;have D0:=dl.size;have rU:∀y,y<Z.heap.size->y<V.heap.size:=λy g=>by omega
  have s:∀ {p:Addr} {v:Zf},Z.cell? p=some v->V.cell? p=some v:=λh=>(dl.cell (ZH _ _ h)).trans h;have ne:RC (λy=>y<V.heap.size) V (.slice an x.base.length e1) (.slice am x.Af.length e2) (.slice ai x.hooks.length e3) (.slice U x.Aa.length e4) (.slice Q x.now.length e5) x:=(my.later dl).imp rU;have ml:SI (λy=>y<V.heap.size) V (.slice ua l.length uc) l:=Sl.imp (E.later dl) rU λ_ _ x=>x;replace x0:=s x0;replace x1:=s x1;replace x2:=s x2;replace x3:=s x3;replace x4:=s x4;replace lH:=s lH;clear s rU my E;have pt:=Zd (λW (m:YH V.heap.size V W)=>aoQ (ne.later m) (λy (g:y<V.heap.size)=>by have:=m.size;omega) (by have:=bv.base;omega) (by have:=bv.Af;omega) (by have:=bv.hooks;omega) (by have:=bv.Aa;omega) (by have:=bv.now;omega) λi hi=>⟨by have:=(bv.part i hi).1;omega,by have:=(bv.part i hi).2;omega⟩);have lL:=Zd (λW (m:YH V.heap.size V W)=>WO (ml.later m) (by omega));have lI:=Zd ne;have lG:=Zd ml;have TB:(k:Int)<4:=by omega
  have Id:(0:Int)<=(k:Int):=by omega
  have z0:=λp=>Al p x0;have z1:=λp=>Al p x1;have z2:=λp=>Al p x2;have z3:=λp=>Al p x3;have z4:=λp=>Al p x4;have z5:=λp=>Al p lH;clear ne ml;go_wp2
  rename Act->Zb->Prop=>KK
  have AN:∀(B:Zb) (o:Nat) (P O N M L ta:Option Addr) (n1 n2 n3 n4 n5 bi:Nat),YH V.heap.size V B->B.heap[o]?=some (.cells #[.slice P x.base.length n1,.slice O x.Af.length n2,.slice N x.hooks.length n3,.slice M x.Aa.length n4,.slice L x.now.length n5] 26 (0,0))->RC (λy=>y<B.heap.size) B (.slice P x.base.length n1) (.slice O x.Af.length n2) (.slice N x.hooks.length n3) (.slice M x.Aa.length n4) (.slice L x.now.length n5) x->SI (λy=>y<B.heap.size) B (.slice ta l.length bi) l->KK {tmps:= #[Value.agg #[Zy a1 c.base.length c1,Zy a2 c.Af.length c2,Zy a3 c.hooks.length c3,Zy a4 c.Aa.length c4,Zy a5 c.now.length c5],Zy a6 st.length c6,Zy la nums.length lc,ZbT (some ⟨w.heap.size,0,none⟩),Ze,Ze,u6,ZbT (some ⟨b,0,none⟩),Zy (some ⟨q,0,none⟩) 4 4,Zy oa own.length oc,Zy (some ⟨qs,0,none⟩) 4 4,ZL .i64 (k:Int),ZbT (some ⟨o,0,none⟩),Zy ta l.length bi,u14,u15,u16,u17,u18,u19,u20,u21,u22,u23,Value.agg #[Zy a1 c.base.length c1,Zy a2 c.Af.length c2,Zy a3 c.hooks.length c3,Zy a4 c.Aa.length c4,Zy a5 c.now.length c5],Value.bool false,Value.bool false,Zy a6 st.length c6,ZL .i64 (st.length:Int),Value.bool (decide (20<(st.length:Int))),Value.bool (decide (20<(st.length:Int))),Ze,Zy la nums.length lc,ZbT (some ⟨b,0,none⟩),Value.agg #[Zy a1 c.base.length c1,Zy a2 c.Af.length c2,Zy a3 c.hooks.length c3,Zy a4 c.Aa.length c4,Zy a5 c.now.length c5],ZbT (some ⟨b,0,none⟩),Zy (some ⟨q,0,none⟩) 4 4,ZbT (some ⟨b,0,none⟩),Zy (some ⟨q,0,none⟩) 4 4,ZbT (some ⟨q,5,none⟩),Value.agg #[Zy BY C.base.length ws,Zy BE C.Af.length wn,Zy A9 C.hooks.length wd,Zy AT C.Aa.length vG,Zy AS C.now.length vF],Zy oa own.length oc,Zy a6 st.length c6,Zy oa own.length oc,Zy oa own.length oc,Zy a6 st.length c6,Zy (some ⟨qs,0,none⟩) 4 4,ZL .i64 (k:Int),Zy (some ⟨q,0,none⟩) 4 4,ZL .i64 4,Value.bool true,u51,u52,Zy (some ⟨q,0,none⟩) 4 4,ZL .i64 (k:Int),ZbT (some ⟨q,k*5,none⟩),Value.agg #[Zy an x.base.length e1,Zy am x.Af.length e2,Zy ai x.hooks.length e3,Zy U x.Aa.length e4,Zy Q x.now.length e5],Value.agg #[Zy P x.base.length n1,Zy O x.Af.length n2,Zy N x.hooks.length n3,Zy M x.Aa.length n4,Zy L x.now.length n5],Zy (some ⟨qs,0,none⟩) 4 4,ZL .i64 (k:Int),ZbT (some ⟨qs,k,none⟩),Zy ua l.length uc,Zy ta l.length bi,u63,u64,u65,u66,u67,u68,u69,u70,u71,u72,u73,u74,u75,u76,u77,u78,u79,u80,u81,u82,u83,u84,u85,u86,u87,u88,u89,u90,u91,u92,u93,u94,u95,u96,u97,u98,u99,u100,u101,u102,u103,u104,u105,u106,u107,u108,u109,u110,u111,u112,u113,u114,u115,u116,u117,u118,u119,u120,u121,u122,u123,u124,u125,u126,u127,u128,u129,u130,u131,u132,u133,u134,u135,u136,u137,u138,u139,u140,u141,u142,u143,u144,u145,u146,u147,u148,u149,u150,u151,u152,u153,u154,u155,u156,u157,u158,u159,u160,u161,u162,u163,Ze],defers:=[]} B:=by
   intro B o P O N M L ta n1 n2 n3 n4 n5 bi be Ia ed du;clear z0 z1 z2 z3 z4 z5 pt lL;have HI:=be.size;have WS:=(Za.1 Ia).1;have i7:∀W,YH B.heap.size B W->∀y,y<B.heap.size->y<W.heap.size:=λW m y g=>Zl g m.size;have i6:∀W,YH V.heap.size V W->∀y,y<V.heap.size->y<W.heap.size:=λW m y g=>Zl g m.size;have pp:=Zd (λW (m:YH B.heap.size B W)=>c51 (ed.later m) (du.later m) (i7 W m));have pm:=Zd (λW (m:YH V.heap.size V W)=>c57 (lI.out.later m) (lG.out.later m) (i6 W m));have lK:=Zd (λW (m:YH B.heap.size B W)=>c54 (ed.later m) (du.later m) (i7 W m) λh=>⟨_,adr h⟩);have pi:=Zd (λW (m:YH V.heap.size V W)=>c58 (lI.out.later m) (lG.out.later m) (i6 W m));have pd:=Zd (λW (m:YH B.heap.size B W)=>amR (ed.later m) (du.later m) (i7 W m) λi hi=>by have:=(bv.part i hi).2;omega);have lJ:=Zd (λW (m:YH V.heap.size V W)=>amS (lI.out.later m) (lG.out.later m) (i6 W m));rw[aeH]at lK;obtain⟨ea,rm⟩:∃ea,ea=Eg x l:=⟨_,rfl⟩;obtain⟨sv,re⟩:∃sv,sv=ac4 x l:=⟨_,rfl⟩;obtain⟨ov,mA⟩:∃ov,ov=adw x l:=⟨_,rfl⟩;obtain⟨d,hd⟩:∃d,d=ads x l:=⟨_,rfl⟩;rw[<-rm]at pp pm lK pi pd lJ;rw[<-re]at pp pm;rw[<-mA]at lK pi;rw[<-hd]at pd lJ;clear rm re mA hd i7 i6;have C7:=Zd ed;have DA:=Zd du;obtain⟨g0,g1,g2,g3,g4⟩:=Qc5 Ia;clear ed du;go_wp2;refine(pp.out _ (Zh _ _)).mono ?_;rintro e Y3 ⟨va,rfl,vd,ha⟩;obtain⟨aa,ac,rfl,_⟩:=ha.val;have tb:=bU be vd;have vz:=Zd ha;clear g0 g1 g2 g3 g4 ha;have t:∀ {p:Addr} {v:Zf},V.cell? p=some v->Y3.cell? p=some v:=λh=>(tb.cell (ZH _ _ h)).trans h;obtain⟨z0,z1,z2,z3,z4⟩:=Qy5 t x0 x1 x2 x3 x4;have z5:=λp=>Al p (t lH);go_wp2;refine aby (S:=λW=>∃p,W=calm Y3 p) 14 [] (.one 8 (.free 9 (.free 10 (.free 11 (.one 12 (.one 13 .leaf)))))) [0,1,2,3,4,5,6,7] (by kernel_rfl) (λ_ _ d _ _ h=>by cases d<;>exact h) (by kernel_rfl) (AL (Zh _ _).drew) ?_;refine A4 _ _ (by kernel_rfl) ?_;simp only[Z6,zd,ZG,ZD,ZC]
   repeat (first|go_big_quiet_step (fail)|quiet_step (fail))
   refine Z4 ?_;clear z0 z1 z2 z3 z4 z5 t;change abq _ _ _ _ _ _ _ _;have o9:YH Y3.heap.size Y3 Y3.drew:=(Zh _ _).drew;refine abI (f:=12) (args:= #[.agg #[.slice an x.base.length e1,.slice am x.Af.length e2,.slice ai x.hooks.length e3,.slice U x.Aa.length e4,.slice Q x.now.length e5],.slice ua l.length uc]) rfl rfl (by go_simp) ((pm.out _ (bU tb o9)).mono ?_);rintro e Y4 ⟨vb,rfl,s8,UQ⟩;obtain⟨ba,bc,rfl,_⟩:=UQ.val;have lC:YH Y3.heap.size Y3 Y4:=bU o9 s8;have ct:∃p,Y4=calm Y3 p:=AL lC;refine .inl ⟨_,rfl,.inr ct,?_⟩;refine abo (v:=.tuple #[.slice ba sv.length bc,.int .i64 ea]) ct rfl rfl (λw _=>by go_simp) ?_;refine abo (v:=.slice ba sv.length bc) ct rfl rfl (λw _=>by go_simp) ?_;refine abo (v:=.int .i64 ea) ct rfl rfl (λw _=>by go_simp) ?_;refine abN (v:=.slice ba sv.length bc) (w':=Y4) rfl rfl (by go_simp) (.inr ct) ?_;refine abN (v:=.int .i64 ea) (w':=Y4) rfl rfl (by go_simp) (.inr ct) ?_;unfold abq
   go_simp
   have iX:=bU vd lC;have HG:=bU be iX;have Ks:=(iX.block _ WS).trans Ia;have vx:=Zd UQ;have vy:=Zd (vz.out.later lC);clear UQ ct o9 s8 vz;obtain⟨g0,g1,g2,g3,g4⟩:=Qc5 Ks;go_wp2;refine(lK.out _ iX).mono ?_;rintro e Y5 ⟨If,rfl,sr,hm⟩;obtain⟨ma,mc,rfl,_⟩:=hm.val;have AI:=bU iX sr;have H:=bU be AI;have vw:=Zd hm;clear g0 g1 g2 g3 g4 hm;have t:∀ {p:Addr} {v:Zf},V.cell? p=some v->Y5.cell? p=some v:=λh=>(H.cell (ZH _ _ h)).trans h;obtain⟨z0,z1,z2,z3,z4⟩:=Qy5 t x0 x1 x2 x3 x4;have z5:=λp=>Al p (t lH);go_wp2;refine aby (S:=λW=>∃p,W=calm Y5 p) 14 [] (.one 8 (.free 9 (.free 10 (.free 11 (.one 12 (.one 13 .leaf)))))) [0,1,2,3,4,5,6,7] (by kernel_rfl) (λ_ _ d _ _ h=>by cases d<;>exact h) (by kernel_rfl) (AL (Zh _ _).drew) ?_;refine A4 _ _ (by kernel_rfl) ?_;simp only[Z6,zd,ZG,ZD,ZC]
   repeat (first|go_big_quiet_step (fail)|quiet_step (fail))
   refine Z4 ?_;clear z0 z1 z2 z3 z4 z5 t;change abq _ _ _ _ _ _ _ _;have o8:YH Y5.heap.size Y5 Y5.drew:=(Zh _ _).drew;refine abI (f:=14) (args:= #[.agg #[.slice an x.base.length e1,.slice am x.Af.length e2,.slice ai x.hooks.length e3,.slice U x.Aa.length e4,.slice Q x.now.length e5],.slice ua l.length uc]) rfl rfl (by go_simp) ((pi.out _ (bU H o8)).mono ?_);rintro e Y6 ⟨vn,rfl,sq,mt⟩;obtain⟨na,nc,rfl,_⟩:=mt.val;have lm:YH Y5.heap.size Y5 Y6:=bU o8 sq;have rX:∃p,Y6=calm Y5 p:=AL lm;refine .inl ⟨_,rfl,.inr rX,?_⟩;refine abo (v:=.tuple #[.slice na ov.length nc,.int .i64 ea]) rX rfl rfl (λw _=>by go_simp) ?_;refine abo (v:=.slice na ov.length nc) rX rfl rfl (λw _=>by go_simp) ?_;refine abo (v:=.int .i64 ea) rX rfl rfl (λw _=>by go_simp) ?_;refine abN (v:=.slice na ov.length nc) (w':=Y6) rfl rfl (by go_simp) (.inr rX) ?_;refine abN (v:=.int .i64 ea) (w':=Y6) rfl rfl (by go_simp) (.inr rX) ?_;unfold abq
   go_simp
   have iv:=bU sr lm;have li:=bU iX iv;have GA:SI (λy=>y<Y6.heap.size) Y6 (.slice aa sv.length ac) sv:=Sl.imp (vy.out.later iv) (T:=λy=>y<Y6.heap.size) (λy g=>by have h1:=g.2;have:=iv.size;have:=lC.size;show y<Y6.heap.size;omega) λ_ _ x=>x;have Fr:SI (λy=>y<Y6.heap.size) Y6 (.slice ba sv.length bc) sv:=Sl.imp (vx.out.later iv) (T:=λy=>y<Y6.heap.size) (λy g=>by have h1:=g.2;have:=iv.size;show y<Y6.heap.size;omega) λ_ _ x=>x;have Fm:SI (λy=>y<Y6.heap.size) Y6 (.slice ma ov.length mc) ov:=Sl.imp (vw.out.later lm) (T:=λy=>y<Y6.heap.size) (λy g=>by have h1:=g.2;have:=lm.size;show y<Y6.heap.size;omega) λ_ _ x=>x;have Fk:SI (λy=>y<Y6.heap.size) Y6 (.slice na ov.length nc) ov:=Sl.imp mt (T:=λy=>y<Y6.heap.size) (λy g=>g.2) λ_ _ x=>x;have mh:∀W,YH Y6.heap.size Y6 W->∀y,y<Y6.heap.size->y<W.heap.size:=λW m y g=>Zl g m.size;have cL:=Zd (λW (m:YH Y6.heap.size Y6 W) (v u:Zf) (a:List Int) (hv:SI (λy=>y<Y6.heap.size) Y6 v a) (E:SI (λy=>y<Y6.heap.size) Y6 u a)=>show Calls Lp 15 #[v,u] W λe w'=>e=.returned (.bool true)/\YH W.heap.size W w' from by
    have:=c46 (hv.later m) (E.later m) (mh W m) (mh W m);rwa[Vu]at this)
   have kw:=Zh Y6.heap.size Y6;have F:=(li.block _ WS).trans Ia;clear mt rX o8 sq vw vy vx Ks mh;go_wp2_with (first|(go_at_call 15;refine(cL.out _ (by assumption) _ _ _ (by assumption) (by assumption)).mono ?_;rintro e Y7 ⟨rfl,so⟩;have kw:=bU kw so;have F:=(so.block _ (Za.1 F).1).trans F;obtain⟨g0,g1,g2,g3,g4⟩:=Qc5 F)|(go_at_call 16;refine(pd.out _ (bU li kw)).mono ?_;rintro e Y9 ⟨q1,q2,q3,q4,q5,o1,o2,o3,o4,o5,rfl,ow,rx⟩));have F:=(ow.block _ (Za.1 F).1).trans F;obtain⟨YA,i9⟩:∃YA,YA=Y9.alloc (.cells #[.slice q1 d.base.length o1,.slice q2 d.Af.length o2,.slice q3 d.hooks.length o3,.slice q4 d.Aa.length o4,.slice q5 d.now.length o5] 26):=⟨_,rfl⟩;have kv:YH Y9.heap.size Y9 YA:=by rw[i9];exact bA (Zh _ _)
   have mv:YA.heap[Y9.heap.size]?=some (.cells #[.slice q1 d.base.length o1,.slice q2 d.Af.length o2,.slice q3 d.hooks.length o3,.slice q4 d.Aa.length o4,.slice q5 d.now.length o5] 26 (0,0)):=by rw[i9];exact Bp _ _
   rw[<-i9];clear i9;have F:=(kv.block _ (Za.1 F).1).trans F;have se:=bU kw ow;have Hi:=se.size;have C3:=Zd ((rx.later kv).imp (T:=λy=>y<YA.heap.size) λy g=>by
    have h1:=kv.size;have h2:=li.size;have h3:=ow.size;rcases g with g|g
    .have g:y<B.heap.size:=g
     show y<_;omega
    have:=g.2;show y<_;omega)
   have rE:=bU li (bU se kv);have n:=bU be rE;obtain⟨vi,rq⟩:∃vi,vi=Y9.heap.size:=⟨_,rfl⟩;rw[<-rq]at mv⊢;clear rq rx g0 g1 g2 g3 g4;have t:∀ {p:Addr} {v:Zf},V.cell? p=some v->YA.cell? p=some v:=λh=>(n.cell (ZH _ _ h)).trans h;obtain⟨z0,z1,z2,z3,z4⟩:=Qy5 t x0 x1 x2 x3 x4;have z5:=λp=>Al p (t lH);refine aby (S:=λW=>∃p,W=calm YA p) 15 [] (.fork 8 (.free 9 (.free 10 (.free 11 (.one 12 (.one 13 (.one 14 .leaf)))))) 12 (.one 8 (.free 9 (.free 10 (.free 11 (.one 13 (.one 14 .leaf))))))) [0,1,2,3,4,5,6,7] (by kernel_rfl) (λ_ _ d _ _ h=>by cases d<;>exact h) (by kernel_rfl) (AL (Zh _ _).drew) ?_;refine A4 _ _ (by kernel_rfl) ?_;simp only[Z6,zd,ZG,ZD,ZC]
   repeat (first|go_big_quiet_step (fail)|quiet_step (fail))
   refine Z4 ?_;clear z0 z1 z2 z3 z4 z5 t;change abq _ _ _ _ _ _ _ _;have Uh:YH YA.heap.size YA YA.drew:=(Zh _ _).drew;refine adt ?hP ?hQ
   case' hP=>
    refine abI (f:=17) (args:= #[.agg #[.slice an x.base.length e1,.slice am x.Af.length e2,.slice ai x.hooks.length e3,.slice U x.Aa.length e4,.slice Q x.now.length e5],.slice ua l.length uc]) rfl rfl (by go_simp) ((lJ.out _ (bU n Uh)).mono ?_);rintro e YB ⟨p1,p2,p3,p4,p5,s1,s2,s3,s4,s5,rfl,AC,im⟩;have fd:=bU Uh AC;have I:∃p,YB=calm YA p:=AL fd;refine .inl ⟨_,rfl,.inr I,?_⟩;refine abo (v:=.tuple #[.agg #[.slice p1 d.base.length s1,.slice p2 d.Af.length s2,.slice p3 d.hooks.length s3,.slice p4 d.Aa.length s4,.slice p5 d.now.length s5],.int .i64 ea]) I rfl rfl (λw _=>by go_simp) ?_;refine abo (v:=.agg #[.slice p1 d.base.length s1,.slice p2 d.Af.length s2,.slice p3 d.hooks.length s3,.slice p4 d.Aa.length s4,.slice p5 d.now.length s5]) I rfl rfl (λw _=>by go_simp) ?_;refine abo (v:=.int .i64 ea) I rfl rfl (λw _=>by go_simp) ?_;obtain⟨YC,gt⟩:∃YC,YC=YB.alloc (.cells #[.slice none 0 0,.slice none 0 0,.slice none 0 0,.slice none 0 0,.slice none 0 0] 26):=⟨_,rfl⟩;have fu:YH YB.heap.size YB YC:=by rw[gt];exact bA (Zh _ _)
    have J:YC.heap[YB.heap.size]?=some (.cells #[.slice none 0 0,.slice none 0 0,.slice none 0 0,.slice none 0 0,.slice none 0 0] 26 (0,0)):=by rw[gt];exact Bp _ _
    have ka:=bU fd fu;refine abN (v:=.pointer (some ⟨YB.heap.size,0,none⟩)) (w':=YC) rfl rfl (by rw[gt];go_simp) (.inr (AL ka)) ?_;have mj:YC.heap.size=YB.heap.size+1:=by rw[gt,ZB]
    have ci:YA.heap.size<=YB.heap.size:=fd.size;have yr:=n.size;have ip:=(im.later fu).imp (T:=λy=>y<YC.heap.size/\y≠YB.heap.size) λy g=>by
     rcases g with g|g
     .have g:y<V.heap.size:=g
      omega
     have:=g.2;omega
    clear gt mj I im;obtain⟨z,gj⟩:∃z,z=YB.heap.size:=⟨_,rfl⟩;rw[<-gj]at J ci ip⊢;clear gj
   case' hQ=>
    obtain⟨YB,g9⟩:∃YB,YB=YA.drew.alloc (.cells #[.slice none 0 0,.slice none 0 0,.slice none 0 0,.slice none 0 0,.slice none 0 0] 26):=⟨_,rfl⟩;have fd:YH YA.heap.size YA YB:=by rw[g9];exact bA Uh
    have J:YB.heap[YA.heap.size]?=some (.cells #[.slice none 0 0,.slice none 0 0,.slice none 0 0,.slice none 0 0,.slice none 0 0] 26 (0,0)):=by rw[g9];exact Bp YA.drew _
    refine abN (v:=.pointer (some ⟨YA.heap.size,0,none⟩)) (w':=YB) rfl rfl (by rw[g9];go_simp) (.inr (AL fd)) ?_;have mj:YB.heap.size=YA.heap.size+1:=by rw[g9,ZB];rfl
    refine abI (f:=17) (args:= #[.agg #[.slice an x.base.length e1,.slice am x.Af.length e2,.slice ai x.hooks.length e3,.slice U x.Aa.length e4,.slice Q x.now.length e5],.slice ua l.length uc]) rfl rfl (by go_simp) ((lJ.out _ (bU n fd)).mono ?_);rintro e YC ⟨p1,p2,p3,p4,p5,s1,s2,s3,s4,s5,rfl,fu,im⟩;have ka:=bU fd fu;have I:∃p,YC=calm YA p:=AL ka;refine .inl ⟨_,rfl,.inr I,?_⟩;refine abo (v:=.tuple #[.agg #[.slice p1 d.base.length s1,.slice p2 d.Af.length s2,.slice p3 d.hooks.length s3,.slice p4 d.Aa.length s4,.slice p5 d.now.length s5],.int .i64 ea]) I rfl rfl (λw _=>by go_simp) ?_;refine abo (v:=.agg #[.slice p1 d.base.length s1,.slice p2 d.Af.length s2,.slice p3 d.hooks.length s3,.slice p4 d.Aa.length s4,.slice p5 d.now.length s5]) I rfl rfl (λw _=>by go_simp) ?_;refine abo (v:=.int .i64 ea) I rfl rfl (λw _=>by go_simp) ?_;have J:=(fu.block _ (Za.1 J).1).trans J;have yr:=n.size;have Ev:=fu.size;have ip:=im.imp (T:=λy=>y<YC.heap.size/\y≠YA.heap.size) λy g=>by
     rcases g with g|g
     .have g:y<V.heap.size:=g
      omega
     have:=g.1;have:=g.2;omega
    clear g9 mj I im;obtain⟨z,gj⟩:∃z,z=YA.heap.size:=⟨_,rfl⟩;have ci:YA.heap.size<=z:=by omega
    rw[<-gj]at J ip⊢;clear gj
   all_goals
    obtain⟨g0,g1,g2,g3,g4⟩:=Qc5 J;obtain⟨f0,f1,f2,f3,f4⟩:=Qf5 J;obtain⟨YD,gn⟩:∃YD,YD=(((((YC.setCell ⟨z,0,none⟩ (.slice p1 d.base.length s1)).setCell ⟨z,1,none⟩ (.slice p2 d.Af.length s2)).setCell ⟨z,2,none⟩ (.slice p3 d.hooks.length s3)).setCell ⟨z,3,none⟩ (.slice p4 d.Aa.length s4)).setCell ⟨z,4,none⟩ (.slice p5 d.now.length s5)):=⟨_,rfl⟩;have mw:Ak (λy=>y=z) YC YD:=by rw[gn];exact(Ak.refl (λy=>y=z) YC).DT.DT.DT.DT.DT
    have b9:YH YA.heap.size YA YD:=by rw[gn];exact bS (bS (bS (bS (bS ka ci) ci) ci) ci) ci
    have B7:YD.heap[z]?=some (.cells #[.slice p1 d.base.length s1,.slice p2 d.Af.length s2,.slice p3 d.hooks.length s3,.slice p4 d.Aa.length s4,.slice p5 d.now.length s5] 26 (0,0)):=by rw[gn];exact Ba (Ba (Ba (Ba (Ba J _) _) _) _) _
    refine adI (w':=YD) rfl rfl (by rw[gn];go_simp) (.inr (AL b9)) ?_;refine abN (v:=.int .i64 ea) (w':=YD) rfl rfl (by go_simp) (.inr (AL b9)) ?_;clear gn g0 g1 g2 g3 g4 f0 f1 f2 f3 f4;unfold abq
    go_simp
    have jt:=bU rE b9;have fm:=bU n b9;have B4:=(b9.block _ (Za.1 F).1).trans F;have B2:=(b9.block _ (Za.1 mv).1).trans mv;have ww:=mw.size;have GT:RC (λy=>y<YD.heap.size) YD (.slice p1 d.base.length s1) (.slice p2 d.Af.length s2) (.slice p3 d.hooks.length s3) (.slice p4 d.Aa.length s4) (.slice p5 d.now.length s5) d:=(ip.Ar (mw.same λy g=>show¬y=z from g.2)).imp λy g=>by have:=g.1;show y<YD.heap.size;omega
    have GS:RC (λy=>y<YD.heap.size) YD (.slice q1 d.base.length o1) (.slice q2 d.Af.length o2) (.slice q3 d.hooks.length o3) (.slice q4 d.Aa.length o4) (.slice q5 d.now.length o5) d:=(C3.out.later b9).imp λy g=>Zl g b9.size;have GP:RC (λy=>y<YD.heap.size) YD (.slice P x.base.length n1) (.slice O x.Af.length n2) (.slice N x.hooks.length n3) (.slice M x.Aa.length n4) (.slice L x.now.length n5) x:=(C7.out.later jt).imp λy g=>Zl g jt.size;have GO:RC (λy=>y<YD.heap.size) YD (.slice an x.base.length e1) (.slice am x.Af.length e2) (.slice ai x.hooks.length e3) (.slice U x.Aa.length e4) (.slice Q x.now.length e5) x:=(lI.out.later fm).imp λy g=>Zl g fm.size;have GE:SI (λy=>y<YD.heap.size) YD (.slice ta l.length bi) l:=Sl.imp (DA.out.later jt) (λy g=>Zl g jt.size) λ_ _ x=>x;have GC:SI (λy=>y<YD.heap.size) YD (.slice ua l.length uc) l:=Sl.imp (lG.out.later fm) (λy g=>Zl g fm.size) λ_ _ x=>x;have fK:∀W,YH YD.heap.size YD W->∀y,y<YD.heap.size->y<W.heap.size:=λW m y g=>Zl g m.size;have vA:=Zd (λW (m:YH YD.heap.size YD W) (v1 v2 v3 v4 v5 u1 u2 u3 u4 u5:Zf) (c:A_) (hv:RC (λy=>y<YD.heap.size) YD v1 v2 v3 v4 v5 c) (E:RC (λy=>y<YD.heap.size) YD u1 u2 u3 u4 u5 c)=>c36 (hv.later m) (E.later m) (fK W m) (fK W m));have cL:=Zd (λW (m:YH YD.heap.size YD W) (v u:Zf) (a:List Int) (hv:SI (λy=>y<YD.heap.size) YD v a) (E:SI (λy=>y<YD.heap.size) YD u a)=>show Calls Lp 15 #[v,u] W λe w'=>e=.returned (.bool true)/\YH W.heap.size W w' from by
     have:=c46 (hv.later m) (E.later m) (fK W m) (fK W m);rwa[Vu]at this)
    have t:∀ {p:Addr} {v:Zf},V.cell? p=some v->YD.cell? p=some v:=λh=>(fm.cell (ZH _ _ h)).trans h;obtain⟨z0,z1,z2,z3,z4⟩:=Qy5 t x0 x1 x2 x3 x4;have z5:=λp=>Al p (t lH);obtain⟨s0,s1,s2,s3,s4⟩:=Qz5 B4;obtain⟨t0,t1,t2,t3,t4⟩:=Qz5 B2;obtain⟨r0,r1,r2,r3,r4⟩:=Qz5 B7;clear ip mw J t fK;go_wp2;refine Av (by kernel_rfl) (by kernel_rfl) ?_
    repeat (first|go_big_quiet_step ((first|(go_at_call 18;exact AV (vA.out _ (AE _ _) _ _ _ _ _ _ _ _ _ _ _ (by assumption) (by assumption)))|(go_at_call 15;exact AV (cL.out _ (AE _ _) _ _ _ (by assumption) (by assumption)))))|quiet_step ((first|(go_at_call 18;exact AV (vA.out _ (AE _ _) _ _ _ _ _ _ _ _ _ _ _ (by assumption) (by assumption)))|(go_at_call 15;exact AV (cL.out _ (AE _ _) _ _ _ (by assumption) (by assumption))))))
    refine Z4 ?_;rintro _ ⟨p,rfl⟩;have yw:=AE YD p;obtain⟨YE,ru⟩:∃YE,YE=calm YD p:=⟨_,rfl⟩;rw[<-ru]at yw⊢;clear ru z0 z1 z2 z3 z4 z5 s0 s1 s2 s3 s4 t0 t1 t2 t3 t4 r0 r1 r2 r3 r4;have An:=bU dl (bU fm yw);go_wp2;go_roundg (4 - (k+1))
    case rel=>exact⟨k+1,Az,rfl,by go_num,An⟩
    omega
  refine aby (S:=λW=>∃p,W=calm V p) 13 [] (.fork 4 (.fork 9 (.one 10 (.one 11 (.one 12 .leaf))) 10 (.one 9 (.one 11 (.one 12 .leaf)))) 10 (.one 4 (.one 9 (.one 11 (.one 12 .leaf))))) [0,1,2,3,5,6,7,8] (by kernel_rfl) (λ_ _ d _ _ h=>by cases d<;>exact h) (by kernel_rfl) (AL (Zh _ _).drew) ?_;refine A4 _ _ (by kernel_rfl) ?_;simp only[Z6,zd,ZG,ZD,ZC]
  repeat (first|go_big_quiet_step (fail)|quiet_step (fail))
  refine Z4 ?_;clear z0 z1 z2 z3 z4 z5;change abq _ _ _ _ _ _ _ _;have Uh:YH V.heap.size V V.drew:=(Zh _ _).drew;refine adt ?hA ?hB
  case' hA=>
   refine abI (f:=9) (args:= #[.agg #[.slice an x.base.length e1,.slice am x.Af.length e2,.slice ai x.hooks.length e3,.slice U x.Aa.length e4,.slice Q x.now.length e5]]) rfl rfl (by go_simp) ((pt.out _ Uh).mono ?_);rintro e W5 ⟨y1,y2,y3,y4,y5,rfl,Cj,ii⟩;have H:YH V.heap.size V W5:=bU Uh Cj;have fi:=ii.rc;obtain⟨P,n1,O,n2,N,n3,M,n4,L,n5,rfl,rfl,rfl,rfl,rfl,_⟩:=fi.vs;clear ii;refine .inl ⟨_,rfl,.inr (AL H),?_⟩;refine adt ?oT ?aT
  case' oT=>
   refine abI (f:=10) (args:= #[.slice ua l.length uc]) rfl rfl (by go_simp) ((lL.out _ H).mono ?_);rintro e K ⟨v,rfl,DM,io⟩;have ap:YH V.heap.size V K:=bU H DM;have D:=io.si;obtain⟨ta,bi,rfl,_⟩:=D.val;refine .inl ⟨_,rfl,.inr (AL ap),?_⟩;obtain⟨A,hA⟩:∃A,A=K.alloc (.cells #[.slice none 0 0,.slice none 0 0,.slice none 0 0,.slice none 0 0,.slice none 0 0] 26):=⟨_,rfl⟩;have b8:YH K.heap.size K A:=by rw[hA];exact bA (Zh _ _)
   have yp:A.heap[K.heap.size]?=some (.cells #[.slice none 0 0,.slice none 0 0,.slice none 0 0,.slice none 0 0,.slice none 0 0] 26 (0,0)):=by rw[hA];exact Bp _ _
   have n:YH V.heap.size V A:=bU ap b8;have H_:V.heap.size<=K.heap.size:=(ap).size;refine abN (v:=.pointer (some ⟨K.heap.size,0,none⟩)) (w':=A) rfl rfl (by rw[hA];go_simp) (.inr (AL n)) ?_;have pu:A.heap.size=K.heap.size+1:=by rw[hA,ZB]
   obtain⟨o,bV⟩:∃o,o=K.heap.size:=⟨_,rfl⟩;have un:o<=K.heap.size/\K.heap.size<=o:=by omega
   rw[<-bV]at yp H_⊢;clear bV hA;have t9:=DM.size;have jn:=((fi.later DM).later b8).imp (T:=λy=>y<A.heap.size/\y≠o) λy g=>by have:=g.2;omega
   have D:=Sl.imp (D.later b8) (T:=λy=>y<A.heap.size/\y≠o) (λy g=>by have:=g.2;omega) λ_ _ x=>x;have jp:=n;obtain⟨Y,hY⟩:∃Y,Y=A:=⟨_,rfl⟩;subst hY
  case' aT=>
   obtain⟨A,hA⟩:∃A,A=W5.alloc (.cells #[.slice none 0 0,.slice none 0 0,.slice none 0 0,.slice none 0 0,.slice none 0 0] 26):=⟨_,rfl⟩;have b8:YH W5.heap.size W5 A:=by rw[hA];exact bA (Zh _ _)
   have yp:A.heap[W5.heap.size]?=some (.cells #[.slice none 0 0,.slice none 0 0,.slice none 0 0,.slice none 0 0,.slice none 0 0] 26 (0,0)):=by rw[hA];exact Bp _ _
   have n:YH V.heap.size V A:=bU H b8;have H_:V.heap.size<=W5.heap.size:=(H).size;refine abN (v:=.pointer (some ⟨W5.heap.size,0,none⟩)) (w':=A) rfl rfl (by rw[hA];go_simp) (.inr (AL n)) ?_;have pu:A.heap.size=W5.heap.size+1:=by rw[hA,ZB]
   obtain⟨o,bV⟩:∃o,o=W5.heap.size:=⟨_,rfl⟩;have un:o<=W5.heap.size/\W5.heap.size<=o:=by omega
   rw[<-bV]at yp H_⊢;clear bV hA;refine abI (f:=10) (args:= #[.slice ua l.length uc]) rfl rfl (by go_simp) ((lL.out _ n).mono ?_);rintro e K ⟨v,rfl,DM,io⟩;have ap:YH V.heap.size V K:=bU n DM;have D:=io.si;obtain⟨ta,bi,rfl,_⟩:=D.val;refine .inl ⟨_,rfl,.inr (AL ap),?_⟩;have t9:=DM.size;have jn:=((fi.later b8).later DM).imp (T:=λy=>y<K.heap.size/\y≠o) λy g=>by have:=g.2;omega
   have D:=Sl.imp D (T:=λy=>y<K.heap.size/\y≠o) (λy g=>by have:=g.1;have:=g.2;omega) λ_ _ x=>x;have yp:=(DM.block _ (Za.1 yp).1).trans yp;have jp:=ap;obtain⟨Y,hY⟩:∃Y,Y=K:=⟨_,rfl⟩;subst hY
  case' hB=>
   obtain⟨A,hA⟩:∃A,A=V.drew.alloc (.cells #[.slice none 0 0,.slice none 0 0,.slice none 0 0,.slice none 0 0,.slice none 0 0] 26):=⟨_,rfl⟩;have b8:YH V.drew.heap.size V.drew A:=by rw[hA];exact bA (Zh _ _)
   have yp:A.heap[V.drew.heap.size]?=some (.cells #[.slice none 0 0,.slice none 0 0,.slice none 0 0,.slice none 0 0,.slice none 0 0] 26 (0,0)):=by rw[hA];exact Bp _ _
   have n:YH V.heap.size V A:=bU Uh b8;have H_:V.heap.size<=V.drew.heap.size:=(Uh).size;refine abN (v:=.pointer (some ⟨V.drew.heap.size,0,none⟩)) (w':=A) rfl rfl (by rw[hA];go_simp) (.inr (AL n)) ?_;have pu:A.heap.size=V.drew.heap.size+1:=by rw[hA,ZB]
   obtain⟨o,bV⟩:∃o,o=V.drew.heap.size:=⟨_,rfl⟩;have un:o<=V.drew.heap.size/\V.drew.heap.size<=o:=by omega
   rw[<-bV]at yp H_⊢;clear bV hA;refine abI (f:=9) (args:= #[.agg #[.slice an x.base.length e1,.slice am x.Af.length e2,.slice ai x.hooks.length e3,.slice U x.Aa.length e4,.slice Q x.now.length e5]]) rfl rfl (by go_simp) ((pt.out _ n).mono ?_);rintro e W5 ⟨y1,y2,y3,y4,y5,rfl,Cj,ii⟩;have H:YH V.heap.size V W5:=bU n Cj;have fi:=ii.rc;obtain⟨P,n1,O,n2,N,n3,M,n4,L,n5,rfl,rfl,rfl,rfl,rfl,_⟩:=fi.vs;clear ii;refine .inl ⟨_,rfl,.inr (AL H),?_⟩;refine abI (f:=10) (args:= #[.slice ua l.length uc]) rfl rfl (by go_simp) ((lL.out _ H).mono ?_);rintro e K ⟨v,rfl,DM,io⟩;have ap:YH V.heap.size V K:=bU H DM;have D:=io.si;obtain⟨ta,bi,rfl,_⟩:=D.val;refine .inl ⟨_,rfl,.inr (AL ap),?_⟩;have t9:=DM.size;have p9:=Cj.size;have jn:=(fi.later DM).imp (T:=λy=>y<K.heap.size/\y≠o) λy g=>by have:=g.1;have:=g.2;omega
   have D:=Sl.imp D (T:=λy=>y<K.heap.size/\y≠o) (λy g=>by have:=g.1;have:=g.2;omega) λ_ _ x=>x;have yp:=(DM.block _ (by have:=(Za.1 yp).1;have:=Cj.size;omega)).trans ((Cj.block _ (Za.1 yp).1).trans yp);have jp:=ap;obtain⟨Y,hY⟩:∃Y,Y=K:=⟨_,rfl⟩;subst hY
  all_goals
   obtain⟨g0,g1,g2,g3,g4⟩:=Qc5 yp;obtain⟨f0,f1,f2,f3,f4⟩:=Qf5 yp;obtain⟨B,rD⟩:∃B,B=(((((Y.setCell ⟨o,0,none⟩ (.slice P x.base.length n1)).setCell ⟨o,1,none⟩ (.slice O x.Af.length n2)).setCell ⟨o,2,none⟩ (.slice N x.hooks.length n3)).setCell ⟨o,3,none⟩ (.slice M x.Aa.length n4)).setCell ⟨o,4,none⟩ (.slice L x.now.length n5)):=⟨_,rfl⟩;have D3:Ak (λy=>y=o) Y B:=by rw[rD];exact(Ak.refl (λy=>y=o) Y).DT.DT.DT.DT.DT
   have be:YH V.heap.size V B:=by rw[rD];exact bS (bS (bS (bS (bS jp H_) H_) H_) H_) H_
   have Ia:B.heap[o]?=some (.cells #[.slice P x.base.length n1,.slice O x.Af.length n2,.slice N x.hooks.length n3,.slice M x.Aa.length n4,.slice L x.now.length n5] 26 (0,0)):=by rw[rD];exact Ba (Ba (Ba (Ba (Ba yp _) _) _) _) _
   refine adI (w':=B) rfl rfl (by rw[rD];go_simp) (.inr (AL be)) ?_;refine abN (v:=.slice ta l.length bi) (w':=B) rfl rfl (by go_simp) (.inr (AL be)) ?_;clear rD g0 g1 g2 g3 g4 f0 f1 f2 f3 f4;unfold abq
   go_simp
   have ww:=D3.size;have ed:=(jn.Ar (D3.same λy g=>show¬y=o from g.2)).imp (T:=λy=>y<B.heap.size) λy g=>by have:=g.1;show y<B.heap.size;omega
   have du:=Sl.imp (Sl.Ar D (D3.same λy g=>show¬y=o from g.2) λ_ _ x=>x) (T:=λy=>y<B.heap.size) (λy g=>by have:=g.1;show y<B.heap.size;omega) λ_ _ x=>x;clear jn D yp jp D3;exact AN _ _ _ _ _ _ _ _ _ _ _ _ _ _ be Ia ed du
 have Lc:=bU tn dl;have yx:=z7.later dl;go_wp2_with (go_at_call 5;refine(c26 _ yx).mono ?_;rintro e V ⟨Ui,rfl|⟨x,rfl,Ss⟩⟩)
 .go_ret
  exact⟨bU Lc Ui,.inl rfl⟩
 exact⟨rfl,bU Lc Ui,.inr ⟨_,rfl,Ss⟩⟩
end Go.Proofs.Fit
namespace Go.Proofs.YtpglimkffholhaaGreatDoor
open Go Go.Conc Go.RowKit Go.Proofs.Fit
set_option maxRecDepth 100000
def ahh:(Rows.seamSewnsRow.inPlace==Tryz.prog.inPlace 3)=true:=by kernel_rfl
def adV:(Rows.seamSewnsRow.unfollowed==Tryz.prog.unfollowed 3)=true:=by kernel_rfl
def afo:(Rows.seamSewnsRow.recurses==Tryz.prog.recurses 3)=true:=by kernel_rfl
def ajz:(Rows.seamSewnsRow.named==Tryz.prog.varsNamed 3)=true:=by kernel_rfl
def ajA:joinedFacts Zc 3 Tryz.f3 Rows.seamSewnsSpec Rows.seamSewnsRow=true:=
 kQ (by kernel_rfl) (by kernel_rfl) (by kernel_rfl) (by kernel_rfl) (by kernel_rfl) ahh adV afo ajz (by kernel_rfl) (by kernel_rfl) (by kernel_rfl) (by kernel_rfl) (by kernel_rfl) (by kernel_rfl) (by kernel_rfl) (by kernel_rfl) (by kernel_rfl) rfl rfl rfl rfl rfl rfl (by kernel_rfl) (by kernel_rfl) (by kernel_rfl)
def aie (os:Os)(a:os.Started)(H:Type)(enc:Zs×Zf->H):ReturnsInLeavingWide {} Tryz.checked os 3 .any (λw args=>(Rows.seamSewnsSpec.pre enc Zc Tryz.f3 [] false w args/\laidMetH Zc PT w)/\sizedMet enc Zc Tryz.f3 (ZbV Rows.seamSewnsSpec) false w args)
   (Rows.seamSewnsSpec.post enc Zc Tryz.f3 false true false false):=
 eO (s:=Rows.seamSewnsSpec) a rfl rfl Tryz.func3 rfl rfl (by kernel_rfl) (by kernel_rfl) rfl (by kernel_rfl) (λf h=>by
    match f,h with
    | [_,_,_],_=>rfl)
   (ChangeSpec.witness_shaped (enc:=enc) (C:=Tryz.checked) (os:=os) (X:=λw _=>laidMetH Zc PT w) false (Vg os) #[.agg #[.slice none 0 0,.slice none 0 0,.slice none 0 0,.slice none 0 0,.slice none 0 0],.slice none 0 0,.slice none 0 0] 8 rfl (World.shaped_of_RefB (by kernel_rfl) (by kernel_rfl)) (by kernel_rfl) (by kernel_rfl) (by kernel_rfl) (Ub os _))
   (λW base args f t b j _ d=>ahA rfl b j d λw q p o n m l k c r e h g i d=>amT h g i d)
def anZ:Rows.SeamSewnsSaid:=
 OpenClaim.holds_of_wide_leaving 3 Tryz.f3 rfl rfl rfl rfl rfl rfl rfl ⟨rfl,rfl,rfl,rfl,rfl⟩ rfl rfl rfl rfl rfl (by kernel_rfl) Tryz.func3 ajA
  (of_decide_eq_true (by kernel_rfl)) (by unfold Func.isWrapper;rw[if_neg (by decide+kernel)];exact⟨rfl,rfl⟩) (λc a H b _=>aie c a H b)
def akN:true=Rows.seamSewnsRow.goesBy Tryz.pinned.checked.prog:=by kernel_rfl
theorem sewns_holds:Rows.SeamSewnsCardSaid:=
 kM [.handle] (true,"3262dc1865d98ad69709e021908b237b76b0c20fc1f75e7a4463cc4b64a3c535") anZ (by kernel_rfl) (OpenClaim.laidByTextAt_later rfl rfl qd abD) rfl ⟨rfl,rfl⟩ uI
  (λf fn c d=>by
   obtain rfl:f=3:=ZW ((show Tryz.prog.funcNamed "galloon/galloonlaw02.SeamSewns" =some 3 by kernel_rfl).symm.trans c)|>.symm;obtain rfl:fn=Tryz.f3:=(ZW (Tryz.func3.symm.trans d)).symm;exact⟨abE,λj t a=>by
    have b:t∈ [26,22,22]:=by simpa using zY a
    have e:([26,22,22].all λu=> !Tryz.prog.wantsStandIn u)=true:=by kernel_rfl
    exact(show Tryz.prog.wantsStandIn t=false by simpa using Zdm.1 e t b)⟩)
  akN
#print axioms sewns_holds
end Go.Proofs.YtpglimkffholhaaGreatDoor
