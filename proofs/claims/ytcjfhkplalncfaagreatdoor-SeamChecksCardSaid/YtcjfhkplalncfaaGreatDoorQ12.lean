/- A card of the tailor's counter -/
import Derived.Test.YtcjfhkplalncfaaGreatDoorQ08
import Derived.Test.YtcjfhkplalncfaaGreatDoorQ11
import Derived.Lib.MinMax
set_option maxRecDepth 100000
set_option maxHeartbeats 6400000
noncomputable section
set_option linter.all false
open And renaming intro->ZY
open Array renaming getElem?_eq_some_iff->Za,toList_setIfInBounds->ZcM,replicate->Yu,getElem?_eq_getElem->Zx,mem_of_getElem?->zY
open Bool renaming and_eq_true->ZF
open Go renaming Value->Zf,World->Zb,callFunc->Zz,TypeId->Zs,Program->Zo,FuncId->ZaQ,Operand->Zbv,below_drewN->Y5,wpQuiet_nil->Z4,YieldsIf->ZbF,wpOp_mono->Zcc,wp_region_any->Zd5,execOp->Zby,undef->Ze,info_parts->zp,wpList_append_own->Yc,bodyPost_ret->ZN,wp_append_own->Zak,ownsRow_succ->Zay
open Go.Act renaming put->Zck
open Go.Calls renaming quiet_of_same->Zb5
open Go.Code renaming region->zU
open Go.DataW renaming TrodAll->Za9
open Go.Instr renaming makeSlice->Zdp
open Go.IntKind renaming wrap_i64->zE
open Go.Lib renaming hid->Zd
open Go.Obj renaming cells->Zbi
open Go.OpenSpec renaming ofChange->ZbV
open Go.Oper renaming semAt_some->Zdk,wp->ZbA,upon_value->Zdi,upon_enter->Zdj,upon_skip->ZcQ
open Go.Proofs.Tryz renaming prog->Zc,underlying22->YE,underlying23->Zdg
open Go.Region renaming Mode->YO,ready->zs,free->Za3,noSelect->YF,wanted->Yf
open Go.RowKit renaming Below->YH
open Go.RowKit.Below renaming refl->Zh
open Go.Value renaming okWide->Zbk,int->ZL,slice->Zy,pointer->ZbT
open Go.World renaming block_lt_of_cell?->ZH,size_alloc->ZB,ownsRow_made->YC,ownsRow_nil->zq
open List renaming getElem?_eq_getElem->zf,mem_of_getElem?->Z3,mem_singleton->Yh,ext_getElem?->YA,getElem?_eq_none->ZP,range->Yr,getD_eq_getElem?_getD->Y6,pairwise_iff_getElem->ZdK,getElem_of_mem->Zas,all_eq_true->Zdm,getElem?_set_self->Ys,getElem?_set_ne->ZS,length_set->ZcC,drop_eq_getElem_cons->ZO,drop_eq_nil_iff->Z7,nil_append->zP,eq_nil_of_length_eq_zero->YM,length_cons->zb,filterMap_cons->Z6,filterMap_nil->zd,getElem?_toArray->ZG,getElem?_cons_succ->ZD,getElem?_cons_zero->ZC,take_add_one->ZbH,take_length->ZcU
open Nat renaming le_refl->Zj,zero_le->Zp,not_lt_zero->ZbY,zero_add->zN,le_of_eq->ZcS,le_trans->Zr,lt_of_lt_of_le->Zl
open Option renaming bind_eq_some_iff->ZX
open Option.some renaming inj->ZW
open True renaming intro->Yz
namespace Go.Proofs.Fit
open Go
@[simp] def Lp.func6:Lp.funcs[3]?=some Tryz.f3:=(AP.same 3 rfl rfl).trans Tryz.func3
@[simp] def Lp.func25:Lp.funcs[4]?=some Tryz.f4:=(AP.same 4 rfl rfl).trans Tryz.func4
@[simp] def Lp.call25 (args:Array Zf)(w:Zb):(Zz 4 args).run Lp w=.ok (.enter 4 args) w:=Ao Lp 4 Lp.func25 rfl rfl args w
@[simp] def Lp.call27 (args:Array Zf)(w:Zb):(Zz 6 args).run Lp w=.ok (.enter 6 args) w:=Ao Lp 6 Lp.func27 rfl rfl args w
@[simp] def Lp.func28:Lp.funcs[7]?=some Tryz.f7:=(AP.same 7 rfl rfl).trans Tryz.func7
@[simp] def Lp.call28 (args:Array Zf)(w:Zb):(Zz 7 args).run Lp w=.ok (.enter 7 args) w:=Ao Lp 7 Lp.func28 rfl rfl args w
@[simp] def Lp.func36:Lp.funcs[16]?=some Tryz.f16:=(AP.same 16 rfl rfl).trans Tryz.func16
@[simp] def Lp.call36 (args:Array Zf)(w:Zb):(Zz 16 args).run Lp w=.ok (.enter 16 args) w:=Ao Lp 16 Lp.func36 rfl rfl args w
@[simp] def Lp.func43:Lp.funcs[41]?=some Tryz.f41:=(AP.same 41 rfl rfl).trans Tryz.func41
@[simp] def Lp.call43 (args:Array Zf)(w:Zb):(Zz 41 args).run Lp w=.ok (.enter 41 args) w:=Ao Lp 41 Lp.func43 rfl rfl args w
@[simp] def Lp.func48:Lp.funcs[12]?=some Tryz.f12:=(AP.same 12 rfl rfl).trans Tryz.func12
@[simp] def Lp.call48 (args:Array Zf)(w:Zb):(Zz 12 args).run Lp w=.ok (.enter 12 args) w:=Ao Lp 12 Lp.func48 rfl rfl args w
@[simp] def Lp.func49:Lp.funcs[13]?=some Tryz.f13:=(AP.same 13 rfl rfl).trans Tryz.func13
@[simp] def Lp.call49 (args:Array Zf)(w:Zb):(Zz 13 args).run Lp w=.ok (.enter 13 args) w:=Ao Lp 13 Lp.func49 rfl rfl args w
@[simp] def Lp.func50:Lp.funcs[14]?=some Tryz.f14:=(AP.same 14 rfl rfl).trans Tryz.func14
@[simp] def Lp.call50 (args:Array Zf)(w:Zb):(Zz 14 args).run Lp w=.ok (.enter 14 args) w:=Ao Lp 14 Lp.func50 rfl rfl args w
@[simp] def Lp.func93:Lp.funcs[40]?=some Tryz.f40:=(AP.same 40 rfl rfl).trans Tryz.func40
@[simp] def Lp.call93 (args:Array Zf)(w:Zb):(Zz 40 args).run Lp w=.ok (.enter 40 args) w:=Ao Lp 40 Lp.func93 rfl rfl args w
@[simp] def Lp.func97:Lp.funcs[42]?=some Tryz.f42:=(AP.same 42 rfl rfl).trans Tryz.func42
@[simp] def Lp.call97 (args:Array Zf)(w:Zb):(Zz 42 args).run Lp w=.ok (.enter 42 args) w:=Ao Lp 42 Lp.func97 rfl rfl args w
@[simp] def Lp.func107:Lp.funcs[37]?=some Tryz.f37:=(AP.same 37 rfl rfl).trans Tryz.func37
@[simp] def Lp.call107 (args:Array Zf)(w:Zb):(Zz 37 args).run Lp w=.ok (.enter 37 args) w:=Ao Lp 37 Lp.func107 rfl rfl args w
@[simp] def Lp.func114:Lp.funcs[33]?=some Tryz.f33:=(AP.same 33 rfl rfl).trans Tryz.func33
@[simp] def Lp.call114 (args:Array Zf)(w:Zb):(Zz 33 args).run Lp w=.ok (.enter 33 args) w:=Ao Lp 33 Lp.func114 rfl rfl args w
@[simp] def Lp.func115:Lp.funcs[34]?=some Tryz.f34:=(AP.same 34 rfl rfl).trans Tryz.func34
@[simp] def Lp.call115 (args:Array Zf)(w:Zb):(Zz 34 args).run Lp w=.ok (.enter 34 args) w:=Ao Lp 34 Lp.func115 rfl rfl args w
@[simp] def Lp.func116:Lp.funcs[36]?=some Tryz.f36:=(AP.same 36 rfl rfl).trans Tryz.func36
@[simp] def Lp.call116 (args:Array Zf)(w:Zb):(Zz 36 args).run Lp w=.ok (.enter 36 args) w:=Ao Lp 36 Lp.func116 rfl rfl args w
@[simp] def Lp.func117:Lp.funcs[38]?=some Tryz.f38:=(AP.same 38 rfl rfl).trans Tryz.func38
@[simp] def Lp.call117 (args:Array Zf)(w:Zb):(Zz 38 args).run Lp w=.ok (.enter 38 args) w:=Ao Lp 38 Lp.func117 rfl rfl args w
@[simp] def Lp.func118:Lp.funcs[39]?=some Tryz.f39:=(AP.same 39 rfl rfl).trans Tryz.func39
@[simp] def Lp.call118 (args:Array Zf)(w:Zb):(Zz 39 args).run Lp w=.ok (.enter 39 args) w:=Ao Lp 39 Lp.func118 rfl rfl args w
@[simp] def Lp.func135:Lp.funcs[66]?=some Tryz.f66:=(AP.same 66 rfl rfl).trans Tryz.func66
@[simp] def Lp.call135 (args:Array Zf)(w:Zb):(Zz 66 args).run Lp w=.ok (.enter 66 args) w:=Ao Lp 66 Lp.func135 rfl rfl args w
@[simp] def Lp.func160:Lp.funcs[67]?=some Tryz.f67:=(AP.same 67 rfl rfl).trans Tryz.func67
@[simp] def Lp.call160 (args:Array Zf)(w:Zb):(Zz 67 args).run Lp w=.ok (.enter 67 args) w:=Ao Lp 67 Lp.func160 rfl rfl args w
end Go.Proofs.Fit
namespace Go.Proofs.Fit
open Go Go.Conc Go.FA Go.RowKit
variable {W w A B w':Zb}
variable {n k b i g cap j q M:Nat}
variable {v v1 v2 v3 v4 v5 v' u2 u1 u4 u5 v6 lv:Zf}
def adh {a:Addr}{c:Nat}(h:W.cell? (a.add k)=some v):VR (Qk W) (.slice (some a) n c) (.slice (some a) n c):=by
 obtain⟨_,_,_,b⟩:=Sp h;rw[CF]at b;exact .slice n c ⟨pA b,rfl,rfl⟩
end Go.Proofs.Fit
namespace Go.Proofs.Fit
open Go
def aa1:Tryz.f3.ntmps=113:=rfl
def n25:Tryz.f4.ntmps=57:=rfl
def n28:Tryz.f7.ntmps=63:=rfl
def n36:Tryz.f16.ntmps=64:=rfl
def n43:Tryz.f41.ntmps=26:=rfl
def n48:Tryz.f12.ntmps=16:=rfl
def n49:Tryz.f13.ntmps=11:=rfl
def n50:Tryz.f14.ntmps=50:=rfl
def n93:Tryz.f40.ntmps=42:=rfl
def n97:Tryz.f42.ntmps=60:=rfl
def aif:Tryz.f37.ntmps=10:=rfl
def aih:Tryz.f33.ntmps=14:=rfl
def aii:Tryz.f34.ntmps=58:=rfl
def ain:Tryz.f36.ntmps=94:=rfl
def aio:Tryz.f38.ntmps=84:=rfl
def aiD:Tryz.f39.ntmps=60:=rfl
def aiP:Tryz.f66.ntmps=15:=rfl
def aiR:Tryz.f67.ntmps=57:=rfl
end Go.Proofs.Fit
namespace Go.Proofs.Fit
open Go Go.RowKit
variable {S T:Nat->Prop}
variable {W w A B w':Zb}
variable {v v1 v2 v3 v4 v5 v' u2 u1 u4 u5 v6 lv:Zf}
variable {c:A_}
def c49 (h:RC S w v1 v2 v3 v4 v5 c)(g:∀b,S b->b<w.heap.size):Calls Lp 13 #[.agg #[v1,v2,v3,v4,v5]] w λe w'=>e=.returned (.int .i64 (BN c))/\YH w.heap.size w w':=by
 obtain⟨s,n,rfl,P,K⟩:=h.base.val;obtain⟨r,m,rfl,O,J⟩:=h.Af.val;obtain⟨q,l,rfl,N,I⟩:=h.hooks.val;obtain⟨p,k,rfl,M,H⟩:=h.Aa.val;obtain⟨o,j,rfl,L,G⟩:=h.now.val;have V:=DJ;have a:YH w.heap.size w (w.alloc (.cells #[.slice s c.base.length n,.slice r c.Af.length m,.slice q c.hooks.length l,.slice p c.Aa.length k,.slice o c.now.length j] 26)):=(Zh _ _).alloc (Zj _) _;have i:=Zd (λW d=>c88 (w:=W) (h.later d) (A3 g d));go_enter Lp.func49,n49;go_wp2_with (go_at_call 35;refine(i.out _ a).mono ?_;rintro e w1 ⟨A,z,y,x,v,F,E,D,C,B,d1,d2,d3,d4,T,R,k1,Q,rfl,f,_⟩;obtain⟨U,u⟩:=E7 f);go_ret;have t:=a.trans (f.mono a.size);refine⟨rfl,?_⟩
 repeat (with_reducible first|exact t|refine bA ?_|(refine bS ?_ (by omega))|refine bD ?_|refine bN ?_)
def ac2 {H:Type}{enc:Zs×Zf->H}{P:Program}{w:Zb}{base:Nat}{c:Nat->Bool}{d:Bool}{t:Zs}{f0 e:Field}(ht:P.underlying t=some (.struct #[f0,e]))(s:P.cellsOf t=2)(z:P.underlying f0.type=some (.int .i64))(x:P.underlying e.type=some (.int .i64))(C:P.cellsOf f0.type=1)(B:P.cellsOf e.type=1)(p:f0.offset=0)(o:e.offset=1):
  Reads enc P w base c d t Rp:=by
 intro n A y q;obtain⟨l,m,_,_,j,r,k⟩:=DataW.trod_struct ht q;have g:=k 0 f0 rfl;have f:=k 1 e rfl;rw[C,p]at g;rw[B,o]at f;have D:l.length=2:=r;rw[zf (by omega)]at g f;obtain⟨a,i⟩:=kJ z _ _ _ g;obtain⟨b,h⟩:=kJ x _ _ _ f;rw[s]at j
 match A,j with
 | [u,v],_=>
  unfold Ri at i h;simp at i h;exact⟨(a,b),by unfold Rp;rw[i,h]⟩
end Go.Proofs.Fit
namespace Go.Proofs.Fit
open Go Go.Conc Go.FA Go.ChangeShapes Go.WideShapes Go.RowKit
set_option maxRecDepth 100000
def Nr (w:Zb)(v:Zf):Prop:=(∃n c,v=.slice none n c)\/(∃a,v=.slice (some a) 0 0)\/∃a n c k u,v=.slice (some a) n c/\w.cell? (a.add k)=some u
variable {W w A B w':Zb}
variable {v v1 v2 v3 v4 v5 v' u2 u1 u4 u5 v6 lv:Zf}
def Nr.aa0 (h:Nr W v):VR (Qk W) v v:=by
 rcases h with⟨n,c,rfl⟩|⟨a,rfl⟩|⟨a,n,c,k,u,rfl,h⟩
 .exact .slice (a:=none) n c trivial
 .exact .void _ _
 exact adh h
section
variable {H:Type}{enc:Zs×Zf->H}{P:Zo}{w:Zb}{base:Nat}{held:Bool}{α:Type}
variable {e:Zs}
variable {n k b i g cap j q M:Nat}
def reads_held {t:Zs}{R:Zb->List Zf->α->Prop}(ht:P.underlying t=some (.slice e))(r:P.cellsOf e=k)(hp:0<k)(h:Reads enc P w base (λ_=>true) held e R):
  Reads enc P w base (λ_=>true) held t (λw cs (l:List α)=>∃v,cs=[v]/\Sl (Lv w) R k w v l/\Nr w v):=by
 intro n cs y j;obtain⟨l,v,rfl,q⟩:=bW ht r hp h n cs y j;refine⟨l,v,rfl,q,?_⟩;rcases DataW.trod_slice ht j with⟨e,_⟩|⟨a,b,cap,f,g,o,_,e,_,_,p,_,m,c,x,_⟩
 .cases e;exact .inl ⟨_,_,rfl⟩
 cases e;by_cases u:cap=0
 .obtain rfl:b=0:=by omega
  subst u;exact .inr (.inl ⟨_,rfl⟩)
 have go:∀i:Nat,(∃y,(w.cells? base (a.add (i*P.cellsOf e)) (P.cellsOf e)).bind (DataW.trod enc P w base (λ_=>true) held o e)=some y)->Nr w (.slice (some a) b cap):=λi ⟨y,h⟩=>by
  obtain⟨C,d,_⟩:=ZX.1 h;obtain⟨A,s⟩:=bR d;have:=s 0 _ (zf (by omega));rw[Addr.add_zero']at this;exact .inr (.inr ⟨a,b,cap,_,_,rfl,this⟩)
 by_cases z:b=0
 .obtain⟨B,d⟩:=x rfl
  exact go (b+0) ⟨_,(d 0 (by omega)).trans (zf (by omega))⟩
 exact go 0 ⟨_,(c 0 (by omega)).trans (zf (by omega))⟩
end
def RsH (w:Zb)(cs:List Zf)(s:Ay):Prop:=∃v2 v3,cs=[.int .i64 s.low,.int .i64 s.high,v2,v3,.int .i64 s.left]/\SP (Lv w) w v2 s.Ap/\SI (Lv w) w v3 s.over/\Nr w v2/\Nr w v3
section
variable {H:Type}{enc:Zs×Zf->H}{w:Zb}{base:Nat}{held:Bool}
def aeS:Tryz.prog.cellsOf 3=1:=by kernel_rfl
def adq:Tryz.prog.cellsOf 22=1:=by kernel_rfl
def afJ:Tryz.prog.cellsOf 23=1:=by kernel_rfl
def afN:Tryz.prog.cellsOf 24=1:=by kernel_rfl
def afT:Tryz.prog.cellsOf 44=1:=by kernel_rfl
def af8:Tryz.prog.cellsOf 46=5:=by kernel_rfl
def afX:Tryz.prog.cellsOf 26=5:=by kernel_rfl
def abS:Reads enc Zc w base (λ_=>true) held 3 Ri:=kJ (by kernel_rfl)
def aaG:Reads enc Zc w base (λ_=>true) held 22 (λw cs (l:List Int)=>∃v,cs=[v]/\SI (Lv w) w v l/\Nr w v):=
 reads_held (t:=22) (e:=3) (by kernel_rfl) aeS (by decide) abS
def ad1:Reads enc Zc w base (λ_=>true) held 44 (λw cs (l:List (Int×Int))=>∃v,cs=[v]/\SP (Lv w) w v l/\Nr w v):=
 reads_held (t:=44) (e:=88) (by kernel_rfl) (by kernel_rfl) (by decide) (ac2 Tryz.underlying88 (by kernel_rfl) (by kernel_rfl) (by kernel_rfl) (by kernel_rfl) (by kernel_rfl) rfl rfl)
def ad2:Reads enc Zc w base (λ_=>true) held 23 (λw cs (l:List (Int×Int))=>∃v,cs=[v]/\SP (Lv w) w v l/\Nr w v):=
 reads_held (t:=23) (e:=66) (by kernel_rfl) (by kernel_rfl) (by decide) (ac2 Tryz.underlying66 (by kernel_rfl) (by kernel_rfl) (by kernel_rfl) (by kernel_rfl) (by kernel_rfl) rfl rfl)
def adi:Reads enc Zc w base (λ_=>true) held 46 RsH:=by
 intro n b y s;obtain⟨a,m,_,_,l,t,c⟩:=DataW.trod_struct Tryz.underlying46 s;have D:a.length=5:=t;have k:DataW.trod enc Zc w base (λ_=>true) held m 3 ((b.drop 0).take (Tryz.prog.cellsOf 3))=a[0]? :=c 0 _ rfl;have j:DataW.trod enc Zc w base (λ_=>true) held m 3 ((b.drop 1).take (Tryz.prog.cellsOf 3))=a[1]? :=c 1 _ rfl;have i:DataW.trod enc Zc w base (λ_=>true) held m 44 ((b.drop 2).take (Tryz.prog.cellsOf 44))=a[2]? :=c 2 _ rfl;have h:DataW.trod enc Zc w base (λ_=>true) held m 22 ((b.drop 3).take (Tryz.prog.cellsOf 22))=a[3]? :=c 3 _ rfl;have g:DataW.trod enc Zc w base (λ_=>true) held m 3 ((b.drop 4).take (Tryz.prog.cellsOf 3))=a[4]? :=c 4 _ rfl;rw[aeS,zf (by omega)]at k;rw[aeS,zf (by omega)]at j;rw[afT,zf (by omega)]at i;rw[adq,zf (by omega)]at h;rw[aeS,zf (by omega)]at g;rw[af8]at l;obtain⟨C,f⟩:=abS _ _ _ k;obtain⟨B,e⟩:=abS _ _ _ j;obtain⟨A,v⟩:=ad1 _ _ _ i;obtain⟨z,u⟩:=aaG _ _ _ h;obtain⟨x,d⟩:=abS _ _ _ g
 match b,l with
 | [u0,u1,u2,u3,u4],_=>
  unfold Ri at f e d;obtain⟨v2,p,r,d2⟩:=v;obtain⟨v3,o,q,d3⟩:=u;simp at f e p o d;exact⟨⟨C,B,A,z,x⟩,v2,v3,by rw[f,e,d,p,o],r,q,d2,d3⟩
def ad3:Reads enc Zc w base (λ_=>true) held 24 (λw cs (l:List Ay)=>∃v,cs=[v]/\Sl (Lv w) RsH 5 w v l/\Nr w v):=
 reads_held (t:=24) (e:=46) (by kernel_rfl) af8 (by decide) adi
structure InC (w:Zb)(v1 v2 v3 v4 v5:Zf)(c:A_):Prop where
 base:SI (Lv w) w v1 c.base/\Nr w v1
 Af:SP (Lv w) w v2 c.Af/\Nr w v2
 hooks:SI (Lv w) w v3 c.hooks/\Nr w v3
 Aa:Sl (Lv w) RsH 5 w v4 c.Aa/\Nr w v4
 now:SI (Lv w) w v5 c.now/\Nr w v5
def aca:Reads enc Zc w base (λ_=>true) held 26 (λw cs (c:A_)=>∃v1 v2 v3 v4 v5,cs=[v1,v2,v3,v4,v5]/\InC w v1 v2 v3 v4 v5 c):=by
 intro n cs y r;obtain⟨a,m,_,_,i,s,b⟩:=DataW.trod_struct Tryz.underlying26 r;have F:a.length=5:=s;have h:DataW.trod enc Zc w base (λ_=>true) held m 22 ((cs.drop 0).take (Tryz.prog.cellsOf 22))=a[0]? :=b 0 _ rfl;have g:DataW.trod enc Zc w base (λ_=>true) held m 23 ((cs.drop 1).take (Tryz.prog.cellsOf 23))=a[1]? :=b 1 _ rfl;have f:DataW.trod enc Zc w base (λ_=>true) held m 22 ((cs.drop 2).take (Tryz.prog.cellsOf 22))=a[2]? :=b 2 _ rfl;have e:DataW.trod enc Zc w base (λ_=>true) held m 24 ((cs.drop 3).take (Tryz.prog.cellsOf 24))=a[3]? :=b 3 _ rfl;have d:DataW.trod enc Zc w base (λ_=>true) held m 22 ((cs.drop 4).take (Tryz.prog.cellsOf 22))=a[4]? :=b 4 _ rfl;rw[adq,zf (by omega)]at h;rw[afJ,zf (by omega)]at g;rw[adq,zf (by omega)]at f;rw[afN,zf (by omega)]at e;rw[adq,zf (by omega)]at d;rw[afX]at i;obtain⟨E,q,p,z⟩:=aaG _ _ _ h;obtain⟨D,v1,o,x⟩:=ad2 _ _ _ g;obtain⟨C,v2,l,v⟩:=aaG _ _ _ f;obtain⟨B,v3,k,u⟩:=ad3 _ _ _ e;obtain⟨A,v4,j,t⟩:=aaG _ _ _ d
 match cs,i with
 | [u0,u1,u2,u3,u4],_=>
  simp at p o l k j;exact⟨⟨E,D,C,B,A⟩,q,v1,v2,v3,v4,by rw[p,o,l,k,j],z,x,v,u,t⟩
end
variable {t:Tape}
variable {n k b i g cap j q M:Nat}
def Sl.left {d:Type}{R R':Zb->List Zf->d->Prop}{l:List d}(h:Sl (Lv W) R k W v l)(n:∀cs x,R W cs x->(∀u∈cs,VR (Qk W) u u)/\R' (tp (BD W) t) cs x):Sl (Lv (tp (BD W) t)) R' k (tp (BD W) t) v l:=by
 obtain⟨a,c,s,r,q,p⟩:=h;refine⟨a,c,s,r,q,λi x m=>?_⟩;obtain⟨b,o,cs,B,A,z,y,w⟩:=p i x m;obtain⟨g,f⟩:=n _ _ w;refine⟨b,o,cs,B,?_,z,λj u e=>?_,f⟩
 .show b<(BD W).heap.size
  rw[ej];exact A
 exact SJ (y j u e) (g u (Z3 e))
variable {l nums:List Int}
def abq (h:SI (Lv W) W v l):SI (Lv (tp (BD W) t)) (tp (BD W) t) v l:=Sl.left h λc x a=>by
 unfold Ri at a;subst a;exact⟨λu b=>by obtain rfl:=Yh.1 b;exact .int _ _,rfl⟩
def adK {l:List (Int×Int)}(h:SP (Lv W) W v l):SP (Lv (tp (BD W) t)) (tp (BD W) t) v l:=Sl.left h λc x a=>by
 unfold Rp at a;subst a;exact⟨λu b=>by simp at b;rcases b with rfl|rfl<;>exact .int _ _,rfl⟩
def afe {l:List Ay}(h:Sl (Lv W) RsH 5 W v l):SS (Lv (tp (BD W) t)) (tp (BD W) t) v l:=Sl.left h λe x d=>by
 obtain⟨v2,v3,rfl,c,b,d2,d3⟩:=d;refine⟨λu a=>?_,v2,v3,rfl,adK c,abq b⟩;simp at a;rcases a with rfl|rfl|rfl|rfl|rfl
 .exact .int _ _
 .exact .int _ _
 .exact d2.aa0
 .exact d3.aa0
 exact .int _ _
variable {c:A_}
def InC.left (t:Tape)(h:InC W v1 v2 v3 v4 v5 c):RC (Lv (tp (BD W) t)) (tp (BD W) t) v1 v2 v3 v4 v5 c:=
 ⟨abq h.base.1,adK h.Af.1,abq h.hooks.1,afe h.Aa.1,abq h.now.1⟩
def InC.aa0 {W:Zb}{v1 v2 v3 v4 v5:Zf}{c:A_}(h:InC W v1 v2 v3 v4 v5 c):VR (Qk W) (.agg #[v1,v2,v3,v4,v5]) (.agg #[v1,v2,v3,v4,v5]):=by
 refine .P6 ⟨rfl,λi x y b a=>?_⟩
 match i,b,a with
 |0,b,a=>cases b;cases a;exact h.base.2.aa0
 |1,b,a=>cases b;cases a;exact h.Af.2.aa0
 |2,b,a=>cases b;cases a;exact h.hooks.2.aa0
 |3,b,a=>cases b;cases a;exact h.Aa.2.aa0
 |4,b,a=>cases b;cases a;exact h.now.2.aa0
section
variable {H:Type}{enc:Zs×Zf->H}{W:Zb}
variable {ps:List MemPlace}
def adj {base:Nat}{d:DataW H}(ok:Zbk Zc W .any base 26 v)(h:DataW.Trod enc Zc W 0 (λ_=>true) true 26 v d ps):∃v1 v2 v3 v4 v5 c,v=.agg #[v1,v2,v3,v4,v5]/\InC W v1 v2 v3 v4 v5 c:=by
 obtain⟨a,rfl,_⟩:=okWide_struct Tryz.underlying26 ok;obtain⟨n,b⟩:=h;obtain⟨c,v1,v2,v3,v4,v5,e,f⟩:=aca n _ _ b;refine⟨v1,v2,v3,v4,v5,c,?_,f⟩;have:a.toList=[v1,v2,v3,v4,v5]:=e;rw[<-Array.toList_inj.1 (show a.toList= #[v1,v2,v3,v4,v5].toList from this)]
def ad4 {base:Nat}{d:DataW H}(ok:Zbk Zc W .any base 22 v)(h:DataW.Trod enc Zc W 0 (λ_=>true) true 22 v d ps):∃l,SI (Lv W) W v l/\Nr W v:=by
 obtain⟨a,n,c,rfl⟩:=okWide_slice (t:=22) YE ok;obtain⟨n,f⟩:=h;obtain⟨l,u,e,b⟩:=aaG n _ _ f;cases e;exact⟨l,b⟩
end
set_option maxRecDepth 100000
variable {H:Type}
variable {args cs:Array Zf}
variable {ps:List MemPlace}
def trodAll_three {enc:Zs×Zf->H}{j i g:Zs}{C:List (DataW H)}(h:Za9 enc Zc W 0 (λ_=>true) true [j,i,g] args.toList C ps):
  ∃x y z d1 d2 d3 e d c,args= #[x,y,z]/\DataW.Trod enc Zc W 0 (λ_=>true) true j x d1 e/\DataW.Trod enc Zc W 0 (λ_=>true) true i y d2 d/\DataW.Trod enc Zc W 0 (λ_=>true) true g z d3 c:=by
 obtain⟨x,m,d1,B,e,F,w,_,_,s,r⟩:=trodAll_cons h;obtain⟨y,k,d2,A,d,E,v,_,_,q,p⟩:=trodAll_cons r;obtain⟨z,b,d3,f,c,D,u,_,_,o,n⟩:=trodAll_cons p;have t:b=[]:=by
  cases b with
  |nil=>rfl
  |cons a l=>cases f<;>exact(show False from n).elim
 subst t u v;exact⟨x,y,z,d1,d2,d3,e,d,c,by rw[<-Array.toList_inj.1 (show args.toList= #[x,y,z].toList from w)],s,q,o⟩
def ady {ρ:Ren}{x y z:Zf}(e:VR ρ x x)(d:VR ρ y y)(c:VR ρ z z):BS ρ #[x,y,z] #[x,y,z]:=⟨rfl,λi u v b a=>by
 match i,b,a with
 |0,b,a=>cases b;cases a;exact e
 |1,b,a=>cases b;cases a;exact d
 |2,b,a=>cases b;cases a;exact c⟩
variable {f:ZaQ}
def aeU {fn:Func}{base:Nat}{enc:Zs×Zf->H}{s:List (DataW H)}(hp:fn.params= #[26,22,22])
 (a:∀(j:Nat) t v,fn.params[j]?=some t->args[j]?=some v->Zbk Zc W .any base t v) (k:Za9 enc Zc W 0 (λ_=>true) true fn.params.toList args.toList s ps) (o:Jr (BD W))
 (b:∀(w:Zb) (v1 v2 v3 v4 v5 v6 g:Zf) (c:A_) (st nums:List Int),RC (λx=>x<w.heap.size) w v1 v2 v3 v4 v5 c->SI (λx=>x<w.heap.size) w v6 st->SI (λx=>x<w.heap.size) w g nums->Jr w->Calls Lp f #[.agg #[v1,v2,v3,v4,v5],v6,g] w (Two w (.bool true))):
  BS (Qk W) args args/\∀t,Calls Lp f args (tp (BD W) t) (Wr (tp (BD W) t)):=by
 rw[hp]at a k;obtain⟨x,y,z,d1,d2,d3,B,A,u,rfl,r,q,p⟩:=trodAll_three k;obtain⟨v1,v2,v3,v4,v5,c,rfl,i⟩:=adj (a 0 26 x rfl rfl) r;obtain⟨st,m,l⟩:=ad4 (a 1 22 y rfl rfl) q;obtain⟨nums,n,d⟩:=ad4 (a 2 22 z rfl rfl) p;exact⟨ady i.aa0 l.aa0 d.aa0,λt=>(b _ _ _ _ _ _ _ _ _ _ _ (i.left t) (abq m) (abq n) o).mono λe w' h=>h⟩
end Go.Proofs.Fit
namespace Go.Proofs.Fit
open Go Go.RowKit
def g80 (w:Zb)(x y:Zbv)(xs a:Array Zf):(eqGuard .neq 66 x y (.agg xs) (.agg a)).run Lp w=.ok () w:=run_eqGuard_agg w _ _ _ _ _ _ (by kernel_rfl)
def q80 (w:Zb)(a b c d:Int):(binOp .neq 66 (.agg #[.int .i64 a,.int .i64 b]) (.agg #[.int .i64 c,.int .i64 d])).run Lp w=.ok (.bool ((a,b) !=(c,d))) w:=by
 rw[run_neq_struct,run_equalIn_agg (ht:=by kernel_rfl) (hp:=by kernel_rfl)];simp[go_sem];by_cases f:a=c<;>by_cases e:b=d<;>simp[f,e]
def aci (a b:List (Int×Int)):Bool:=decide (a=b)
def adz {a b:List (Int×Int)}(hl:a.length=b.length)(h:∀j,j<a.length->BV a j=BV b j):a=b:=by
 apply YA;intro i;by_cases c:i<a.length
 .rw[EE c,EE (by omega),h i c]
 rw[ZP (by omega),ZP (by omega)]
variable {S T:Nat->Prop}
variable {W w A B w':Zb}
variable {v v1 v2 v3 v4 v5 v' u2 u1 u4 u5 v6 lv:Zf}
def c43 {a b:List (Int×Int)}(z:SP S w v a)(y:SP T w v' b)(B:∀b,S b->b<w.heap.size)(A:∀b,T b->b<w.heap.size):
  Calls Lp 41 #[v,v'] w λe w'=>e=.returned (.bool (aci a b))/\YH w.heap.size w w':=by
 obtain⟨Z,X,rfl,Q,O⟩:=z.val;obtain⟨Y,W,rfl,P,N⟩:=y.val;have IX:=DJ;by_cases d:a.length=b.length
 .have s:=Zd d
  clear d;have l:((a.length:Int) !=b.length)=false:=by simp[s.out]
  go_enter Lp.func43,n43;go_wp2;go_loopg [5] a.length (λg i wr=>∃k:Nat,k<=a.length/\g=a.length - k/\i=.int .i64 k/\(∀j,j<k->BV a j=BV b j)/\YH w.heap.size w wr)
  case atStart=>exact⟨0,Zp _,rfl,rfl,λj m=>absurd m (ZbY _),Zh _ _⟩
  obtain⟨k,V,rfl,rfl,F,c⟩:=hrel;have n:=Zd F;clear F;by_cases M:k<a.length
  .have r:k<b.length:=by have:=s.out;omega
   obtain⟨h,x,rfl,D,J,G⟩:=z.at_ M;obtain⟨f,u,rfl,E,I,o⟩:=y.at_ r;rw[<-c.cell (p:=⟨h,x+k*2,none⟩) (B h D)]at J;rw[<-c.cell (p:=⟨h,x+k*2+1,none⟩) (B h D)]at G;rw[<-c.cell (p:=⟨f,u+k*2,none⟩) (A f E)]at I;rw[<-c.cell (p:=⟨f,u+k*2+1,none⟩) (A f E)]at o;have U:(k:Int)<(a.length:Int):=by omega
   have R:(k:Int)<(b.length:Int):=by omega
   have L:=q80;have K:=g80;go_wp2;go_quiet (fail);go_wp2
   .have q:(((BV a k).fst,(BV a k).snd) !=((BV b k).fst,(BV b k).snd))=true:=by assumption
    go_ret;refine⟨?_,Y5 c _⟩;have:aci a b=false:=by
     unfold aci;refine decide_eq_false λe=>?_;rw[e]at q;simp at q
    rw[this];rfl
   have q:(((BV a k).fst,(BV a k).snd) !=((BV b k).fst,(BV b k).snd))=false:=by assumption
   have H:BV a k=BV b k:=by simp at q;exact Prod.ext q.1 q.2
   go_roundg (a.length - (k+1))
   case rel=>exact⟨k+1,by omega,rfl,by go_num,λj m=>by
    by_cases e:j=k
    .rw[e];exact H
    exact n.out j (by omega),Y5 c _⟩
   omega
  have C:aci a b=true:=decide_eq_true (adz s.out λj m=>n.out j (by omega));have t:=Zd C;clear C n;go_wp2;go_ret;exact⟨by rw[t.out];rfl,c⟩
 have l:((a.length:Int) !=b.length)=true:=by simp;omega
 have t:=Zd (show aci a b=false from decide_eq_false λe=>d (by rw[e]));clear d;go_enter Lp.func43,n43;go_wp2;go_ret;exact⟨by rw[t.out];rfl,Zh _ _⟩
def aiJ (l:List Int)(a:List Bool):List Bool:=l.foldl (λo x=>o.set x.toNat true) a
def yn (n:Nat):Nat->List (List Int)->List Bool->List Bool
 |_,[],a=>a
 |i,s::r,a=>yn n (i+1) r (if i=n\/a.getD i false=true then aiJ s a else a)
def iV (n:Nat)(l:List (List Int)):Nat->List Bool->List Bool
 |0,a=>a
 |k+1,a=>iV n l k (yn n 0 l a)
def aaB (l:List Ay):List (List Int):=l.map (·.over)
def aiK (o:List (List Int))(n:Nat):List Bool:=iV n o o.length (List.replicate o.length false)
def abb (l:List Ay)(n:Nat):List Bool:=aiK (aaB l) n
def rh (ab:Nat->Nat)(i:Nat):List (List Int)->Nat->Nat
 | []=>ab
 |s::r=>rh (HJ ab i s) (i+1) r
def iW (ab:Nat->Nat)(l:List (List Int)):Nat->Nat->Nat
 |0=>ab
 |n+1=>iW (rh ab 0 l) l n
def ri (l:List (List Int)):Nat->Nat:=iW (λ_=>0) l l.length
def ad5:∀(l:List Ay) (ab:Nat->Nat) (i:Nat),K6 ab i l=rh ab i (aaB l)
 | [],_,_=>rfl
 |s::r,ab,i=>ad5 r (HJ ab i s.over) (i+1)
def acj (l:List Ay):∀(n:Nat) (ab:Nat->Nat),G5 ab l n=iW ab (aaB l) n
 |0,_=>rfl
 |n+1,ab=>by
  show G5 (K6 ab 0 l) l n=iW (rh ab 0 (aaB l)) (aaB l) n;rw[acj l n,ad5]
def adL (l:List Ay):Ax l=ri (aaB l):=by
 unfold Ax ri;rw[acj,show(aaB l).length=l.length by simp[aaB]]
def WU (o:List (List Int)):Bool:=(Yr o.length).all λn=>(Yr o.length).all λk=>(aiK o n).getD k false==hasB (ri o n) k
def Lj:List (List Int):=[[],[0],[1],[2],[0,1],[0,2],[1,2],[0,1,2]]
def acD:∀a∈Lj,WU [a.filter (· <1)]=true:=by decide+kernel
def acE:∀a∈Lj,∀b∈Lj,WU [a.filter (· <2),b.filter (· <2)]=true:=by decide+kernel
def acF:∀a∈Lj,∀b∈Lj,∀c∈Lj,WU [a,b,c]=true:=by decide+kernel
variable {l nums:List Int}
def EM (f:l.Pairwise (· < ·))(e:∀x∈l,0<=x/\x<3):l∈Lj:=by
 have g:∀x:Int,0<=x/\x<3->x=0\/x=1\/x=2:=λx h=>by omega
 match l,f,e with
 | [],_,_=>simp[Lj]
 | [a],_,e=>
  rcases g a (e a (by simp)) with rfl|rfl|rfl<;>simp[Lj]
 | [a,b],f,e=>
  have i:a<b:=by simpa using f
  rcases g a (e a (by simp)) with rfl|rfl|rfl<;>rcases g b (e b (by simp)) with rfl|rfl|rfl<;>first|(exfalso;omega)|simp[Lj]
 | [a,b,c],f,e=>
  have i:a<b/\b<c:=by
   simp at f;exact⟨f.1.1,f.2⟩
  have j:=e a (by simp);have m:=e c (by simp);obtain rfl:a=0:=by omega
  obtain rfl:c=2:=by omega
  obtain rfl:b=1:=by omega
  simp[Lj]
 |a::b::c::d::r,f,e=>
  exfalso;simp only[List.pairwise_cons]at f;have i:=f.1 b (by simp);have o:=f.2.1 c (by simp);have n:=f.2.2.1 d (by simp);have j:=e a (by simp);have k:=e d (by simp);omega
def filter_lt {n:Int}(a:∀x∈l,0<=x/\x<n):l.filter (· <n)=l:=List.filter_eq_self.2 λx h=>by simpa using(a x h).2
def vU {o:List (List Int)}(g:o.length<=3)(e:∀l∈o,l.Pairwise (· < ·))(d:∀l∈o,∀x∈l,0<=x/\x<o.length):WU o=true:=by
 match o,g,e,d with
 | [],_,_,_=>rfl
 | [a],_,e,d=>
  have f:=d a (by simp);have:=acD a (EM (e a (by simp)) λx h=>by have:=f x h;simp at this;omega);rwa[filter_lt (λx h=>by have:=f x h;simpa using this)]at this
 | [a,b],_,e,d=>
  have f:=d a (by simp);have i:=d b (by simp);have:=acE a (EM (e a (by simp)) λx h=>by have:=f x h;simp at this;omega) b (EM (e b (by simp)) λx h=>by have:=i x h;simp at this;omega);rwa[filter_lt (λx h=>by have:=f x h;simpa using this),filter_lt (λx h=>by have:=i x h;simpa using this)]at this
 | [a,b,c],_,e,d=>
  exact acF a (EM (e a (by simp)) λx h=>by have:=d a (by simp) x h;simpa using this) b (EM (e b (by simp)) λx h=>by have:=d b (by simp) x h;simpa using this)
   c (EM (e c (by simp)) λx h=>by have:=d c (by simp) x h;simpa using this)
 |_::_::_::_::_,g,_,_=>simp at g
variable {n k b i g cap j q M:Nat}
def adM {number:Nat}(h:CY (Ed n number l) 0 l=0):l.Pairwise (· < ·)/\∀x∈l,0<=x/\x<n:=by
 have a:∀k (a:k<l.length),(0<=l[k]/\l[k]<n)/\(0<k->nth l (k - 1)<l[k]):=λk a=>by
  have:=Gs h k l[k] (zf a);unfold Ed at this;split at this
  .cases this
  next g=>
  split at this
  .cases this
  next f=>
  refine⟨?_,λs=>?_⟩
  .have:=G' (n:=l[k]) (lo:=0) (hi:=(n:Int) - 1) (by cases e:AD l[k] 0 ((n:Int) - 1);rfl;exact absurd (.inl e) g)
   omega
  exact Int.lt_of_not_ge λb=>f ⟨by omega,by rw[zN];exact b⟩
 refine⟨?_,λx o=>?_⟩
 .have step:∀i (hi:i+1<l.length),l[i]<l[i+1]:=λi hi=>by
   have:=(a (i+1) hi).2 (Nat.succ_pos _);simpa[nth,Y6,show i<l.length by omega]using this
  have c:∀d i (hi:i+d+1<l.length),l[i]<l[i+d+1]:=by
   intro d
   induction d with
   |zero=>intro i hi;exact step i hi
   |succ d m=>
    intro i hi;have g:=m i (by omega);have f:=step (i+d+1) (by omega);have e:l[i+(d+1)+1]=l[i+d+1+1]:=rfl;rw[e];omega
  rw[ZdK];intro i j hi r p;have:=c (j - i - 1) i (by omega);have e:l[i+(j - i - 1)+1]'(by omega)=l[j]:=by congr 1;omega
  rwa[e]at this
 obtain⟨k,q,rfl⟩:=Zas o;exact(a k q).1
def adA {l:List Ay}(d:l.length<=3)(h:∀s∈l,s.over.Pairwise (· < ·)/\∀x∈s.over,0<=x/\x<l.length)(f:n<l.length)(e:k<l.length):(abb l n).getD k false=hasB (Ax l n) k:=by
 have c:(aaB l).length=l.length:=by simp[aaB]
 have:=vU (o:=aaB l) (by omega) (λo b=>by obtain⟨s,a,rfl⟩:=List.mem_map.1 b;exact(h s a).1)
  (λo b=>by obtain⟨s,a,rfl⟩:=List.mem_map.1 b;rw[c];exact(h s a).2)
 unfold WU at this;rw[Zdm]at this;have:=this n (by rw[List.mem_range];omega);rw[Zdm]at this;have:=this k (by rw[List.mem_range];omega);rw[adL];exact eq_of_beq this
def Qr (n:Nat)(m:Nat->Int):List Int:=(Yr n).map m
def EI (n:Nat)(m:Nat->Int):(Qr n m).length=n:=by simp[Qr]
variable {m:Nat->Int}
def rj (h:i<n):nth (Qr n m) i=m i:=by simp[Qr,nth,h]
def lC (l:List Int):l=Qr l.length (λj=>nth l j):=by
 apply YA;intro i;by_cases h:i<l.length
 .rw[Bn h];simp[Qr,h]
 rw[ZP (by omega),ZP (by rw[EI];omega)]
def rm (h:i<n)(k b:Int):(Qr n m).set i (m i+b*k)=Qr n (K7 m k ((i:Int),b)):=by
 apply YA;intro j;by_cases c:j<n
 .by_cases a:i=j
  .subst a
   rw[Ys (by rw[EI];exact h)];simp[Qr,c,K7]
  rw[ZS a];simp[Qr,c,K7];omega
 rw[ZP (by simp[EI];omega),ZP (by rw[EI];omega)]
structure MG (w:Zb)(xs:Array Zf)(v:Zf)(n:Nat)(m:Nat->Int)(wr:Zb):Prop where
 below:YH w.heap.size w wr
 box:wr.heap[w.heap.size]?=some (.cells xs 26 (0,0))
 own:Own wr (w.heap.size+1) v (Qr n m)
def MG.later {wr:Zb}{xs:Array Zf}(h:MG w xs v n m wr)(a:YH wr.heap.size wr W):MG w xs v n m W:=
 ⟨h.below.trans (a.mono h.below.size),(a.block _ (Za.1 h.box).1).trans h.box,h.own.later a⟩
def MG.row {wr:Zb}{xs:Array Zf}(h:MG w xs (.slice (some ⟨g,0,none⟩) n cap) n m wr)(hi:i<n):w.heap.size+1<=g/\∃a,wr.heap[g]?=some (.cells a 3 (0,0))/\a[i]?=some (.int .i64 (m i)):=by
 obtain⟨l,o,a,e,d,c,k,j,b,f⟩:=h.own.val (by rw[EI];omega);rw[EI]at e;cases e;refine⟨d,a,c,?_⟩;rw[b i (by rw[EI];exact hi),rj hi]
def MG.set {wr:Zb}{xs:Array Zf}(h:MG w xs (.slice (some ⟨g,0,none⟩) n cap) n m wr)(hi:i<n)(k b:Int):MG w xs (.slice (some ⟨g,0,none⟩) n cap) n (K7 m k ((i:Int),b)) (wr.setCell ⟨g,i,none⟩ (.int .i64 (m i+b*k))):=by
 obtain⟨p,q,c,e,o,l,j,f,d,a⟩:=h.own.val (by rw[EI];omega);rw[EI]at e;cases e;refine⟨bS h.below (by omega),(AZ (by omega) _).trans h.box,?_⟩;rw[<-rm hi];exact a i _ (by rw[EI];exact hi)
def bU (h:YH w.heap.size w A)(k:YH A.heap.size A B):YH w.heap.size w B:=h.trans (k.mono h.size)
def g64 (w:Zb)(x y:Zbv)(xs a:Array Zf):(eqGuard .neq 88 x y (.agg xs) (.agg a)).run Lp w=.ok () w:=run_eqGuard_agg w _ _ _ _ _ _ (by kernel_rfl)
def q64 (w:Zb)(a b:Int):(binOp .neq 88 (.agg #[.int .i64 a,.int .i64 b]) (.agg #[.int .i64 a,.int .i64 b])).run Lp w=.ok (.bool false) w:=by
 rw[run_neq_struct,run_equalIn_agg (ht:=by kernel_rfl) (hp:=by kernel_rfl)];simp[go_sem]
def acm:Ke l l=true:=decide_eq_true rfl
def adk {l:List (Int×Int)}:aci l l=true:=decide_eq_true rfl
variable {s:Ay}
def c97 {u3:Zf}(hp:SP S w v2 s.Ap)(x:SI S w v3 s.over)(v:SP T w u2 s.Ap)(o:SI T w u3 s.over)(l:∀b,S b->b<w.heap.size)(j:∀b,T b->b<w.heap.size):
  Calls Lp 42 #[.agg #[.int .i64 s.low,.int .i64 s.high,v2,v3,.int .i64 s.left],.agg #[.int .i64 s.low,.int .i64 s.high,u2,u3,.int .i64 s.left]] w λe w'=>e=.returned (.bool true)/\YH w.heap.size w w':=by
 obtain⟨C,A,rfl,l1,m1⟩:=hp.val;obtain⟨B,z,rfl,l2,m2⟩:=x.val;obtain⟨X,Q,rfl,l3,m3⟩:=v.val;obtain⟨V,P,rfl,l4,m4⟩:=o.val;have IX:=DJ;have n:YH w.heap.size w ((w.alloc (.cells #[.int .i64 s.low,.int .i64 s.high,.slice C s.Ap.length A,.slice B s.over.length z,.int .i64 s.left] 46)).alloc (.cells #[.int .i64 s.low,.int .i64 s.high,.slice X s.Ap.length Q,.slice V s.over.length P,.int .i64 s.left] 46)):=bA (bA (Zh _ _));have y:=Zd (λW (a:YH w.heap.size w W)=>c46 (w:=W) (x.later a) (o.later a) (A3 l a) (A3 j a));rw[acm]at y;go_enter Lp.func97,n97;go_wp2_with (go_at_call 15;refine(y.out _ n).mono ?_;rintro e w1 ⟨rfl,c⟩;have F:=n.trans (c.mono n.size);obtain⟨Z,DR⟩:=bw c;obtain⟨Y,H⟩:=E7 c);have u:=(c.block w.heap.size (by simp;omega)).trans (Bf (Bp w (.cells #[.int .i64 s.low,.int .i64 s.high,.slice C s.Ap.length A,.slice B s.over.length z,.int .i64 s.left] 46)) _);have t:=(c.block (w.heap.size+1) (by simp)).trans (Jq w _ _);have M:=ch (i:=2) u rfl;have K:=ch (i:=2) t rfl;clear u t c Y H;go_loopg [5] s.Ap.length (λg i wr=>∃k:Nat,k<=s.Ap.length/\g=s.Ap.length - k/\i=.int .i64 k/\YH w1.heap.size w1 wr)
 case atStart=>exact⟨0,Zp _,rfl,rfl,Zh _ _⟩
 obtain⟨k,hk,rfl,rfl,a⟩:=hrel;have d:=F.trans (a.mono F.size);have L:=(a.cell (p:=⟨w.heap.size,2,none⟩) Z).trans M;have J:=(a.cell (p:=⟨w.heap.size+1,2,none⟩) DR).trans K;by_cases G:k<s.Ap.length
 .obtain⟨h,r,rfl,D,O,I⟩:=hp.at_ G
  obtain⟨f,q,rfl,E,N,m⟩:=v.at_ G;rw[<-d.cell (p:=⟨h,r+k*2,none⟩) (l h D)]at O;rw[<-d.cell (p:=⟨h,r+k*2+1,none⟩) (l h D)]at I;rw[<-d.cell (p:=⟨f,q+k*2,none⟩) (j f E)]at N;rw[<-d.cell (p:=⟨f,q+k*2+1,none⟩) (j f E)]at m;have i1:(k:Int)<(s.Ap.length:Int):=by omega
  have U:=q64;have R:=g64;go_wp2;go_quiet (fail);go_wp2;go_roundg (s.Ap.length - (k+1))
  case rel=>exact⟨k+1,by omega,rfl,by go_num,Y5 a _⟩
  omega
 go_wp2;go_ret;exact⟨rfl,d⟩
def aiU {u3:Zf}(hp:SP S w v2 s.Ap)(f:SI S w v3 s.over)(d:SP T w u2 s.Ap)(c:SI T w u3 s.over)(h:∀b,S b->b<w.heap.size)(g:∀b,T b->b<w.heap.size):
  ∀W,YH w.heap.size w W->Calls Lp 42 #[.agg #[.int .i64 s.low,.int .i64 s.high,v2,v3,.int .i64 s.left],.agg #[.int .i64 s.low,.int .i64 s.high,u2,u3,.int .i64 s.left]] W λe w'=>e=.returned (.bool true)/\YH W.heap.size W w':=
 λ_ a=>c97 (hp.later a) (f.later a) (d.later a) (c.later a) (A3 h a) (A3 g a)
variable {c:A_}
def c36 {u3:Zf}(h:RC S w v1 v2 v3 v4 v5 c)(g:RC T w u1 u2 u3 u4 u5 c)(l:∀b,S b->b<w.heap.size)(j:∀b,T b->b<w.heap.size):
  Calls Lp 16 #[.agg #[v1,v2,v3,v4,v5],.agg #[u1,u2,u3,u4,u5]] w λe w'=>e=.returned (.bool true)/\YH w.heap.size w w':=by
 obtain⟨a1,c1,rfl,l1,m1⟩:=h.base.val;obtain⟨U,K,rfl,l2,m2⟩:=h.Af.val;obtain⟨R,J,rfl,l3,m3⟩:=h.hooks.val;obtain⟨Q,I,rfl,l4,m4⟩:=h.Aa.val;obtain⟨P,H,rfl,l5,m5⟩:=h.now.val;obtain⟨b1,d1,rfl,k1,n1⟩:=g.base.val;obtain⟨O,d2,rfl,k2,n2⟩:=g.Af.val;obtain⟨N,d3,rfl,k3,n3⟩:=g.hooks.val;obtain⟨M,d4,rfl,k4,n4⟩:=g.Aa.val;obtain⟨L,G,rfl,k5,n5⟩:=g.now.val;have IX:=DJ;have Bg:YH w.heap.size w ((w.alloc (.cells #[.slice a1 c.base.length c1,.slice U c.Af.length K,.slice R c.hooks.length J,.slice Q c.Aa.length I,.slice P c.now.length H] 26)).alloc (.cells #[.slice b1 c.base.length d1,.slice O c.Af.length d2,.slice N c.hooks.length d3,.slice M c.Aa.length d4,.slice L c.now.length G] 26)):=bA (bA (Zh _ _));have r0:=λ{i:Nat} {v:Zf}=>ch (i:=i) (v:=v) (Bf (Bp w (.cells #[.slice a1 c.base.length c1,.slice U c.Af.length K,.slice R c.hooks.length J,.slice Q c.Aa.length I,.slice P c.now.length H] 26)) (.cells #[.slice b1 c.base.length d1,.slice O c.Af.length d2,.slice N c.hooks.length d3,.slice M c.Aa.length d4,.slice L c.now.length G] 26));have V:=λ{i:Nat} {v:Zf}=>ch (i:=i) (v:=v) (Jq w (.cells #[.slice a1 c.base.length c1,.slice U c.Af.length K,.slice R c.hooks.length J,.slice Q c.Aa.length I,.slice P c.now.length H] 26) (.cells #[.slice b1 c.base.length d1,.slice O c.Af.length d2,.slice N c.hooks.length d3,.slice M c.Aa.length d4,.slice L c.now.length G] 26));have HR:Hid (∀(W:Zb),YH ((w.alloc (.cells #[.slice a1 c.base.length c1,.slice U c.Af.length K,.slice R c.hooks.length J,.slice Q c.Aa.length I,.slice P c.now.length H] 26)).alloc (.cells #[.slice b1 c.base.length d1,.slice O c.Af.length d2,.slice N c.hooks.length d3,.slice M c.Aa.length d4,.slice L c.now.length G] 26)).heap.size ((w.alloc (.cells #[.slice a1 c.base.length c1,.slice U c.Af.length K,.slice R c.hooks.length J,.slice Q c.Aa.length I,.slice P c.now.length H] 26)).alloc (.cells #[.slice b1 c.base.length d1,.slice O c.Af.length d2,.slice N c.hooks.length d3,.slice M c.Aa.length d4,.slice L c.now.length G] 26)) W->
   W.cell? ⟨w.heap.size,1,none⟩=some (.slice U c.Af.length K)/\W.cell? ⟨w.heap.size,2,none⟩=some (.slice R c.hooks.length J)/\W.cell? ⟨w.heap.size,3,none⟩=some (.slice Q c.Aa.length I)/\W.cell? ⟨w.heap.size,4,none⟩=some (.slice P c.now.length H)/\
   W.cell? ⟨w.heap.size+1,1,none⟩=some (.slice O c.Af.length d2)/\W.cell? ⟨w.heap.size+1,2,none⟩=some (.slice N c.hooks.length d3)/\W.cell? ⟨w.heap.size+1,3,none⟩=some (.slice M c.Aa.length d4)/\W.cell? ⟨w.heap.size+1,4,none⟩=some (.slice L c.now.length G)):=Zd λW a=>by
  obtain⟨u,_⟩:=E7 a;exact⟨(u _ _ (by simp;omega)).trans (r0 rfl),(u _ _ (by simp;omega)).trans (r0 rfl),(u _ _ (by simp;omega)).trans (r0 rfl),(u _ _ (by simp;omega)).trans (r0 rfl),(u _ _ (by simp)).trans (V rfl),(u _ _ (by simp)).trans (V rfl),(u _ _ (by simp)).trans (V rfl),(u _ _ (by simp)).trans (V rfl)⟩
 clear r0 V;have HA:=Zd (λW (a:YH w.heap.size w W)=>c46 (w:=W) (h.base.later a) (g.base.later a) (A3 l a) (A3 j a));have HE:=Zd (λW (a:YH w.heap.size w W)=>c43 (w:=W) (h.Af.later a) (g.Af.later a) (A3 l a) (A3 j a));have HH:=Zd (λW (a:YH w.heap.size w W)=>c46 (w:=W) (h.hooks.later a) (g.hooks.later a) (A3 l a) (A3 j a));have an:=Zd (λW (a:YH w.heap.size w W)=>c46 (w:=W) (h.now.later a) (g.now.later a) (A3 l a) (A3 j a));rw[acm]at HA HH an;rw[adk]at HE;go_enter Lp.func36,n36;go_wp2_with (go_at_call 15;refine(HA.out _ Bg).mono ?_;rintro e w1 ⟨rfl,Bb⟩;have oT:=Bg.trans (Bb.mono Bg.size);obtain⟨C,B,q,A,z,y,o,x⟩:=HR.out _ Bb);have ai:=Bb;clear Bb;refine(HE.out _ oT).mono ?_;rintro e w2 ⟨rfl,f⟩;have E:=ai.trans (f.mono ai.size);have aT:=oT.trans (f.mono oT.size);clear f C B q A z y o x;obtain⟨C,B,q,A,z,y,o,x⟩:=HR.out _ E;dsimp only;go_wp2_with (fail);refine(HH.out _ aT).mono ?_;rintro e w3 ⟨rfl,f⟩;have D:=E.trans (f.mono E.size);have xa:=aT.trans (f.mono aT.size);clear f C B q A z y o x;obtain⟨C,B,q,A,z,y,o,x⟩:=HR.out _ D;dsimp only;go_wp2_with (fail);refine(an.out _ xa).mono ?_;rintro e w4 ⟨rfl,f⟩;have iu:=D.trans (f.mono D.size);have am:=xa.trans (f.mono xa.size);clear f C B q A z y o x;obtain⟨C,B,q,A,z,y,o,x⟩:=HR.out _ iu;dsimp only;go_wp2_with (fail);clear C B A z y x;go_loopg [5] c.Aa.length (λg i wr=>∃k:Nat,k<=c.Aa.length/\g=c.Aa.length - k/\i=.int .i64 k/\YH w4.heap.size w4 wr)
 case atStart=>exact⟨0,Zp _,rfl,rfl,Zh _ _⟩
 obtain⟨k,hk,rfl,rfl,a⟩:=hrel;have d:=am.trans (a.mono am.size);have ap:=iu.trans (a.mono iu.size);clear q o;obtain⟨_,_,q,_,_,_,o,_⟩:=HR.out _ ap;by_cases Az:k<c.Aa.length
 .obtain⟨n,o1,s2,s3,rfl,q1,h0,h1,h2,h3,h4,hp,ho⟩:=h.Aa.at_ Az
  obtain⟨m,o2,t2,t3,rfl,Z,t,s,j2,j3,r,lR,rH⟩:=g.Aa.at_ Az;have F:=Zd (aiU hp ho lR rH l j);obtain⟨sm,Qh⟩:∃sm,sm=Aj c.Aa k:=⟨_,rfl⟩;rw[<-Qh]at h0 h1 h4 t s r F;clear Qh;have i1:(k:Int)<(c.Aa.length:Int):=by omega
  have X:=λp=>Al p q;have Y:=λp=>Al p o;have h0:=λp=>Al p ((d.cell (p:=⟨n,o1+k*5,none⟩) (l n q1)).trans h0);have h1:=λp=>Al p ((d.cell (p:=⟨n,o1+k*5+1,none⟩) (l n q1)).trans h1);have h2:=λp=>Al p ((d.cell (p:=⟨n,o1+k*5+2,none⟩) (l n q1)).trans h2);have h3:=λp=>Al p ((d.cell (p:=⟨n,o1+k*5+3,none⟩) (l n q1)).trans h3);have h4:=λp=>Al p ((d.cell (p:=⟨n,o1+k*5+4,none⟩) (l n q1)).trans h4);have t:=λp=>Al p ((d.cell (p:=⟨m,o2+k*5,none⟩) (j m Z)).trans t);have s:=λp=>Al p ((d.cell (p:=⟨m,o2+k*5+1,none⟩) (j m Z)).trans s);have j2:=λp=>Al p ((d.cell (p:=⟨m,o2+k*5+2,none⟩) (j m Z)).trans j2);have j3:=λp=>Al p ((d.cell (p:=⟨m,o2+k*5+3,none⟩) (j m Z)).trans j3);have r:=λp=>Al p ((d.cell (p:=⟨m,o2+k*5+4,none⟩) (j m Z)).trans r);have HB:=Zd (λp=>d.trans ((AE wr p).mono d.size));have HQ:=Zd (λp=>a.trans ((AE wr p).mono a.size));go_wp2;refine Av (by kernel_rfl) (by kernel_rfl) ?_
  repeat (first|go_big_quiet_step ((go_at_call 42;exact AV (F.out _ (HB.out _))))|quiet_step ((go_at_call 42;exact AV (F.out _ (HB.out _)))))
  refine Z4 ?_;rintro _ ⟨p,rfl⟩;clear X Y h0 h1 h2 h3 h4 t s j2 j3 r;have yw:=HQ.out p;go_wp2;go_roundg (c.Aa.length - (k+1))
  case rel=>exact⟨k+1,by omega,rfl,by go_num,yw⟩
  omega
 go_wp2;go_ret;exact⟨rfl,d⟩
attribute [local go_sem] Zdk
def ac3:∀(l:List (Int×Int)) (i:Nat) (p:Int×Int),i<l.length->((l.flatMap λp=> [ZL .i64 p.1,.int .i64 p.2]).set (i*2) (.int .i64 p.1)).set (i*2+1) (.int .i64 p.2)=(l.set i p).flatMap λp=> [ZL .i64 p.1,.int .i64 p.2]
 | [],_,_,h=>by cases h
 |q::r,0,p,_=>rfl
 |q::r,i+1,p,h=>by
  have:=ac3 r i p (by simpa using h);rw[List.set_cons_succ,List.flatMap_cons,List.flatMap_cons, <-this,show(i+1)*2=i*2+1+1 by omega]
  rfl
variable {e:Zs}
def Ih.set {base:Nat}{l:List (Int×Int)}(h:Ih w base (.slice (some ⟨g,0,none⟩) n cap) l e)(hi:i<l.length)(p:Int×Int):
  Ih ((w.setCell ⟨g,i*2,none⟩ (.int .i64 p.1)).setCell ⟨g,i*2+1,none⟩ (.int .i64 p.2)) base (.slice (some ⟨g,0,none⟩) n cap) (l.set i p) e:=by
 obtain⟨o,m⟩:=h;rcases m with⟨a,_⟩|⟨r,s,q,a,k,j,f,d,c,b⟩
 .cases a
 cases a;refine⟨?_,.inr ⟨g,cap,_,by rw[ZcC],k,Ba (Ba j _) _,by simpa using f,d,by simpa using c,?_⟩⟩
 .rw[<-ac3 l i p hi]
  simpa using o
 rw[<-ac3 l i p hi];simp only[ZcM,ZcC,List.take_set];rw[b]
inductive HT
 |leaf
 |one (i:Nat) (r:HT)
 |free (i:Nat) (r:HT)
 |fork (i:Nat) (x:HT) (j:Nat) (y:HT)
def HT.len:HT->Nat
 | .leaf=>0
 | .one _ r=>r.len+1
 | .free _ r=>r.len+1
 | .fork _ x _ _=>x.len+1
section
variable {P:Zo}{ops:Array Oper}{Q:Exit->Act->Zb->Prop}{md:YO}{S:Zb->Prop}{T:Nat->Zb->Prop}
def aaF (P:Zo)(b:Array Oper)(Q:Exit->Act->Zb->Prop)(S:Zb->Prop)(T:Nat->Zb->Prop):HT->Act->Zb->Prop
 | .leaf,a,w=>Q .normal a w
 | .one i r,a,w=>wpOp P b Q i (λa' w'=>T i w'/\aaF P b Q S T r a' w') a w
 | .free i r,a,w=>S w/\∃o v,b[i]?=some o/\ZbF P b S o v a/\aaF P b Q S T r (a.put o.dst v) w
 | .fork i x j y,a,w=>wpOp P b Q i (λa' w'=>T i w'/\aaF P b Q S T x a' w') a w/\wpOp P b Q j (λa' w'=>T j w'/\aaF P b Q S T y a' w') a w
def htB (b:YO)(a:Array Oper)(n:Nat)(lates:List Nat):HT->Array Bool->Bool
 | .leaf,listed=>(zs b a listed).isEmpty
 | .one i r,listed=>decide (zs b a listed=[i])&&htB b a n lates r (listed.setIfInBounds i true)
 | .free i r,listed=>(zs b a listed).contains i&&Za3 b a listed i&&pQ b a n lates i&&htB b a n lates r (listed.setIfInBounds i true)
 | .fork i x j y,listed=>decide (zs b a listed=[i,j])&&decide (x.len=y.len)&&htB b a n lates x (listed.setIfInBounds i true)&&htB b a n lates y (listed.setIfInBounds j true)
def aaH {n:Nat}{lates:List Nat}(q:YF ops=true)(l:∀c a d v w,Q (.panic c) (Zck a d v) w->Q (.panic c) a w):
  ∀(t:HT) (listed:Array Bool) (a:Act) (w:Zb),Dn md ops listed->htB md ops n lates t listed=true->aaF P ops Q S (FG lates S) t a w->Cy P md ops Q (FG lates S) t.len listed a w
 | .leaf,_,_,_,_,b,h=>⟨by simpa[htB]using b,h⟩
 | .one i r,listed,a,w,e,b,h=>by
  simp only[htB,ZF,decide_eq_true_eq]at b;refine⟨λm=>(by rw[b.1]at m;cases m),λj u=>?_⟩;have s:=u;rw[b.1]at u;have:j=i:=by simpa using u
  subst this;exact Zcc (λp w' x=>⟨x.1,aaH q l r _ p w' (e.step s) b.2 x.2⟩) h
 | .free i r,listed,a,w,e,b,h=>by
  simp only[htB,ZF]at b;obtain⟨F,o,v,E,D,h⟩:=h;have A:i∈zs md ops listed:=by simpa using b.1.1.1
  exact Me (S:=S) (n:=n) (f:=r.len) E q (λc a w x=>l c a o.dst v w x) (λw x=>.inr x) (iw b.1.2) listed a w e b.1.1.2 A D F (aaH q l r _ _ w (e.step A) b.2 h)
 | .fork i x j y,listed,a,w,e,b,h=>by
  simp only[htB,ZF,decide_eq_true_eq]at b;obtain⟨⟨⟨B,I⟩,H⟩,G⟩:=b;refine⟨λm=>(by rw[B]at m;cases m),λk g=>?_⟩;have C:=g;rw[B]at g;rcases List.mem_cons.1 g with rfl|g
  .exact Zcc (λp w' z=>⟨z.1,aaH q l x _ p w' (e.step C) H z.2⟩) h.1
  have:k=j:=by simpa using g
  subst this;exact Zcc (λp w' z=>⟨z.1,by have:=aaH q l y _ p w' (e.step C) G z.2;rwa[<-I]at this⟩) h.2
variable {a:Act}
def abl {id:Nat}{l:List Oper}(n:Nat)(lates:List Nat)(t:HT)(ls:List Nat)(i:P.follows .mixedOrders=true)(g:∀c a d v w,Q (.panic c) (Zck a d v) w->Q (.panic c) a w)
 (b:(YF l.toArray&&decide (t.len+ls.length=l.toArray.size)&&lsB .any l.toArray n lates (htB .any l.toArray n lates t) ls (Yu l.toArray.size false))=true) (j:S w.drew)
 (h:MQ P l.toArray S (λa'=>aaF P l.toArray Q S (FG lates S) t a' w.drew) ls a):(zU id l.toArray true).wp P Q a w:=by
 simp only[ZF,decide_eq_true_eq]at b;refine Zd5 i (JV (T:=FG lates S) _ _ _ _ ?_);have e:Dn .any l.toArray (Yu l.toArray.size false):=λk ok _ f=>by
  rw[show(Yu l.toArray.size false).getD k false=false by unfold Array.getD;split<;>simp]at f;cases f
 have:=Vd b.1.1 g j (λlisted a m p o=>aaH b.1.1 g t listed a w.drew m p o) ls _ a e b.2 h;rw[b.1.2]at this;exact this
variable {r:HT}
variable {o:Oper}
def adN (b:ops[i]?=some o)(c:o.guard=none)(h:o.wp P a w (λa' w'=>T i w'/\aaF P ops Q S T r a' w') Q):aaF P ops Q S T (.one i r) a w:=by
 unfold aaF wpOp;simp only[b];rw[if_pos (by simp[Yf,c])];exact .inl h
def abv (c:ops[i]?=some o)(d:o.guard=none)(b:(Zby a.eval o).run P w=.ok (.value v) w')(e:T i w')
 (h:aaF P ops Q S T r (a.put o.dst v) w'):aaF P ops Q S T (.one i r) a w:=by
 refine adN c d ?_;unfold ZbA;rw[b,Zdi];exact⟨e,h⟩
variable {f:ZaQ}
variable {args cs:Array Zf}
def abh (c:ops[i]?=some o)(d:o.guard=none)(b:(Zby a.eval o).run P w=.ok (.enter f args) w)
 (g:Calls P f args w λe w'=>(∃v,e=.returned v/\T i w'/\aaF P ops Q S T r (a.put o.dst v) w')\/∃x,e=.panicked x/\Q (.panic x) a w'):aaF P ops Q S T (.one i r) a w:=by
 refine adN c d ?_;unfold ZbA;rw[b,Zdj];refine g.mono λe w' h=>?_;rcases h with⟨v,rfl,h⟩|⟨x,rfl,h⟩
 .exact h
 exact h
def adO (c:ops[i]?=some o)(d:o.guard=none)(b:(Zby a.eval o).run P w=.ok .skip w')(e:T i w')
 (h:aaF P ops Q S T r (a.put o.dst Ze) w'):aaF P ops Q S T (.one i r) a w:=by
 refine adN c d ?_;unfold ZbA;rw[b,ZcQ];exact⟨e,h⟩
def acs (e:S w)(c:ops[i]?=some o)(d:o.guard=none)(b:∀w,S w->(Zby a.eval o).run P w=.ok (.value v) w)
 (h:aaF P ops Q S T r (a.put o.dst v) w):aaF P ops Q S T (.free i r) a w:=
 ⟨e,o,v,c,.inl ⟨by simp[Yf,d],b⟩,h⟩
def adr {x y:HT}(c:aaF P ops Q S T (.one i x) a w)(b:aaF P ops Q S T (.one j y) a w):aaF P ops Q S T (.fork i x j y) a w:=⟨c,b⟩
end
def Vu (l:List Int):Ke l l=true:=by simp[Ke]
def B3.aj4 (h:YH w.heap.size w A)(c:B3 b A B)(d:w.heap.size<=b):YH w.heap.size w B:=h.trans ((c.CN (K:=λx=>x=b) rfl).below (λx a=>by have:x=b:=a;omega) h.size)
def acv (n lo hi:Int)(w:Zb):Calls Lp 66 #[.int .i64 n,.int .i64 lo,.int .i64 hi] w λe w'=>e=.returned (.bool (!AD n lo hi))/\w'=w:=by
 go_enter Lp.func135,aiP;go_wp2
 all_goals go_ret
 all_goals refine⟨?_,rfl⟩
 all_goals simp_all[AD]
 have c:¬n<lo:=by omega
 by_cases b:n<=hi
 .have a:¬hi<n:=by omega
  simp[b,c,a]
 have a:hi<n:=by omega
 simp[b,a]
def aff (n a:Int)(w:Zb):Calls Lp 37 #[.int .i64 n,.int .i64 a] w λe w'=>e=.returned (.int .i64 (Di n a))/\w'=w:=by
 go_enter Lp.func107,aif;go_wp2
 all_goals go_ret
 all_goals simp_all[Di]
 all_goals omega
variable {p:Int×Int}
variable {lo hi:Int}
def ads (h:AD p.1 lo hi=true):CV p lo hi=1:=if_pos (.inl h)
def adt (h:AD p.2 lo hi=true):CV p lo hi=1:=if_pos (.inr h)
def adu (b:AD p.1 lo hi=false)(a:AD p.2 lo hi=false)(h:p.2<p.1):CV p lo hi=5:=by
 unfold CV;rw[if_neg (by rw[b,a];simp),if_pos h]
def acK (b:AD p.1 lo hi=false)(a:AD p.2 lo hi=false)(h:¬p.2<p.1):CV p lo hi=0:=by
 unfold CV;rw[if_neg (by rw[b,a];simp),if_neg h]
def aj2 (h:RC S w v1 v2 v3 v4 v5 c)(E:∀b,S b->b<w.heap.size):Calls Lp 36 #[.agg #[v1,v2,v3,v4,v5]] w λe w'=>e=.returned (.int .i64 (Dq c))/\YH w.heap.size w w':=by
 obtain⟨O,J,rfl,l1,m1⟩:=h.base.val;obtain⟨N,I,rfl,l2,m2⟩:=h.Af.val;obtain⟨M,H,rfl,l3,m3⟩:=h.hooks.val;obtain⟨L,G,rfl,l4,m4⟩:=h.Aa.val;obtain⟨K,F,rfl,l5,m5⟩:=h.now.val;have IX:=DJ;go_enter Lp.func116,ain;have z:YH w.heap.size w (w.alloc (.cells #[.slice O c.base.length J,.slice N c.Af.length I,.slice M c.hooks.length H,.slice L c.Aa.length G,.slice K c.now.length F] 26)):=(Zh _ _).alloc (Zj _) _;have Y:=Bp w (.cells #[.slice O c.base.length J,.slice N c.Af.length I,.slice M c.hooks.length H,.slice L c.Aa.length G,.slice K c.now.length F] 26);go_wp2_with (go_at_call 37;refine(aff _ _ _).mono ?_;rintro e w' ⟨rfl,rfl⟩)
 .have D:(Di c.base.length 3 !=0)=true:=by assumption
  go_ret;exact⟨Bw (by rw[Dq,K4 (Gr D)]),z⟩
 rename (Di _ _ !=0)=false=>D
 have l:=Zd D;clear D;go_loopg [4] c.base.length (λg i wr=>∃k:Nat,k<=c.base.length/\g=c.base.length - k/\i=.int .i64 k/\Bc (Fo 1 60) (c.base.drop k)=Bc (Fo 1 60) c.base/\wr=(w.alloc (.cells #[.slice O c.base.length J,.slice N c.Af.length I,.slice M c.hooks.length H,.slice L c.Aa.length G,.slice K c.now.length F] 26)))
 case atStart=>exact⟨0,Zp _,rfl,rfl,rfl,rfl⟩
 obtain⟨k,V,rfl,rfl,m,rfl⟩:=hrel;have a:=Zd m;clear m;by_cases n:k<c.base.length
 .obtain⟨b,o,rfl,u,T⟩:=h.base.at_ n
  have OJ:=z.cell (p:=⟨b,o+k,none⟩) (E b u);rw[T]at OJ;have d:=Zd (E_ (f:=Fo 1 60) (Bn n));go_wp2_with (go_at_call 66;refine(acv _ _ _ _).mono ?_;rintro e w' ⟨rfl,rfl⟩)
  .have r:AD (nth c.base k) 1 60=true:=by assumption
   go_ret;have U:Bc (Fo 1 60) c.base=1:=by rw[<-a.out,d.out,Ws r];rfl
   exact⟨Bw (by rw[Dq,BR (FE l.out),U];rfl),z⟩
  have r:AD (nth c.base k) 1 60=false:=by assumption
  go_roundg (c.base.length - (k+1))
  case rel=>exact⟨k+1,by omega,rfl,by go_num,by rw[<-a.out,d.out,SK r];rfl,rfl⟩
  omega
 have s:=Zd (show Bc (Fo 1 60) c.base=0 by rw[<-a.out];exact FZ (by omega));clear a;go_wp2
 .have C:((c.Af.length:Int) !=c.base.length)=true:=by assumption
  go_ret;exact⟨Bw (by rw[Dq,BR (FE l.out),BR s.out,if_pos (xp C)]),z⟩
 rename (_ !=_)=false=>C
 have y:=Zd C;clear C;go_loopg [5] c.Af.length (λg i wr=>∃k:Nat,k<=c.Af.length/\g=c.Af.length - k/\i=.int .i64 k/\Bc (λp=>CV p (-9) 9) (c.Af.drop k)=Bc (λp=>CV p (-9) 9) c.Af/\YH w.heap.size w wr/\wr.heap[w.heap.size]?=some (.cells #[.slice O c.base.length J,.slice N c.Af.length I,.slice M c.hooks.length H,.slice L c.Aa.length G,.slice K c.now.length F] 26 (0,0)))
 case atStart=>exact⟨0,Zp _,rfl,rfl,rfl,z,Y⟩
 obtain⟨k,V,rfl,rfl,m,j,P⟩:=hrel;have a:=Zd m;clear m;have k0:=ch (i:=0) P rfl;have k1:=ch (i:=1) P rfl;have k2:=ch (i:=2) P rfl;by_cases n:k<c.Af.length
 .obtain⟨b,o,rfl,u,R,X⟩:=h.Af.at_ n
  rw[<-j.cell (p:=⟨b,o+k*2,none⟩) (E b u)]at R;rw[<-j.cell (p:=⟨b,o+k*2+1,none⟩) (E b u)]at X;have d:=Zd (E_ (f:=λp=>CV p (-9) 9) (EE n));go_wp2_with (go_at_call 66;refine(acv _ _ _ _).mono ?_;rintro e w' ⟨rfl,rfl⟩)
  .have t:AD (BV c.Af k).1 (-9) 9=true:=by assumption
   go_ret;have A:Bc (λp=>CV p (-9) 9) c.Af=1:=by rw[<-a.out,d.out,ads t];rfl
   exact⟨Bw (by rw[Dq,BR (FE l.out),BR s.out,if_neg (λx=>x (U2 y.out)),A];rfl),j⟩
  .have t:AD (BV c.Af k).2 (-9) 9=true:=by assumption
   go_ret;have A:Bc (λp=>CV p (-9) 9) c.Af=1:=by rw[<-a.out,d.out,adt t];rfl
   exact⟨Bw (by rw[Dq,BR (FE l.out),BR s.out,if_neg (λx=>x (U2 y.out)),A];rfl),j⟩
  rename AD (BV c.Af k).2 _ _=false=>q
  rename¬AD (BV c.Af k).1 _ _=true=>t
  have v:=Zd (Bool.eq_false_iff.2 t);have B:=Zd q;clear t q;go_quiet (fail)
  all_goals go_wp2
  .have Q:(BV c.Af k).2<(BV c.Af k).1:=by assumption
   go_ret;have A:Bc (λp=>CV p (-9) 9) c.Af=5:=by rw[<-a.out,d.out,adu v.out B.out Q];rfl
   exact⟨Bw (by rw[Dq,BR (FE l.out),BR s.out,if_neg (λx=>x (U2 y.out)),A];rfl),Y5 j _⟩
  have Q:¬(BV c.Af k).2<(BV c.Af k).1:=by omega
  go_roundg (c.Af.length - (k+1))
  case rel=>exact⟨k+1,by omega,rfl,by go_num,by rw[<-a.out,d.out,acK v.out B.out Q];rfl,Y5 j _,by simpa using P⟩
  omega
 have v:=Zd (show Bc (λp=>CV p (-9) 9) c.Af=0 by rw[<-a.out];exact FZ (by omega));clear a;go_wp2
 .have q:((c.hooks.length:Int) !=c.base.length)=true:=by assumption
  go_ret;exact⟨Bw (by rw[Dq,BR (FE l.out),BR s.out,if_neg (λx=>x (U2 y.out)),BR v.out,if_pos (xp q)]),j⟩
 rename (_ !=_)=false=>q
 have B:=Zd q;clear q;go_loopg [6] c.hooks.length (λg i W=>∃k:Nat,k<=c.hooks.length/\g=c.hooks.length - k/\i=.int .i64 k/\Bc (Fo 0 5) (c.hooks.drop k)=Bc (Fo 0 5) c.hooks/\W=wr)
 case atStart=>exact⟨0,Zp _,rfl,rfl,rfl,rfl⟩
 obtain⟨k,V,rfl,rfl,m,rfl⟩:=hrel;have a:=Zd m;clear m;by_cases n:k<c.hooks.length
 .obtain⟨b,o,rfl,u,T⟩:=h.hooks.at_ n
  rw[<-j.cell (p:=⟨b,o+k,none⟩) (E b u)]at T;have d:=Zd (E_ (f:=Fo 0 5) (Bn n));go_wp2_with (go_at_call 66;refine(acv _ _ _ _).mono ?_;rintro e w' ⟨rfl,rfl⟩)
  .have r:AD (nth c.hooks k) 0 5=true:=by assumption
   go_ret;have U:Bc (Fo 0 5) c.hooks=1:=by rw[<-a.out,d.out,Ws r];rfl
   exact⟨Bw (by rw[Dq,BR (FE l.out),BR s.out,if_neg (λx=>x (U2 y.out)),BR v.out,if_neg (λx=>x (U2 B.out)),U]),j⟩
  have r:AD (nth c.hooks k) 0 5=false:=by assumption
  go_roundg (c.hooks.length - (k+1))
  case rel=>exact⟨k+1,by omega,rfl,by go_num,by rw[<-a.out,d.out,SK r];rfl,rfl⟩
  omega
 have Z:=Zd (show Bc (Fo 0 5) c.hooks=0 by rw[<-a.out];exact FZ (by omega));clear a;go_wp2;go_ret;exact⟨Bw (by rw[Dq,BR (FE l.out),BR s.out,if_neg (λx=>x (U2 y.out)),BR v.out,if_neg (λx=>x (U2 B.out)),Z.out]),j⟩
def abj (g:Nat)(l:List (Int×Int)):Int:=PM (Di l.length 2) (CY (Fa g l) 0 l)
def aj6 {a:List (Int×Int)}(hp:SP S w v a)(T:g<=maxLen)(B:∀b,S b->b<w.heap.size):Calls Lp 67 #[.int .i64 g,v] w λe w'=>e=.returned (.int .i64 (abj g a))/\YH w.heap.size w w':=by
 obtain⟨V,U,rfl,Q,P⟩:=hp.val;have X:=DJ;have F:=Zd (show abj g a=PM (Di a.length 2) (CY (Fa g a) 0 a) from rfl);go_enter Lp.func160,aiR;go_wp2_with (go_at_call 37;refine(aff _ _ _).mono ?_;rintro e w' ⟨rfl,y⟩;have y:=y.symm;subst y)
 .have t:(Di a.length 2 !=0)=true:=by assumption
  go_ret;exact⟨Bw (by rw[F.out,K4 (Gr t)]),Zh _ _⟩
 rename (Di _ _ !=0)=false=>t
 have r:=Zd (show abj g a=CY (Fa g a) 0 a by rw[F.out,BR (FE t)]);have W:=Zd t;clear t F;go_loopg [6] a.length (λN i wr=>∃k:Nat,k<=a.length/\N=a.length - k/\i=.int .i64 k/\CY (Fa g a) k (a.drop k)=CY (Fa g a) 0 a/\YH w.heap.size w wr)
 case atStart=>exact⟨0,Zp _,rfl,rfl,rfl,Zh _ _⟩
 obtain⟨k,R,rfl,rfl,K,h⟩:=hrel;have m:=Zd K;clear K;by_cases L:k<a.length
 .obtain⟨q,z,rfl,C,E,D⟩:=hp.at_ L
  obtain⟨O,M,e,_,J,_⟩:=hp.at_ (i:=0) (by omega);cases e;rw[<-h.cell (p:=⟨q,z+k*2,none⟩) (B q C)]at E;rw[<-h.cell (p:=⟨q,z+k*2+1,none⟩) (B q C)]at D;rw[<-h.cell (p:=⟨q,z+0*2,none⟩) (B q C)]at J;have n:=Zd (K5 (f:=Fa g a) (EE L));obtain⟨x,A⟩:∃x,x=BV a k:=⟨_,rfl⟩;rw[<-A]at E D n;have Y:=Zd A;clear A;obtain⟨c,d⟩:=x;dsimp only at E D;rw[Nat.zero_mul,Nat.add_zero]at J;go_wp2_with (go_at_call 66;refine(acv _ _ _ _).mono ?_;rintro e w' ⟨rfl,rfl⟩)
  .have j:AD c 0 ((g:Int) - 1)=true:=by assumption
   have l:Fa g a k (c,d)=3:=by unfold Fa;rw[if_pos j]
   go_ret;exact⟨Bw (by rw[r.out, <-m.out,n.out,l];rfl),h⟩
  .have j:AD c 0 ((g:Int) - 1)=false:=by assumption
   have o:AD d (-4) 4=true:=by assumption
   have l:Fa g a k (c,d)=1:=by unfold Fa;rw[if_neg (by rw[j];decide),if_pos (.inr o)]
   go_ret;exact⟨Bw (by rw[r.out, <-m.out,n.out,l];rfl),h⟩
  .have j:AD c 0 ((g:Int) - 1)=false:=by assumption
   have o:(d==0)=true:=by assumption
   have l:Fa g a k (c,d)=1:=by unfold Fa;rw[if_neg (by rw[j];decide),if_pos (.inl (by simpa using o))]
   go_ret;exact⟨Bw (by rw[r.out, <-m.out,n.out,l];rfl),h⟩
  rename AD c 0 _=false=>j
  rename¬AD d _ _=true=>o
  rename (d==0)=false=>H
  have l:Fa g a k (c,d)=if 0<k/\c=(BV a 0).1 then 4 else 0:=by unfold Fa;rw[if_neg (by rw[j];decide),if_neg (λx=>x.elim (by simpa using H) o)]
  have G:=Zd l;clear l j o H;by_cases I:0<k
  .go_quiet (fail)
   go_wp2
   .have s:((BV a 0).1==c)=true:=by assumption
    go_ret;have u:Fa g a k (c,d)=4:=by rw[G.out,if_pos ⟨I,by simp at s;exact s.symm⟩]
    exact⟨Bw (by rw[r.out, <-m.out,n.out,u];rfl),Y5 h _⟩
   have s:((BV a 0).1==c)=false:=by assumption
   have u:Fa g a k (c,d)=0:=by rw[G.out,if_neg (λx=>by simp at s;exact s x.2.symm)]
   go_roundg (a.length - (k+1))
   case rel=>exact⟨k+1,by omega,rfl,by go_num,by rw[<-m.out,n.out,u];rfl,Y5 h _⟩
   omega
  go_quiet (fail);go_wp2;have u:Fa g a k (c,d)=0:=by rw[G.out,if_neg (λx=>I x.1)]
  go_roundg (a.length - (k+1))
  case rel=>exact⟨k+1,by omega,rfl,by go_num,by rw[<-m.out,n.out,u];rfl,Y5 h _⟩
  omega
 go_wp2;go_ret;exact⟨Bw (by rw[r.out, <-m.out];exact(MN (by omega)).symm),h⟩
def adB (a b c:Int):PM (PM a b) c=PM a (PM b c):=by
 unfold PM;by_cases h:a=0
 .rw[if_pos h,if_pos h]
 rw[if_neg h,if_neg h,if_neg h]
def aj7 (h:RC S w v1 v2 v3 v4 v5 c)(hn:n<c.Aa.length)(K:∀b,S b->b<w.heap.size):Calls Lp 38 #[.agg #[v1,v2,v3,v4,v5],.int .i64 n] w λe w'=>e=.returned (.int .i64 (EF c n))/\YH w.heap.size w w':=by
 obtain⟨a1,c1,rfl,l1,m1⟩:=h.base.val;obtain⟨a2,c2,rfl,l2,m2⟩:=h.Af.val;obtain⟨a3,c3,rfl,l3,m3⟩:=h.hooks.val;obtain⟨a4,c4,rfl,l4,m4⟩:=h.Aa.val;obtain⟨a5,c5,rfl,l5,m5⟩:=h.now.val;have IX:=DJ;obtain⟨b,o,s2,s3,rfl,hb,ER,MM,LO,Z,V,P,J⟩:=h.Aa.at_ hn;obtain⟨a6,c6,rfl,l6,m6⟩:=P.val;obtain⟨a7,c7,rfl,l7,m7⟩:=J.val;have ig:=K b hb;obtain⟨s,O⟩:∃s,s=Aj c.Aa n:=⟨_,rfl⟩;have D:EF c n=PM (CV (s.low,s.high) (-2) 2) (PM (abj c.base.length s.Ap) (PM (CY (Ed c.Aa.length n s.over) 0 s.over) (Fo 0 4 s.left))):=by rw[EF,O,abj,adB]
 have C:=Zd D;rw[<-O]at ER MM LO Z V P J l6 l7;clear O D;obtain⟨a,j,BW,d,G⟩:=s;dsimp only at*;have Bg:YH w.heap.size w (w.alloc (.cells #[.slice a1 c.base.length c1,.slice a2 c.Af.length c2,.slice a3 c.hooks.length c3,.slice (some ⟨b,o,none⟩) c.Aa.length c4,.slice a5 c.now.length c5] 26)):=bA (Zh _ _);have F:=Zd (λW (t:YH w.heap.size w W)=>aj6 (w:=W) (g:=c.base.length) (P.later t) (by omega) (A3 K t));go_enter Lp.func117,aio;go_wp2_with (first|(go_at_call 66;refine(acv _ _ _ _).mono ?_;rintro e w' ⟨rfl,rfl⟩)|(go_at_call 67;refine(F.out _ (bA (bA (Zh _ _)))).mono ?_;rintro e w' ⟨rfl,Bv⟩;obtain⟨De,m,Q⟩:=kp Bv;have f0:=m 0 (.slice a1 c.base.length c1) rfl;have f3:=m 3 (.slice (some ⟨b,o,none⟩) c.Aa.length c4) rfl;have g3:=Q 3 (.slice a7 d.length c7) rfl;have Y:=Q 4 (.int .i64 G) rfl;clear m Q))
 .have r:AD a (-2) 2=true:=by assumption
  go_ret;exact⟨Bw (by rw[C.out,ads (p:=(a,j)) r];rfl),bA (bA (Zh _ _))⟩
 .have r:AD j (-2) 2=true:=by assumption
  go_ret;exact⟨Bw (by rw[C.out,adt (p:=(a,j)) r];rfl),bA (bA (Zh _ _))⟩
 .have r:¬AD a (-2) 2=true:=by assumption
  have A:AD j (-2) 2=false:=by assumption
  have l:j<a:=by assumption
  go_ret;exact⟨Bw (by rw[C.out,adu (p:=(a,j)) (Bool.eq_false_iff.2 r) A l];rfl),bA (bA (Zh _ _))⟩
 .have r:¬AD a (-2) 2=true:=by assumption
  have A:AD j (-2) 2=false:=by assumption
  have l:a<=j:=by assumption
  have q:(abj c.base.length BW !=0)=true:=by assumption
  go_ret;exact⟨Bw (by rw[C.out,acK (p:=(a,j)) (Bool.eq_false_iff.2 r) A (by show¬j<a;omega),BR rfl,K4 (Gr q)]),De⟩
 rename¬AD a (-2) 2=true=>r
 rename AD j (-2) 2=false=>A
 rename a<=j=>l
 rename (abj _ _ !=0)=false=>q
 have I:=Zd (show EF c n=PM (CY (Ed c.Aa.length n d) 0 d) (Fo 0 4 G) by rw[C.out,acK (p:=(a,j)) (Bool.eq_false_iff.2 r) A (by show¬j<a;omega),BR rfl,BR (FE q)]);clear r A l C ER MM LO Z V F;have Q4:=Zd q;clear q;have D':=ZH w' _ Y;have Sb:w.heap.size+1<w'.heap.size:=D';clear D';go_loopg [7] d.length (λg i wr=>∃k:Nat,k<=d.length/\g=d.length - k/\i=.int .i64 k/\CY (Ed c.Aa.length n d) k (d.drop k)=CY (Ed c.Aa.length n d) 0 d/\YH w.heap.size w wr/\YH w'.heap.size w' wr)
 case atStart=>exact⟨0,Zp _,rfl,rfl,rfl,De,Zh _ _⟩
 obtain⟨k,hk,rfl,rfl,CP,u,t⟩:=hrel;have m:=Zd CP;clear CP;rw[<-t.cell (p:=⟨w.heap.size,0,none⟩) (by simp;omega)]at f0;rw[<-t.cell (p:=⟨w.heap.size,3,none⟩) (by simp;omega)]at f3;rw[<-t.cell (p:=⟨w.heap.size+1,3,none⟩) (by simp;omega)]at g3;rw[<-t.cell (p:=⟨w.heap.size+1,4,none⟩) (by simp;omega)]at Y;by_cases Az:k<d.length
 .obtain⟨E,L,rfl,U3,L6⟩:=J.at_ Az
  rw[<-u.cell (p:=⟨E,L+k,none⟩) (K E U3)]at L6;have R:0<k->wr.cell? ⟨E,L+(k - 1),none⟩=some (.int .i64 (nth d (k - 1))):=λh0=>by
   obtain⟨am,ai,e,_,X⟩:=J.at_ (i:=k - 1) (by omega);cases e;rw[<-u.cell (p:=⟨E,L+(k - 1),none⟩) (K E U3)]at X;exact X
  have B:=Zd (K5 (f:=Ed c.Aa.length n d) (Bn Az));obtain⟨x,N⟩:∃x,x=nth d k:=⟨_,rfl⟩;rw[<-N]at L6 B;have HX:=Zd N;have T:=Zd R;clear N R;cases l:AD x 0 ((c.Aa.length:Int) - 1) with
  |true=>
   go_wp2;go_quiet (first|(go_at_call 66;refine Zb5 (acv _ _ _ _)));go_wp2;go_ret;have v:Ed c.Aa.length n d k x=3:=by unfold Ed;rw[if_pos (.inl l)]
   exact⟨Bw (by rw[I.out, <-m.out,B.out,v];rfl),Y5 u _⟩
  |false=>
   go_wp2;go_quiet (first|(go_at_call 66;refine Zb5 (acv _ _ _ _)));go_wp2
   .have q:(x==(n:Int))=true:=by assumption
    go_ret;have v:Ed c.Aa.length n d k x=3:=by unfold Ed;rw[if_pos (.inr (by simpa using q))]
    exact⟨Bw (by rw[I.out, <-m.out,B.out,v];rfl),Y5 u _⟩
   rename (x==(n:Int))=false=>q
   have z:=Zd (show¬(AD x 0 ((c.Aa.length:Int) - 1)=true\/x=n) from λy=>y.elim (by rw[l];decide) (by simpa using q));clear l q;by_cases M:0<k
   .have R:=T.out M
    go_quiet (fail);go_wp2
    .have U:x<=nth d (k - 1):=by assumption
     have v:Ed c.Aa.length n d k x=5:=by unfold Ed;rw[if_neg z.out,if_pos ⟨M,U⟩]
     go_ret;exact⟨Bw (by rw[I.out, <-m.out,B.out,v];rfl),Y5 (Y5 u _) _⟩
    have U:nth d (k - 1)<x:=by assumption
    have v:Ed c.Aa.length n d k x=0:=by unfold Ed;rw[if_neg z.out,if_neg (λy=>by have:=y.2;omega)]
    go_roundg (d.length - (k+1))
    case rel=>exact⟨k+1,by omega,rfl,by go_num,by rw[<-m.out,B.out,v];rfl,Y5 u _,Y5 t _⟩
    omega
   go_quiet (fail);go_wp2;have v:Ed c.Aa.length n d k x=0:=by unfold Ed;rw[if_neg z.out,if_neg (λy=>M y.1)]
   go_roundg (d.length - (k+1))
   case rel=>exact⟨k+1,by omega,rfl,by go_num,by rw[<-m.out,B.out,v];rfl,Y5 u _,Y5 t _⟩
   omega
 have H:=Zd (show EF c n=Fo 0 4 G by rw[I.out,BR (by rw[<-m.out];exact MN (by omega))]);clear m;go_wp2_with (go_at_call 66;refine(acv _ _ _ _).mono ?_;rintro e w' ⟨rfl,rfl⟩)
 .have l:AD G 0 4=true:=by assumption
  go_ret;exact⟨Bw (by rw[H.out,Ws l]),u⟩
 have l:AD G 0 4=false:=by assumption
 go_ret;exact⟨Bw (by rw[H.out,SK l]),u⟩
def c93 (h:RC S w v1 v2 v3 v4 v5 c)(hl:SI S w v6 l)(r:∀b,S b->b<w.heap.size):Calls Lp 40 #[.agg #[v1,v2,v3,v4,v5],v6] w λe w'=>e=.returned (.int .i64 (Ct c l))/\YH w.heap.size w w':=by
 obtain⟨Q,M,rfl,l1,m1⟩:=h.base.val;obtain⟨P,L,rfl,l2,m2⟩:=h.Af.val;obtain⟨O,K,rfl,l3,m3⟩:=h.hooks.val;obtain⟨z,y,rfl,l4,m4⟩:=h.Aa.val;obtain⟨N,J,rfl,l5,m5⟩:=h.now.val;obtain⟨a6,c6,rfl,l6,Z⟩:=hl.val;have IX:=DJ;have s:YH w.heap.size w (w.alloc (.cells #[.slice Q c.base.length M,.slice P c.Af.length L,.slice O c.hooks.length K,.slice z c.Aa.length y,.slice N c.now.length J] 26)):=(Zh _ _).alloc (Zj _) _;by_cases t:l.length<c.Aa.length
 .go_enter Lp.func93,n93
  go_wp2;go_ret;exact⟨Bw (by rw[Ct,if_pos t]),s⟩
 by_cases A:c.Aa.length<l.length
 .go_enter Lp.func93,n93
  go_wp2;go_ret;exact⟨Bw (by rw[Ct,if_neg t,if_pos A]),s⟩
 have a:l.length=c.Aa.length:=by omega
 have x:Ct c l=Bc (λp:Int×Ay=>Fo p.2.low p.2.high p.1) (l.zip c.Aa):=by rw[Ct,if_neg t,if_neg A]
 have j:(l.zip c.Aa).length=l.length:=by simp[a]
 have B:=Zd x;have V:=Zd j;have W:=Zd a;clear x j a;go_enter Lp.func93,n93;go_wp2;go_loopg [5] l.length (λg i wr=>∃k:Nat,k<=l.length/\g=l.length - k/\i=.int .i64 k/\Bc (λp:Int×Ay=>Fo p.2.low p.2.high p.1) ((l.zip c.Aa).drop k)=Bc (λp:Int×Ay=>Fo p.2.low p.2.high p.1) (l.zip c.Aa)/\YH w.heap.size w wr/\wr.cell? ⟨w.heap.size,3,none⟩=some (.slice z c.Aa.length y))
 case atStart=>exact⟨0,Zp _,rfl,rfl,rfl,s,by simp⟩
 obtain⟨k,hk,rfl,rfl,E,d,G⟩:=hrel;have m:=Zd E;clear E;by_cases F:k<l.length
 .have C:k<c.Aa.length:=by have:=W.out;omega
  obtain⟨b,o,rfl,I,H⟩:=hl.at_ F;obtain⟨n,u,Y,X,rfl,D,T,U,_⟩:=h.Aa.at_ C;rw[<-d.cell (p:=⟨b,o+k,none⟩) (r b I)]at H;rw[<-d.cell (p:=⟨n,u+k*5,none⟩) (r n D)]at T;rw[<-d.cell (p:=⟨n,u+k*5+1,none⟩) (r n D)]at U;have v:=Zd (E_ (f:=λp:Int×Ay=>Fo p.2.low p.2.high p.1) (Ra F C));go_wp2;go_quiet (first|(go_at_call 66;refine Zb5 (acv _ _ _ _)))
  all_goals go_wp2
  .have q:AD (nth l k) (Aj c.Aa k).low (Aj c.Aa k).high=true:=by assumption
   go_ret;exact⟨Bw (by rw[B.out, <-m.out,v.out,Ws q];rfl),Y5 d _⟩
  have q:AD (nth l k) (Aj c.Aa k).low (Aj c.Aa k).high=false:=by assumption
  go_roundg (l.length - (k+1))
  case rel=>exact⟨k+1,by omega,rfl,by go_num,by rw[<-m.out,v.out,SK q];rfl,Y5 d _,by simpa using G⟩
  omega
 have R:=Zd (show Ct c l=0 by rw[B.out, <-m.out];exact FZ (by have:=V.out;omega));clear m;go_wp2;go_ret;exact⟨Bw R.out.symm,d⟩
def ag9:(Tryz.prog.info? 4).map (λi=>(i.zero,i.size,i.bytes))=some (some (.bool false),1,1):=by kernel_rfl
def ace (st:List Bool):Array Zf:=(st.map Value.bool).toArray
def adP (n:Nat)(e:n<=1000)(w:Zb):(Zdp 83 (.int .i64 n) (.int .i64 n)).run Lp w=.ok (.slice (some ⟨w.heap.size,0,none⟩) n n) (w.alloc (.cells (ace (List.replicate n false)) 4)):=by
 obtain⟨a,hi,b,d,c⟩:=zp ag9;have h:=run_make (P:=Lp) w 83 4 a (.bool false) (Cz Tryz.underlying83) (Dz hi) b .i64 .i64 n n (by omega) (Int.le_refl _) (by rw[c];omega) (by omega);rw[h,d];simp only[Int.toNat_natCast]
 congr 3
 unfold ace;apply Array.ext
 .simp[madeCells]
 intro i g f;simp[madeCells,Value.cells,Nat.mod_one]
def adQ (st:List Bool)(k:Nat):(ace st).setIfInBounds k (.bool true)=ace (st.set k true):=by
 unfold ace;simp
variable {st:List Bool}
def ac4 (h:k<st.length):(ace st)[k]?=some (.bool (st.getD k false)):=by
 unfold ace;simp[Y6,h]
def adl (h:k<l.length):aiJ (l.drop k) st=aiJ (l.drop (k+1)) (st.set (nth l k).toNat true):=by
 unfold aiJ;rw[ZO h,List.foldl_cons]
 congr 2
 simp[nth,h]
def adm {o:List (List Int)}(h:i<o.length):yn n i (o.drop i) st=yn n (i+1) (o.drop (i+1)) (if i=n\/st.getD i false=true then aiJ (o.getD i []) st else st):=by
 rw[ZO h];show yn n (i+1) (o.drop (i+1)) (if i=n\/st.getD i false=true then aiJ o[i] st else st)=_;rw[show o.getD i []=o[i] by simp[Y6,h]]
structure AbW (w:Zb)(x:Array Zf)(n:Nat)(st:List Bool)(wr:Zb):Prop where
 below:YH w.heap.size w wr
 box:wr.heap[w.heap.size]?=some (.cells x 26 (0,0))
 row:wr.heap[w.heap.size+1]?=some (.cells (ace st) 4 (0,0))
 len:st.length=n
def AbW.set {wr:Zb}{x:Array Zf}(h:AbW w x n st wr)(k:Nat):AbW w x n (st.set k true) (wr.setCell ⟨w.heap.size+1,k,none⟩ (.bool true)):=
 ⟨bS h.below (by omega),(AZ (by omega) _).trans h.box,by rw[Ba h.row _,adQ],by rw[ZcC];exact h.len⟩
def aj8 (h:RC S w v1 v2 v3 v4 v5 c)(Jw:JO c.Aa)(R:∀b,S b->b<w.heap.size):
  Calls Lp 39 #[.agg #[v1,v2,v3,v4,v5],.int .i64 n] w λe w'=>e=.returned (.slice (some ⟨w.heap.size+1,0,none⟩) c.Aa.length c.Aa.length)/\YH w.heap.size w w'/\w'.heap[w.heap.size+1]?=some (.cells (ace (abb c.Aa n)) 4 (0,0))/\(abb c.Aa n).length=c.Aa.length:=by
 obtain⟨M,I,rfl,l1,m1⟩:=h.base.val;obtain⟨L,H,rfl,l2,m2⟩:=h.Af.val;obtain⟨K,G,rfl,l3,m3⟩:=h.hooks.val;obtain⟨T,F,rfl,l4,m4⟩:=h.Aa.val;obtain⟨J,E,rfl,l5,m5⟩:=h.now.val;have IX:=DJ;have Jm:=Jw.few;have am:=λW=>adP c.Aa.length (by omega) W;have m:(aaB c.Aa).length=c.Aa.length:=by simp[aaB]
 have A:iV n (aaB c.Aa) c.Aa.length (List.replicate c.Aa.length false)=abb c.Aa n:=by unfold abb aiK;rw[m]
 have HF:=Zd A;have HO:=Zd m;clear A m;go_enter Lp.func118,aiD;go_wp2;go_loopg [6] c.Aa.length (λg i wr=>∃(r:Nat) (st:List Bool),r<=c.Aa.length/\g=c.Aa.length - r/\i=.int .i64 r/\iV n (aaB c.Aa) (c.Aa.length - r) st=abb c.Aa n/\AbW w #[.slice M c.base.length I,.slice L c.Af.length H,.slice K c.hooks.length G,.slice T c.Aa.length F,.slice J c.now.length E] c.Aa.length st wr)
 case atStart=>exact⟨0,_,Zp _,rfl,rfl,HF.out,⟨bA (bA (Zh _ _)),Bf (Bp _ _) _,by have:=Bp (w.alloc (.cells #[.slice M c.base.length I,.slice L c.Af.length H,.slice K c.hooks.length G,.slice T c.Aa.length F,.slice J c.now.length E] 26)) (.cells (ace (List.replicate c.Aa.length false)) 4);rwa[ZB]at this,by simp⟩⟩
 obtain⟨r,st,hr,rfl,rfl,y,v⟩:=hrel;have B_:=Zd y;clear y;have Y:=ch (i:=3) v.box rfl;by_cases Az:r<c.Aa.length
 .go_wp2
  go_loopg [7] c.Aa.length (λg i wx=>∃(j:Nat) (d:List Bool),j<=c.Aa.length/\g=c.Aa.length - j/\i=.int .i64 j/\yn n j ((aaB c.Aa).drop j) d=yn n 0 (aaB c.Aa) st/\AbW w #[.slice M c.base.length I,.slice L c.Af.length H,.slice K c.hooks.length G,.slice T c.Aa.length F,.slice J c.now.length E] c.Aa.length d wx)
  case atStart=>exact⟨0,st,Zp _,rfl,rfl,rfl,v⟩
  obtain⟨j,d,hj,rfl,rfl,B,s⟩:=hrel;have V:=Zd B;clear B;have Y:=ch (i:=3) s.box rfl;by_cases O:j<c.Aa.length
  .have t:=ch s.row (ac4 (k:=j) (by have:=s.len;omega))
   have lY:(aaB c.Aa).getD j []=(Aj c.Aa j).over:=by simp[aaB,Aj,Y6,O]
   have Z:=Zd (adm (n:=n) (i:=j) (o:=aaB c.Aa) (st:=d) (by have:=HO.out;omega));rcases(show j=n\/(¬j=n/\d.getD j false=true)\/¬j=n/\d.getD j false=false by
    by_cases e:j=n
    .exact .inl e
    cases e2:d.getD j false
    .exact .inr (.inr ⟨e,rfl⟩)
    exact .inr (.inl ⟨e,rfl⟩)) with hj1|⟨hj1,xK⟩|⟨hj1,xK⟩
   rotate_left 2
   .have BL:¬(j:Int)=n:=by omega
    rw[xK]at t;go_wp2;go_roundg (c.Aa.length - (j+1))
    case rel=>exact⟨j+1,d,by omega,rfl,by go_num,by rw[<-V.out,Z.out,if_neg (λx=>x.elim hj1 (by rw[xK];decide))],s⟩
    omega
   case' inl=>
    subst hj1;go_wp2;have HC:=Zd (show j=j\/d.getD j false=true from .inl rfl)
   case' inr.inl=>
    have BL:¬(j:Int)=n:=by omega
    have HC:=Zd (show j=n\/d.getD j false=true from .inr xK);rw[xK]at t;clear hj1 xK;go_wp2;clear BL
   all_goals
    obtain⟨b,o,v2,v3,ea,hb,_,_,_,U,_,_,Q⟩:=h.Aa.at_ O;subst ea;obtain⟨a7,c7,rfl,l7,m7⟩:=Q.val;obtain⟨a,C⟩:∃a,a=(Aj c.Aa j).over:=⟨_,rfl⟩;have rU:∀k,k<a.length->0<=nth a k/\nth a k<c.Aa.length:=by rw[C];exact Jw.over j O
    have HV:=Zd C;rw[<-C]at U Q l7;clear C;rw[<-s.below.cell (p:=⟨b,o+j*5+3,none⟩) (R b hb)]at U;go_loopg [8] a.length (λg i X=>∃(k:Nat) (l:List Bool),k<=a.length/\g=a.length - k/\i=.int .i64 k/\aiJ (a.drop k) l=aiJ a d/\YH w.heap.size wr X/\AbW w #[.slice M c.base.length I,.slice L c.Af.length H,.slice K c.hooks.length G,.slice (some ⟨b,o,none⟩) c.Aa.length F,.slice J c.now.length E] c.Aa.length l X)
    case atStart=>exact⟨0,d,Zp _,rfl,rfl,rfl,Zh _ _,s⟩
    obtain⟨k,l,hk,rfl,rfl,B,U5,f⟩:=hrel;have et:=Zd B;clear B;have Y:=ch (i:=3) f.box rfl;rw[<-U5.cell (p:=⟨b,o+j*5+3,none⟩) (R b hb)]at U;by_cases q:k<a.length
    .obtain⟨b7,o7,rfl,U3,u⟩:=Q.at_ q
     have z:=rU k q;obtain⟨x,P⟩:∃x:Nat,nth a k=x:=⟨_,(Int.toNat_of_nonneg z.1).symm⟩;have D:=adl (st:=l) q;rw[P]at u z D;rw[Int.toNat_natCast]at D;have HD:=Zd D;have HX:=Zd P;clear D P;have ai:x<c.Aa.length:=by omega
     rw[<-f.below.cell (p:=⟨b7,o7+k,none⟩) (R b7 U3)]at u;have kx:=ch f.row (ac4 (k:=x) (by have:=f.len;omega));have fx:=cf (i:=x) f.row;go_wp2;go_roundg (a.length - (k+1))
     case rel=>exact⟨k+1,l.set x true,by omega,rfl,by go_num,by rw[<-et.out,HD.out],U5.setCell (p:=⟨w.heap.size+1,x,none⟩) (Nat.le_succ _) _,f.set x⟩
     omega
    go_wp2;have N:=et.out;rw[Z7.2 (show a.length<=k by omega)]at N;have N:l=aiJ a d:=N;go_roundg (c.Aa.length - (j+1))
    case rel=>exact⟨j+1,l,by omega,rfl,by go_num,by rw[<-V.out,Z.out,if_pos HC.out,lY, <-HV.out,N],f⟩
    omega
  go_wp2;go_roundg (c.Aa.length - (r+1))
  case rel=>exact⟨r+1,d,by omega,rfl,by go_num,by rw[<-B_.out,show c.Aa.length - r=(c.Aa.length - (r+1))+1 by omega];show _=iV n _ _ (yn n 0 _ st);rw[<-V.out,Z7.2 (by have:=HO.out;omega)];rfl,s⟩
  omega
 go_wp2;go_ret;have hz:c.Aa.length - r=0:=by omega
 have e:=B_.out;rw[hz]at e;have e':st=abb c.Aa n:=e;exact⟨rfl,v.below,by rw[<-e'];exact v.row,by rw[<-e'];exact v.len⟩
def ad6 (f:JP c=0):∀s∈c.Aa,s.over.Pairwise (· < ·)/\∀x∈s.over,0<=x/\x<c.Aa.length:=λs d=>by
 obtain⟨k,a,e⟩:=Zas d;have h:=Gs f k s (by rw[zf a,e]);rw[zN]at h;unfold EF at h;have b:=(Bj (Bj (Bj (Bj h).2).2).2).1;have g:Aj c.Aa k=s:=by
  have:=Db a;rw[zf a,e]at this;exact(ZW this).symm
 rw[g]at b;exact adM b
def adR (d:Di c.Aa.length 3=0)(b:JP c=0)(hi:i<c.Aa.length)(a:k<c.Aa.length):(abb c.Aa i).getD k false=hasB (Ax c.Aa i) k:=
 adA (by have:=(JQ d).2;omega) (ad6 b) hi a
def aeV {l:List Ay}(a:k<l.length)(h:hasB (Ax l k) k=true):H0 l=false:=ks a (by rw[h];rfl)
def af1 {l:List Ay}(h:∀k,k<l.length->hasB (Ax l k) k=false):H0 l=true:=by
 unfold H0;rw[Zdm];intro k a;rw[h k (List.mem_range.1 a)]
 rfl
def c50 (h:RC S w v1 v2 v3 v4 v5 c)(A:∀b,S b->b<w.heap.size):Calls Lp 14 #[.agg #[v1,v2,v3,v4,v5]] w λe w'=>e=.returned (.int .i64 (BN c))/\YH w.heap.size w w':=by
 obtain⟨L,F,rfl,l1,m1⟩:=h.base.val;obtain⟨K,E,rfl,l2,m2⟩:=h.Af.val;obtain⟨J,D,rfl,l3,m3⟩:=h.hooks.val;obtain⟨I,C,rfl,l4,m4⟩:=h.Aa.val;obtain⟨H,B,rfl,l5,m5⟩:=h.now.val;have IX:=DJ;obtain⟨xs,be⟩:∃xs:Array Zf,xs= #[.slice L c.base.length F,.slice K c.Af.length E,.slice J c.hooks.length D,.slice I c.Aa.length C,.slice H c.now.length B]:=⟨_,rfl⟩;have N:=Zd (show BN c=PM (Dq c) (PM (Di c.Aa.length 3) (PM (JP c) (if H0 c.Aa=true then Ct c c.now else 9))) from rfl);have X:=Zd (λW (l:YH w.heap.size w W)=>aj2 (h.later l) (A3 A l));have V:=Zd (λW (l:YH w.heap.size w W) n (hn:n<c.Aa.length)=>aj7 (h.later l) hn (A3 A l));have U:=Zd (λW (l:YH w.heap.size w W) n (M:JO c.Aa)=>aj8 (n:=n) (h.later l) M (A3 A l));have an:=Zd (λW (l:YH w.heap.size w W)=>c93 (h.later l) (h.later l).now (A3 A l));go_enter Lp.func50,n50;go_wp2_with (first|(go_at_call 36;refine(X.out _ (bA (Zh _ _))).mono ?_;rintro e W1 ⟨rfl,Bg⟩;(have P:=(Bg.block _ (by rw[ZB];exact Nat.lt_succ_self _)).trans (Bp w (.cells #[.slice L c.base.length F,.slice K c.Af.length E,.slice J c.hooks.length D,.slice I c.Aa.length C,.slice H c.now.length B] 26)));(have Y:YH w.heap.size w W1:=(bA (Zh _ _)).trans (Bg.mono (by rw[ZB];omega)));(have y:=ch (i:=3) P rfl);(have x:=ch (i:=4) P rfl))|(go_at_call 37;refine(aff _ _ _).mono ?_;rintro e w' ⟨rfl,O⟩;have O:=O.symm;subst O))
 .have q:(Dq c !=0)=true:=by assumption
  go_ret;exact⟨Bw (by rw[N.out,K4 (Gr q)]),Y⟩
 .have q:(Dq c !=0)=false:=by assumption
  have p:(Di c.Aa.length 3 !=0)=true:=by assumption
  go_ret;exact⟨Bw (by rw[N.out,BR (FE q),K4 (Gr p)]),Y⟩
 rename (Dq c !=0)=false=>q
 rename (Di _ _ !=0)=false=>p
 have Z:=Zd (SQ (FE p));have mG:=Zd (fun(h2:JP c=0) i k=>adR (c:=c) (i:=i) (k:=k) (FE p) h2);have um:=Zd (show BN c=PM (JP c) (if H0 c.Aa=true then Ct c c.now else 9) by rw[N.out,BR (FE q),BR (FE p)]);have Q1:=Zd q;have Q2:=Zd p;clear q p Bg y x N;go_loopg [5] c.Aa.length (λg i wr=>∃k:Nat,k<=c.Aa.length/\g=c.Aa.length - k/\i=.int .i64 k/\CY (λi _=>EF c i) k (c.Aa.drop k)=JP c/\YH w.heap.size w wr/\wr.heap[w.heap.size]?=some (.cells #[.slice L c.base.length F,.slice K c.Af.length E,.slice J c.hooks.length D,.slice I c.Aa.length C,.slice H c.now.length B] 26 (0,0)))
 case atStart=>exact⟨0,Zp _,rfl,rfl,rfl,Y,P⟩
 obtain⟨k,hk,rfl,rfl,CP,d,a⟩:=hrel;have z:=Zd CP;clear CP;have k0:=ch (i:=0) a rfl;have k1:=ch (i:=1) a rfl;have k2:=ch (i:=2) a rfl;have y:=ch (i:=3) a rfl;have x:=ch (i:=4) a rfl;have Q:=(Za.1 a).1;by_cases u:k<c.Aa.length
 .have hd:=Zd (K5 (f:=λi _=>EF c i) (Db u))
  go_wp2_with (go_at_call 38;refine(V.out _ d _ u).mono ?_;rintro e w2 ⟨rfl,m⟩)
  .have o:(EF c k !=0)=true:=by assumption
   have t:JP c=EF c k:=by rw[<-z.out,hd.out,if_neg (Gr o)]
   go_ret;exact⟨Bw (by rw[um.out,t,K4 (Gr o)]),d.trans (m.mono d.size)⟩
  have o:(EF c k !=0)=false:=by assumption
  go_roundg (c.Aa.length - (k+1))
  case rel=>exact⟨k+1,by omega,rfl,by go_num,by rw[<-z.out,hd.out,if_pos (FE o)],d.trans (m.mono d.size),(m.block _ Q).trans a⟩
  omega
 have t:JP c=0:=by rw[<-z.out];exact MN (by omega)
 have M:=Z.out t;have HA:=Zd (mG.out t);have xq:=Zd (show BN c=(if H0 c.Aa=true then Ct c c.now else 9) by rw[um.out,BR t]);have HK:=Zd M;clear z t M;go_wp2;go_loopg [7] c.Aa.length (λg i wx=>∃k:Nat,k<=c.Aa.length/\g=c.Aa.length - k/\i=.int .i64 k/\(∀j,j<k->hasB (Ax c.Aa j) j=false)/\YH w.heap.size w wx/\wx.heap[w.heap.size]?=some (.cells #[.slice L c.base.length F,.slice K c.Af.length E,.slice J c.hooks.length D,.slice I c.Aa.length C,.slice H c.now.length B] 26 (0,0)))
 case atStart=>exact⟨0,Zp _,rfl,rfl,λj T=>absurd T (ZbY _),d,a⟩
 obtain⟨k,hk,rfl,rfl,tE,d,a⟩:=hrel;have R:=Zd tE;clear tE k0 k1 k2 y x;have k0:=ch (i:=0) a rfl;have k1:=ch (i:=1) a rfl;have k2:=ch (i:=2) a rfl;have y:=ch (i:=3) a rfl;have x:=ch (i:=4) a rfl;have Q:=(Za.1 a).1;by_cases u:k<c.Aa.length
 .have r:=HA.out k k u u
  obtain⟨G,s⟩:∃G,G=hasB (Ax c.Aa k) k:=⟨_,rfl⟩;rw[<-s]at r;have v:=Zd s;have ai:=Zd r;clear s r;go_wp2_with (go_at_call 39;refine(U.out _ d k HK.out).mono ?_;rintro e w2 ⟨rfl,m,Ci,ap⟩;have kx:=ch Ci (ac4 (k:=k) (by omega));rw[ai.out]at kx)
  .have o:G=true:=by assumption
   go_ret;exact⟨Bw (by rw[xq.out,if_neg (by rw[aeV u (v.out.symm.trans o)];decide)]),d.trans (m.mono d.size)⟩
  have o:G=false:=by assumption
  go_roundg (c.Aa.length - (k+1))
  case rel=>exact⟨k+1,by omega,rfl,by go_num,λj T=>by
   by_cases e:j=k
   .rw[e];exact v.out.symm.trans o
   exact R.out j (by omega),d.trans (m.mono d.size),(m.block _ Q).trans a⟩
  omega
 have am:=Zd (show BN c=Ct c c.now by rw[xq.out,if_pos (af1 λj T=>R.out j (by omega))]);clear R;go_wp2_with (go_at_call 40;refine(an.out _ d).mono ?_;rintro e w2 ⟨rfl,m⟩);go_ret;exact⟨Bw am.out.symm,d.trans (m.mono d.size)⟩
def ajh (h:RC S w v1 v2 v3 v4 v5 c)(hl:SI S w v6 l)(m:∀b,S b->b<w.heap.size):Calls Lp 33 #[.agg #[v1,v2,v3,v4,v5],v6] w λe w'=>e=.returned (.int .i64 (Ca c l))/\YH w.heap.size w w':=by
 obtain⟨z,t,rfl,M,G⟩:=h.base.val;obtain⟨y,s,rfl,L,F⟩:=h.Af.val;obtain⟨x,r,rfl,K,E⟩:=h.hooks.val;obtain⟨v,q,rfl,J,D⟩:=h.Aa.val;obtain⟨u,p,rfl,I,C⟩:=h.now.val;obtain⟨T,R,rfl,H,B⟩:=hl.val;have U:=DJ;have n:=Zd (show Ca c l=PM (BN c) (Ct c l) from rfl);have k:=Zd (λW (a:YH w.heap.size w W)=>c50 (h.later a) (A3 m a));have j:=Zd (λW (a:YH w.heap.size w W)=>c93 (h.later a) (hl.later a) (A3 m a));go_enter Lp.func114,aih;go_wp2_with (first|(go_at_call 14;refine(k.out _ (bA (Zh _ _))).mono ?_;rintro e W1 ⟨rfl,o⟩;(have d:=(o.block _ (by rw[ZB];exact Nat.lt_succ_self _)).trans (Bp w (.cells #[.slice z c.base.length t,.slice y c.Af.length s,.slice x c.hooks.length r,.slice v c.Aa.length q,.slice u c.now.length p] 26)));(have f:YH w.heap.size w W1:=(bA (Zh _ _)).trans (o.mono (by rw[ZB];omega)));(have Q:=ch (i:=0) d rfl);(have k1:=ch (i:=1) d rfl);(have P:=ch (i:=2) d rfl);(have O:=ch (i:=3) d rfl);(have N:=ch (i:=4) d rfl))|(go_at_call 40;refine(j.out _ f).mono ?_;rintro e w' ⟨rfl,A⟩))
 .have g:(BN c !=0)=true:=by assumption
  go_ret;exact⟨Bw (by rw[n.out,K4 (Gr g)]),f⟩
 have g:(BN c !=0)=false:=by assumption
 go_ret;exact⟨Bw (by rw[n.out,BR (FE g)]),f.trans (A.mono f.size)⟩
def aji (h:RC S w v1 v2 v3 v4 v5 c)(H:Fq c)(hl:SI S w v6 l)(hn:l.length<=c.Aa.length)(hb:∀i,i<l.length->-2<=nth l i/\nth l i<=2)(K:∀b,S b->b<w.heap.size):
  Calls Lp 34 #[.agg #[v1,v2,v3,v4,v5],v6] w λe w'=>∃u,e=.returned u/\YH w.heap.size w w'/\SI (Cb w.heap.size w') w' u (Cc c l):=by
 obtain⟨a1,s,rfl,l1,m1⟩:=h.base.val;obtain⟨D,A,rfl,l2,m2⟩:=h.Af.val;obtain⟨C,z,rfl,l3,m3⟩:=h.hooks.val;obtain⟨F,f,rfl,l4,m4⟩:=h.Aa.val;obtain⟨B,t,rfl,l5,m5⟩:=h.now.val;obtain⟨a6,c6,rfl,l6,m6⟩:=hl.val;have IX:=DJ;obtain⟨tN,lZ⟩:=H.Fp;have HM:=Zd (show measure c l=Iw (λj=>nth c.base j) (l.zip c.Aa) from rfl);have Bg:YH w.heap.size w (w.alloc (.cells #[.slice a1 c.base.length s,.slice D c.Af.length A,.slice C c.hooks.length z,.slice F c.Aa.length f,.slice B c.now.length t] 26)):=bA (Zh _ _);have am:=MP H;have bV:=Zd (lC c.base);obtain⟨i0,hi,Fl,DR,EB⟩:=zp KY;have hu:=Cz YE;obtain⟨d,rfl⟩:∃d,a1=some d:=by
  obtain⟨b,o,e,_⟩:=h.base.at_ (i:=0) (by omega);exact⟨_,e⟩
 obtain⟨G,Qa,hR,hc⟩:=Sl.row h.base (by decide) d rfl;have h1:=row_one (by decide) Qa hR pJ;have HC:=Zd hc;have uz:=kY (R:=Ri) Qa hR;clear hc hR;have yd:(((w.alloc (.cells #[.slice (some d) c.base.length s,.slice D c.Af.length A,.slice C c.hooks.length z,.slice F c.Aa.length f,.slice B c.now.length t] 26)).alloc (.cells #[] 3)).ownsRow (w.heap.size+1) 3 1 (.slice (some ⟨w.heap.size+1,0,none⟩) 0 0) 0 []):=by
  have:=YC (base:=w.heap.size+1) (e:=3) (size:=1) (w.alloc (.cells #[.slice (some d) c.base.length s,.slice D c.Af.length A,.slice C c.hooks.length z,.slice F c.Aa.length f,.slice B c.now.length t] 26)) #[] 0 (by rw[ZB];exact Zj _) (Zp _) rfl;rwa[ZB]at this
 have HX:=Zd (show((w.alloc (.cells #[.slice (some d) c.base.length s,.slice D c.Af.length A,.slice C c.hooks.length z,.slice F c.Aa.length f,.slice B c.now.length t] 26)).alloc (.cells #[] 3)).heap[w.heap.size]?=some (.cells #[.slice (some d) c.base.length s,.slice D c.Af.length A,.slice C c.hooks.length z,.slice F c.Aa.length f,.slice B c.now.length t] 26 (0,0)) from Bf (Bp _ _) _);go_enter Lp.func115,aii;go_wp2_with (at_builtin;refine Yc _ rfl _ _ 22 rfl (w.heap.size+1) 3 i0 (.int .i64 0) 1 8 hu (Dz hi) Fl DR EB rfl (by decide) _ 0 [] rfl yd d c.base.length s G rfl Qa (λj u hj=>ca (ca (HC.out j u hj) _) _) h1 (by unfold maxLen;omega) (by omega) (by simp) ?_;intro v' w1 V AG U);have De:YH w.heap.size w w1:=Bm (bA (bA (Zh _ _))) AG (λk hk=>by cases hk;exact Nat.le_succ _) (by simp;omega);rw[zN,zP,uz]at V;obtain⟨g,cap,bi,rfl,J,_⟩:=Own.val (l:=c.base) V (by omega);have ap:MG w #[.slice (some d) c.base.length s,.slice D c.Af.length A,.slice C c.hooks.length z,.slice F c.Aa.length f,.slice B c.now.length t] (.slice (some ⟨g,0,none⟩) c.base.length cap) c.base.length (λj=>nth c.base j) w1:=by
  refine⟨De,?_,?_⟩
  .exact(AG.block w.heap.size (by simp;omega) (λe=>by have:=ZW (show some w.heap.size=some (w.heap.size+1) from e);omega)).trans HX.out
  rw[<-bV.out];exact V
 clear V AG U J;go_loopg [6] l.length (λgg i wr=>∃(k:Nat) (m:Nat->Int),k<=l.length/\gg=l.length - k/\i=.int .i64 k/\Iw m ((l.zip c.Aa).drop k)=measure c l/\(∀j,-(60+16*k)<=m j/\m j<=60+16*k)/\MG w #[.slice (some d) c.base.length s,.slice D c.Af.length A,.slice C c.hooks.length z,.slice F c.Aa.length f,.slice B c.now.length t] (.slice (some ⟨g,0,none⟩) c.base.length cap) c.base.length m wr)
 case atStart=>exact⟨0,_,Zp _,rfl,rfl,rfl,λj=>by have:=am j;omega,ap⟩
 obtain⟨k,m,hk,rfl,rfl,M,ai,L⟩:=hrel;have hf:=Zd M;clear M;by_cases Az:k<l.length
 .have T:k<c.Aa.length:=by omega
  have Y:=hb k Az;have hd:=Zd (SR (m:=m) Az T);obtain⟨b6,o6,rfl,Xj,xu⟩:=hl.at_ Az;obtain⟨b,o,s2,s3,rfl,UQ,ER,MM,LO,et,mi,hp,ho⟩:=h.Aa.at_ (i:=k) T;obtain⟨a7,c7,rfl,l7,m7⟩:=hp.val;clear ER MM et mi;have Xa:=H.pull k T;have Z:=H.Ap k T;have Jm:=H.few;obtain⟨n,U⟩:∃n,n=nth l k:=⟨_,rfl⟩;rw[<-U]at xu Y hd;clear U;obtain⟨a,lP⟩:∃a,a=(Aj c.Aa k).Ap:=⟨_,rfl⟩;rw[<-lP]at LO hp l7 Xa Z hd;clear lP;have TB:(k:Int)<(l.length:Int):=by omega
  have dl:(k:Int)<(c.Aa.length:Int):=by omega
  have bv:=(L.below.cell (p:=⟨b,o+k*5+2,none⟩) (K b UQ)).trans LO;have be:=ch (i:=3) L.box (v:=.slice (some ⟨b,o,none⟩) c.Aa.length f) rfl;go_wp2;clear bv be;go_loopg [8] a.length (λgg i wx=>∃(j:Nat) (r:Nat->Int),j<=a.length/\gg=a.length - j/\i=.int .i64 j/\CZ r n (a.drop j)=CZ m n a/\(∀i,-(60+16*(k:Int)+8*j)<=r i/\r i<=60+16*(k:Int)+8*j)/\MG w #[.slice (some d) c.base.length s,.slice D c.Af.length A,.slice C c.hooks.length z,.slice (some ⟨b,o,none⟩) c.Aa.length f,.slice B c.now.length t] (.slice (some ⟨g,0,none⟩) c.base.length cap) c.base.length r wx)
  case atStart=>exact⟨0,m,Zp _,rfl,rfl,rfl,λi=>by have:=ai i;omega,L⟩
  obtain⟨j,r,hj,rfl,rfl,M,eA,E⟩:=hrel;have MK:=Zd M;clear M;have du:=(E.below.cell (p:=⟨b,o+k*5+2,none⟩) (K b UQ)).trans LO;have g3:=ch (i:=3) E.box (v:=.slice (some ⟨b,o,none⟩) c.Aa.length f) rfl;by_cases G4:j<a.length
  .obtain⟨Q,o7,rfl,U3,X,W⟩:=hp.at_ G4
   rw[<-E.below.cell (p:=⟨Q,o7+j*2,none⟩) (K Q U3)]at X;rw[<-E.below.cell (p:=⟨Q,o7+j*2+1,none⟩) (K Q U3)]at W;have ed:=(E.below.cell (p:=⟨b6,o6+k,none⟩) (K b6 Xj)).trans xu;have I:=Zd (PO (m:=r) (n:=n) G4);obtain⟨Oo,MF,P,O⟩:=Xa j G4;obtain⟨q,hq⟩:∃q,q=BV a j:=⟨_,rfl⟩;rw[<-hq]at X W I Oo MF P O;clear hq;obtain⟨x',y⟩:=q;obtain⟨x,rfl⟩:∃x:Nat,x'=x:=⟨x'.toNat,by simp only at Oo;omega⟩;dsimp only at X W Oo MF P O;have xy:x<c.base.length:=by omega
   have b8:(x:Int)<(c.base.length:Int):=by omega
   have ct:(0:Int)<=(x:Int):=by omega
   have fd:(0:Int)<=(k:Int):=by omega
   have LZ:(j:Int)<(a.length:Int):=by omega
   have ck:(0:Int)<=(j:Int):=by omega
   have b9:=prod_bound ⟨P,O⟩ Y;have ci:=eA x;obtain⟨J,bi,Xg,Ox⟩:=E.row xy;have r0:wr.cell? ⟨g,x,none⟩=some (.int .i64 (r x)):=ch Xg Ox;have rf:=cf (i:=x) Xg;go_wp2;go_still_tail 26,(by kernel_rfl);change wpList _ _ _ _ _ wr.drew;have an:=(E.later (Zh _ _).drew).set xy n y;go_wp2;go_roundg (a.length - (j+1))
   case rel=>exact⟨j+1,K7 r n ((x:Int),y),by omega,rfl,by go_num,by rw[<-MK.out,I.out],λi=>by have:=MO (N:=60+16*(k:Int)+8*j) (p:=((x:Int),y)) eA ⟨P,O⟩ Y i;omega,an⟩
   omega
  have e2:r=CZ m n a:=by rw[<-MK.out,Z7.2 (by omega)];rfl
  subst e2;go_wp2;go_roundg (l.length - (k+1))
  case rel=>exact⟨k+1,_,by omega,rfl,by go_num,by rw[<-hf.out,hd.out],λi=>by have:=eA i;have:(j:Int)<=2:=(by omega);omega,E⟩
  omega
 have e1:m=measure c l:=by rw[<-hf.out,Z7.2 (by simp;omega)];rfl
 subst e1;have hs:=L.own.si;rw[show Qr c.base.length (measure c l)=Cc c l from rfl]at hs;have Lc:=L.below;go_wp2;go_ret;exact⟨_,rfl,Lc,Sl.imp hs (λx (hx:Cb (w.heap.size+1) wr x)=>⟨by have:=hx.1;omega,hx.2⟩) (λ_ _ x=>x)⟩
def c48 (h:RC S w v1 v2 v3 v4 v5 c)(hl:SI S w v6 l)(t:∀b,S b->b<w.heap.size):
  Calls Lp 12 #[.agg #[v1,v2,v3,v4,v5],v6] w (iy w (JX c l) (Ca c l)):=by
 obtain⟨I,D,rfl,Z,R⟩:=h.base.val;obtain⟨H,C,rfl,Y,Q⟩:=h.Af.val;obtain⟨G,B,rfl,X,P⟩:=h.hooks.val;obtain⟨F,A,rfl,V,O⟩:=h.Aa.val;obtain⟨E,z,rfl,U,N⟩:=h.now.val;obtain⟨a6,c6,rfl,T,M⟩:=hl.val;have IX:=DJ;have d:=Zd (λW (f:YH w.heap.size w W)=>ajh (h.later f) (hl.later f) (A3 t f));by_cases a:Ca c l=0
 .have y:BN c=0:=(Bj a).1
  have n:=EG y;have r:Ct c l=0:=(Bj a).2;obtain⟨v,_⟩:=Fb r;have o:=Zd (λW (f:YH w.heap.size w W)=>aji (h.later f) n (hl.later f) (ZcS v) (S0 n r) (A3 t f));have q:=Zd (show JX c l=Cc c l from if_pos a);have p:=Zd a;rw[a]at d;clear r v y n;clear a;go_enter Lp.func48,n48;go_wp2_with (first|(go_at_call 33;refine(d.out _ (bA (Zh _ _))).mono ?_;rintro e W1 ⟨rfl,m⟩;(have j:=(m.block _ (by rw[ZB];exact Nat.lt_succ_self _)).trans (Bp w (.cells #[.slice I c.base.length D,.slice H c.Af.length C,.slice G c.hooks.length B,.slice F c.Aa.length A,.slice E c.now.length z] 26)));(have g:YH w.heap.size w W1:=(bA (Zh _ _)).trans (m.mono (by rw[ZB];omega)));(have k0:=ch (i:=0) j rfl);(have k1:=ch (i:=1) j rfl);(have k2:=ch (i:=2) j rfl);(have k3:=ch (i:=3) j rfl);(have k4:=ch (i:=4) j rfl))|(go_at_call 34;refine(o.out _ g).mono ?_;rintro e w' ⟨u,rfl,J,s⟩;obtain⟨L,K,rfl,_⟩:=s.val));refine ZN (results_tmp2 rfl _ _ _) rfl ?_;refine⟨_,by rw[p.out];rfl,g.trans (J.mono g.size),?_⟩;rw[q.out];exact Sl.imp s (λx k=>⟨by have:=k.1;have:=g.size;omega,k.2⟩) λ_ _ x=>x
 have q:=Zd (show JX c l=[] from if_neg a);obtain⟨x,k⟩:∃x,x=Ca c l:=⟨_,rfl⟩;rw[<-k]at d⊢a;clear k;have BL:(x !=0)=true:=by simpa using a
 go_enter Lp.func48,n48;go_wp2_with (go_at_call 33;refine(d.out _ (bA (Zh _ _))).mono ?_;rintro e W1 ⟨rfl,m⟩;(have g:YH w.heap.size w W1:=(bA (Zh _ _)).trans (m.mono (by rw[ZB];omega))));refine ZN (results_tmp2 rfl _ _ _) rfl ?_;refine⟨_,rfl,g,?_⟩;rw[q.out];exact WC
structure aaZ (c:A_):Prop where
 base:c.base.length<=20
 Af:c.Af.length<=20
 hooks:c.hooks.length<=20
 Aa:c.Aa.length<=20
 now:c.now.length<=20
 part:∀i,i<c.Aa.length->(Aj c.Aa i).Ap.length<=20/\(Aj c.Aa i).over.length<=20
def ad7 (w:Zb)(c:A_)(e:Ending)(w':Zb):Prop:=∃b,e=.returned (.bool b)/\(b=false->aaZ c)/\YH w.heap.size w w'
def ad7.yes (h:YH w.heap.size w w'):ad7 w c (.returned (.bool true)) w':=⟨true,rfl,(λx=>by cases x),h⟩
def c25 (h:RC S w v1 v2 v3 v4 v5 c)(q:∀b,S b->b<w.heap.size):
  Calls Lp 4 #[.agg #[v1,v2,v3,v4,v5]] w (ad7 w c):=by
 obtain⟨C,x,rfl,l1,W⟩:=h.base.val;obtain⟨B,v,rfl,l2,V⟩:=h.Af.val;obtain⟨A,u,rfl,l3,U⟩:=h.hooks.val;obtain⟨z,t,rfl,l4,T⟩:=h.Aa.val;obtain⟨y,s,rfl,Z,R⟩:=h.now.val;have IX:=DJ;obtain⟨W1,a⟩:∃W1,W1=w.alloc (.cells #[.slice C c.base.length x,.slice B c.Af.length v,.slice A c.hooks.length u,.slice z c.Aa.length t,.slice y c.now.length s] 26):=⟨_,rfl⟩;have l:YH w.heap.size w W1:=by rw[a];exact bA (Zh _ _)
 have d:W1.heap[w.heap.size]?=some (.cells #[.slice C c.base.length x,.slice B c.Af.length v,.slice A c.hooks.length u,.slice z c.Aa.length t,.slice y c.now.length s] 26 (0,0)):=by rw[a];exact Bp _ _
 have H:=ch (i:=0) d rfl;have k1:=ch (i:=1) d rfl;have G:=ch (i:=2) d rfl;have F:=ch (i:=3) d rfl;have E:=ch (i:=4) d rfl;by_cases r:20<c.base.length\/20<c.Af.length\/20<c.hooks.length\/20<c.Aa.length\/20<c.now.length
 .go_enter Lp.func25,n25
  clear H k1 G F E;go_wp2
  all_goals first
   |(exfalso;omega)
   |skip
  all_goals
   go_ret;exact ad7.yes (bA (Zh _ _))
 have g1:¬20<(c.base.length:Int):=by omega
 have g2:¬20<(c.Af.length:Int):=by omega
 have g3:¬20<(c.hooks.length:Int):=by omega
 have g4:¬20<(c.Aa.length:Int):=by omega
 have g5:¬20<(c.now.length:Int):=by omega
 have N:=Zd r;clear r;go_enter Lp.func25,n25;have L:=l;rw[a]at L;go_wp2;go_loopg [3] c.Aa.length (λg i wr=>∃k:Nat,k<=c.Aa.length/\g=c.Aa.length - k/\i=.int .i64 k/\(∀j,j<k->(Aj c.Aa j).Ap.length<=20/\(Aj c.Aa j).over.length<=20)/\wr=W1)
 case atStart=>exact⟨0,Zp _,rfl,rfl,λj m=>absurd m (ZbY _),a.symm⟩
 obtain⟨k,hk,rfl,rfl,f,rfl⟩:=hrel;have D:=Zd f;clear f;by_cases O:k<c.Aa.length
 .obtain⟨b,o,v2,v3,rfl,n,_,_,K,M,_,I,J⟩:=h.Aa.at_ O
  obtain⟨a6,c6,rfl,Y,Q⟩:=I.val;obtain⟨a7,c7,rfl,X,P⟩:=J.val;rw[<-l.cell (p:=⟨b,o+k*5+2,none⟩) (q b n)]at K;rw[<-l.cell (p:=⟨b,o+k*5+3,none⟩) (q b n)]at M;clear a;by_cases h6:20<(Aj c.Aa k).Ap.length\/20<(Aj c.Aa k).over.length
  .go_wp2
   all_goals first
    |(exfalso;omega)
    |skip
   all_goals
    go_ret;exact ad7.yes l
  have g6:¬20<((Aj c.Aa k).Ap.length:Int):=by omega
  have g7:¬20<((Aj c.Aa k).over.length:Int):=by omega
  go_wp2;go_roundg (c.Aa.length - (k+1))
  case rel=>exact⟨k+1,by omega,rfl,by go_num,λj m=>by
   by_cases e:j=k
   .rw[e];omega
   exact D.out j (by omega),rfl⟩
  omega
 clear a;go_wp2;go_ret;have:=N.out;exact⟨false,rfl,λ_=>⟨by omega,by omega,by omega,by omega,by omega,λi hi=>D.out i (by omega)⟩,l⟩
def Dis (u v:Zf):Prop:=∀g,u.ownBlock=some g->v.ownBlock=some g->False
variable {xs:List Zf}
def ac6 {base:Nat}(h:A.ownsRow base e k v n xs):∀g,v.ownBlock=some g->g<A.heap.size:=λg a=>by
 obtain⟨_,b,h⟩:=J3 h g a;exact(Za.1 h).1
def acL {base n' k':Nat}{e':Zs}{a:List Zf}(h:A.ownsRow base e k v n xs)(c:B.ownsRow A.heap.size e' k' v' n' a):Dis v v':=λg b d=>by
 have i:=ac6 h g b;have f:=(J3 c g d).1;omega
variable {args cs:Array Zf}
def aaC {base:Nat}{t:Zs}(h:A.ownsRow base e k v n xs)(d:Ak (λx=>x=q) A B)(b:A.heap[q]?=some (.cells cs t (0,0)))(c:e≠t):B.ownsRow base e k v n xs:=
 Fc h d λx g a f=>by
  subst f;rw[b]at a;cases a;exact c rfl
def abU {base:Nat}{u:Zf}(h:A.ownsRow base e k v n xs)(d:Ak (λx=>u.ownBlock=some x) A B)(a:∀g,u.ownBlock=some g->∃cs,A.heap[g]?=some (.cells cs 46 (0,0)))(c:e≠46):B.ownsRow base e k v n xs:=
 Fc h d λx i b f=>by
  obtain⟨cs,a⟩:=a x f;rw[a]at b;cases b;exact c rfl
def aaE {base a:Nat}(h:A.ownsRow base e k v n xs)(d:a<=base):A.ownsRow a e k v n xs:=by
 refine⟨h.1,?_⟩;rcases h.2 with b|⟨g,cap,c,b,i,f⟩
 .exact .inl b
 exact .inr ⟨g,cap,c,b,Zr d i,f⟩
structure CSp (n M:Nat)(w:Zb)(u1 u2 u3 u4 u5:Zf)(c:A_):Prop where
 base:Own w n u1 c.base
 Af:Ih w n u2 c.Af 66
 hooks:Own w n u3 c.hooks
 now:Own w n u5 c.now
 row:En M w M u4 c.Aa
 le:n<=M
 l1:∀g,u1.ownBlock=some g->g<M
 l2:∀g,u2.ownBlock=some g->g<M
 l3:∀g,u3.ownBlock=some g->g<M
 l5:∀g,u5.ownBlock=some g->g<M
 d13:Dis u1 u3
 d15:Dis u1 u5
 d35:Dis u3 u5
def adv (w:Zb)(c:A_)(e:Ending)(w':Zb):Prop:=∃u1 u2 u3 u4 u5 M,e=.returned (.agg #[u1,u2,u3,u4,u5])/\YH w.heap.size w w'/\CSp w.heap.size M w' u1 u2 u3 u4 u5 c
def adn {l:List (Int×Int)}{news:List Zf}(a:news.length=l.length*2)(h:∀i x,l[i]?=some x->(news.drop (i*2)).take 2=[.int .i64 x.1,.int .i64 x.2]):news=l.flatMap λp=> [ZL .i64 p.1,.int .i64 p.2]:=by
 induction l generalizing news with
 |nil=>exact YM (by simpa using a)
 |cons p l c=>
  have b:=h 0 p rfl;rw[Nat.zero_mul,List.drop_zero]at b;rw[List.flatMap_cons, <-b, <-c (news:=news.drop 2) (by rw[List.length_drop,a,zb];omega) λi x d=>by
   rw[List.drop_drop,show 2+i*2=(i+1)*2 by omega];exact h (i+1) x (by simpa using d)]
  exact(List.take_append_drop 2 news).symm
def ajl {l:List (Int×Int)}(h:Sl S Rp 2 w v l)(n:l.length<=1000):Calls Lp 29 #[v] w λe w'=>∃u,e=.returned u/\YH w.heap.size w w'/\Ih w' w.heap.size u l 66:=by
 obtain⟨a,c,rfl,M,L⟩:=h.val;obtain⟨t,hi,I,K,J⟩:=zp Wu;have y:=Cz Zdg;cases a with
 |none=>
  have z:l=[]:=by
   cases l with
   |nil=>rfl
   |cons x r=>
    obtain⟨O,N,m,_,_,D⟩:=h;cases m;obtain⟨b,o,cs,e,_⟩:=D 0 x rfl;cases e
  subst z;go_enter Lp.func40,n40;go_wp2;go_ret;exact⟨_,rfl,bA (Zh _ _),YC w #[] 0 (Zj _) (Zp _) rfl⟩
 |some q=>
  obtain⟨d,g,i,p⟩:=Sl.row h (by decide) q rfl;have m:=row_one (by decide) g i bC;have G:=Zd p;have E:=Zd i;clear p i;go_enter Lp.func40,n40;go_wp2_with (at_builtin;refine Yc _ rfl _ _ 23 rfl w.heap.size 66 t (.agg #[.int .i64 0,.int .i64 0]) 2 16 y (Dz hi) I K J rfl (by decide) _ 0 [] rfl (YC w #[] 0 (Zj _) (Zp _) rfl) q l.length c d rfl g (λj u B=>ca (G.out j u B) _) m (by unfold maxLen;omega) (by omega) (by simp) ?_;intro v' w1 f s H);have C:YH w.heap.size w w1:=Bm (bA (Zh _ _)) s (λk A=>by cases A;exact Zj _) (by simp);rw[zN,zP]at f;rw[adn g E.out]at f;have F:=Zd f;clear f s H;go_ret;exact⟨_,rfl,C,F.out⟩
structure CRs (w:Zb)(n0 M q:Nat)(xs:Array Zf)(s1 s2 s3 s5:Zf)(c:A_)(k:Nat)(v4:Zf)(wr:Zb):Prop where
 below:YH w.heap.size w wr
 box:wr.heap[w.heap.size]?=some (.cells xs 26 (0,0))
 res:wr.heap[w.heap.size+1]?=some (.cells #[.slice none 0 0,.slice none 0 0,.slice none 0 0,.slice none 0 0,.slice none 0 0] 26 (0,0))
 qx:wr.heap[q]?=some (.cells #[s1,s2,s3,v4,s5] 26 (0,0))
 base:Own wr n0 s1 c.base
 Af:Ih wr n0 s2 c.Af 66
 hooks:Own wr n0 s3 c.hooks
 now:Own wr n0 s5 c.now
 row:En M wr M v4 (c.Aa.take k)
 z:M<=wr.heap.size
def ajn (h:RC S w v1 v2 v3 v4 v5 c)(hS:∀b,S b->b<w.heap.size)(ig:c.base.length<=1000)(ci:c.Af.length<=1000)(b9:c.hooks.length<=1000)(Xm:c.Aa.length<=1000)(UO:c.now.length<=1000)(xB:∀i,i<c.Aa.length->(Aj c.Aa i).Ap.length<=1000/\(Aj c.Aa i).over.length<=1000):
  Calls Lp 9 #[.agg #[v1,v2,v3,v4,v5]] w (adv w c):=by
 obtain⟨a1,c1,rfl,l1,m1⟩:=h.base.val;obtain⟨a2,c2,rfl,l2,m2⟩:=h.Af.val;obtain⟨a3,c3,rfl,l3,m3⟩:=h.hooks.val;obtain⟨a4,c4,rfl,l4,m4⟩:=h.Aa.val;obtain⟨a5,c5,rfl,l5,m5⟩:=h.now.val;have IX:=DJ;go_enter Lp.func33,n33;go_wp2;obtain⟨C,Hv⟩:∃C,C=(w.alloc (.cells #[.slice a1 c.base.length c1,.slice a2 c.Af.length c2,.slice a3 c.hooks.length c3,.slice a4 c.Aa.length c4,.slice a5 c.now.length c5] 26)).alloc (.cells #[.slice none 0 0,.slice none 0 0,.slice none 0 0,.slice none 0 0,.slice none 0 0] 26):=⟨_,rfl⟩;have Bv:YH w.heap.size w C:=by rw[Hv];exact bA (bA (Zh _ _))
 have F1:C.heap[w.heap.size]?=some (.cells #[.slice a1 c.base.length c1,.slice a2 c.Af.length c2,.slice a3 c.hooks.length c3,.slice a4 c.Aa.length c4,.slice a5 c.now.length c5] 26 (0,0)):=by rw[Hv];exact Bf (Bp _ _) _
 have O9:C.heap[w.heap.size+1]?=some (.cells #[.slice none 0 0,.slice none 0 0,.slice none 0 0,.slice none 0 0,.slice none 0 0] 26 (0,0)):=by rw[Hv];exact Jq _ _ _
 rw[<-Hv];clear Hv;have b8:w.heap.size+1<C.heap.size:=(Za.1 O9).1;refine Code.wp_mono (Q:=λe a' V=>e=.normal/\∃(q:Nat) (G L F E:Option Addr) (d1 d2 d3 I:Nat) (x5 x6 x7 x8 x9 jX Qj an MH Lx Ly K0 K1:Zf),a'= {tmps:= #[.agg #[.slice a1 c.base.length c1,.slice a2 c.Af.length c2,.slice a3 c.hooks.length c3,.slice a4 c.Aa.length c4,.slice a5 c.now.length c5],.pointer (some ⟨w.heap.size,0,none⟩),.pointer (some ⟨w.heap.size+1,0,none⟩),.pointer (some ⟨q,0,none⟩),Ze,x5,x6,x7,x8,x9,jX,Qj,an,MH,Lx,Ly,K0,K1,Ze,Ze,Ze,Ze,Ze,Ze,Ze,Ze,Ze,Ze,Ze,Ze,Ze,Ze,Ze,Ze,Ze,Ze,Ze],defers:=[]}/\w.heap.size+1<q/\YH C.heap.size C V/\V.heap[q]?=some (.cells #[.slice G c.base.length d1,.slice L c.Af.length d2,.slice F c.hooks.length d3,.slice none 0 0,.slice E c.now.length I] 26 (0,0))/\Own V C.heap.size (.slice G c.base.length d1) c.base/\Ih V C.heap.size (.slice L c.Af.length d2) c.Af 66/\Own V C.heap.size (.slice F c.hooks.length d3) c.hooks/\Own V C.heap.size (.slice E c.now.length I) c.now/\Dis (.slice G c.base.length d1) (.slice F c.hooks.length d3)/\Dis (.slice G c.base.length d1) (.slice E c.now.length I)/\Dis (.slice F c.hooks.length d3) (.slice E c.now.length I)) ?rest ?first
 case first=>
  have z0:=λp=>Al p (ch (i:=0) F1 (v:=.slice a1 c.base.length c1) rfl);have z1:=λp=>Al p (ch (i:=1) F1 (v:=.slice a2 c.Af.length c2) rfl);have z2:=λp=>Al p (ch (i:=2) F1 (v:=.slice a3 c.hooks.length c3) rfl);have z4:=λp=>Al p (ch (i:=4) F1 (v:=.slice a5 c.now.length c5) rfl);refine G6 (S:=λW=>∃p,W=calm C p) [0,1,3,4,6,7,9,10] 7 #[true,true,false,true,true,false,true,true,false,true,true,false,false,false,false] (by kernel_rfl) (λ_ _ _ _ _ h=>nomatch h.1) (by kernel_rfl) (AL (Zh _ _).drew) ?_;refine A4 _ _ (by kernel_rfl) ?_;simp only[Z6,zd,ZG,ZD,ZC]
  repeat (first|go_big_quiet_step (fail)|quiet_step (fail))
  refine Z4 ?_;clear z0 z1 z2 z4;change Cy _ _ _ _ _ _ _ _ _;obtain⟨V,hV⟩:∃V,V=C.drew:=⟨_,rfl⟩;have l:YH C.heap.size C V:=by rw[hV];exact(Zh _ _).drew
  rw[<-hV];clear hV;have m:=Yz;have s:=Yz;have z:=Yz;have t:=Yz;have y:=Yz;refine AK [2,13] (by kernel_rfl) (by simp) (Ix ?gA2 ?gB2)
  case' gB2=>
   refine EX (v:=.pointer (some ⟨V.heap.size,0,none⟩)) (w':=V.alloc (.cells #[.slice none 0 0,.slice none 0 0,.slice none 0 0,.slice none 0 0,.slice none 0 0] 26)) rfl rfl (by go_simp) ?_;obtain⟨o,r⟩:∃o,o=V.alloc (.cells #[.slice none 0 0,.slice none 0 0,.slice none 0 0,.slice none 0 0,.slice none 0 0] 26):=⟨_,rfl⟩;have a:YH V.heap.size V o:=by rw[r];exact bA (Zh _ _)
   have m:o.heap[V.heap.size]?=some (.cells #[.slice none 0 0,.slice none 0 0,.slice none 0 0,.slice none 0 0,.slice none 0 0] 26 (0,0)):=by rw[r];exact Bp _ _
   have J:=l.size;obtain⟨q,D⟩:∃q,q=V.heap.size:=⟨_,rfl⟩;rw[<-D]at m J
   try (have s:=Fu s a)
   try (have z:=Fu z a)
   try (have t:=Fu t a)
   try (have y:=Fu y a)
   have l:=l.trans (a.mono l.size);rw[<-r, <-D];refine⟨AL l,?_⟩;clear a D r;obtain⟨V,Y⟩:∃V2,V2=o:=⟨_,rfl⟩;subst Y;refine AK [2] (by kernel_rfl) (by simp) (BF ?_)
  all_goals
   refine DK (f:=10) (args:= #[.slice a1 c.base.length c1]) rfl rfl (by go_simp) ((WO (h.later (Bv.trans (l.mono Bv.size))).base ig).mono ?_);rintro e V ⟨u,rfl,a,B⟩;have s:=aaE B l.size;obtain⟨G,d1,rfl,_,_⟩:=JS B;clear B
   try (have m:=(a.block _ (Za.1 m).1).trans m)
   try (have z:=Fu z a)
   try (have t:=Fu t a)
   try (have y:=Fu y a)
   have l:=l.trans (a.mono l.size);refine .inl ⟨_,rfl,AL l,?_⟩;clear a
  all_goals first
   |(have kL:=Za.1 m;clear kL;refine AK [5] (by kernel_rfl) (by simp) (BF ?_))
   |(refine AK [5,13] (by kernel_rfl) (by simp) (Ix ?gA5 ?gB5)
     case' gB5=>
      refine EX (v:=.pointer (some ⟨V.heap.size,0,none⟩)) (w':=V.alloc (.cells #[.slice none 0 0,.slice none 0 0,.slice none 0 0,.slice none 0 0,.slice none 0 0] 26)) rfl rfl (by go_simp) ?_;obtain⟨o,r⟩:∃o,o=V.alloc (.cells #[.slice none 0 0,.slice none 0 0,.slice none 0 0,.slice none 0 0,.slice none 0 0] 26):=⟨_,rfl⟩;have a:YH V.heap.size V o:=by rw[r];exact bA (Zh _ _)
      have m:o.heap[V.heap.size]?=some (.cells #[.slice none 0 0,.slice none 0 0,.slice none 0 0,.slice none 0 0,.slice none 0 0] 26 (0,0)):=by rw[r];exact Bp _ _
      have J:=l.size;obtain⟨q,D⟩:∃q,q=V.heap.size:=⟨_,rfl⟩;rw[<-D]at m J
      try (have s:=Fu s a)
      try (have z:=Fu z a)
      try (have t:=Fu t a)
      try (have y:=Fu y a)
      have l:=l.trans (a.mono l.size);rw[<-r, <-D];refine⟨AL l,?_⟩;clear a D r;obtain⟨V,Y⟩:∃V2,V2=o:=⟨_,rfl⟩;subst Y;refine AK [5] (by kernel_rfl) (by simp) (BF ?_))
  all_goals
   refine DK (f:=29) (args:= #[.slice a2 c.Af.length c2]) rfl rfl (by go_simp) ((ajl (h.later (Bv.trans (l.mono Bv.size))).Af ci).mono ?_);rintro e V ⟨u,rfl,a,B⟩;have z:=aaE B l.size;obtain⟨L,d2,rfl,_,_⟩:=JS B;clear B
   try (have m:=(a.block _ (Za.1 m).1).trans m)
   try (have s:=Fu s a)
   try (have t:=Fu t a)
   try (have y:=Fu y a)
   have l:=l.trans (a.mono l.size);refine .inl ⟨_,rfl,AL l,?_⟩;clear a
  all_goals first
   |(have kL:=Za.1 m;clear kL;refine AK [8] (by kernel_rfl) (by simp) (BF ?_))
   |(refine AK [8,13] (by kernel_rfl) (by simp) (Ix ?gA8 ?gB8)
     case' gB8=>
      refine EX (v:=.pointer (some ⟨V.heap.size,0,none⟩)) (w':=V.alloc (.cells #[.slice none 0 0,.slice none 0 0,.slice none 0 0,.slice none 0 0,.slice none 0 0] 26)) rfl rfl (by go_simp) ?_;obtain⟨o,r⟩:∃o,o=V.alloc (.cells #[.slice none 0 0,.slice none 0 0,.slice none 0 0,.slice none 0 0,.slice none 0 0] 26):=⟨_,rfl⟩;have a:YH V.heap.size V o:=by rw[r];exact bA (Zh _ _)
      have m:o.heap[V.heap.size]?=some (.cells #[.slice none 0 0,.slice none 0 0,.slice none 0 0,.slice none 0 0,.slice none 0 0] 26 (0,0)):=by rw[r];exact Bp _ _
      have J:=l.size;obtain⟨q,D⟩:∃q,q=V.heap.size:=⟨_,rfl⟩;rw[<-D]at m J
      try (have s:=Fu s a)
      try (have z:=Fu z a)
      try (have t:=Fu t a)
      try (have y:=Fu y a)
      have l:=l.trans (a.mono l.size);rw[<-r, <-D];refine⟨AL l,?_⟩;clear a D r;obtain⟨V,Y⟩:∃V2,V2=o:=⟨_,rfl⟩;subst Y;refine AK [8] (by kernel_rfl) (by simp) (BF ?_))
  all_goals
   refine DK (f:=10) (args:= #[.slice a3 c.hooks.length c3]) rfl rfl (by go_simp) ((WO (h.later (Bv.trans (l.mono Bv.size))).hooks b9).mono ?_);rintro e V ⟨u,rfl,a,B⟩;have t:=aaE B l.size;obtain⟨F,d3,rfl,_,_⟩:=JS B;have R:=acL s B;clear B
   try (have m:=(a.block _ (Za.1 m).1).trans m)
   try (have s:=Fu s a)
   try (have z:=Fu z a)
   try (have y:=Fu y a)
   have l:=l.trans (a.mono l.size);refine .inl ⟨_,rfl,AL l,?_⟩;clear a
  all_goals first
   |(have kL:=Za.1 m;clear kL;refine AK [11] (by kernel_rfl) (by simp) (BF ?_))
   |(refine AK [11,13] (by kernel_rfl) (by simp) (Ix ?gA11 ?gB11)
     case' gB11=>
      refine EX (v:=.pointer (some ⟨V.heap.size,0,none⟩)) (w':=V.alloc (.cells #[.slice none 0 0,.slice none 0 0,.slice none 0 0,.slice none 0 0,.slice none 0 0] 26)) rfl rfl (by go_simp) ?_;obtain⟨o,r⟩:∃o,o=V.alloc (.cells #[.slice none 0 0,.slice none 0 0,.slice none 0 0,.slice none 0 0,.slice none 0 0] 26):=⟨_,rfl⟩;have a:YH V.heap.size V o:=by rw[r];exact bA (Zh _ _)
      have m:o.heap[V.heap.size]?=some (.cells #[.slice none 0 0,.slice none 0 0,.slice none 0 0,.slice none 0 0,.slice none 0 0] 26 (0,0)):=by rw[r];exact Bp _ _
      have J:=l.size;obtain⟨q,D⟩:∃q,q=V.heap.size:=⟨_,rfl⟩;rw[<-D]at m J
      try (have s:=Fu s a)
      try (have z:=Fu z a)
      try (have t:=Fu t a)
      try (have y:=Fu y a)
      have l:=l.trans (a.mono l.size);rw[<-r, <-D];refine⟨AL l,?_⟩;clear a D r;obtain⟨V,Y⟩:∃V2,V2=o:=⟨_,rfl⟩;subst Y;refine AK [11] (by kernel_rfl) (by simp) (BF ?_))
  all_goals
   refine DK (f:=10) (args:= #[.slice a5 c.now.length c5]) rfl rfl (by go_simp) ((WO (h.later (Bv.trans (l.mono Bv.size))).now UO).mono ?_);rintro e V ⟨u,rfl,a,B⟩;have y:=aaE B l.size;obtain⟨E,I,rfl,_,_⟩:=JS B;have P:=acL s B;have O:=acL t B;clear B
   try (have m:=(a.block _ (Za.1 m).1).trans m)
   try (have s:=Fu s a)
   try (have z:=Fu z a)
   try (have t:=Fu t a)
   have l:=l.trans (a.mono l.size);refine .inl ⟨_,rfl,AL l,?_⟩;clear a
  all_goals first
   |(have kL:=Za.1 m;clear kL;refine AK [12] (by kernel_rfl) (by simp) (BF ?_)
     refine EX (v:=.agg #[.slice G c.base.length d1,.slice L c.Af.length d2,.slice F c.hooks.length d3,.slice none 0 0,.slice E c.now.length I]) (w':=V) rfl rfl (by go_simp) ?_;refine⟨AL l,?_⟩)
   |(refine AK [12,13] (by kernel_rfl) (by simp) (Ix ?gA12 ?gB12)
     case' gB12=>
      refine EX (v:=.pointer (some ⟨V.heap.size,0,none⟩)) (w':=V.alloc (.cells #[.slice none 0 0,.slice none 0 0,.slice none 0 0,.slice none 0 0,.slice none 0 0] 26)) rfl rfl (by go_simp) ?_;obtain⟨o,r⟩:∃o,o=V.alloc (.cells #[.slice none 0 0,.slice none 0 0,.slice none 0 0,.slice none 0 0,.slice none 0 0] 26):=⟨_,rfl⟩;have a:YH V.heap.size V o:=by rw[r];exact bA (Zh _ _)
      have m:o.heap[V.heap.size]?=some (.cells #[.slice none 0 0,.slice none 0 0,.slice none 0 0,.slice none 0 0,.slice none 0 0] 26 (0,0)):=by rw[r];exact Bp _ _
      have J:=l.size;obtain⟨q,D⟩:∃q,q=V.heap.size:=⟨_,rfl⟩;rw[<-D]at m J
      try (have s:=Fu s a)
      try (have z:=Fu z a)
      try (have t:=Fu t a)
      try (have y:=Fu y a)
      have l:=l.trans (a.mono l.size);rw[<-r, <-D];refine⟨AL l,?_⟩;clear a D r;obtain⟨V,Y⟩:∃V2,V2=o:=⟨_,rfl⟩;subst Y;refine AK [12] (by kernel_rfl) (by simp) (BF ?_);refine EX (v:=.agg #[.slice G c.base.length d1,.slice L c.Af.length d2,.slice F c.hooks.length d3,.slice none 0 0,.slice E c.now.length I]) (w':=V) rfl rfl (by go_simp) ?_;refine⟨AL l,?_⟩
     case' gA12=>
      refine EX (v:=.agg #[.slice G c.base.length d1,.slice L c.Af.length d2,.slice F c.hooks.length d3,.slice none 0 0,.slice E c.now.length I]) (w':=V) rfl rfl (by go_simp) ?_;refine⟨AL l,?_⟩;refine AK [13] (by kernel_rfl) (by simp) (BF ?_);refine EX (v:=.pointer (some ⟨V.heap.size,0,none⟩)) (w':=V.alloc (.cells #[.slice none 0 0,.slice none 0 0,.slice none 0 0,.slice none 0 0,.slice none 0 0] 26)) rfl rfl (by go_simp) ?_;obtain⟨o,r⟩:∃o,o=V.alloc (.cells #[.slice none 0 0,.slice none 0 0,.slice none 0 0,.slice none 0 0,.slice none 0 0] 26):=⟨_,rfl⟩;have a:YH V.heap.size V o:=by rw[r];exact bA (Zh _ _)
      have m:o.heap[V.heap.size]?=some (.cells #[.slice none 0 0,.slice none 0 0,.slice none 0 0,.slice none 0 0,.slice none 0 0] 26 (0,0)):=by rw[r];exact Bp _ _
      have J:=l.size;obtain⟨q,D⟩:∃q,q=V.heap.size:=⟨_,rfl⟩;rw[<-D]at m J
      try (have s:=Fu s a)
      try (have z:=Fu z a)
      try (have t:=Fu t a)
      try (have y:=Fu y a)
      have l:=l.trans (a.mono l.size);rw[<-r, <-D];refine⟨AL l,?_⟩;clear a D r;obtain⟨V,Y⟩:∃V2,V2=o:=⟨_,rfl⟩;subst Y)
  all_goals
   refine AK [14] (by kernel_rfl) (by simp) (BF ?_);have g0:=ch (i:=0) m (v:=.slice none 0 0) rfl;have g1:=ch (i:=1) m (v:=.slice none 0 0) rfl;have g2:=ch (i:=2) m (v:=.slice none 0 0) rfl;have g3:=ch (i:=3) m (v:=.slice none 0 0) rfl;have g4:=ch (i:=4) m (v:=.slice none 0 0) rfl;have f0:=cf (i:=0) m;have f1:=cf (i:=1) m;have f2:=cf (i:=2) m;have f3:=cf (i:=3) m;have f4:=cf (i:=4) m;obtain⟨o,r⟩:∃o,o=((((V.setCell ⟨q,0,none⟩ (.slice G c.base.length d1)).setCell ⟨q,1,none⟩ (.slice L c.Af.length d2)).setCell ⟨q,2,none⟩ (.slice F c.hooks.length d3)).setCell ⟨q,3,none⟩ (.slice none 0 0)).setCell ⟨q,4,none⟩ (.slice E c.now.length I):=⟨_,rfl⟩;refine Rj (w':=o) rfl rfl (by rw[r];go_simp) ?_;have be:YH C.heap.size C o:=by rw[r];exact bS (bS (bS (bS (bS l J) J) J) J) J
   have hT:Ak (λx=>x=q) V o:=by rw[r];exact(Ak.refl (λx=>x=q) V).DT.DT.DT.DT.DT
   refine⟨AL be,rfl,?_⟩;exact⟨rfl,q,G,L,F,E,d1,d2,d3,I,_,_,_,_,_,_,_,_,_,_,_,_,_,rfl,by omega,be,by rw[r];exact Ba (Ba (Ba (Ba (Ba m _) _) _) _) _,aaC s hT m (by decide),aaC z hT m (by decide),aaC t hT m (by decide),aaC y hT m (by decide),R,P,O⟩
 rintro e a' V ⟨rfl,q,G,L,F,E,d1,d2,d3,I,x5,x6,x7,x8,x9,jX,Qj,an,MH,Lx,Ly,K0,K1,rfl,J,l,m,s,z,t,y,R,P,O⟩;obtain⟨M,hM⟩:∃M,M=V.heap.size:=⟨_,rfl⟩;have fd:C.heap.size<=M:=by rw[hM];exact l.size
 have L1:=ac6 s;have L2:=ac6 z;have L3:=ac6 t;have ai:=ac6 y;rw[<-hM]at L1 L2 L3 ai;have HD:=Zd (ZY L1 (ZY L2 (ZY L3 (ZY ai (ZY R (ZY P O))))));clear L1 L2 L3 ai R P O;have ck:CRs w C.heap.size M q #[.slice a1 c.base.length c1,.slice a2 c.Af.length c2,.slice a3 c.hooks.length c3,.slice a4 c.Aa.length c4,.slice a5 c.now.length c5] (.slice G c.base.length d1) (.slice L c.Af.length d2) (.slice F c.hooks.length d3) (.slice E c.now.length I) c 0 (.slice none 0 0) V:=
  ⟨Bv.trans (l.mono Bv.size),(l.block _ (Za.1 F1).1).trans F1,(l.block _ b8).trans O9,m,s,z,t,y,⟨[],zq _ _ _ _,λi x hx=>by cases hx⟩,ZcS hM⟩
 clear hM l m s z t y F1 O9 Bv;dsimp only;go_wp2;go_loopg [4] c.Aa.length (λg i wr=>∃(k:Nat) (v4:Zf),k<=c.Aa.length/\g=c.Aa.length - k/\i=.int .i64 k/\CRs w C.heap.size M q #[.slice a1 c.base.length c1,.slice a2 c.Af.length c2,.slice a3 c.hooks.length c3,.slice a4 c.Aa.length c4,.slice a5 c.now.length c5] (.slice G c.base.length d1) (.slice L c.Af.length d2) (.slice F c.hooks.length d3) (.slice E c.now.length I) c k v4 wr)
 case atStart=>exact⟨0,_,Zp _,rfl,rfl,ck⟩
 obtain⟨k,v4,hk,rfl,rfl,n⟩:=hrel;obtain⟨sl,NK⟩:∃sl,sl=c.Aa.take k:=⟨_,rfl⟩;have am:sl.length=k:=by rw[NK];simp;omega
 have Ci:=n.row;rw[<-NK]at Ci;obtain⟨U,T,rfl,_⟩:=Ci.val;rw[am]at n Ci;by_cases Az:k<c.Aa.length
 .obtain⟨b4,o4,s2,s3,rfl,UQ,x0,x1,x2,x3,x4,hp,ho⟩:=h.Aa.at_ (i:=k) Az
  have Ga:∀j u,w.cell? ⟨b4,j,none⟩=some u->wr.cell? ⟨b4,j,none⟩=some u:=λj u B=>(n.below.cell (p:=⟨b4,j,none⟩) (hS b4 UQ)).trans B;replace x0:=Ga _ _ x0;replace x1:=Ga _ _ x1;replace x2:=Ga _ _ x2;replace x3:=Ga _ _ x3;replace x4:=Ga _ _ x4;clear Ga;replace hp:=hp.later n.below;replace ho:=ho.later n.below;obtain⟨Oq,Qm⟩:=xB k Az;obtain⟨sm,Qh⟩:∃sm,sm=Aj c.Aa k:=⟨_,rfl⟩;have du:=Zd (show c.Aa.take (k+1)=sl++ [sm] by rw[NK,Qh,ZbH,Db Az];rfl);rw[<-Qh]at x0 x1 x4 hp ho Oq Qm;clear Qh NK;obtain⟨low,H,Ap,over,left⟩:=sm;dsimp only at x0 x1 x4 hp ho Oq Qm;obtain⟨a6,c6,rfl,l6,m6⟩:=hp.val;obtain⟨a7,c7,rfl,l7,m7⟩:=ho.val;obtain⟨K,Ig⟩:∃K:Nat->Prop,K=λx=>x≠q/\w.heap.size+1<x:=⟨_,rfl⟩;have LP:∀x,w.heap.size+1<x->x≠q->K x:=λx hx m=>by rw[Ig];exact⟨m,hx⟩
  have qF:¬K w.heap.size:=by rw[Ig];intro x;omega
  have l_:¬K (w.heap.size+1):=by rw[Ig];intro x;omega
  have Tg:¬K q:=by rw[Ig];exact λx=>x.1 rfl
  have Qn:¬K b4:=by rw[Ig];intro x;have:=hS b4 UQ;omega
  clear Ig;have z0:=λp:Tw K wr=>p.cell (ch (i:=3) n.box (v:=.slice (some ⟨b4,o4,none⟩) c.Aa.length c4) rfl) qF;have z1:=λp:Tw K wr=>p.cell (ch (i:=3) n.qx (v:=.slice U k T) rfl) Tg;have y0:=λp:Tw K wr=>p.cell x0 Qn;have y1:=λp:Tw K wr=>p.cell x1 Qn;have y2:=λp:Tw K wr=>p.cell x2 Qn;have y3:=λp:Tw K wr=>p.cell x3 Qn;have y4:=λp:Tw K wr=>p.cell x4 Qn;have TB:(k:Int)<(c.Aa.length:Int):=by omega
  have fm:(0:Int)<=(k:Int):=by omega
  have kD:q<wr.heap.size:=(Za.1 n.qx).1;have kx:=ch (i:=3) n.box (v:=.slice (some ⟨b4,o4,none⟩) c.Aa.length c4) rfl;have bG:=n.below.size;have DR:w.heap.size+1<wr.heap.size:=(Za.1 n.res).1;have Rb:M<=wr.heap.size:=n.z;go_wp2;clear kx;refine B0 (S:=λW=>∃p:Tw K wr,W=p.v) [11] [(false,7),(false,8),(false,9),(false,10),(false,11)] [0,1,2,3,4,5,6] (by kernel_rfl) (λ_ _ d _ _ h=>by cases d<;>exact h) (by kernel_rfl) (A5 (Ak.later (Zh _ _).drew)) ?_;refine A4 _ _ (by kernel_rfl) ?_;simp only[Z6,zd,ZG,ZD,ZC]
  repeat (first|go_big_quiet_step (fail)|quiet_step (fail))
  refine Z4 ?_;clear z0 z1 y0 y1 y2 y3 y4 x0 x1 x2 x3 x4;change Dl _ _ _ _ _ _ _;have Uh:YH wr.heap.size wr wr.drew:=(Zh _ _).drew;refine Dd (f:=27) (args:= #[.agg #[.int .i64 low,.int .i64 H,.slice a6 Ap.length c6,.slice a7 over.length c7,.int .i64 left]]) rfl rfl (by go_simp) ((aoP (hp.later Uh) (ho.later Uh) Oq Qm).mono ?_);rintro e w1 ⟨u2,u3,rfl,Bg,Hb,Lb⟩;have cu:YH wr.heap.size wr w1:=Uh.trans (Bg.mono (Zj _));have Kd:Ak K wr w1:=Ak.later cu;refine⟨_,rfl,.inr (A5 Kd),?_⟩;have Hb:SP (TT wr.heap.size w1) w1 u2 Ap:=Hb;have Lb:SI (TT wr.heap.size w1) w1 u3 over:=Own.tt Lb;obtain⟨p6,t6,rfl,_⟩:=Hb.val;obtain⟨p7,t7,rfl,_⟩:=Lb.val;obtain⟨uT,uU⟩:∃uT,uT=w1.alloc (.cells #[.int .i64 low,.int .i64 H,.slice p6 Ap.length t6,.slice p7 over.length t7,.int .i64 left] 46):=⟨_,rfl⟩;have Vn:YH w1.heap.size w1 uT:=by rw[uU];exact bA (Zh _ _)
  have Jp:=cu.trans (Vn.mono cu.size);have WQ:Ak K wr uT:=Ak.later Jp;refine JZ (v:=.slice (some ⟨w1.heap.size,0,none⟩) 1 1) (w':=uT) rfl rfl (by rw[uU];go_simp) (.inr (A5 WQ)) ?_;obtain⟨ap,AX,DF⟩:=Ci.later Jp;rw[am]at AX;obtain⟨i0,hi,eL,k9,dl⟩:=zp eI;have ct:=Cz Tryz.underlying24;refine PW rfl rfl ?_;refine Zak _ _ _ 24 rfl M 46 i0 (.agg #[.int .i64 0,.int .i64 0,.slice none 0 0,.slice none 0 0,.int .i64 0]) 5 72 ct (Dz hi) eL k9 dl rfl (by decide) _ k ap rfl AX ⟨w1.heap.size,0,none⟩ 1 1 [.int .i64 low,.int .i64 H,.slice p6 Ap.length t6,.slice p7 over.length t7,.int .i64 left] rfl rfl (by rw[uU];exact Hc _ _ _) (by intro u B;simp at B;rcases B with rfl|rfl|rfl|rfl|rfl<;>rfl) (by unfold maxLen;omega) (by omega) (by have:=Jp.size;omega) ?_;intro v' w2 Cm AG Gc;have Em:∀g,(Zy U k T).ownBlock=some g->M<=g/\∃cs,wr.heap[g]?=some (.cells cs 46 (0,0)):=Ci.own;have Js:Ak (λx=>(Zy U k T).ownBlock=some x) uT w2:=Ak.grown AG λg N=>N;have D3:Ak K wr w2:=WQ.trans (Ak.grown AG λg N=>by
   obtain⟨h1,cs,h2⟩:=Em g N;exact LP g (by omega) (λe=>by subst e;rw[n.qx]at h2;cases h2))
  refine⟨.inr (A5 D3),?_⟩;obtain⟨g',Ey,rfl⟩:=Zay Cm;have M9:=(D3.block q kD Tg).trans n.qx;have f3:=cf (i:=3) M9;have e3:=ch (i:=3) M9 (v:=.slice U k T) rfl;refine Dw (v:=.pointer (some ⟨q,3,none⟩)) rfl rfl (by go_simp) (.inr (A5 D3)) ?_;refine K8 (w':=w2.setCell ⟨q,3,none⟩ (.slice (some ⟨g',0,none⟩) (k+1) Ey)) rfl rfl (by go_simp) (.inl rfl) ?_;have bM:CRs w C.heap.size M q #[.slice a1 c.base.length c1,.slice a2 c.Af.length c2,.slice a3 c.hooks.length c3,.slice (some ⟨b4,o4,none⟩) c.Aa.length c4,.slice a5 c.now.length c5] (.slice G c.base.length d1) (.slice L c.Af.length d2) (.slice F c.hooks.length d3) (.slice E c.now.length I) c (k+1) (.slice (some ⟨g',0,none⟩) (k+1) Ey) (w2.setCell ⟨q,3,none⟩ (.slice (some ⟨g',0,none⟩) (k+1) Ey)):=by
   have Th:Ak (λx=>x=q) w2 (w2.setCell ⟨q,3,none⟩ (.slice (some ⟨g',0,none⟩) (k+1) Ey)):=(Ak.refl (λx=>x=q) w2).DT;have bv:∀x,TT M w2 x->¬x=q:=λx hx e=>TT.not (e▸hx) M9 ⟨by decide,by decide,by decide⟩;have bV:∀ {A:Zb} (hA:∀g cs,wr.heap[g]?=some (Zbi cs 46 (0,0))->A.heap[g]?=some (Zbi cs 46 (0,0))) x,TT M A x->¬(Zy U k T).ownBlock=some x:=λhA x hx e=>by
    obtain⟨_,cs,h2⟩:=Em x e;exact TT.not hx (hA x cs h2) ⟨by decide,by decide,by decide⟩
   have Z:Ak (λx=>(Zy U k T).ownBlock=some x) wr w2:=((Ak.later Jp).mono λ_ x=>x).trans Js;have mW:∀g,(Zy U k T).ownBlock=some g->∃cs,wr.heap[g]?=some (.cells cs 46 (0,0)):=λg N=>(Em g N).2;have rK:=bV (A:=uT) (λg cs h=>(Jp.block g (Za.1 h).1).trans h);refine⟨?_,?_,?_,Ba M9 _,aaC (abU n.base Z mW (by decide)) Th M9 (by decide),aaC (abU n.Af Z mW (by decide)) Th M9 (by decide),aaC (abU n.hooks Z mW (by decide)) Th M9 (by decide),aaC (abU n.now Z mW (by decide)) Th M9 (by decide),?_,by have:=Z.size;simp;omega⟩
   .exact bS ((n.below.trans (Jp.mono n.below.size)).trans (Js.below (λg N=>by have:=(Em g N).1;omega) (by have:=Jp.size;omega))) (by omega)
   .exact(AZ (by omega) _).trans ((D3.block _ (by omega) qF).trans n.box)
   .exact(AZ (by omega) _).trans ((D3.block _ DR l_).trans n.res)
   rw[du.out];refine En.CN (A:=w2) ?_ Th bv (λg N e=>by
    cases N;subst e;rcases Cm.2 with⟨e,_⟩|⟨g,cap,fi,e,_,h3,_⟩
    .cases e
    cases e;rw[M9]at h3;cases h3)
   rw[show k+1=sl.length+1 by rw[am]]at*;have xG:Rs (TT M uT) uT [.int .i64 low,.int .i64 H,.slice p6 Ap.length t6,.slice p7 over.length t7,.int .i64 left] ⟨low,H,Ap,over,left⟩:=⟨_,_,rfl,Ug (M6 Hb Vn) Rb,LQ (Ei Lb Vn) Rb⟩;exact En.snoc (λi x hi=>xR (DF i x hi) Js rK) (by have:=AX.1;rw[this,am]) rfl (xR xG Js rK) Cm
  have ed:=Zd bM;clear bM n D3 Js WQ Kd Jp Vn uU Bg cu Hb Lb AX Cm DF AG Gc Em Ci f3 e3 M9 hp ho;unfold Dl
  go_simp
  go_wp2;go_roundg (c.Aa.length - (k+1))
  case rel=>exact⟨k+1,_,Az,rfl,by go_num,ed.out⟩
  omega
 have T5:k=c.Aa.length:=by omega
 rw[T5,ZcU]at NK;subst NK;subst T5;have kx:=ch (i:=3) n.box (v:=.slice a4 c.Aa.length c4) rfl;have s0:=ch (i:=0) n.qx (v:=.slice G c.base.length d1) rfl;have s1:=ch (i:=1) n.qx (v:=.slice L c.Af.length d2) rfl;have s2:=ch (i:=2) n.qx (v:=.slice F c.hooks.length d3) rfl;have s3:=ch (i:=3) n.qx (v:=.slice U c.Aa.length T) rfl;have s4:=ch (i:=4) n.qx (v:=.slice E c.now.length I) rfl;have f0:=cf (i:=0) n.res;have f1:=cf (i:=1) n.res;have f2:=cf (i:=2) n.res;have f3:=cf (i:=3) n.res;have f4:=cf (i:=4) n.res;have r0:=ch (i:=0) n.res (v:=.slice none 0 0) rfl;have r1:=ch (i:=1) n.res (v:=.slice none 0 0) rfl;have r2:=ch (i:=2) n.res (v:=.slice none 0 0) rfl;have r3:=ch (i:=3) n.res (v:=.slice none 0 0) rfl;have r4:=ch (i:=4) n.res (v:=.slice none 0 0) rfl;have kD:q<wr.heap.size:=(Za.1 n.qx).1;have bG:=n.below.size;have DR:w.heap.size+1<wr.heap.size:=(Za.1 n.res).1;have HC:=Zd n;have HR:=Zd Ci;clear n Ci;go_wp2;refine ZN (v:=.agg #[.slice G c.base.length d1,.slice L c.Af.length d2,.slice F c.hooks.length d3,.slice U c.Aa.length T,.slice E c.now.length I]) (by rw[A8 rfl];go_simp) rfl ?_;have bi:∀X,YH w.heap.size w X->Ak (λx=>x=w.heap.size+1) wr X->adv w c (.returned (.agg #[.slice G c.base.length d1,.slice L c.Af.length d2,.slice F c.hooks.length d3,.slice U c.Aa.length T,.slice E c.now.length I])) X:=λX Ov Pc=>by
  have hn:∀x,TT M wr x->¬x=w.heap.size+1:=λx hx e=>by have:=hx.1;omega
  have mM:w.heap.size<=C.heap.size:=by omega
  have N:∀g,(Zy U c.Aa.length T).ownBlock=some g->¬g=w.heap.size+1:=λg N e=>by have:=(HR.out.own g N).1;omega
  obtain⟨L1,L2,L3,ai,R,P,O⟩:=HD.out;exact⟨_,_,_,_,_,M,rfl,Ov,aaE (aaC HC.out.base Pc HC.out.res (by decide)) mM,aaE (aaC HC.out.Af Pc HC.out.res (by decide)) mM,aaE (aaC HC.out.hooks Pc HC.out.res (by decide)) mM,aaE (aaC HC.out.now Pc HC.out.res (by decide)) mM,HR.out.CN Pc hn N,by omega,L1,L2,L3,ai,R,P,O⟩
 have Lc:=HC.out.below;refine bi _ ?_ ?_
 .repeat (with_reducible first|exact Lc|(refine bS ?_ (by omega)))
 repeat (with_reducible first|exact Ak.refl _ _|(refine Ak.DT ?_))
def CSp.rc {u3:Zf}(h:CSp n M w u1 u2 u3 u4 u5 c):RC (Cb n w) w u1 u2 u3 u4 u5 c:=
 ⟨h.base.si,Sl.imp (h.Af.tt (.inr (.inr rfl))) (λb a=>a.new) λ_ _ x=>x,h.hooks.si,(h.row.ss (Zj _)).imp (λb a=>⟨Zr h.le a.1,a.2⟩) λ_ _ ⟨v2,v3,e,f,d⟩=>⟨v2,v3,e,Sl.imp f (λb a=>⟨Zr h.le a.1,a.2⟩) λ_ _ x=>x,Sl.imp d (λb a=>⟨Zr h.le a.1,a.2⟩) λ_ _ x=>x⟩,h.now.si⟩
def af5 (S:Nat->Prop)(w:Zb)(cs:List Zf)(x:A_):Prop:=∃v1 v2 v3 v4 v5,cs=[v1,v2,v3,v4,v5]/\RC S w v1 v2 v3 v4 v5 x
def afa (S:Nat->Prop)(w:Zb)(b:Nat)(lv:Zf)(d:Nat)(c:A_)(e:Ending)(w':Zb):Prop:=
 ∃(f a:A_) (q g:Nat),e=.returned (.slice (some ⟨q,0,none⟩) 4 4)/\B3 b w w'/\BK w' b lv g/\g<=d+2000/\H6 f/\aaZ a/\w.heap.size<=q/\Sl (λx=>S x\/Cb w.heap.size w' x) (af5 λx=>S x\/Cb w.heap.size w' x) 5 w' (.slice (some ⟨q,0,none⟩) 4 4) [c,f,a,f]
def ado (b:l.Pairwise (· < ·))(a:∀x∈l,0<=x/\x<3):l.length<=3:=(show∀l∈Lj,l.length<=3 by decide) l (EM b a)
def ad8 (h:BN c=0):∀i,i<c.Aa.length->(Aj c.Aa i).over.length<=3:=λi hi=>by
 have d:=(Bj (Bj h).2).2;have e:=(JQ (Bj (Bj h).2).1).2;have a:=ad6 (Bj d).1 (Aj c.Aa i) (Z3 (Db hi));exact ado a.1 λx b=>by have:=a.2 x b;omega
def H6.small (h:H6 c):aaZ c:=
 ⟨by have:=h.Fp;omega,by have:=h.PN;have:=h.Fp;omega,by have:=h.hooks;have:=h.Fp;omega,by have:=h.few;omega,by have:=h.now.1;have:=h.few;omega,λi hi=>⟨by have:=(h.seam i hi).few;omega,by have:=ad8 h.begin i hi;omega⟩⟩
def adT {l:List Ay}:Aj (l.set k s) j=if j=k/\k<l.length then s else Aj l j:=by
 unfold Aj;by_cases e:j=k
 .subst e
  by_cases a:j<l.length
  .simp[Y6,a]
  simp[Y6,a]
 rw[if_neg (λx=>e x.1),Y6,ZS (λx=>e x.symm),Y6]
def aaZ.put (h:aaZ c)(b:s.Ap.length<=20/\s.over.length<=20):aaZ {c with Aa:=c.Aa.set i s}:=
 ⟨h.base,h.Af,h.hooks,by rw[ZcC];exact h.Aa,h.now,λj a=>by
  rw[ZcC]at a;rw[adT];split
  .exact b
  exact h.part j a⟩
def CSp.CN {u3:Zf}(h:CSp n M A u1 u2 u3 u4 u5 c)(b:Ak T A B)(a:∀x,n<=x->¬T x):CSp n M B u1 u2 u3 u4 u5 c:=
 ⟨CO b a h.base,CO b a h.Af,CO b a h.hooks,CO b a h.now,h.row.CN b (λx d=>a x (Zr h.le d.1)) (λg e=>a g (Zr h.le (h.row.own g e).1)),h.le,h.l1,h.l2,h.l3,h.l5,h.d13,h.d15,h.d35⟩
def CSp.later {u3:Zf}(h:CSp n M A u1 u2 u3 u4 u5 c)(a:YH A.heap.size A B):CSp n M B u1 u2 u3 u4 u5 c:=h.CN (T:=λ_=>False) (Ak.later a) λ_ _ x=>x
def CSp.box {u3:Zf}(h:CSp n M A u1 u2 u3 u4 u5 c)(b:Ak (λx=>x=q) A B)(a:A.heap[q]?=some (.cells cs 26 (0,0))):CSp n M B u1 u2 u3 u4 u5 c:=
 ⟨aaC h.base b a (by decide),aaC h.Af b a (by decide),aaC h.hooks b a (by decide),aaC h.now b a (by decide),h.row.CN b (λx f e=>TT.not (e▸f) a ⟨by decide,by decide,by decide⟩) (λg i e=>by
  obtain⟨_,j,d⟩:=h.row.own g i;subst e;rw[a]at d;cases d),h.le,h.l1,h.l2,h.l3,h.l5,h.d13,h.d15,h.d35⟩
def abg {V:Zb}{d z:Nat}{E D C B A n m l k h y v t s r:Zf}{f co:A_}(G:B3 b w V)(H:BK V b lv z)(L:z<=d+2000)(M:H6 f)(K:aaZ co)
 (J:RC S V E D C B A c) (F:RC (Cb w.heap.size V) V n m l k h f) (I:RC (Cb w.heap.size V) V y v t s r co):
  afa S w b lv d c (.returned (.slice (some ⟨V.heap.size,0,none⟩) 4 4)) (V.alloc (.cells #[E,D,C,B,A,n,m,l,k,h,y,v,t,s,r,n,m,l,k,h] 26)):=by
 have g:∀o,YH V.heap.size V (V.alloc o):=λo=>bA (Zh _ _);have p:=G.size;have q:∀o x,Cb w.heap.size V x->Cb w.heap.size (V.alloc o) x:=λo x e=>⟨e.1,by rw[ZB];have:=e.2;omega⟩;refine⟨f,co,V.heap.size,z,rfl,G.below (g _),H.later (g _),L,M,K,p,_,_,rfl,Zj _,(by decide),λi x e=>?_⟩
 match i,e with
 |0,e=>
  cases e;exact⟨V.heap.size,0,[E,D,C,B,A],rfl,.inr ⟨p,by rw[ZB];omega⟩,rfl,(λj u a=>by
   match j,a with
   |0,a=>cases a;exact cn _ _ _ rfl
   |1,a=>cases a;exact cn _ _ _ rfl
   |2,a=>cases a;exact cn _ _ _ rfl
   |3,a=>cases a;exact cn _ _ _ rfl
   |4,a=>cases a;exact cn _ _ _ rfl),_,_,_,_,_,rfl,(J.later (g _)).imp λx e=>.inl e⟩
 |1,e=>
  cases e;exact⟨V.heap.size,0,[n,m,l,k,h],rfl,.inr ⟨p,by rw[ZB];omega⟩,rfl,(λj u a=>by
   match j,a with
   |0,a=>cases a;exact cn _ _ _ rfl
   |1,a=>cases a;exact cn _ _ _ rfl
   |2,a=>cases a;exact cn _ _ _ rfl
   |3,a=>cases a;exact cn _ _ _ rfl
   |4,a=>cases a;exact cn _ _ _ rfl),_,_,_,_,_,rfl,(F.later (g _)).imp λx e=>.inr (q _ x e)⟩
 |2,e=>
  cases e;exact⟨V.heap.size,0,[y,v,t,s,r],rfl,.inr ⟨p,by rw[ZB];omega⟩,rfl,(λj u a=>by
   match j,a with
   |0,a=>cases a;exact cn _ _ _ rfl
   |1,a=>cases a;exact cn _ _ _ rfl
   |2,a=>cases a;exact cn _ _ _ rfl
   |3,a=>cases a;exact cn _ _ _ rfl
   |4,a=>cases a;exact cn _ _ _ rfl),_,_,_,_,_,rfl,(I.later (g _)).imp λx e=>.inr (q _ x e)⟩
 |3,e=>
  cases e;exact⟨V.heap.size,0,[n,m,l,k,h],rfl,.inr ⟨p,by rw[ZB];omega⟩,rfl,(λj u a=>by
   match j,a with
   |0,a=>cases a;exact cn _ _ _ rfl
   |1,a=>cases a;exact cn _ _ _ rfl
   |2,a=>cases a;exact cn _ _ _ rfl
   |3,a=>cases a;exact cn _ _ _ rfl
   |4,a=>cases a;exact cn _ _ _ rfl),_,_,_,_,_,rfl,(F.later (g _)).imp λx e=>.inr (q _ x e)⟩
def c28 {Sn:Nat->Prop}{d:Nat}(h:RC S w v1 v2 v3 v4 v5 c)(hS:∀x,S x->x<w.heap.size/\x≠b)(hn:SI Sn w lv nums)(E8:∀x,Sn x->x<w.heap.size/\x≠b)(hL:BK w b lv d)(hd:d+5000<4611686018427387904)(Qh:aaZ c):
  Calls Lp 7 #[.agg #[v1,v2,v3,v4,v5],.pointer (some ⟨b,0,none⟩)] w (afa S w b lv d c):=by
 obtain⟨a1,c1,rfl,l1,m1⟩:=h.base.val;obtain⟨a2,c2,rfl,l2,m2⟩:=h.Af.val;obtain⟨a3,c3,rfl,l3,m3⟩:=h.hooks.val;obtain⟨a4,c4,rfl,l4,m4⟩:=h.Aa.val;obtain⟨a5,c5,rfl,l5,m5⟩:=h.now.val;have IX:=DJ;have GK:b<w.heap.size:=hL.lt;obtain⟨W1,NL⟩:∃W1,W1=w.alloc (.cells #[.slice a1 c.base.length c1,.slice a2 c.Af.length c2,.slice a3 c.hooks.length c3,.slice a4 c.Aa.length c4,.slice a5 c.now.length c5] 26):=⟨_,rfl⟩;have Bg:YH w.heap.size w W1:=by rw[NL];exact bA (Zh _ _)
 have lD:W1.heap[w.heap.size]?=some (.cells #[.slice a1 c.base.length c1,.slice a2 c.Af.length c2,.slice a3 c.hooks.length c3,.slice a4 c.Aa.length c4,.slice a5 c.now.length c5] 26 (0,0)):=by rw[NL];exact Bp _ _
 have DR:W1.heap.size=w.heap.size+1:=by rw[NL,ZB]
 have nm:=Zd (c44 (s:=3) (hn.later Bg) (λx j=>⟨by have:=(E8 x j).1;omega,(E8 x j).2⟩) (hL.later Bg) (by omega) (by decide));go_enter Lp.func28,n28;go_wp2;rw[<-NL];clear NL;refine nm.out.mono ?_;rintro e W2 ⟨a,u1,u2,u3,u4,u5,d2,rfl,M7,rr,yv,hM,_⟩;obtain⟨p1,e1,rfl,_⟩:=yv.base.val;obtain⟨p2,e2,rfl,_⟩:=yv.Af.val;obtain⟨p3,e3,rfl,_⟩:=yv.hooks.val;obtain⟨p4,e4,rfl,_⟩:=yv.Aa.val;obtain⟨p5,e5,rfl,_⟩:=yv.now.val;obtain⟨X2,Ia⟩:∃X2,X2=W2.alloc (.cells #[.slice p1 a.base.length e1,.slice p2 a.Af.length e2,.slice p3 a.hooks.length e3,.slice p4 a.Aa.length e4,.slice p5 a.now.length e5] 26):=⟨_,rfl⟩;have lm:YH W2.heap.size W2 X2:=by rw[Ia];exact bA (Zh _ _)
 have rB:X2.heap.size=W2.heap.size+1:=by rw[Ia,ZB]
 have jt:X2.heap[W2.heap.size]?=some (.cells #[.slice p1 a.base.length e1,.slice p2 a.Af.length e2,.slice p3 a.hooks.length e3,.slice p4 a.Aa.length e4,.slice p5 a.now.length e5] 26 (0,0)):=by rw[Ia];exact Bp _ _
 have Ot:=M7.Cn;have EB:=Ot.size;have jp:=yv.later lm;have ne:=Ot.below lm;have mz:=ne.at_ lD (by omega);have t:=hM.small;have no:=Zd (ajn jp (λx j=>by have:=j.2;omega) (by have:=t.base;omega) (by have:=t.Af;omega) (by have:=t.hooks;omega) (by have:=t.Aa;omega) (by have:=t.now;omega) λi hi=>⟨by have:=(t.part i hi).1;omega,by have:=(t.part i hi).2;omega⟩);obtain⟨m,hm⟩:∃m,m=W2.heap.size:=⟨_,rfl⟩;rw[<-hm]at jt;have re:W2.heap.size<=m/\m<=W2.heap.size:=by omega
 go_wp2;rw[<-Ia, <-hm];clear Ia hm;refine no.out.mono ?_;rintro e W3 ⟨q1,q2,q3,q4,q5,M,rfl,Bv,bi⟩;obtain⟨r1,f1,rfl,_⟩:=JS bi.base;obtain⟨r2,f2,rfl,_⟩:=JS bi.Af;obtain⟨r3,f3,rfl,_⟩:=JS bi.hooks;obtain⟨r4,f4,rfl,_⟩:=bi.row.val;obtain⟨r5,f5,rfl,_⟩:=JS bi.now;obtain⟨X3,iz⟩:∃X3,X3=W3.alloc (.cells #[.slice r1 a.base.length f1,.slice r2 a.Af.length f2,.slice r3 a.hooks.length f3,.slice r4 a.Aa.length f4,.slice r5 a.now.length f5] 26):=⟨_,rfl⟩;have my:YH W3.heap.size W3 X3:=by rw[iz];exact bA (Zh _ _)
 have rA:X3.heap.size=W3.heap.size+1:=by rw[iz,ZB]
 have q9:X3.heap[W3.heap.size]?=some (.cells #[.slice r1 a.base.length f1,.slice r2 a.Af.length f2,.slice r3 a.hooks.length f3,.slice r4 a.Aa.length f4,.slice r5 a.now.length f5] 26 (0,0)):=by rw[iz];exact Bp _ _
 have pp:=Bv.size;have fK:=Bv.trans (my.mono pp);have mx:=ne.below fK;have hC:=bi.later my;have mw:=(fK.block _ (by omega)).trans jt;have mv:=(fK.block _ (by omega)).trans mz;have mt:=jp.later fK;have i9:=((hn.later Bg).Cn mx (λx j=>⟨by have:=(E8 x j).1;omega,(E8 x j).2⟩));have pd:=(M7.E4.later lm).later fK;obtain⟨o,ho⟩:∃o,o=W3.heap.size:=⟨_,rfl⟩;rw[<-ho]at q9;have iG:=Zd (c29 (n:=2) i9 (λx j=>⟨by have:=(E8 x j).1;omega,(E8 x j).2⟩) pd (by omega) (by decide));have nF:W3.heap.size<=o/\o<=W3.heap.size:=by omega
 go_wp2;rw[<-iz, <-ho];clear iz ho;refine iG.out.mono ?_;rintro e y ⟨r,d4,rfl,hr,S5,fu,rq⟩;have Ox:r<=2:=hr;have fC:Ak (λx=>x=b) X3 y:=S5.CN rfl;have am:=hC.CN fC (λx j e=>by omega);have G:=S5.at_ q9 (by omega);have F:=S5.at_ mw (by omega);have D:=S5.at_ mv (by omega);have fJ:=mt.Ar (S5.same λx j=>by have:=j.1;omega);have be:B3 b w y:=by
  have hh:B3 b W1 y:=mx.trans S5;exact⟨hh.os.trans Bg.os,hh.tape.trans Bg.tape,hh.output.trans Bg.output,Zr Bg.size hh.size,λk hk O=>(hh.block k (by omega) O).trans (Bg.block k hk)⟩
 have pu:=be.size;have an:=h.Ar (be.same λx j=>(hS x j).2);have rC:=S5.size;have x1:w.heap.size<m:=by omega
 have x2:m<o:=by omega
 have x3:o<y.heap.size:=by omega
 clear nm no iG lD mz jt mw mv q9 jp mt bi hC yv M7;obtain rfl|rfl|rfl:r=0\/r=1\/r=2:=by omega
 .have pt:=Zd (WO an.now (by have:=Qh.now;omega))
  have o8:=ch (i:=4) D rfl;go_wp2;refine pt.out.mono ?_;rintro e W5 ⟨u,rfl,Cj,mp⟩;obtain⟨t5,s5,rfl,_⟩:=JS mp;have p9:=Cj.size;have Y:=(Cj.block _ x3).trans G;obtain⟨B,fd⟩:∃B,B=W5.setCell ⟨o,4,none⟩ (.slice t5 c.now.length s5):=⟨_,rfl⟩;have A:Ak (λx=>x=o) W5 B:=by rw[fd];exact(Ak.refl (λx=>x=o) W5).DT
  have b8:B.heap[o]?=some (.cells #[.slice r1 a.base.length f1,.slice r2 a.Af.length f2,.slice r3 a.hooks.length f3,.slice r4 a.Aa.length f4,.slice t5 c.now.length s5] 26 (0,0)):=by rw[fd];exact Ba Y _
  have fI:=(Cj.block _ (by omega)).trans D;have fH:=(Cj.block _ (by omega)).trans F;have iX:=ch (i:=0) fI (v:=.slice a1 c.base.length c1) rfl;have ct:=ch (i:=1) fI (v:=.slice a2 c.Af.length c2) rfl;have iS:=ch (i:=2) fI (v:=.slice a3 c.hooks.length c3) rfl;have ck:=ch (i:=3) fI (v:=.slice a4 c.Aa.length c4) rfl;have iv:=ch (i:=4) fI (v:=.slice a5 c.now.length c5) rfl;have ip:=ch (i:=0) fH (v:=.slice p1 a.base.length e1) rfl;have io:=ch (i:=1) fH (v:=.slice p2 a.Af.length e2) rfl;have im:=ch (i:=2) fH (v:=.slice p3 a.hooks.length e3) rfl;have ii:=ch (i:=3) fH (v:=.slice p4 a.Aa.length e4) rfl;have g9:=ch (i:=4) fH (v:=.slice p5 a.now.length e5) rfl;have gt:=ch (i:=0) Y (v:=.slice r1 a.base.length f1) rfl;have ci:=ch (i:=1) Y (v:=.slice r2 a.Af.length f2) rfl;have gn:=ch (i:=2) Y (v:=.slice r3 a.hooks.length f3) rfl;have b9:=ch (i:=3) Y (v:=.slice r4 a.Aa.length f4) rfl;have gj:=ch (i:=4) Y (v:=.slice r5 a.now.length f5) rfl;have ru:=cf (i:=4) Y;have n1:¬w.heap.size=o:=by omega
  have n2:¬m=o:=by omega
  clear o8;have Xp:B3 b w B:=by
   have cN:=be.below Cj;exact⟨A.os.trans cN.os,A.tape.trans cN.tape,A.output.trans cN.output,Zr cN.size A.size,λk hk O=>(A.block k (by have:=cN.size;omega) (by omega)).trans (cN.block k hk O)⟩
  have lJ:=A.size;have bv:BK B b lv d4:=by
   obtain⟨st,B_⟩:=fu.later Cj;exact⟨st,(A.block b (by omega) (by omega)).trans B_⟩
  have g1:=(an.later Cj).Ar (A.same λx j=>show¬x=o by have:=hS x j;omega);have g2:=((fJ.later Cj).Ar (A.same λx j=>show¬x=o by have:=j.2;omega)).imp (T:=Cb w.heap.size B) λx j=>⟨by have:=j.1;omega,by have:=j.2;omega⟩;have g3:=(((am.later Cj).box A Y).rc).imp (T:=Cb w.heap.size B) λx j=>⟨by have:=j.1;omega,j.2⟩;have g4:SI (Cb w.heap.size B) B (.slice t5 c.now.length s5) c.now:=Sl.imp (Own.si (aaC mp A Y (by decide))) (λx j=>⟨by have:=j.1;omega,j.2⟩) λ_ _ x=>x;have R:=abg (d:=d) Xp bv (by omega) hM (co:= {a with now:=c.now}) ⟨t.base,t.Af,t.hooks,t.Aa,Qh.now,t.part⟩ g1 g2 ⟨g3.base,g3.Af,g3.hooks,g3.Aa,g4⟩;clear g1 g2 g3 g4 Xp bv;have ma:B.heap.size=W5.heap.size:=by rw[fd];simp
  rw[ma]at R;clear ma;go_wp2;rw[<-fd];clear fd;go_ret;exact R
 .have lE:=abg (d:=d) be fu (by omega) hM t an (fJ.imp (T:=Cb w.heap.size y) λx j=>⟨by have:=j.1;omega,by have:=j.2;omega⟩) (am.rc.imp (T:=Cb w.heap.size y) λx j=>⟨by have:=j.1;omega,j.2⟩)
  have iX:=ch (i:=0) D (v:=.slice a1 c.base.length c1) rfl;have ct:=ch (i:=1) D (v:=.slice a2 c.Af.length c2) rfl;have iS:=ch (i:=2) D (v:=.slice a3 c.hooks.length c3) rfl;have ck:=ch (i:=3) D (v:=.slice a4 c.Aa.length c4) rfl;have iv:=ch (i:=4) D (v:=.slice a5 c.now.length c5) rfl;have ip:=ch (i:=0) F (v:=.slice p1 a.base.length e1) rfl;have io:=ch (i:=1) F (v:=.slice p2 a.Af.length e2) rfl;have im:=ch (i:=2) F (v:=.slice p3 a.hooks.length e3) rfl;have ii:=ch (i:=3) F (v:=.slice p4 a.Aa.length e4) rfl;have g9:=ch (i:=4) F (v:=.slice p5 a.now.length e5) rfl;have gt:=ch (i:=0) G (v:=.slice r1 a.base.length f1) rfl;have ci:=ch (i:=1) G (v:=.slice r2 a.Af.length f2) rfl;have gn:=ch (i:=2) G (v:=.slice r3 a.hooks.length f3) rfl;have b9:=ch (i:=3) G (v:=.slice r4 a.Aa.length f4) rfl;have gj:=ch (i:=4) G (v:=.slice r5 a.now.length f5) rfl;by_cases h0:c.Aa.length=0
  .have hh:¬0<(c.Aa.length:Int):=by omega
   clear h0;go_wp2;go_ret;exact lE
  have hh:0<(c.Aa.length:Int):=by omega
  go_wp2;obtain⟨g,eg⟩:∃g,r4=some ⟨g,0,none⟩:=by
   obtain⟨lI,h1,_⟩:=am.row;rcases h1.2 with⟨e,h2⟩|⟨g,cap,E,e,_⟩
   .have:=hM.few
    omega
   cases e;exact⟨g,rfl⟩
  subst eg;obtain⟨V,o4,v2,v3,ea,UQ,x0,x1,i7,i6,x4,hp,rH⟩:=an.Aa.at_ (i:=0) (by omega);subst ea;obtain⟨a6,c6,rfl,l6,m6⟩:=hp.val;obtain⟨a7,c7,rfl,l7,m7⟩:=rH.val;have fy:=Qh.part 0 (by omega);obtain⟨sm,bV⟩:∃sm,sm=Aj c.Aa 0:=⟨_,rfl⟩;have rE:=Zd bV;rw[<-bV]at x0 x1 i7 i6 x4 hp rH fy l6 l7;rw[Nat.zero_mul,Nat.add_zero]at x0 x1 i7 i6 x4;clear bV;obtain⟨low,z,Ap,N,left⟩:=sm;dsimp only at x0 x1 i7 i6 x4 hp rH fy l6 l7;obtain⟨K,Ig⟩:∃K:Nat->Prop,K=λx=>x=b\/y.heap.size<=x:=⟨_,rfl⟩;have fh:K b:=by rw[Ig];exact .inl rfl
  have LP:∀x,y.heap.size<=x->K x:=λx j=>by rw[Ig];exact .inr j
  have qF:∀x,x<y.heap.size->x≠b->¬K x:=λx h1 h2=>by rw[Ig];exact λe=>e.elim h2 (by omega)
  clear Ig;have mi:=hS V UQ;have z0:=λp:Tw K y=>p.cell b9 (qF _ (by show o<_;omega) (by show o≠b;omega));have z1:=λp:Tw K y=>p.cell ck (qF _ (by show w.heap.size<_;omega) (by show w.heap.size≠b;omega));have z2:=λp:Tw K y=>p.cell x0 (qF _ (by show V<_;omega) (by show V≠b;omega));have z3:=λp:Tw K y=>p.cell x1 (qF _ (by show V<_;omega) (by show V≠b;omega));have z4:=λp:Tw K y=>p.cell i7 (qF _ (by show V<_;omega) (by show V≠b;omega));have z5:=λp:Tw K y=>p.cell i6 (qF _ (by show V<_;omega) (by show V≠b;omega));have z6:=λp:Tw K y=>p.cell x4 (qF _ (by show V<_;omega) (by show V≠b;omega));have Qu:IntKind.i64.wrap ((a.Aa.length:Int) - 1)=(a.Aa.length:Int) - 1:=by rw[zE];have:=hM.few;omega
  refine B0 (S:=λW=>∃p:Tw K y,W=p.v) [14] [(false,5),(false,6),(false,7),(false,12),(false,13),(false,14)] [0,1,2,3,4,8,9,10,11] (by kernel_rfl) (λ_ _ d _ _ h=>by cases d<;>exact h) (by kernel_rfl) (A5 (Ak.later (Zh _ _).drew)) ?_;refine A4 _ _ (by kernel_rfl) ?_;simp only[Z6,zd,ZG,ZD,ZC]
  repeat (first|go_big_quiet_step (fail)|quiet_step (fail))
  refine Z4 ?_;clear z0 z1 z2 z3 z4 z5 z6;change Dl _ _ _ _ _ _ _;have Uh:YH y.heap.size y y.drew:=(Zh _ _).drew;have fi:Ak K y y.drew:=Ak.later Uh;refine Dw (v:=.int .i64 a.Aa.length) rfl rfl (by go_simp) (.inr (A5 fi)) ?_;refine Dw (v:=.int .i64 ((a.Aa.length:Int) - 1)) rfl rfl (by go_simp) (.inr (A5 fi)) ?_;refine Dd (f:=26) (args:= #[.pointer (some ⟨b,0,none⟩),.int .i64 ((a.Aa.length:Int) - 1)]) rfl rfl (by go_simp) ((c29 ((i9.Cn S5 (λx j=>⟨by have:=(E8 x j).1;omega,(E8 x j).2⟩)).later Uh) (λx j=>⟨by have:=(E8 x j).1;simp;omega,(E8 x j).2⟩) (fu.later Uh) (by omega) (by have:=hM.few;omega)).mono ?_);rintro e W5 ⟨C,d5,rfl,o9,cN,xZ,pc⟩;have X:B3 b y W5:=by
   exact⟨cN.os,cN.tape,cN.output,cN.size,λk hk O=>cN.block k hk O⟩
  have mj:Ak K y W5:=X.CN fh;refine⟨_,rfl,.inr (A5 mj),?_⟩;have li:C<a.Aa.length:=by have:=hM.few;omega
  have p9:=X.size;refine Dd (f:=27) (args:= #[.agg #[.int .i64 low,.int .i64 z,.slice a6 Ap.length c6,.slice a7 N.length c7,.int .i64 left]]) rfl rfl (by go_simp) ((aoP (hp.Ar (X.same λx j=>(hS x j).2)) (rH.Ar (X.same λx j=>(hS x j).2)) (by have:=fy.1;omega) (by have:=fy.2;omega)).mono ?_);rintro e B ⟨u2,u3,rfl,DM,Hb,Lb⟩;have A:Ak K y B:=mj.trans (Ak.later DM);refine⟨_,rfl,.inr (A5 A),?_⟩;have Lb:SI (TT W5.heap.size B) B u3 N:=Own.tt Lb;obtain⟨p6,t6,rfl,_⟩:=Hb.val;obtain⟨p7,t7,rfl,_⟩:=Lb.val;have lJ:=DM.size;have U:=(am.CN (X.CN (K:=λx=>x=b) rfl) (λx j e=>by omega)).later DM;have b8:=(DM.block _ (by omega)).trans (X.at_ G (by omega));have ky:=(DM.block _ (by omega)).trans (X.at_ F (by omega));have kw:=(DM.block _ (by omega)).trans (X.at_ D (by omega));have Xp:=X.below DM;have kv:=fJ.Ar (Xp.same λx j=>by have:=j.1;omega);have ka:=an.Ar (Xp.same λx j=>(hS x j).2);have bv:=xZ.later DM;have L:B3 b w B:=be.trans Xp;obtain⟨E,q,ai⟩:∃E,B.heap[g]?=some (.cells E 46 (0,0))/\∀k,k<5->∃v,E[C*5+k]?=some v:=by
   obtain⟨lI,h1,_⟩:=U.row;rcases h1.2 with⟨e,_⟩|⟨g',cap,E,e,g3,g4,g5,g6,g7,_⟩
   .cases e
   cases e;exact⟨E,g4,λk hk=>⟨_,Zx (by rw[g7];omega)⟩⟩
  obtain⟨w0,du⟩:=ai 0 (by decide);obtain⟨w1,lX⟩:=ai 1 (by decide);obtain⟨w2,nj⟩:=ai 2 (by decide);obtain⟨w3,lK⟩:=ai 3 (by decide);obtain⟨w4,xX⟩:=ai 4 (by decide);have q0:=ch q du;have q1:=ch q lX;have q2:=ch q nj;have q3:=ch q lK;have q4:=ch q xX;have dl:=cf (i:=C*5+0) q;have i8:=cf (i:=C*5+1) q;have ow:=cf (i:=C*5+2) q;have ol:=cf (i:=C*5+3) q;have n7:=cf (i:=C*5+4) q;rw[Nat.add_zero]at q0 dl;obtain⟨Q,P⟩:∃Q,Q=((((B.setCell ⟨g,C*5,none⟩ (.int .i64 low)).setCell ⟨g,C*5+1,none⟩ (.int .i64 z)).setCell ⟨g,C*5+2,none⟩ (.slice p6 Ap.length t6)).setCell ⟨g,C*5+3,none⟩ (.slice p7 N.length t7)).setCell ⟨g,C*5+4,none⟩ (.int .i64 left):=⟨_,rfl⟩;have pm:(C:Int)<(a.Aa.length:Int):=by omega
  have pi:(0:Int)<=(C:Int):=by omega
  refine Dw (v:=.pointer (some ⟨g,C*5,none⟩)) rfl rfl (by go_simp) (.inr (A5 A)) ?_;refine K8 (w':=Q) rfl rfl (by rw[P];go_simp) (.inl rfl) ?_;have l:Ak (λx=>x=g) B Q:=by rw[P];exact(Ak.refl (λx=>x=g) B).DT.DT.DT.DT.DT
  have pa:=(U.row.own g rfl).1;have rz:=U.le;have ed:∀x,x<X2.heap.size->¬x=g:=λx j e=>by omega
  have jn:¬o=g:=λe=>by subst e;rw[b8]at q;cases q
  have ry:g<y.heap.size:=by
   obtain⟨_,cs,h⟩:=am.row.own g rfl;exact(Za.1 h).1
  have ml:Rs (TT M B) B [.int .i64 low,.int .i64 z,.slice p6 Ap.length t6,.slice p7 N.length t7,.int .i64 left] ⟨low,z,Ap,N,left⟩:=⟨_,_,rfl,Sl.imp Hb (λx j=>⟨by have:=j.1;omega,j.2⟩) (λ_ _ x=>x),Sl.imp Lb (λx j=>⟨by have:=j.1;omega,j.2⟩) λ_ _ x=>x⟩;have Z:=En.put (s:=⟨low,z,Ap,N,left⟩) U.row li ml;dsimp only at Z;rw[<-P]at Z;have ap:Q.heap.size=B.heap.size:=by rw[P];simp
  have fw:B3 b w Q:=by
   exact⟨l.os.trans L.os,l.tape.trans L.tape,l.output.trans L.output,Zr L.size l.size,λk hk O=>(l.block k (by have:=L.size;omega) (by omega)).trans (L.block k hk O)⟩
  have fm:BK Q b lv d5:=by
   obtain⟨st,B_⟩:=bv;exact⟨st,(l.block b (by omega) (by omega)).trans B_⟩
  have U3:∀ {v:Zf} {e:Zs} {k n:Nat} {xs:List Zf} {base:Nat},B.ownsRow base e k v n xs->e≠46->Q.ownsRow base e k v n xs:=λh he=>aaC h l q he;have g1:=ka.Ar (l.same λx j=>show¬x=g by have:=hS x j;omega);have g2:=(kv.Ar (l.same λx j=>show¬x=g by have:=j.2;omega)).imp (T:=Cb w.heap.size Q) λx j=>⟨by have:=j.1;omega,by have:=j.2;omega⟩;have g3:RC (Cb w.heap.size Q) Q (.slice r1 a.base.length f1) (.slice r2 a.Af.length f2) (.slice r3 a.hooks.length f3) (.slice (some ⟨g,0,none⟩) a.Aa.length f4) (.slice r5 a.now.length f5) {a with Aa:=a.Aa.set C ⟨low,z,Ap,N,left⟩}:=
   ⟨Sl.imp (Own.si (U3 U.base (by decide))) (λx j=>⟨by have:=j.1;omega,j.2⟩) (λ_ _ x=>x),Sl.imp (Ih.tt (U3 U.Af (by decide)) (.inr (.inr rfl))) (λx j=>⟨by have:=j.1;omega,j.lt⟩) (λ_ _ x=>x),Sl.imp (Own.si (U3 U.hooks (by decide))) (λx j=>⟨by have:=j.1;omega,j.2⟩) (λ_ _ x=>x),(Z.ss (Zj _)).imp (λx j=>⟨by have:=j.1;omega,j.2⟩) (λ_ _ ⟨v2,v3,e,h2,h3⟩=>⟨v2,v3,e,Sl.imp h2 (λx j=>⟨by have:=j.1;omega,j.2⟩) λ_ _ x=>x,Sl.imp h3 (λx j=>⟨by have:=j.1;omega,j.2⟩) λ_ _ x=>x⟩),Sl.imp (Own.si (U3 U.now (by decide))) (λx j=>⟨by have:=j.1;omega,j.2⟩) (λ_ _ x=>x)⟩
  have R:=abg (d:=d) fw fm (by omega) hM (co:= {a with Aa:=a.Aa.set C ⟨low,z,Ap,N,left⟩}) (t.put fy) g1 g2 g3;rw[ap]at R;have J:=(l.block o (by omega) jn).trans b8;have I:=(l.block m (by omega) (ed m (by omega))).trans ky;have H:=(l.block w.heap.size (by omega) (ed _ (by omega))).trans kw;have iX:=ch (i:=0) H (v:=.slice a1 c.base.length c1) rfl;have ct:=ch (i:=1) H (v:=.slice a2 c.Af.length c2) rfl;have iS:=ch (i:=2) H (v:=.slice a3 c.hooks.length c3) rfl;have ck:=ch (i:=3) H (v:=.slice (some ⟨V,o4,none⟩) c.Aa.length c4) rfl;have iv:=ch (i:=4) H (v:=.slice a5 c.now.length c5) rfl;have ip:=ch (i:=0) I (v:=.slice p1 a.base.length e1) rfl;have io:=ch (i:=1) I (v:=.slice p2 a.Af.length e2) rfl;have im:=ch (i:=2) I (v:=.slice p3 a.hooks.length e3) rfl;have ii:=ch (i:=3) I (v:=.slice p4 a.Aa.length e4) rfl;have g9:=ch (i:=4) I (v:=.slice p5 a.now.length e5) rfl;have gt:=ch (i:=0) J (v:=.slice r1 a.base.length f1) rfl;have ci:=ch (i:=1) J (v:=.slice r2 a.Af.length f2) rfl;have gn:=ch (i:=2) J (v:=.slice r3 a.hooks.length f3) rfl;have b9:=ch (i:=3) J (v:=.slice (some ⟨g,0,none⟩) a.Aa.length f4) rfl;have gj:=ch (i:=4) J (v:=.slice r5 a.now.length f5) rfl;have lF:=Zd R;have lG:=Zd ap;clear P R g1 g2 g3 U3 Z ml l J I H q0 q1 q2 q3 q4 dl i8 ow ol n7 du lX nj lK xX ap fm fw;unfold Dl
  go_simp
  go_wp2;rw[lG.out];go_ret;exact lF.out
 have lE:=abg (d:=d) be fu (by omega) hM t an (fJ.imp (T:=Cb w.heap.size y) λx j=>⟨by have:=j.1;omega,by have:=j.2;omega⟩) (am.rc.imp (T:=Cb w.heap.size y) λx j=>⟨by have:=j.1;omega,j.2⟩);have iX:=ch (i:=0) D (v:=.slice a1 c.base.length c1) rfl;have ct:=ch (i:=1) D (v:=.slice a2 c.Af.length c2) rfl;have iS:=ch (i:=2) D (v:=.slice a3 c.hooks.length c3) rfl;have ck:=ch (i:=3) D (v:=.slice a4 c.Aa.length c4) rfl;have iv:=ch (i:=4) D (v:=.slice a5 c.now.length c5) rfl;have ip:=ch (i:=0) F (v:=.slice p1 a.base.length e1) rfl;have io:=ch (i:=1) F (v:=.slice p2 a.Af.length e2) rfl;have im:=ch (i:=2) F (v:=.slice p3 a.hooks.length e3) rfl;have ii:=ch (i:=3) F (v:=.slice p4 a.Aa.length e4) rfl;have g9:=ch (i:=4) F (v:=.slice p5 a.now.length e5) rfl;have gt:=ch (i:=0) G (v:=.slice r1 a.base.length f1) rfl;have ci:=ch (i:=1) G (v:=.slice r2 a.Af.length f2) rfl;have gn:=ch (i:=2) G (v:=.slice r3 a.hooks.length f3) rfl;have b9:=ch (i:=3) G (v:=.slice r4 a.Aa.length f4) rfl;have gj:=ch (i:=4) G (v:=.slice r5 a.now.length f5) rfl;by_cases h0:c.Af.length=0
 .have hh:¬0<(c.Af.length:Int):=by omega
  clear h0;go_wp2;go_ret;exact lE
 have hh:0<(c.Af.length:Int):=by omega
 go_wp2;have mh:a.Af.length=a.base.length:=hM.PN;have se:=Zd mh;have rx:1<=a.Af.length/\a.Af.length<=3:=by have:=hM.Fp;omega
 clear mh;obtain⟨g,eg⟩:∃g,r2=some ⟨g,0,none⟩:=by
  rcases am.Af.2 with⟨e,h2⟩|⟨g,cap,E,e,_⟩
  .omega
  cases e;exact⟨g,rfl⟩
 subst eg;obtain⟨V,o4,ea,UQ,x0,x1⟩:=an.Af.at_ (i:=0) (by omega);subst ea;obtain⟨sm,bV⟩:∃sm,sm=BV c.Af 0:=⟨_,rfl⟩;rw[<-bV]at x0 x1;rw[Nat.zero_mul,Nat.add_zero]at x0 x1;clear bV;obtain⟨low,z⟩:=sm;dsimp only at x0 x1;obtain⟨K,Ig⟩:∃K:Nat->Prop,K=λx=>x=b\/y.heap.size<=x:=⟨_,rfl⟩;have fh:K b:=by rw[Ig];exact .inl rfl
 have LP:∀x,y.heap.size<=x->K x:=λx j=>by rw[Ig];exact .inr j
 have qF:∀x,x<y.heap.size->x≠b->¬K x:=λx h1 h2=>by rw[Ig];exact λe=>e.elim h2 (by omega)
 clear Ig;have mi:=hS V UQ;have z0:=λp:Tw K y=>p.cell ci (qF _ (by show o<_;omega) (by show o≠b;omega));have z1:=λp:Tw K y=>p.cell ct (qF _ (by show w.heap.size<_;omega) (by show w.heap.size≠b;omega));have z2:=λp:Tw K y=>p.cell x0 (qF _ (by show V<_;omega) (by show V≠b;omega));have z3:=λp:Tw K y=>p.cell x1 (qF _ (by show V<_;omega) (by show V≠b;omega));have Qu:IntKind.i64.wrap ((a.Af.length:Int) - 1)=(a.Af.length:Int) - 1:=by rw[zE];omega
 refine B0 (S:=λW=>∃p:Tw K y,W=p.v) [13] [(false,5),(false,6),(false,7),(false,12),(false,13)] [0,1,2,3,4,8,9,10,11] (by kernel_rfl) (λ_ _ d _ _ h=>by cases d<;>exact h) (by kernel_rfl) (A5 (Ak.later (Zh _ _).drew)) ?_;refine A4 _ _ (by kernel_rfl) ?_;simp only[Z6,zd,ZG,ZD,ZC]
 repeat (first|go_big_quiet_step (fail)|quiet_step (fail))
 refine Z4 ?_;clear z0 z1 z2 z3;change Dl _ _ _ _ _ _ _;have Uh:YH y.heap.size y y.drew:=(Zh _ _).drew;have fi:Ak K y y.drew:=Ak.later Uh;refine Dw (v:=.int .i64 a.Af.length) rfl rfl (by go_simp) (.inr (A5 fi)) ?_;refine Dw (v:=.int .i64 ((a.Af.length:Int) - 1)) rfl rfl (by go_simp) (.inr (A5 fi)) ?_;refine Dd (f:=26) (args:= #[.pointer (some ⟨b,0,none⟩),.int .i64 ((a.Af.length:Int) - 1)]) rfl rfl (by go_simp) ((c29 ((i9.Cn S5 (λx j=>⟨by have:=(E8 x j).1;omega,(E8 x j).2⟩)).later Uh) (λx j=>⟨by have:=(E8 x j).1;simp;omega,(E8 x j).2⟩) (fu.later Uh) (by omega) (by omega)).mono ?_);rintro e B ⟨C,d5,rfl,o9,cN,bv,pc⟩;have Xp:B3 b y B:=by
  exact⟨cN.os,cN.tape,cN.output,cN.size,λk hk O=>cN.block k hk O⟩
 have A:Ak K y B:=Xp.CN fh;refine⟨_,rfl,.inr (A5 A),?_⟩;have li:C<a.Af.length:=by omega
 have lJ:=Xp.size;have U:=am.CN (Xp.CN (K:=λx=>x=b) rfl) (λx j e=>by omega);have b8:=Xp.at_ G (by omega);have ky:=Xp.at_ F (by omega);have kw:=Xp.at_ D (by omega);have kv:=fJ.Ar (Xp.same λx j=>by have:=j.1;omega);have ka:=an.Ar (Xp.same λx j=>(hS x j).2);have L:B3 b w B:=be.trans Xp;obtain⟨E,q,ai⟩:∃E,B.heap[g]?=some (.cells E 66 (0,0))/\∀k,k<2->∃v,E[C*2+k]?=some v:=by
  rcases U.Af.2 with⟨e,_⟩|⟨g',cap,E,e,g3,g4,g5,g6,g7,_⟩
  .cases e
  cases e;exact⟨E,g4,λk hk=>⟨_,Zx (by rw[g7];omega)⟩⟩
 obtain⟨w0,du⟩:=ai 0 (by decide);obtain⟨w1,lX⟩:=ai 1 (by decide);have q0:=ch q du;have q1:=ch q lX;have dl:=cf (i:=C*2+0) q;have i8:=cf (i:=C*2+1) q;rw[Nat.add_zero]at q0 dl;obtain⟨Q,P⟩:∃Q,Q=(B.setCell ⟨g,C*2,none⟩ (.int .i64 low)).setCell ⟨g,C*2+1,none⟩ (.int .i64 z):=⟨_,rfl⟩;have pm:(C:Int)<(a.Af.length:Int):=by omega
 have pi:(0:Int)<=(C:Int):=by omega
 refine Dw (v:=.pointer (some ⟨g,C*2,none⟩)) rfl rfl (by go_simp) (.inr (A5 A)) ?_;refine K8 (w':=Q) rfl rfl (by rw[P];go_simp) (.inl rfl) ?_;have l:Ak (λx=>x=g) B Q:=by rw[P];exact(Ak.refl (λx=>x=g) B).DT.DT
 have pa:=(J3 U.Af g rfl).1;have rp:=U.l2 g rfl;have ed:∀x,x<X2.heap.size->¬x=g:=λx j e=>by omega
 have jn:¬o=g:=λe=>by subst e;rw[b8]at q;cases q
 have Z:=Ih.set U.Af li (low,z);dsimp only at Z;rw[<-P]at Z;have ap:Q.heap.size=B.heap.size:=by rw[P];simp
 have fw:B3 b w Q:=by
  exact⟨l.os.trans L.os,l.tape.trans L.tape,l.output.trans L.output,Zr L.size l.size,λk hk O=>(l.block k (by have:=L.size;omega) (by omega)).trans (L.block k hk O)⟩
 have fm:BK Q b lv d5:=by
  obtain⟨st,B_⟩:=bv;exact⟨st,(l.block b (by omega) (by omega)).trans B_⟩
 have U3:∀ {v:Zf} {e:Zs} {k n:Nat} {xs:List Zf} {base:Nat},B.ownsRow base e k v n xs->e≠66->Q.ownsRow base e k v n xs:=λh he=>aaC h l q he;have lL:=U.row.CN l (λx j e=>by have:=j.1;omega) (λx j e=>by have:=(U.row.own x j).1;omega);have rg:=U.le;have g1:=ka.Ar (l.same λx j=>show¬x=g by have:=hS x j;omega);have g2:=(kv.Ar (l.same λx j=>show¬x=g by have:=j.2;omega)).imp (T:=Cb w.heap.size Q) λx j=>⟨by have:=j.1;omega,by have:=j.2;omega⟩;have g3:RC (Cb w.heap.size Q) Q (.slice r1 a.base.length f1) (.slice (some ⟨g,0,none⟩) a.Af.length f2) (.slice r3 a.hooks.length f3) (.slice r4 a.Aa.length f4) (.slice r5 a.now.length f5) {a with Af:=a.Af.set C (low,z)}:=
  ⟨Sl.imp (Own.si (U3 U.base (by decide))) (λx j=>⟨by have:=j.1;omega,j.2⟩) (λ_ _ x=>x),Sl.imp (Ih.tt Z (.inr (.inr rfl))) (λx j=>⟨by have:=j.1;omega,j.lt⟩) (λ_ _ x=>x),Sl.imp (Own.si (U3 U.hooks (by decide))) (λx j=>⟨by have:=j.1;omega,j.2⟩) (λ_ _ x=>x),(lL.ss (Zj _)).imp (λx j=>⟨by have:=j.1;omega,j.2⟩) (λ_ _ ⟨v2,v3,e,h2,h3⟩=>⟨v2,v3,e,Sl.imp h2 (λx j=>⟨by have:=j.1;omega,j.2⟩) λ_ _ x=>x,Sl.imp h3 (λx j=>⟨by have:=j.1;omega,j.2⟩) λ_ _ x=>x⟩),Sl.imp (Own.si (U3 U.now (by decide))) (λx j=>⟨by have:=j.1;omega,j.2⟩) (λ_ _ x=>x)⟩
 have R:=abg (d:=d) fw fm (by omega) hM (co:= {a with Af:=a.Af.set C (low,z)}) ⟨t.base,by rw[ZcC];exact t.Af,t.hooks,t.Aa,t.now,t.part⟩ g1 g2 g3;rw[ap]at R;have J:=(l.block o (by omega) jn).trans b8;have I:=(l.block m (by omega) (ed m (by omega))).trans ky;have H:=(l.block w.heap.size (by omega) (ed _ (by omega))).trans kw;have iX:=ch (i:=0) H (v:=.slice a1 c.base.length c1) rfl;have ct:=ch (i:=1) H (v:=.slice (some ⟨V,o4,none⟩) c.Af.length c2) rfl;have iS:=ch (i:=2) H (v:=.slice a3 c.hooks.length c3) rfl;have ck:=ch (i:=3) H (v:=.slice a4 c.Aa.length c4) rfl;have iv:=ch (i:=4) H (v:=.slice a5 c.now.length c5) rfl;have ip:=ch (i:=0) I (v:=.slice p1 a.base.length e1) rfl;have io:=ch (i:=1) I (v:=.slice p2 a.Af.length e2) rfl;have im:=ch (i:=2) I (v:=.slice p3 a.hooks.length e3) rfl;have ii:=ch (i:=3) I (v:=.slice p4 a.Aa.length e4) rfl;have g9:=ch (i:=4) I (v:=.slice p5 a.now.length e5) rfl;have gt:=ch (i:=0) J (v:=.slice r1 a.base.length f1) rfl;have ci:=ch (i:=1) J (v:=.slice (some ⟨g,0,none⟩) a.Af.length f2) rfl;have gn:=ch (i:=2) J (v:=.slice r3 a.hooks.length f3) rfl;have b9:=ch (i:=3) J (v:=.slice r4 a.Aa.length f4) rfl;have gj:=ch (i:=4) J (v:=.slice r5 a.now.length f5) rfl;have lF:=Zd R;have lG:=Zd ap;clear P R g1 g2 g3 U3 Z lL l J I H q0 q1 dl i8 du lX ap fm fw;unfold Dl
 go_simp
 go_wp2;rw[lG.out];go_ret;exact lF.out
def aef {i:Nat}{l:List A_}{x:A_}(h:Sl S (af5 S) 5 w (.slice (some ⟨q,0,none⟩) n i) l)(b:l[k]?=some x):
  S q/\∃v1 v2 v3 v4 v5,w.cell? ⟨q,k*5,none⟩=some v1/\w.cell? ⟨q,k*5+1,none⟩=some v2/\w.cell? ⟨q,k*5+2,none⟩=some v3/\w.cell? ⟨q,k*5+3,none⟩=some v4/\w.cell? ⟨q,k*5+4,none⟩=some v5/\RC S w v1 v2 v3 v4 v5 x:=by
 obtain⟨r,o,e,_,_,f⟩:=h;cases e;obtain⟨p,j,cs,g,c,m,a,v1,v2,v3,v4,v5,rfl,d⟩:=f k x b;cases g;rw[zN]at a;exact⟨c,v1,v2,v3,v4,v5,by simpa using a 0 v1 rfl,a 1 v2 rfl,a 2 v3 rfl,a 3 v4 rfl,a 4 v5 rfl,d⟩
def aju {v7:Zf}{st:List Int}(h:RC (λx=>x<w.heap.size) w v1 v2 v3 v4 v5 c)(hs:SI (λx=>x<w.heap.size) w v6 st)(hn:SI (λx=>x<w.heap.size) w v7 nums)(hG:Jr w):Calls Lp 3 #[.agg #[v1,v2,v3,v4,v5],v6,v7] w (Two w (.bool true)):=by
 obtain⟨a1,c1,rfl,l1,m1⟩:=h.base.val;obtain⟨a2,c2,rfl,l2,m2⟩:=h.Af.val;obtain⟨a3,c3,rfl,l3,m3⟩:=h.hooks.val;obtain⟨a4,c4,rfl,l4,m4⟩:=h.Aa.val;obtain⟨a5,c5,rfl,l5,m5⟩:=h.now.val;obtain⟨a6,c6,rfl,l6,m6⟩:=hs.val;obtain⟨la,lc,rfl,_⟩:=hn.val;have IX:=DJ;obtain⟨X,hX⟩:∃X,X=w.alloc (.cells #[.slice a1 c.base.length c1,.slice a2 c.Af.length c2,.slice a3 c.hooks.length c3,.slice a4 c.Aa.length c4,.slice a5 c.now.length c5] 26):=⟨_,rfl⟩;have Ov:YH w.heap.size w X:=by rw[hX];exact bA (Zh _ _)
 have sr:X.heap.size=w.heap.size+1:=by rw[hX,ZB]
 have ml:X.heap[w.heap.size]?=some (.cells #[.slice a1 c.base.length c1,.slice a2 c.Af.length c2,.slice a3 c.hooks.length c3,.slice a4 c.Aa.length c4,.slice a5 c.now.length c5] 26 (0,0)):=by rw[hX];exact Bp _ _
 have pa:=Zd (c25 (h.later Ov) (λx (n:x<w.heap.size)=>by omega));go_enter Lp.func6,aa1;go_wp2;rw[<-hX];clear hX;refine pa.out.mono ?_;rintro e W1 ⟨iv,rfl,oX,Bg⟩;have dl:=bU Ov Bg;have kG:=hG.later dl;have DR:=Bg.size;have l_:=(Bg.block _ (by omega)).trans ml;by_cases ip:iv=true\/20<st.length
 .cases iv with
  |true=>
   go_wp2_with (go_at_call 5;refine(c26 _ kG).mono ?_;rintro e V ⟨Ui,rfl|⟨x,rfl,Ss⟩⟩)
   .go_ret
    exact⟨bU dl Ui,.inl rfl⟩
   .exact⟨rfl,bU dl Ui,.inr ⟨_,rfl,Ss⟩⟩
  |false=>
   have rq:20<(st.length:Int):=by
    rcases ip with e|e
    .cases e
    omega
   go_wp2_with (go_at_call 5;refine(c26 _ kG).mono ?_;rintro e V ⟨Ui,rfl|⟨x,rfl,Ss⟩⟩)
   .go_ret
    exact⟨bU dl Ui,.inl rfl⟩
   exact⟨rfl,bU dl Ui,.inr ⟨_,rfl,Ss⟩⟩
 have lL:iv=false:=by cases iv;rfl;exact absurd (.inl rfl) ip
 have rq:¬20<(st.length:Int):=λe=>ip (.inr (by omega));have Qh:=oX lL;subst lL;clear ip oX pa ml;have k0:=ch (i:=0) l_ (v:=.slice a1 c.base.length c1) rfl;have k1:=ch (i:=1) l_ (v:=.slice a2 c.Af.length c2) rfl;have k2:=ch (i:=2) l_ (v:=.slice a3 c.hooks.length c3) rfl;have k3:=ch (i:=3) l_ (v:=.slice a4 c.Aa.length c4) rfl;have k4:=ch (i:=4) l_ (v:=.slice a5 c.now.length c5) rfl;obtain⟨W2,MX⟩:∃W2,W2=W1.alloc (.cells #[.slice la nums.length lc,.int .i64 0,.int .u64 1] 61):=⟨_,rfl⟩;have Bb:YH W1.heap.size W1 W2:=by rw[MX];exact bA (Zh _ _)
 have EB:W2.heap.size=W1.heap.size+1:=by rw[MX,ZB]
 have rV:BK W2 W1.heap.size (.slice la nums.length lc) 0:=⟨1,by rw[MX];exact Bp _ _⟩;obtain⟨b,hb⟩:∃b,b=W1.heap.size:=⟨_,rfl⟩;rw[<-hb]at rV;have EC:W1.heap.size<=b/\b<=W1.heap.size:=by omega
 go_wp2;refine(c27 _ ⟨_,_,_,rfl⟩ _).mono ?_;rintro e ym ⟨rfl,hw⟩;rw[<-MX]at hw;have hw:=hw.symm;subst hw;rw[<-hb];clear hb MX;have B:=bU dl Bb;have o9:=Zd (c28 (h.later B) (λx (n:x<w.heap.size)=>⟨by have:=B.size;omega,by omega⟩) (hn.later B) (λx (n:x<w.heap.size)=>⟨by have:=B.size;omega,by omega⟩) rV (by decide) Qh);have ci:=(Bb.block _ (by omega)).trans l_;clear k0 k1 k2 k3 k4;have k0:=ch (i:=0) ci (v:=.slice a1 c.base.length c1) rfl;have k1:=ch (i:=1) ci (v:=.slice a2 c.Af.length c2) rfl;have k2:=ch (i:=2) ci (v:=.slice a3 c.hooks.length c3) rfl;have k3:=ch (i:=3) ci (v:=.slice a4 c.Aa.length c4) rfl;have k4:=ch (i:=4) ci (v:=.slice a5 c.now.length c5) rfl;go_wp2;refine o9.out.mono ?_;rintro e W3 ⟨r,fy,q,d3,rfl,H4,mj,t9,hM,lG,JA,jp⟩;have Rb:=H4.size;have BL:∀x,(x<w.heap.size\/Cb W2.heap.size W3 x)->x<W3.heap.size/\x≠b:=λx n=>by
  rcases n with n|n
  .have:=B.size;exact⟨by omega,by omega⟩
  have:=n.1;have:=n.2;exact⟨by omega,by omega⟩
 obtain⟨pt,p1,p2,p3,p4,p5,x0,x1,x2,x3,x4,bi⟩:=aef (k:=1) jp rfl;rw[Nat.one_mul]at x0 x1 x2 x3 x4;obtain⟨rz,pp,rfl,_⟩:=bi.base.val;obtain⟨ry,pm,rfl,_⟩:=bi.Af.val;obtain⟨rx,pi,rfl,_⟩:=bi.hooks.val;obtain⟨ru,pd,rfl,_⟩:=bi.Aa.val;obtain⟨rr,pc,rfl,_⟩:=bi.now.val;have ed:=hM.small;have o8:=Zd (c30 bi BL ((hn.later B).Cn H4 (λx (n:x<w.heap.size)=>⟨by have:=B.size;omega,by omega⟩)) (λx (n:x<w.heap.size)=>⟨by have:=B.size;omega,by omega⟩) mj (by have:=ed.Aa;omega) (by have:=ed.Aa;omega) λi hi=>by have:=(hM.valid.step i hi);omega);clear k0 k1 k2 k3 k4;go_wp2;refine o8.out.mono ?_;rintro e W4 ⟨v8,own,d4,rfl,S5,re,tn,i9,lI,_⟩;obtain⟨oa,oc,rfl,_⟩:=i9.val;have uR:=Zd lI;have kw:own.length<=20:=by have:=ed.Aa;omega
 clear lI;have td:=S5.size;obtain⟨Z,hZ⟩:∃Z,Z=W4.alloc (.cells #[.slice a6 st.length c6,.slice oa own.length oc,.slice oa own.length oc,.slice a6 st.length c6] 22):=⟨_,rfl⟩;have jt:YH W4.heap.size W4 Z:=by rw[hZ];exact bA (Zh _ _)
 have bv:Z.heap[W4.heap.size]?=some (.cells #[.slice a6 st.length c6,.slice oa own.length oc,.slice oa own.length oc,.slice a6 st.length c6] 22 (0,0)):=by rw[hZ];exact Bp _ _
 obtain⟨qs,i6⟩:∃qs,qs=W4.heap.size:=⟨_,rfl⟩;rw[<-i6]at bv;have vx:W4.heap.size<=qs/\qs<=W4.heap.size:=by omega
 go_wp2;rw[<-hZ, <-i6];clear hZ i6;have sq:=jt.size;have fJ:B3 b W3 Z:=S5.below jt;have jn:Sl (λx=>x<Z.heap.size) (af5 λx=>x<Z.heap.size) 5 Z (.slice (some ⟨q,0,none⟩) 4 4) [c,r,fy,r]:=by
  have rU:∀x,(x<w.heap.size\/Cb W2.heap.size W3 x)->x<Z.heap.size:=λx n=>by have:=(BL x n).1;omega
  refine Sl.imp (Sl.Ar jp (fJ.same λx n=>(BL x n).2) (R:=af5 λx=>x<w.heap.size\/Cb W2.heap.size W3 x) ?_) rU ?_
  .rintro cs x ⟨y1,y2,y3,y4,y5,rfl,hR⟩
   exact⟨y1,y2,y3,y4,y5,rfl,hR.Ar (fJ.same λx n=>(BL x n).2)⟩
  rintro cs x ⟨y1,y2,y3,y4,y5,rfl,hR⟩;exact⟨y1,y2,y3,y4,y5,rfl,hR.imp rU⟩
 have B_:SI (λx=>x<Z.heap.size) Z (.slice a6 st.length c6) st:=Sl.imp ((hs.later B).Ar (((H4.trans fJ)).same λx (n:x<w.heap.size)=>by have:=B.size;omega)) (λx (n:x<w.heap.size)=>by have:=B.size;show x<Z.heap.size;omega) λ_ _ x=>x;have AX:SI (λx=>x<Z.heap.size) Z (.slice oa own.length oc) own:=Sl.imp (i9.later jt) (λx n=>by have:=n.2;show x<Z.heap.size;omega) λ_ _ x=>x;have ky:st.length<=20:=by omega
 have i7:SL (λx=>x<Z.heap.size) Z (.slice (some ⟨qs,0,none⟩) 4 4) [st,own,own,st]:=by
  refine⟨_,_,rfl,Zj _,by decide,λi x n=>?_⟩;have ii:qs<Z.heap.size:=(Za.1 bv).1
  match i,n with
  |0,n=>cases n;exact⟨qs,0,[.slice a6 st.length c6],rfl,ii,rfl,(λj u D=>by match j,D with|0,D=>cases D;exact ch bv rfl),_,rfl,B_⟩
  |1,n=>cases n;exact⟨qs,0,[.slice oa own.length oc],rfl,ii,rfl,(λj u D=>by match j,D with|0,D=>cases D;exact ch bv rfl),_,rfl,AX⟩
  |2,n=>cases n;exact⟨qs,0,[.slice oa own.length oc],rfl,ii,rfl,(λj u D=>by match j,D with|0,D=>cases D;exact ch bv rfl),_,rfl,AX⟩
  |3,n=>cases n;exact⟨qs,0,[.slice a6 st.length c6],rfl,ii,rfl,(λj u D=>by match j,D with|0,D=>cases D;exact ch bv rfl),_,rfl,B_⟩
 have mz:YH w.heap.size w Z:=B3.aj4 B (H4.trans fJ) (by omega);have rp:Jr Z:=hG.later mz;obtain⟨cl,dL⟩:∃cl,cl=[c,r,fy,r]:=⟨_,rfl⟩;obtain⟨du,Xc⟩:∃du,du=[st,own,own,st]:=⟨_,rfl⟩;have nm:∀k,k<4->∃x,cl[k]?=some x/\aaZ x:=by
  intro k hk;rw[dL];obtain rfl|rfl|rfl|rfl:k=0\/k=1\/k=2\/k=3:=by omega
  .exact⟨_,rfl,Qh⟩
  .exact⟨_,rfl,ed⟩
  .exact⟨_,rfl,lG⟩
  exact⟨_,rfl,ed⟩
 have ne:∀k,k<4->(BM du k).length<=20:=by
  intro k hk;rw[Xc];obtain rfl|rfl|rfl|rfl:k=0\/k=1\/k=2\/k=3:=by omega
  .exact ky
  .exact kw
  .exact kw
  exact ky
 have mv:du.length=4:=by rw[Xc];rfl
 rw[<-dL]at jn;rw[<-Xc]at i7;have yg:=Zd mv;have so:=Zd jn;have rC:=Zd i7;have rE:=Zd nm;have se:=Zd ne;clear dL Xc jn i7 mv nm ne B_ AX ky kw bv uR i9 S5 re o8 o9 bi x0 x1 x2 x3 x4 jp mj H4 fJ ed hM lG Qh l_ ci rV BL pt h hs hn;go_loopg [11] 4 (λgg i wr=>∃k:Nat,k<=4/\gg=4 - k/\i=.int .i64 k/\YH Z.heap.size Z wr)
 case atStart=>exact⟨0,by decide,rfl,rfl,Zh _ _⟩
 obtain⟨k,hk,rfl,rfl,b8⟩:=hrel;by_cases Az:k<4
 .obtain⟨x,n,ap⟩:=rE.out k Az
  have pu:=se.out k Az;obtain⟨_,p1,p2,p3,p4,p5,x0,x1,x2,x3,x4,be⟩:=aef so.out n;obtain⟨fw,e1,rfl,_⟩:=be.base.val;obtain⟨fu,e2,rfl,_⟩:=be.Af.val;obtain⟨fm,e3,rfl,_⟩:=be.hooks.val;obtain⟨fi,e4,rfl,_⟩:=be.Aa.val;obtain⟨fd,e5,rfl,_⟩:=be.now.val;obtain⟨bs,os,u,rB,_,lH,D⟩:=SL.at_ (l:=du) (a:=some ⟨qs,0,none⟩) (c:=4) (by rw[yg.out];exact rC.out) (i:=k) (by rw[yg.out];exact Az);cases rB;rw[zN]at lH;obtain⟨l,hl⟩:∃l,l=BM du k:=⟨_,rfl⟩;rw[<-hl]at D pu;clear hl;obtain⟨ua,uc,rfl,_⟩:=D.val;obtain⟨V,hV⟩:∃V,V=wr:=⟨_,rfl⟩;subst hV;have s8:=b8.size;have rU:∀y,y<Z.heap.size->y<V.heap.size:=λy g=>by omega
  have o:∀ {p:Addr} {v:Zf},Z.cell? p=some v->V.cell? p=some v:=λh=>(b8.cell (ZH _ _ h)).trans h;have i8:RC (λy=>y<V.heap.size) V (.slice fw x.base.length e1) (.slice fu x.Af.length e2) (.slice fm x.hooks.length e3) (.slice fi x.Aa.length e4) (.slice fd x.now.length e5) x:=(be.later b8).imp rU;have iX:SI (λy=>y<V.heap.size) V (.slice ua l.length uc) l:=Sl.imp (D.later b8) rU λ_ _ x=>x;replace x0:=o x0;replace x1:=o x1;replace x2:=o x2;replace x3:=o x3;replace x4:=o x4;replace lH:=o lH;clear o rU be D;have lE:=Zd (λW (E:YH V.heap.size V W)=>aoQ (i8.later E) (λy (g:y<V.heap.size)=>by have:=E.size;omega) (by have:=ap.base;omega) (by have:=ap.Af;omega) (by have:=ap.hooks;omega) (by have:=ap.Aa;omega) (by have:=ap.now;omega) λi hi=>⟨by have:=(ap.part i hi).1;omega,by have:=(ap.part i hi).2;omega⟩);have iS:=Zd (λW (E:YH V.heap.size V W)=>WO (iX.later E) (by omega));have n7:=Zd i8;have no:=Zd iX;have TB:(k:Int)<4:=by omega
  have vz:(0:Int)<=(k:Int):=by omega
  have z0:=λp=>Al p x0;have z1:=λp=>Al p x1;have z2:=λp=>Al p x2;have z3:=λp=>Al p x3;have z4:=λp=>Al p x4;have z5:=λp=>Al p lH;clear i8 iX;go_wp2
  rename Act->Zb->Prop=>KK
  have rA:∀(F:Zb) (m:Nat) (K J I H G ta:Option Addr) (n1 n2 n3 n4 n5 M:Nat),YH V.heap.size V F->F.heap[m]?=some (.cells #[.slice K x.base.length n1,.slice J x.Af.length n2,.slice I x.hooks.length n3,.slice H x.Aa.length n4,.slice G x.now.length n5] 26 (0,0))->RC (λy=>y<F.heap.size) F (.slice K x.base.length n1) (.slice J x.Af.length n2) (.slice I x.hooks.length n3) (.slice H x.Aa.length n4) (.slice G x.now.length n5) x->SI (λy=>y<F.heap.size) F (.slice ta l.length M) l->KK {tmps:= #[Value.agg #[Zy a1 c.base.length c1,Zy a2 c.Af.length c2,Zy a3 c.hooks.length c3,Zy a4 c.Aa.length c4,Zy a5 c.now.length c5],Zy a6 st.length c6,Zy la nums.length lc,ZbT (some ⟨w.heap.size,0,none⟩),Ze,Ze,u6,ZbT (some ⟨b,0,none⟩),Zy (some ⟨q,0,none⟩) 4 4,Zy oa own.length oc,Zy (some ⟨qs,0,none⟩) 4 4,ZL .i64 (k:Int),ZbT (some ⟨m,0,none⟩),Zy ta l.length M,u14,u15,u16,u17,Value.agg #[Zy a1 c.base.length c1,Zy a2 c.Af.length c2,Zy a3 c.hooks.length c3,Zy a4 c.Aa.length c4,Zy a5 c.now.length c5],Value.bool false,Value.bool false,Zy a6 st.length c6,ZL .i64 (st.length:Int),Value.bool (decide (20<(st.length:Int))),Value.bool (decide (20<(st.length:Int))),Ze,Zy la nums.length lc,ZbT (some ⟨b,0,none⟩),Value.agg #[Zy a1 c.base.length c1,Zy a2 c.Af.length c2,Zy a3 c.hooks.length c3,Zy a4 c.Aa.length c4,Zy a5 c.now.length c5],ZbT (some ⟨b,0,none⟩),Zy (some ⟨q,0,none⟩) 4 4,ZbT (some ⟨b,0,none⟩),Zy (some ⟨q,0,none⟩) 4 4,ZbT (some ⟨q,5,none⟩),Value.agg #[Zy rz r.base.length pp,Zy ry r.Af.length pm,Zy rx r.hooks.length pi,Zy ru r.Aa.length pd,Zy rr r.now.length pc],Zy oa own.length oc,Zy a6 st.length c6,Zy oa own.length oc,Zy oa own.length oc,Zy a6 st.length c6,Zy (some ⟨qs,0,none⟩) 4 4,ZL .i64 (k:Int),Zy (some ⟨q,0,none⟩) 4 4,ZL .i64 4,Value.bool true,u45,u46,Zy (some ⟨q,0,none⟩) 4 4,ZL .i64 (k:Int),ZbT (some ⟨q,k*5,none⟩),Value.agg #[Zy fw x.base.length e1,Zy fu x.Af.length e2,Zy fm x.hooks.length e3,Zy fi x.Aa.length e4,Zy fd x.now.length e5],Value.agg #[Zy K x.base.length n1,Zy J x.Af.length n2,Zy I x.hooks.length n3,Zy H x.Aa.length n4,Zy G x.now.length n5],Zy (some ⟨qs,0,none⟩) 4 4,ZL .i64 (k:Int),ZbT (some ⟨qs,k,none⟩),Zy ua l.length uc,Zy ta l.length M,u57,u58,u59,u60,u61,u62,u63,u64,u65,u66,u67,u68,u69,u70,u71,u72,u73,u74,u75,u76,u77,u78,u79,u80,u81,u82,u83,u84,u85,u86,u87,u88,u89,u90,u91,u92,u93,u94,u95,u96,u97,u98,u99,u100,u101,u102,u103,u104,u105,u106,u107,u108,u109,u110,u111,Ze],defers:=[]} F:=by
   intro F m K J I H G ta n1 n2 n3 n4 n5 M ct Ia gt gn;clear z0 z1 z2 z3 z4 z5 lE iS;have vw:=ct.size;have WS:=(Za.1 Ia).1;have ol:=Zd (c45 gt gn (λy g=>g));have g0:=ch (i:=0) Ia (v:=.slice K x.base.length n1) rfl;have g1:=ch (i:=1) Ia (v:=.slice J x.Af.length n2) rfl;have g2:=ch (i:=2) Ia (v:=.slice I x.hooks.length n3) rfl;have g3:=ch (i:=3) Ia (v:=.slice H x.Aa.length n4) rfl;have g4:=ch (i:=4) Ia (v:=.slice G x.now.length n5) rfl;go_wp2;refine ol.out.mono ?_;rintro e O ⟨va,rfl,g9,ha⟩;obtain⟨aa,ac,rfl,_⟩:=ha.val;have vi:=g9.size;have gj:=bU ct g9;have iz:=(g9.block _ WS).trans Ia;have mt:=(gt.later g9).imp (T:=λy=>y<O.heap.size) λy g=>by have g:y<F.heap.size:=g;show y<O.heap.size;omega
   have mp:SI (λy=>y<O.heap.size) O (.slice ta l.length M) l:=Sl.imp (gn.later g9) (T:=λy=>y<O.heap.size) (λy g=>by have g:y<F.heap.size:=g;show y<O.heap.size;omega) λ_ _ x=>x;have ma:SI (λy=>y<O.heap.size) O (.slice aa (JX x l).length ac) (JX x l):=Sl.imp ha (T:=λy=>y<O.heap.size) (λy g=>g.2) λ_ _ x=>x;clear g0 g1 g2 g3 g4 gt gn ha ol;have s:∀ {p:Addr} {v:Zf},V.cell? p=some v->O.cell? p=some v:=λh=>(gj.cell (ZH _ _ h)).trans h;have z0:=λp=>Al p (s x0);have z1:=λp=>Al p (s x1);have z2:=λp=>Al p (s x2);have z3:=λp=>Al p (s x3);have z4:=λp=>Al p (s x4);have z5:=λp=>Al p (s lH);go_wp2;refine abl (S:=λW=>∃p,W=calm O p) 14 [] (.one 8 (.free 9 (.free 10 (.free 11 (.one 12 (.one 13 .leaf)))))) [0,1,2,3,4,5,6,7] (by kernel_rfl) (λ_ _ d _ _ h=>by cases d<;>exact h) (by kernel_rfl) (AL (Zh _ _).drew) ?_;refine A4 _ _ (by kernel_rfl) ?_;simp only[Z6,zd,ZG,ZD,ZC]
   repeat (first|go_big_quiet_step (fail)|quiet_step (fail))
   refine Z4 ?_;clear z0 z1 z2 z3 z4 z5;change aaF _ _ _ _ _ _ _ _;have fK:YH O.heap.size O O.drew:=(Zh _ _).drew;refine abh (f:=12) (args:= #[.agg #[.slice fw x.base.length e1,.slice fu x.Af.length e2,.slice fm x.hooks.length e3,.slice fi x.Aa.length e4,.slice fd x.now.length e5],.slice ua l.length uc]) rfl rfl (by go_simp) ((c48 (n7.out.later (bU gj fK)) (no.out.later (bU gj fK)) (λy (g:y<V.heap.size)=>by have:=(bU gj fK).size;omega)).mono ?_);rintro e Y4 ⟨vb,rfl,my,UQ⟩;obtain⟨ba,bc,rfl,_⟩:=UQ.val;have b9:YH O.heap.size O Y4:=bU fK my;have bV:∃p,Y4=calm O p:=AL b9;refine .inl ⟨_,rfl,.inr bV,?_⟩;obtain⟨ea,lK⟩:∃ea,ea=Ca x l:=⟨_,rfl⟩;rw[<-lK];refine acs (v:=.tuple #[.slice ba (JX x l).length bc,.int .i64 ea]) bV rfl rfl (λw _=>by go_simp) ?_;refine acs (v:=.slice ba (JX x l).length bc) bV rfl rfl (λw _=>by go_simp) ?_;refine acs (v:=.int .i64 ea) bV rfl rfl (λw _=>by go_simp) ?_;refine abv (v:=.slice ba (JX x l).length bc) (w':=Y4) rfl rfl (by go_simp) (.inr bV) ?_;refine abv (v:=.int .i64 ea) (w':=Y4) rfl rfl (by go_simp) (.inr bV) ?_;clear lK;unfold aaF
   go_simp
   have vy:=b9.size;have ck:=bU gj b9;have Ks:=(b9.block _ (by omega)).trans iz;have kv:=(mt.later b9).imp (T:=λy=>y<Y4.heap.size) λy g=>by have g:y<O.heap.size:=g;show y<Y4.heap.size;omega
   have vd:SI (λy=>y<Y4.heap.size) Y4 (.slice ta l.length M) l:=Sl.imp (mp.later b9) (T:=λy=>y<Y4.heap.size) (λy g=>by have g:y<O.heap.size:=g;show y<Y4.heap.size;omega) λ_ _ x=>x;have un:SI (λy=>y<Y4.heap.size) Y4 (.slice aa (JX x l).length ac) (JX x l):=Sl.imp (ma.later b9) (T:=λy=>y<Y4.heap.size) (λy g=>by have g:y<O.heap.size:=g;show y<Y4.heap.size;omega) λ_ _ x=>x;have ut:SI (λy=>y<Y4.heap.size) Y4 (.slice ba (JX x l).length bc) (JX x l):=Sl.imp UQ (T:=λy=>y<Y4.heap.size) (λy g=>g.2) λ_ _ x=>x;have ka:=(n7.out.later ck).imp (T:=λy=>y<Y4.heap.size) λy g=>by have g:y<V.heap.size:=g;have:=ck.size;show y<Y4.heap.size;omega
   have us:SI (λy=>y<Y4.heap.size) Y4 (.slice ua l.length uc) l:=Sl.imp (no.out.later ck) (T:=λy=>y<Y4.heap.size) (λy g=>by have g:y<V.heap.size:=g;have:=ck.size;show y<Y4.heap.size;omega) λ_ _ x=>x;have an:∀W,YH Y4.heap.size Y4 W->∀y,y<Y4.heap.size->y<W.heap.size:=λW E y g=>Zl g E.size;obtain⟨eb,lJ⟩:∃eb,eb=BN x:=⟨_,rfl⟩;have lm:=Zd (λW (E:YH Y4.heap.size Y4 W)=>c49 (kv.later E) (an W E));have li:=Zd (λW (E:YH Y4.heap.size Y4 W)=>c50 (ka.later E) (an W E));rw[<-lJ]at lm li;have ow:=Zd (λW (E:YH Y4.heap.size Y4 W)=>c36 (kv.later E) (ka.later E) (an W E) (an W E));have cL:=Zd (λW (E:YH Y4.heap.size Y4 W) (v u:Zf) (a:List Int) (hv:SI (λy=>y<Y4.heap.size) Y4 v a) (D:SI (λy=>y<Y4.heap.size) Y4 u a)=>show Calls Lp 15 #[v,u] W λe w'=>e=.returned (.bool true)/\YH W.heap.size W w' from by
    have:=c46 (hv.later E) (D.later E) (an W E) (an W E);rwa[Vu]at this)
   have s:∀ {p:Addr} {v:Zf},V.cell? p=some v->Y4.cell? p=some v:=λh=>(ck.cell (ZH _ _ h)).trans h;have z0:=λp=>Al p (s x0);have z1:=λp=>Al p (s x1);have z2:=λp=>Al p (s x2);have z3:=λp=>Al p (s x3);have z4:=λp=>Al p (s x4);have z5:=λp=>Al p (s lH);have s0:=λp=>Al p (ch (i:=0) Ks (v:=.slice K x.base.length n1) rfl);have s1:=λp=>Al p (ch (i:=1) Ks (v:=.slice J x.Af.length n2) rfl);have s2:=λp=>Al p (ch (i:=2) Ks (v:=.slice I x.hooks.length n3) rfl);have s3:=λp=>Al p (ch (i:=3) Ks (v:=.slice H x.Aa.length n4) rfl);have s4:=λp=>Al p (ch (i:=4) Ks (v:=.slice G x.now.length n5) rfl);clear lJ kv ka UQ ma mp mt an s bV fK my;go_wp2;refine Av (by kernel_rfl) (by kernel_rfl) ?_
   repeat (first|go_big_quiet_step ((first|(go_at_call 13;exact AV (lm.out _ (AE _ _)))|(go_at_call 14;exact AV (li.out _ (AE _ _)))|(go_at_call 16;exact AV (ow.out _ (AE _ _)))|(go_at_call 15;exact AV (cL.out _ (AE _ _) _ _ _ (by assumption) (by assumption)))))|quiet_step ((first|(go_at_call 13;exact AV (lm.out _ (AE _ _)))|(go_at_call 14;exact AV (li.out _ (AE _ _)))|(go_at_call 16;exact AV (ow.out _ (AE _ _)))|(go_at_call 15;exact AV (cL.out _ (AE _ _) _ _ _ (by assumption) (by assumption))))))
   refine Z4 ?_;rintro _ ⟨p,rfl⟩;have yw:=AE Y4 p;obtain⟨Y5,mh⟩:∃Y5,Y5=calm Y4 p:=⟨_,rfl⟩;rw[<-mh]at yw⊢;clear mh z0 z1 z2 z3 z4 z5 s0 s1 s2 s3 s4;have Cj:=bU b8 (bU ck yw);go_wp2;go_roundg (4 - (k+1))
   case rel=>exact⟨k+1,Az,rfl,by go_num,Cj⟩
   omega
  refine abl (S:=λW=>∃p,W=calm V p) 13 [] (.fork 4 (.fork 9 (.one 10 (.one 11 (.one 12 .leaf))) 10 (.one 9 (.one 11 (.one 12 .leaf)))) 10 (.one 4 (.one 9 (.one 11 (.one 12 .leaf))))) [0,1,2,3,5,6,7,8] (by kernel_rfl) (λ_ _ d _ _ h=>by cases d<;>exact h) (by kernel_rfl) (AL (Zh _ _).drew) ?_;refine A4 _ _ (by kernel_rfl) ?_;simp only[Z6,zd,ZG,ZD,ZC]
  repeat (first|go_big_quiet_step (fail)|quiet_step (fail))
  refine Z4 ?_;clear z0 z1 z2 z3 z4 z5;change aaF _ _ _ _ _ _ _ _;have Uh:YH V.heap.size V V.drew:=(Zh _ _).drew;refine adr ?hA ?hB
  case' hA=>
   refine abh (f:=9) (args:= #[.agg #[.slice fw x.base.length e1,.slice fu x.Af.length e2,.slice fm x.hooks.length e3,.slice fi x.Aa.length e4,.slice fd x.now.length e5]]) rfl rfl (by go_simp) ((lE.out _ Uh).mono ?_);rintro e W5 ⟨y1,y2,y3,y4,y5,rfl,Cj,fH⟩;have U:YH V.heap.size V W5:=bU Uh Cj;have t:=fH.rc;obtain⟨K,n1,rfl,_⟩:=t.base.val;obtain⟨J,n2,rfl,_⟩:=t.Af.val;obtain⟨I,n3,rfl,_⟩:=t.hooks.val;obtain⟨H,n4,rfl,_⟩:=t.Aa.val;obtain⟨G,n5,rfl,_⟩:=t.now.val;clear fH;refine .inl ⟨_,rfl,.inr (AL U),?_⟩;refine adr ?oT ?aT
  case' oT=>
   refine abh (f:=10) (args:= #[.slice ua l.length uc]) rfl rfl (by go_simp) ((iS.out _ U).mono ?_);rintro e N ⟨v,rfl,DM,fI⟩;have Q:YH V.heap.size V N:=bU U DM;have z:=fI.si;obtain⟨ta,M,rfl,_⟩:=z.val;refine .inl ⟨_,rfl,.inr (AL Q),?_⟩;obtain⟨A,P⟩:∃A,A=N.alloc (.cells #[.slice none 0 0,.slice none 0 0,.slice none 0 0,.slice none 0 0,.slice none 0 0] 26):=⟨_,rfl⟩;have am:YH N.heap.size N A:=by rw[P];exact bA (Zh _ _)
   have C:A.heap[N.heap.size]?=some (.cells #[.slice none 0 0,.slice none 0 0,.slice none 0 0,.slice none 0 0,.slice none 0 0] 26 (0,0)):=by rw[P];exact Bp _ _
   have L:YH V.heap.size V A:=bU Q am;have H_:V.heap.size<=N.heap.size:=(Q).size;refine abv (v:=.pointer (some ⟨N.heap.size,0,none⟩)) (w':=A) rfl rfl (by rw[P];go_simp) (.inr (AL L)) ?_;have lF:A.heap.size=N.heap.size+1:=by rw[P,ZB]
   obtain⟨m,ai⟩:∃m,m=N.heap.size:=⟨_,rfl⟩;have mx:m<=N.heap.size/\N.heap.size<=m:=by omega
   rw[<-ai]at C H_⊢;clear ai P;have mw:=DM.size;have im:=((t.later DM).later am).imp (T:=λy=>y<A.heap.size/\y≠m) λy g=>by have:=g.2;omega
   have z:=Sl.imp (z.later am) (T:=λy=>y<A.heap.size/\y≠m) (λy g=>by have:=g.2;omega) λ_ _ x=>x;have io:=L;obtain⟨Y,hY⟩:∃Y,Y=A:=⟨_,rfl⟩;subst hY
  case' aT=>
   obtain⟨A,P⟩:∃A,A=W5.alloc (.cells #[.slice none 0 0,.slice none 0 0,.slice none 0 0,.slice none 0 0,.slice none 0 0] 26):=⟨_,rfl⟩;have am:YH W5.heap.size W5 A:=by rw[P];exact bA (Zh _ _)
   have C:A.heap[W5.heap.size]?=some (.cells #[.slice none 0 0,.slice none 0 0,.slice none 0 0,.slice none 0 0,.slice none 0 0] 26 (0,0)):=by rw[P];exact Bp _ _
   have L:YH V.heap.size V A:=bU U am;have H_:V.heap.size<=W5.heap.size:=(U).size;refine abv (v:=.pointer (some ⟨W5.heap.size,0,none⟩)) (w':=A) rfl rfl (by rw[P];go_simp) (.inr (AL L)) ?_;have lF:A.heap.size=W5.heap.size+1:=by rw[P,ZB]
   obtain⟨m,ai⟩:∃m,m=W5.heap.size:=⟨_,rfl⟩;have mx:m<=W5.heap.size/\W5.heap.size<=m:=by omega
   rw[<-ai]at C H_⊢;clear ai P;refine abh (f:=10) (args:= #[.slice ua l.length uc]) rfl rfl (by go_simp) ((iS.out _ L).mono ?_);rintro e N ⟨v,rfl,DM,fI⟩;have Q:YH V.heap.size V N:=bU L DM;have z:=fI.si;obtain⟨ta,M,rfl,_⟩:=z.val;refine .inl ⟨_,rfl,.inr (AL Q),?_⟩;have mw:=DM.size;have im:=((t.later am).later DM).imp (T:=λy=>y<N.heap.size/\y≠m) λy g=>by have:=g.2;omega
   have z:=Sl.imp z (T:=λy=>y<N.heap.size/\y≠m) (λy g=>by have:=g.1;have:=g.2;omega) λ_ _ x=>x;have C:=(DM.block _ (Za.1 C).1).trans C;have io:=Q;obtain⟨Y,hY⟩:∃Y,Y=N:=⟨_,rfl⟩;subst hY
  case' hB=>
   obtain⟨A,P⟩:∃A,A=V.drew.alloc (.cells #[.slice none 0 0,.slice none 0 0,.slice none 0 0,.slice none 0 0,.slice none 0 0] 26):=⟨_,rfl⟩;have am:YH V.drew.heap.size V.drew A:=by rw[P];exact bA (Zh _ _)
   have C:A.heap[V.drew.heap.size]?=some (.cells #[.slice none 0 0,.slice none 0 0,.slice none 0 0,.slice none 0 0,.slice none 0 0] 26 (0,0)):=by rw[P];exact Bp _ _
   have L:YH V.heap.size V A:=bU Uh am;have H_:V.heap.size<=V.drew.heap.size:=(Uh).size;refine abv (v:=.pointer (some ⟨V.drew.heap.size,0,none⟩)) (w':=A) rfl rfl (by rw[P];go_simp) (.inr (AL L)) ?_;have lF:A.heap.size=V.drew.heap.size+1:=by rw[P,ZB]
   obtain⟨m,ai⟩:∃m,m=V.drew.heap.size:=⟨_,rfl⟩;have mx:m<=V.drew.heap.size/\V.drew.heap.size<=m:=by omega
   rw[<-ai]at C H_⊢;clear ai P;refine abh (f:=9) (args:= #[.agg #[.slice fw x.base.length e1,.slice fu x.Af.length e2,.slice fm x.hooks.length e3,.slice fi x.Aa.length e4,.slice fd x.now.length e5]]) rfl rfl (by go_simp) ((lE.out _ L).mono ?_);rintro e W5 ⟨y1,y2,y3,y4,y5,rfl,Cj,fH⟩;have U:YH V.heap.size V W5:=bU L Cj;have t:=fH.rc;obtain⟨K,n1,rfl,_⟩:=t.base.val;obtain⟨J,n2,rfl,_⟩:=t.Af.val;obtain⟨I,n3,rfl,_⟩:=t.hooks.val;obtain⟨H,n4,rfl,_⟩:=t.Aa.val;obtain⟨G,n5,rfl,_⟩:=t.now.val;clear fH;refine .inl ⟨_,rfl,.inr (AL U),?_⟩;refine abh (f:=10) (args:= #[.slice ua l.length uc]) rfl rfl (by go_simp) ((iS.out _ U).mono ?_);rintro e N ⟨v,rfl,DM,fI⟩;have Q:YH V.heap.size V N:=bU U DM;have z:=fI.si;obtain⟨ta,M,rfl,_⟩:=z.val;refine .inl ⟨_,rfl,.inr (AL Q),?_⟩;have mw:=DM.size;have p9:=Cj.size;have im:=(t.later DM).imp (T:=λy=>y<N.heap.size/\y≠m) λy g=>by have:=g.1;have:=g.2;omega
   have z:=Sl.imp z (T:=λy=>y<N.heap.size/\y≠m) (λy g=>by have:=g.1;have:=g.2;omega) λ_ _ x=>x;have C:=(DM.block _ (by have:=(Za.1 C).1;have:=Cj.size;omega)).trans ((Cj.block _ (Za.1 C).1).trans C);have io:=Q;obtain⟨Y,hY⟩:∃Y,Y=N:=⟨_,rfl⟩;subst hY
  all_goals
   have g0:=ch (i:=0) C (v:=.slice none 0 0) rfl;have g1:=ch (i:=1) C (v:=.slice none 0 0) rfl;have g2:=ch (i:=2) C (v:=.slice none 0 0) rfl;have g3:=ch (i:=3) C (v:=.slice none 0 0) rfl;have g4:=ch (i:=4) C (v:=.slice none 0 0) rfl;have f0:=cf (i:=0) C;have f1:=cf (i:=1) C;have f2:=cf (i:=2) C;have f3:=cf (i:=3) C;have f4:=cf (i:=4) C;obtain⟨F,rD⟩:∃F,F=(((((Y.setCell ⟨m,0,none⟩ (.slice K x.base.length n1)).setCell ⟨m,1,none⟩ (.slice J x.Af.length n2)).setCell ⟨m,2,none⟩ (.slice I x.hooks.length n3)).setCell ⟨m,3,none⟩ (.slice H x.Aa.length n4)).setCell ⟨m,4,none⟩ (.slice G x.now.length n5)):=⟨_,rfl⟩;have D3:Ak (λy=>y=m) Y F:=by rw[rD];exact(Ak.refl (λy=>y=m) Y).DT.DT.DT.DT.DT
   have ct:YH V.heap.size V F:=by rw[rD];exact bS (bS (bS (bS (bS io H_) H_) H_) H_) H_
   have Ia:F.heap[m]?=some (.cells #[.slice K x.base.length n1,.slice J x.Af.length n2,.slice I x.hooks.length n3,.slice H x.Aa.length n4,.slice G x.now.length n5] 26 (0,0)):=by rw[rD];exact Ba (Ba (Ba (Ba (Ba C _) _) _) _) _
   refine adO (w':=F) rfl rfl (by rw[rD];go_simp) (.inr (AL ct)) ?_;refine abv (v:=.slice ta l.length M) (w':=F) rfl rfl (by go_simp) (.inr (AL ct)) ?_;clear rD g0 g1 g2 g3 g4 f0 f1 f2 f3 f4;unfold aaF
   go_simp
   have tb:=D3.size;have gt:=(im.Ar (D3.same λy g=>show¬y=m from g.2)).imp (T:=λy=>y<F.heap.size) λy g=>by have:=g.1;show y<F.heap.size;omega
   have gn:=Sl.imp (Sl.Ar z (D3.same λy g=>show¬y=m from g.2) λ_ _ x=>x) (T:=λy=>y<F.heap.size) (λy g=>by have:=g.1;show y<F.heap.size;omega) λ_ _ x=>x;clear im z C io D3;exact rA _ _ _ _ _ _ _ _ _ _ _ _ _ _ ct Ia gt gn
 have Lc:=bU mz b8;have rg:=rp.later b8;go_wp2_with (go_at_call 5;refine(c26 _ rg).mono ?_;rintro e V ⟨Ui,rfl|⟨x,rfl,Ss⟩⟩)
 .go_ret
  exact⟨bU Lc Ui,.inl rfl⟩
 exact⟨rfl,bU Lc Ui,.inr ⟨_,rfl,Ss⟩⟩
end Go.Proofs.Fit
namespace Go.Proofs.YtcjfhkplalncfaaGreatDoor
open Go Go.Conc Go.RowKit Go.Proofs.Fit
set_option maxRecDepth 100000
def aeH:(Rows.seamChecksRow.inPlace==Tryz.prog.inPlace 3)=true:=by kernel_rfl
def adf:(Rows.seamChecksRow.unfollowed==Tryz.prog.unfollowed 3)=true:=by kernel_rfl
def adI:(Rows.seamChecksRow.recurses==Tryz.prog.recurses 3)=true:=by kernel_rfl
def afv:(Rows.seamChecksRow.named==Tryz.prog.varsNamed 3)=true:=by kernel_rfl
def afw:joinedFacts Zc 3 Tryz.f3 Rows.seamChecksSpec Rows.seamChecksRow=true:=
 kQ (by kernel_rfl) (by kernel_rfl) (by kernel_rfl) (by kernel_rfl) (by kernel_rfl) aeH adf adI afv (by kernel_rfl) (by kernel_rfl) (by kernel_rfl) (by kernel_rfl) (by kernel_rfl) (by kernel_rfl) (by kernel_rfl) (by kernel_rfl) (by kernel_rfl) rfl rfl rfl rfl rfl rfl (by kernel_rfl) (by kernel_rfl) (by kernel_rfl)
def af7 (os:Os)(a:os.Started)(H:Type)(enc:Zs×Zf->H):ReturnsInLeavingWide {} Tryz.checked os 3 .any (λw args=>(Rows.seamChecksSpec.pre enc Zc Tryz.f3 [] false w args/\laidMetH Zc PT w)/\sizedMet enc Zc Tryz.f3 (ZbV Rows.seamChecksSpec) false w args)
   (Rows.seamChecksSpec.post enc Zc Tryz.f3 false true false false):=
 eO (s:=Rows.seamChecksSpec) a rfl rfl Tryz.func3 rfl rfl (by kernel_rfl) (by kernel_rfl) rfl (by kernel_rfl) (λf h=>by
    match f,h with
    | [_,_,_],_=>rfl)
   (ChangeSpec.witness_shaped (enc:=enc) (C:=Tryz.checked) (os:=os) (X:=λw _=>laidMetH Zc PT w) false (Vg os) #[.agg #[.slice none 0 0,.slice none 0 0,.slice none 0 0,.slice none 0 0,.slice none 0 0],.slice none 0 0,.slice none 0 0] 8 rfl (World.shaped_of_RefB (by kernel_rfl) (by kernel_rfl)) (by kernel_rfl) (by kernel_rfl) (by kernel_rfl) (Ub os _))
   (λW base args f t b j _ d=>aeU rfl b j d λw q p o n m l k c r e h g i d=>aju h g i d)
def ajH:Rows.SeamChecksSaid:=
 OpenClaim.holds_of_wide_leaving 3 Tryz.f3 rfl rfl rfl rfl rfl rfl rfl ⟨rfl,rfl,rfl,rfl,rfl⟩ rfl rfl rfl rfl rfl (by kernel_rfl) Tryz.func3 afw
  (of_decide_eq_true (by kernel_rfl)) (by unfold Func.isWrapper;rw[if_neg (by decide+kernel)];exact⟨rfl,rfl⟩) (λc a H b _=>af7 c a H b)
def ahM:true=Rows.seamChecksRow.goesBy Tryz.pinned.checked.prog:=by kernel_rfl
theorem checks_holds:Rows.SeamChecksCardSaid:=
 kM [.handle] (true,"77cf0c5d09ae683e44fe03da29fad2fe8aa0e3180c2df6cce29a0367fb6b3e51") ajH (by kernel_rfl) (OpenClaim.laidByTextAt_later rfl rfl qd abD) rfl ⟨rfl,rfl⟩ uI
  (λf fn c d=>by
   obtain rfl:f=3:=ZW ((show Tryz.prog.funcNamed "galloon/galloonlaw02.SeamChecks" =some 3 by kernel_rfl).symm.trans c)|>.symm;obtain rfl:fn=Tryz.f3:=(ZW (Tryz.func3.symm.trans d)).symm;exact⟨abE,λj t a=>by
    have b:t∈ [26,22,22]:=by simpa using zY a
    have e:([26,22,22].all λu=> !Tryz.prog.wantsStandIn u)=true:=by kernel_rfl
    exact(show Tryz.prog.wantsStandIn t=false by simpa using Zdm.1 e t b)⟩)
  ahM
#print axioms checks_holds
end Go.Proofs.YtcjfhkplalncfaaGreatDoor
