/- SeamLasts: for every costume, every list of settings and every list of numbers, on every schedule and without a data race, the law returns true, and the arguments read afterwards as they read before. Conditions: those of the given row alone (the variable errors.errorType starts as the program's text lays it; the card ties that to the text). -/
import Derived.Test.YtebhdbbhmdeelaaGreatDoorQ08
import Derived.Test.YtebhdbbhmdeelaaGreatDoorQ11
import Derived.Lib.MinMax
set_option maxRecDepth 100000
set_option maxHeartbeats 6400000
noncomputable section
set_option linter.all false
open And renaming intro->ZY
open Array renaming toList_setIfInBounds->ZcM,replicate->Yu,getElem?_eq_some_iff->Za,getElem?_setIfInBounds_ne->Zk,getElem?_setIfInBounds_self_of_lt->ZV,getElem?_eq_getElem->Zx,mem_of_getElem?->zY
open Bool renaming and_eq_true->ZF
open Go renaming Value->Zf,World->Zb,callFunc->Zz,TypeId->Zs,Program->Zo,FuncId->ZaQ,Operand->Zbv,below_drewN->Y5,wpQuiet_nil->Z4,YieldsIf->ZbF,wpOp_mono->Zcc,wp_region_any->Zd5,execOp->Zby,undef->Ze,info_parts->zp,wpList_append_own->Yc,bodyPost_ret->ZN,wp_append_own->Zak,ownsRow_succ->Zay
open Go.Act renaming put->Zck
open Go.Addr renaming add->Zcu
open Go.Calls renaming quiet_of_same->Zb5
open Go.Code renaming region->zU
open Go.DataW renaming TrodAll->Za9
open Go.Instr renaming makeSlice->Zdp
open Go.IntKind renaming wrap_i64->zE
open Go.IntWalk renaming i64_in->ZcD
open Go.Lib renaming hid->Zd
open Go.Obj renaming cells->Zbi
open Go.OpenSpec renaming ofChange->ZbV
open Go.Oper renaming semAt_some->Zdk,wp->ZbA,upon_value->Zdi,upon_enter->Zdj,upon_skip->ZcQ
open Go.Proofs.Tryz renaming prog->Zc,underlying22->YE,underlying27->zW,underlying23->Zdg
open Go.Region renaming Mode->YO,ready->zs,free->Za3,noSelect->YF,wanted->Yf
open Go.RowKit renaming Below->YH
open Go.RowKit.Below renaming refl->Zh
open Go.Value renaming okWide->Zbk,int->ZL,oneCell'->YT,slice->Zy,pointer->ZbT
open Go.World renaming ownsRow_nil->zq,block_lt_of_cell?->ZH,size_alloc->ZB,ownsRow_made->YC
open Go.World.ownsRow renaming alloc->Ya,lt->Zcm
open List renaming getElem?_eq_getElem->zf,mem_of_getElem?->Z3,mem_singleton->Yh,ext_getElem?->YA,getElem?_eq_none->ZP,range->Yr,getD_eq_getElem?_getD->Y6,pairwise_iff_getElem->ZdK,getElem_of_mem->Zas,all_eq_true->Zdm,getElem?_map->YL,length_append->ZA,getElem?_append_left->zl,getElem?_eq_some_iff->Zm,length_cons->zb,length_nil->zR,getElem?_concat_length->Y1,drop_eq_getElem_cons->ZO,length_set->ZcC,length_take->ZcV,take_add_one->ZbH,drop_eq_nil_iff->Z7,take_of_length_le->Zb3,getElem?_take_of_lt->Z2,getElem?_drop->Yl,nil_append->zP,filterMap_cons->Z6,filterMap_nil->zd,getElem?_toArray->ZG,getElem?_cons_succ->ZD,getElem?_cons_zero->ZC,take_zero->ZdB,take_length->ZcU,eq_nil_of_length_eq_zero->YM,getElem?_set_ne->ZS,mem_append->Zab
open Nat renaming zero_le->Zp,not_lt_zero->ZbY,zero_add->zN,le_refl->Zj,le_trans->Zr,lt_of_lt_of_le->Zl,pow_le_pow_right->YX,two_pow_pos->Zdz,le_of_eq->ZcS
open Option renaming bind_eq_some_iff->ZX,map_some->Zdh
open Option.some renaming inj->ZW
open True renaming intro->Yz
namespace Go.Proofs.Fit
open Go
@[simp] def Lp.func3:=l! Tryz.func3
@[simp] def Lp.func25:=l! Tryz.func4
@[simp] def Lp.call25:=c! Lp.func25
@[simp] def Lp.call27:=c! Lp.func27
@[simp] def Lp.func28:=l! Tryz.func7
@[simp] def Lp.call28:=c! Lp.func28
@[simp] def Lp.func31:=l! Tryz.func10
@[simp] def Lp.call31:=c! Lp.func31
@[simp] def Lp.func35:=l! Tryz.func14
@[simp] def Lp.call35:=c! Lp.func35
@[simp] def Lp.func36:=l! Tryz.func15
@[simp] def Lp.call36:=c! Lp.func36
@[simp] def Lp.func43:=l! Tryz.func40
@[simp] def Lp.call43:=c! Lp.func43
@[simp] def Lp.func50:=l! Tryz.func35
@[simp] def Lp.call50:=c! Lp.func50
@[simp] def Lp.func93:=l! Tryz.func36
@[simp] def Lp.call93:=c! Lp.func93
@[simp] def Lp.func94:=l! Tryz.func37
@[simp] def Lp.call94:=c! Lp.func94
@[simp] def Lp.func95:=l! Tryz.func38
@[simp] def Lp.call95:=c! Lp.func95
@[simp] def Lp.func96:=l! Tryz.func39
@[simp] def Lp.call96:=c! Lp.func96
@[simp] def Lp.func97:=l! Tryz.func41
@[simp] def Lp.call97:=c! Lp.func97
@[simp] def Lp.func107:=l! Tryz.func71
@[simp] def Lp.call107:=c! Lp.func107
@[simp] def Lp.func116:=l! Tryz.func70
@[simp] def Lp.call116:=c! Lp.func116
@[simp] def Lp.func117:=l! Tryz.func72
@[simp] def Lp.call117:=c! Lp.func117
@[simp] def Lp.func118:=l! Tryz.func73
@[simp] def Lp.call118:=c! Lp.func118
@[simp] def Lp.func135:=l! Tryz.func74
@[simp] def Lp.call135:=c! Lp.func135
@[simp] def Lp.func160:=l! Tryz.func92
@[simp] def Lp.call160:=c! Lp.func160
end Go.Proofs.Fit
namespace Go.Proofs.Fit
open Go Go.Conc Go.FA Go.RowKit
variable {W w A B w':Zb}
variable {n k b i g cap j q M:Nat}
variable {v v1 v2 v3 v4 v5 v' u2 u1 u4 u5 u v6 lv:Zf}
def adT {a:Addr}{c:Nat}(h:W.cell? (a.add k)=some v):VR (Qk W) (.slice (some a) n c) (.slice (some a) n c):=by
 obtain⟨_,_,_,b⟩:=Sp h;rw[CF]at b;exact .slice n c ⟨pA b,rfl,rfl⟩
end Go.Proofs.Fit
namespace Go.Proofs.Fit
open Go
def n25:Tryz.f4.ntmps=57:=rfl
def n28:Tryz.f7.ntmps=63:=rfl
def n31:Tryz.f10.ntmps=20:=rfl
def n35:Tryz.f14.ntmps=61:=rfl
def n36:Tryz.f15.ntmps=64:=rfl
def n43:Tryz.f40.ntmps=26:=rfl
def n50:Tryz.f35.ntmps=50:=rfl
def n93:Tryz.f36.ntmps=42:=rfl
def n94:Tryz.f37.ntmps=26:=rfl
def n95:Tryz.f38.ntmps=72:=rfl
def n96:Tryz.f39.ntmps=40:=rfl
def n97:Tryz.f41.ntmps=60:=rfl
def al3:Tryz.f71.ntmps=10:=rfl
def al5:Tryz.f70.ntmps=94:=rfl
def al6:Tryz.f72.ntmps=84:=rfl
def al7:Tryz.f73.ntmps=60:=rfl
def al8:Tryz.f74.ntmps=15:=rfl
def ala:Tryz.f92.ntmps=57:=rfl
end Go.Proofs.Fit
namespace Go.Proofs.Fit
open Go Go.RowKit
variable {H α:Type}
variable {W w A B w':Zb}
def ad3 {enc:Zs×Zf->H}{P:Zo}{base:Nat}{c:Nat->Bool}{d:Bool}{t:Zs}{f0 e:Field}(ht:P.underlying t=some (.struct #[f0,e]))(x:P.cellsOf t=2)(A:P.underlying f0.type=some (.int .i64))(z:P.underlying e.type=some (.int .i64))(D:P.cellsOf f0.type=1)(C:P.cellsOf e.type=1)(q:f0.offset=0)(p:e.offset=1):
  Reads enc P w base c d t Rp:=by
 intro n B y r;obtain⟨o,m,_,_,k,s,l⟩:=DataW.trod_struct ht r;have g:=l 0 f0 rfl;have f:=l 1 e rfl;rw[D,q]at g;rw[C,p]at f;have E:o.length=2:=s;rw[zf o!]at g f;obtain⟨a,j⟩:=kJ A _ _ _ g;obtain⟨b,i⟩:=kJ z _ _ _ f;rw[x]at k
 match B,k with
 | [u,v],_=>
  unfold Ri at j i;simp at j i;exact⟨(a,b),by unfold Rp;rw[j,i]⟩
end Go.Proofs.Fit
namespace Go.Proofs.Fit
open Go Go.Conc Go.FA Go.ChangeShapes Go.WideShapes Go.RowKit
set_option maxRecDepth 100000
def Nr (w:Zb)(v:Zf):Prop:=(∃n c,v=.slice none n c)\/(∃a,v=.slice (some a) 0 0)\/∃a n c k u,v=.slice (some a) n c/\w.cell? (a.add k)=some u
variable {W w A B w':Zb}
variable {v v1 v2 v3 v4 v5 v' u2 u1 u4 u5 u v6 lv:Zf}
def Nr.aa0 (h:Nr W v):VR (Qk W) v v:=by
 rcases h with⟨n,c,rfl⟩|⟨a,rfl⟩|⟨a,n,c,k,u,rfl,h⟩
 .exact .slice (a:=none) n c trivial
 .exact .void _ _
 exact adT h
section
variable {H:Type}{enc:Zs×Zf->H}{P:Zo}{w:Zb}{base:Nat}{held:Bool}{α:Type}
variable {e:Zs}
variable {n k b i g cap j q M:Nat}
def reads_held {t:Zs}{R:Zb->List Zf->α->Prop}(ht:P.underlying t=some (.slice e))(r:P.cellsOf e=k)(hp:0<k)(h:Reads enc P w base (λ_=>true) held e R):
  Reads enc P w base (λ_=>true) held t (λw cs (l:List α)=>∃v,cs=[v]/\Sl (Lv w) R k w v l/\Nr w v):=by
 intro n cs y j;obtain⟨l,v,rfl,q⟩:=bW ht r hp h n cs y j;refine⟨l,v,rfl,q,?_⟩;rcases DataW.trod_slice ht j with⟨e,_⟩|⟨a,b,cap,f,g,o,_,e,_,_,p,_,m,c,x,_⟩
 .cases e;exact .inl ⟨_,_,rfl⟩
 cases e;by_cases u:cap=0
 .obtain rfl:b=0:=by omega
  subst u;exact .inr (.inl ⟨_,rfl⟩)
 have go:∀i:Nat,(∃y,(w.cells? base (a.add (i*P.cellsOf e)) (P.cellsOf e)).bind (DataW.trod enc P w base (λ_=>true) held o e)=some y)->Nr w (.slice (some a) b cap):=λi ⟨y,h⟩=>by
  obtain⟨C,d,_⟩:=ZX.1 h;obtain⟨A,s⟩:=bR d;have:=s 0 _ (zf o!);rw[Addr.add_zero']at this;exact .inr (.inr ⟨a,b,cap,_,_,rfl,this⟩)
 by_cases z:b=0
 .obtain⟨B,d⟩:=x rfl
  exact go (b+0) ⟨_,(d 0 o!).trans (zf o!)⟩
 exact go 0 ⟨_,(c 0 o!).trans (zf o!)⟩
end
def RsH (w:Zb)(cs:List Zf)(s:Ay):Prop:=∃v2 v3,cs=[.int .i64 s.low,.int .i64 s.high,v2,v3,.int .i64 s.left]/\SP (Lv w) w v2 s.Ap/\SI (Lv w) w v3 s.over/\Nr w v2/\Nr w v3
section
variable {H:Type}{enc:Zs×Zf->H}{w:Zb}{base:Nat}{held:Bool}
def ah6:Tryz.prog.cellsOf 3=1:=k!
def ady:Tryz.prog.cellsOf 22=1:=k!
def ajl:Tryz.prog.cellsOf 23=1:=k!
def ajm:Tryz.prog.cellsOf 24=1:=k!
def ajn:Tryz.prog.cellsOf 46=1:=k!
def ahL:Tryz.prog.cellsOf 48=5:=k!
def ajo:Tryz.prog.cellsOf 26=5:=k!
def ad0:Reads enc Zc w base (λ_=>true) held 3 Ri:=kJ k!
def abl:Reads enc Zc w base (λ_=>true) held 22 (λw cs (l:List Int)=>∃v,cs=[v]/\SI (Lv w) w v l/\Nr w v):=
 reads_held (t:=22) (e:=3) k! ah6 d! ad0
def adz:Reads enc Zc w base (λ_=>true) held 46 (λw cs (l:List (Int×Int))=>∃v,cs=[v]/\SP (Lv w) w v l/\Nr w v):=
 reads_held (t:=46) (e:=94) k! k! d! (ad3 Tryz.underlying94 k! k! k! k! k! rfl rfl)
def adA:Reads enc Zc w base (λ_=>true) held 23 (λw cs (l:List (Int×Int))=>∃v,cs=[v]/\SP (Lv w) w v l/\Nr w v):=
 reads_held (t:=23) (e:=67) k! k! d! (ad3 Tryz.underlying67 k! k! k! k! k! rfl rfl)
def adU:Reads enc Zc w base (λ_=>true) held 48 RsH:=by
 intro n b y t;obtain⟨a,m,_,_,o,u,c⟩:=DataW.trod_struct Tryz.underlying48 t;have E:a.length=5:=u;have l:DataW.trod enc Zc w base (λ_=>true) held m 3 ((b.drop 0).take (Tryz.prog.cellsOf 3))=a[0]? :=c 0 _ rfl;have k:DataW.trod enc Zc w base (λ_=>true) held m 3 ((b.drop 1).take (Tryz.prog.cellsOf 3))=a[1]? :=c 1 _ rfl;have j:DataW.trod enc Zc w base (λ_=>true) held m 46 ((b.drop 2).take (Tryz.prog.cellsOf 46))=a[2]? :=c 2 _ rfl;have i:DataW.trod enc Zc w base (λ_=>true) held m 22 ((b.drop 3).take (Tryz.prog.cellsOf 22))=a[3]? :=c 3 _ rfl;have g:DataW.trod enc Zc w base (λ_=>true) held m 3 ((b.drop 4).take (Tryz.prog.cellsOf 3))=a[4]? :=c 4 _ rfl;rw[ah6,zf o!]at l;rw[ah6,zf o!]at k;rw[ajn,zf o!]at j;rw[ady,zf o!]at i;rw[ah6,zf o!]at g;rw[ahL]at o;obtain⟨D,f⟩:=ad0 _ _ _ l;obtain⟨C,e⟩:=ad0 _ _ _ k;obtain⟨B,x⟩:=adz _ _ _ j;obtain⟨A,v⟩:=abl _ _ _ i;obtain⟨z,d⟩:=ad0 _ _ _ g
 match b,o with
 | [u0,u1,u2,u3,u4],_=>
  unfold Ri at f e d;obtain⟨v2,q,s,d2⟩:=x;obtain⟨v3,p,r,d3⟩:=v;simp at f e q p d;exact⟨⟨D,C,B,A,z⟩,v2,v3,by rw[f,e,d,q,p],s,r,d2,d3⟩
def adB:Reads enc Zc w base (λ_=>true) held 24 (λw cs (l:List Ay)=>∃v,cs=[v]/\Sl (Lv w) RsH 5 w v l/\Nr w v):=
 reads_held (t:=24) (e:=48) k! ahL d! adU
structure InC (w:Zb)(v1 v2 v3 v4 v5:Zf)(c:A_):Prop where
 base:SI (Lv w) w v1 c.base/\Nr w v1
 Af:SP (Lv w) w v2 c.Af/\Nr w v2
 hooks:SI (Lv w) w v3 c.hooks/\Nr w v3
 Aa:Sl (Lv w) RsH 5 w v4 c.Aa/\Nr w v4
 now:SI (Lv w) w v5 c.now/\Nr w v5
def adg:Reads enc Zc w base (λ_=>true) held 26 (λw cs (c:A_)=>∃v1 v2 v3 v4 v5,cs=[v1,v2,v3,v4,v5]/\InC w v1 v2 v3 v4 v5 c):=by
 intro n cs y s;obtain⟨a,m,_,_,j,t,b⟩:=DataW.trod_struct Tryz.underlying26 s;have G:a.length=5:=t;have i:DataW.trod enc Zc w base (λ_=>true) held m 22 ((cs.drop 0).take (Tryz.prog.cellsOf 22))=a[0]? :=b 0 _ rfl;have g:DataW.trod enc Zc w base (λ_=>true) held m 23 ((cs.drop 1).take (Tryz.prog.cellsOf 23))=a[1]? :=b 1 _ rfl;have f:DataW.trod enc Zc w base (λ_=>true) held m 22 ((cs.drop 2).take (Tryz.prog.cellsOf 22))=a[2]? :=b 2 _ rfl;have e:DataW.trod enc Zc w base (λ_=>true) held m 24 ((cs.drop 3).take (Tryz.prog.cellsOf 24))=a[3]? :=b 3 _ rfl;have d:DataW.trod enc Zc w base (λ_=>true) held m 22 ((cs.drop 4).take (Tryz.prog.cellsOf 22))=a[4]? :=b 4 _ rfl;rw[ady,zf o!]at i;rw[ajl,zf o!]at g;rw[ady,zf o!]at f;rw[ajm,zf o!]at e;rw[ady,zf o!]at d;rw[ajo]at j;obtain⟨F,r,q,A⟩:=abl _ _ _ i;obtain⟨E,v1,p,z⟩:=adA _ _ _ g;obtain⟨D,v2,o,x⟩:=abl _ _ _ f;obtain⟨C,v3,l,v⟩:=adB _ _ _ e;obtain⟨B,v4,k,u⟩:=abl _ _ _ d
 match cs,j with
 | [u0,u1,u2,u3,u4],_=>
  simp at q p o l k;exact⟨⟨F,E,D,C,B⟩,r,v1,v2,v3,v4,by rw[q,p,o,l,k],A,z,x,v,u⟩
end
variable {H α:Type}
variable {t:Tape}
variable {n k b i g cap j q M:Nat}
def Sl.left {R R':Zb->List Zf->α->Prop}{l:List α}(h:Sl (Lv W) R k W v l)(m:∀cs x,R W cs x->(∀u∈cs,VR (Qk W) u u)/\R' (tp (BD W) t) cs x):Sl (Lv (tp (BD W) t)) R' k (tp (BD W) t) v l:=by
 obtain⟨a,c,r,q,p,n⟩:=h;refine⟨a,c,r,q,p,λi x g=>?_⟩;obtain⟨b,o,cs,A,z,y,w,s⟩:=n i x g;obtain⟨f,e⟩:=m _ _ s;refine⟨b,o,cs,A,?_,y,λj u d=>?_,e⟩
 .show b<(BD W).heap.size
  rw[ej];exact z
 exact SJ (w j u d) (f u (Z3 d))
variable {l nums:List Int}
def acf (h:SI (Lv W) W v l):SI (Lv (tp (BD W) t)) (tp (BD W) t) v l:=Sl.left h λc x a=>by
 unfold Ri at a;subst a;exact⟨λu b=>by obtain rfl:=Yh.1 b;exact .int _ _,rfl⟩
def afk {l:List (Int×Int)}(h:SP (Lv W) W v l):SP (Lv (tp (BD W) t)) (tp (BD W) t) v l:=Sl.left h λc x a=>by
 unfold Rp at a;subst a;exact⟨λu b=>by simp at b;rcases b with rfl|rfl<;>exact .int _ _,rfl⟩
def ahZ {l:List Ay}(h:Sl (Lv W) RsH 5 W v l):SS (Lv (tp (BD W) t)) (tp (BD W) t) v l:=Sl.left h λe x d=>by
 obtain⟨v2,v3,rfl,c,b,d2,d3⟩:=d;refine⟨λu a=>?_,v2,v3,rfl,afk c,acf b⟩;simp at a;rcases a with rfl|rfl|rfl|rfl|rfl
 .exact .int _ _
 .exact .int _ _
 .exact d2.aa0
 .exact d3.aa0
 exact .int _ _
variable {c:A_}
def InC.left (t:Tape)(h:InC W v1 v2 v3 v4 v5 c):RC (Lv (tp (BD W) t)) (tp (BD W) t) v1 v2 v3 v4 v5 c:=
 ⟨acf h.base.1,afk h.Af.1,acf h.hooks.1,ahZ h.Aa.1,acf h.now.1⟩
def InC.aa0 {W:Zb}{v1 v2 v3 v4 v5:Zf}{c:A_}(h:InC W v1 v2 v3 v4 v5 c):VR (Qk W) (.agg #[v1,v2,v3,v4,v5]) (.agg #[v1,v2,v3,v4,v5]):=by
 refine .P6 ⟨rfl,λi x y b a=>?_⟩
 match i,b,a with
 |0,b,a=>cases b;cases a;exact h.base.2.aa0
 |1,b,a=>cases b;cases a;exact h.Af.2.aa0
 |2,b,a=>cases b;cases a;exact h.hooks.2.aa0
 |3,b,a=>cases b;cases a;exact h.Aa.2.aa0
 |4,b,a=>cases b;cases a;exact h.now.2.aa0
section
variable {H:Type}{enc:Zs×Zf->H}{W:Zb}
variable {ps:List MemPlace}
def adV {base:Nat}{d:DataW H}(ok:Zbk Zc W .any base 26 v)(h:DataW.Trod enc Zc W 0 (λ_=>true) true 26 v d ps):∃v1 v2 v3 v4 v5 c,v=.agg #[v1,v2,v3,v4,v5]/\InC W v1 v2 v3 v4 v5 c:=by
 obtain⟨a,rfl,_⟩:=okWide_struct Tryz.underlying26 ok;obtain⟨n,b⟩:=h;obtain⟨c,v1,v2,v3,v4,v5,e,f⟩:=adg n _ _ b;refine⟨v1,v2,v3,v4,v5,c,?_,f⟩;have:a.toList=[v1,v2,v3,v4,v5]:=e;rw[<-Array.toList_inj.1 (show a.toList= #[v1,v2,v3,v4,v5].toList from this)]
def afl {base:Nat}{d:DataW H}(ok:Zbk Zc W .any base 22 v)(h:DataW.Trod enc Zc W 0 (λ_=>true) true 22 v d ps):∃l,SI (Lv W) W v l/\Nr W v:=by
 obtain⟨a,n,c,rfl⟩:=okWide_slice (t:=22) YE ok;obtain⟨n,f⟩:=h;obtain⟨l,u,e,b⟩:=abl n _ _ f;cases e;exact⟨l,b⟩
end
set_option maxRecDepth 100000
variable {args x cur cs:Array Zf}
variable {ps:List MemPlace}
def trodAll_three {enc:Zs×Zf->H}{j i g:Zs}{C:List (DataW H)}(h:Za9 enc Zc W 0 (λ_=>true) true [j,i,g] args.toList C ps):
  ∃x y z d1 d2 d3 e d c,args= #[x,y,z]/\DataW.Trod enc Zc W 0 (λ_=>true) true j x d1 e/\DataW.Trod enc Zc W 0 (λ_=>true) true i y d2 d/\DataW.Trod enc Zc W 0 (λ_=>true) true g z d3 c:=by
 obtain⟨x,m,d1,B,e,F,w,_,_,s,r⟩:=trodAll_cons h;obtain⟨y,k,d2,A,d,E,v,_,_,q,p⟩:=trodAll_cons r;obtain⟨z,b,d3,f,c,D,u,_,_,o,n⟩:=trodAll_cons p;have t:b=[]:=by
  cases b with
  |nil=>rfl
  |cons a l=>cases f<;>exact(show False from n).elim
 subst t u v;exact⟨x,y,z,d1,d2,d3,e,d,c,by rw[<-Array.toList_inj.1 (show args.toList= #[x,y,z].toList from w)],s,q,o⟩
def aeU {ρ:Ren}{x y z:Zf}(e:VR ρ x x)(d:VR ρ y y)(c:VR ρ z z):BS ρ #[x,y,z] #[x,y,z]:=⟨rfl,λi u v b a=>by
 match i,b,a with
 |0,b,a=>cases b;cases a;exact e
 |1,b,a=>cases b;cases a;exact d
 |2,b,a=>cases b;cases a;exact c⟩
set_option maxRecDepth 100000
def RlH (w:Zb)(cs:List Zf)(x:List Int):Prop:=∃u,cs=[u]/\SI (Lv w) w u x/\Nr w u
section
variable {H:Type}{enc:Zs×Zf->H}{w:Zb}{base:Nat}{held:Bool}
def adC:Reads enc Zc w base (λ_=>true) held 27 (λw cs (l:List (List Int))=>∃v,cs=[v]/\Sl (Lv w) RlH 1 w v l/\Nr w v):=
 reads_held (t:=27) (e:=22) k! ady d! (R:=RlH) abl
end
def ai2 {l:List (List Int)}(h:Sl (Lv W) RlH 1 W v l):SL (Lv (tp (BD W) t)) (tp (BD W) t) v l:=Sl.left h λcs x b=>by
 obtain⟨u,rfl,c,d⟩:=b;exact⟨λy a=>by obtain rfl:=Yh.1 a;exact d.aa0,u,rfl,acf c⟩
section
variable {H:Type}{enc:Zs×Zf->H}{W:Zb}
def aeV {base:Nat}{d:DataW H}(ok:Zbk Zc W .any base 27 v)(h:DataW.Trod enc Zc W 0 (λ_=>true) true 27 v d ps):∃l,Sl (Lv W) RlH 1 W v l/\Nr W v:=by
 obtain⟨a,n,c,rfl⟩:=okWide_slice (t:=27) zW ok;obtain⟨n,f⟩:=h;obtain⟨l,u,e,b⟩:=adC n _ _ f;cases e;exact⟨l,b⟩
end
variable {f:ZaQ}
def afm {fn:Func}{base:Nat}{enc:Zs×Zf->H}{s:List (DataW H)}(hp:fn.params= #[26,27,22])
 (a:∀(j:Nat) t v,fn.params[j]?=some t->args[j]?=some v->Zbk Zc W .any base t v) (l:Za9 enc Zc W 0 (λ_=>true) true fn.params.toList args.toList s ps) (o:Jr (BD W))
 (b:∀(w:Zb) (v1 v2 v3 v4 v5 v6 i:Zf) (c:A_) (ls:List (List Int)) (nums:List Int),RC (λx=>x<w.heap.size) w v1 v2 v3 v4 v5 c->SL (λx=>x<w.heap.size) w v6 ls->SI (λx=>x<w.heap.size) w i nums->Jr w->Calls Lp f #[.agg #[v1,v2,v3,v4,v5],v6,i] w (Two w (.bool true))):
  BS (Qk W) args args/\∀t,Calls Lp f args (tp (BD W) t) (Wr (tp (BD W) t)):=by
 rw[hp]at a l;obtain⟨x,y,z,d1,d2,d3,B,A,u,rfl,r,q,p⟩:=trodAll_three l;obtain⟨v1,v2,v3,v4,v5,c,rfl,k⟩:=adV (a 0 26 x rfl rfl) r;obtain⟨ls,n,g⟩:=aeV (a 1 27 y rfl rfl) q;obtain⟨nums,m,d⟩:=afl (a 2 22 z rfl rfl) p;exact⟨aeU k.aa0 g.aa0 d.aa0,λt=>(b _ _ _ _ _ _ _ _ _ _ _ (k.left t) (ai2 n) (acf m) o).mono λe w' h=>h⟩
end Go.Proofs.Fit
namespace Go.Proofs.Fit
open Go Go.RowKit
def g80 (w:Zb)(x y:Zbv)(xs a:Array Zf):(eqGuard .neq 67 x y (.agg xs) (.agg a)).run Lp w=.ok () w:=run_eqGuard_agg w _ _ _ _ _ _ k!
def q80 (w:Zb)(a b c d:Int):(binOp .neq 67 (.agg #[.int .i64 a,.int .i64 b]) (.agg #[.int .i64 c,.int .i64 d])).run Lp w=.ok (.bool ((a,b) !=(c,d))) w:=by
 rw[run_neq_struct,run_equalIn_agg (ht:=k!) (hp:=k!)];simp[go_sem];by_cases f:a=c<;>by_cases e:b=d<;>simp[f,e]
def adi (a b:List (Int×Int)):Bool:=decide (a=b)
def af1 {a b:List (Int×Int)}(hl:a.length=b.length)(h:∀j,j<a.length->BV a j=BV b j):a=b:=by
 apply YA;intro i;by_cases c:i<a.length
 .rw[EE c,EE o!,h i c]
 rw[ZP o!,ZP o!]
variable {S T:Nat->Prop}
variable {W w A B w':Zb}
variable {v v1 v2 v3 v4 v5 v' u2 u1 u4 u5 u v6 lv:Zf}
def c43 {a b:List (Int×Int)}(A:SP S w v a)(z:SP T w v' b)(C:Ql6 S w)(B:∀b,T b->b<w.heap.size):
  Calls Lp 40 #[v,v'] w λe w'=>e=.returned (.bool (adi a b))/\Qb6 w w':=by
 obtain⟨a1,Y,rfl,R,P⟩:=A.val;obtain⟨Z,X,rfl,Q,O⟩:=z.val;have IX:=DJ;by_cases d:a.length=b.length
 .have t:=Zd d
  clear d;have m:((a.length:Int) !=b.length)=false:=by simp[t.out]
  go_enter Lp.func43,n43;go_wp2;go_loopg [5] a.length (λg i wr=>∃k:Nat,k<=a.length/\g=a.length - k/\i=.int .i64 k/\(∀j,j<k->BV a j=BV b j)/\Qb6 w wr)
  case atStart=>exact⟨0,Zp _,rfl,rfl,λj n=>absurd n (ZbY _),Zh _ _⟩
  obtain⟨k,W,rfl,rfl,G,c⟩:=hrel;have o:=Zd G;clear G;by_cases N:k<a.length
  .have s:k<b.length:=by have:=t.out;omega
   obtain⟨l,y,rfl,E,K,H⟩:=A.at_ N;obtain⟨f,x,rfl,F,J,r⟩:=z.at_ s;rw[<-c.cell (p:=⟨l,y+k*2,none⟩) (C l E)]at K;rw[<-c.cell (p:=⟨l,y+k*2+1,none⟩) (C l E)]at H;rw[<-c.cell (p:=⟨f,x+k*2,none⟩) (B f F)]at J;rw[<-c.cell (p:=⟨f,x+k*2+1,none⟩) (B f F)]at r;have V:(k:Int)<(a.length:Int):=o!
   have U:(k:Int)<(b.length:Int):=o!
   have M:=q80;have L:=g80;go_wp2;go_quiet (fail);go_wp2
   .have q:(((BV a k).fst,(BV a k).snd) !=((BV b k).fst,(BV b k).snd))=true:=by assumption
    go_ret;refine⟨?_,Y5 c _⟩;have:adi a b=false:=by
     unfold adi;refine decide_eq_false λe=>?_;rw[e]at q;simp at q
    rw[this];rfl
   have q:(((BV a k).fst,(BV a k).snd) !=((BV b k).fst,(BV b k).snd))=false:=a!
   have I:BV a k=BV b k:=by simp at q;exact Prod.ext q.1 q.2
   go_roundg (a.length - (k+1))
   case rel=>exact⟨k+1,o!,rfl,v!,λj n=>by
    by_cases e:j=k
    .rw[e];exact I
    exact o.out j o!,Y5 c _⟩
   omega
  have D:adi a b=true:=decide_eq_true (af1 t.out λj n=>o.out j o!);have u:=Zd D;clear D o;go_wp2;go_ret;exact⟨by rw[u.out];rfl,c⟩
 have m:((a.length:Int) !=b.length)=true:=j!
 have u:=Zd (show adi a b=false from decide_eq_false λe=>d (by rw[e]));clear d;go_enter Lp.func43,n43;go_wp2;go_ret;exact⟨by rw[u.out];rfl,Zh _ _⟩
def aiJ (l:List Int)(a:List Bool):List Bool:=l.foldl (λo x=>o.set x.toNat true) a
def yn (n:Nat):Nat->List (List Int)->List Bool->List Bool
 |_,[],a=>a
 |i,s::r,a=>yn n (i+1) r (if i=n\/a.getD i false=true then aiJ s a else a)
def iV (n:Nat)(l:List (List Int)):Nat->List Bool->List Bool
 |0,a=>a
 |k+1,a=>iV n l k (yn n 0 l a)
def abg (l:List Ay):List (List Int):=l.map (·.over)
def aiK (o:List (List Int))(n:Nat):List Bool:=iV n o o.length (List.replicate o.length false)
def abI (l:List Ay)(n:Nat):List Bool:=aiK (abg l) n
def rh (ab:Nat->Nat)(i:Nat):List (List Int)->Nat->Nat
 | []=>ab
 |s::r=>rh (HJ ab i s) (i+1) r
def iW (ab:Nat->Nat)(l:List (List Int)):Nat->Nat->Nat
 |0=>ab
 |n+1=>iW (rh ab 0 l) l n
def ri (l:List (List Int)):Nat->Nat:=iW (λ_=>0) l l.length
def adD:∀(l:List Ay) (ab:Nat->Nat) (i:Nat),K6 ab i l=rh ab i (abg l)
 | [],_,_=>rfl
 |s::r,ab,i=>adD r (HJ ab i s.over) (i+1)
def adj (l:List Ay):∀(n:Nat) (ab:Nat->Nat),G5 ab l n=iW ab (abg l) n
 |0,_=>rfl
 |n+1,ab=>by
  show G5 (K6 ab 0 l) l n=iW (rh ab 0 (abg l)) (abg l) n;rw[adj l n,adD]
def afn (l:List Ay):Ax l=ri (abg l):=by
 unfold Ax ri;rw[adj,show(abg l).length=l.length by simp[abg]]
def WU (o:List (List Int)):Bool:=(Yr o.length).all λn=>(Yr o.length).all λk=>(aiK o n).getD k false==hasB (ri o n) k
def Lj:List (List Int):=[[],[0],[1],[2],[0,1],[0,2],[1,2],[0,1,2]]
def acD:∀a∈Lj,WU [a.filter (· <1)]=true:=by decide+kernel
def acE:∀a∈Lj,∀b∈Lj,WU [a.filter (· <2),b.filter (· <2)]=true:=by decide+kernel
def acF:∀a∈Lj,∀b∈Lj,∀c∈Lj,WU [a,b,c]=true:=by decide+kernel
variable {l nums:List Int}
def EM (f:l.Pairwise (· < ·))(e:∀x∈l,0<=x/\x<3):l∈Lj:=by
 have g:∀x:Int,0<=x/\x<3->x=0\/x=1\/x=2:=λx h=>o!
 match l,f,e with
 | [],_,_=>simp[Lj]
 | [a],_,e=>
  rcases g a (e a i!) with rfl|rfl|rfl<;>simp[Lj]
 | [a,b],f,e=>
  have i:a<b:=by simpa using f
  rcases g a (e a i!) with rfl|rfl|rfl<;>rcases g b (e b i!) with rfl|rfl|rfl<;>first|(exfalso;omega)|simp[Lj]
 | [a,b,c],f,e=>
  have i:a<b/\b<c:=by
   simp at f;exact⟨f.1.1,f.2⟩
  have j:=e a i!;have m:=e c i!;obtain rfl:a=0:=o!
  obtain rfl:c=2:=o!
  obtain rfl:b=1:=o!
  simp[Lj]
 |a::b::c::d::r,f,e=>
  exfalso;simp only[List.pairwise_cons]at f;have i:=f.1 b i!;have o:=f.2.1 c i!;have n:=f.2.2.1 d i!;have j:=e a i!;have k:=e d i!;omega
def filter_lt {n:Int}(a:∀x∈l,0<=x/\x<n):l.filter (· <n)=l:=List.filter_eq_self.2 λx h=>by simpa using(a x h).2
def vU {o:List (List Int)}(g:o.length<=3)(e:∀l∈o,l.Pairwise (· < ·))(d:∀l∈o,∀x∈l,0<=x/\x<o.length):WU o=true:=by
 match o,g,e,d with
 | [],_,_,_=>rfl
 | [a],_,e,d=>
  have f:=d a i!;have:=acD a (EM (e a i!) λx h=>by have:=f x h;simp at this;omega);rwa[filter_lt (λx h=>by have:=f x h;simpa using this)]at this
 | [a,b],_,e,d=>
  have f:=d a i!;have i:=d b i!;have:=acE a (EM (e a i!) λx h=>by have:=f x h;simp at this;omega) b (EM (e b i!) λx h=>by have:=i x h;simp at this;omega);rwa[filter_lt (λx h=>by have:=f x h;simpa using this),filter_lt (λx h=>by have:=i x h;simpa using this)]at this
 | [a,b,c],_,e,d=>
  exact acF a (EM (e a i!) λx h=>by have:=d a i! x h;simpa using this) b (EM (e b i!) λx h=>by have:=d b i! x h;simpa using this)
   c (EM (e c i!) λx h=>by have:=d c i! x h;simpa using this)
 |_::_::_::_::_,g,_,_=>simp at g
variable {n k b i g cap j q M:Nat}
def afo {number:Nat}(h:CY (Ed n number l) 0 l=0):l.Pairwise (· < ·)/\∀x∈l,0<=x/\x<n:=by
 have a:∀k (a:k<l.length),(0<=l[k]/\l[k]<n)/\(0<k->nth l (k - 1)<l[k]):=λk a=>by
  have:=Gs h k l[k] (zf a);unfold Ed at this;split at this
  .cases this
  next g=>
  split at this
  .cases this
  next f=>
  refine⟨?_,λs=>?_⟩
  .have:=G' (n:=l[k]) (lo:=0) (hi:=(n:Int) - 1) (by cases e:AD l[k] 0 ((n:Int) - 1);rfl;exact absurd (.inl e) g)
   omega
  exact Int.lt_of_not_ge λb=>f ⟨o!,by rw[zN];exact b⟩
 refine⟨?_,λx o=>?_⟩
 .have step:∀i (hi:i+1<l.length),l[i]<l[i+1]:=λi hi=>by
   have:=(a (i+1) hi).2 (Nat.succ_pos _);simpa[nth,Y6,show i<l.length by omega]using this
  have c:∀d i (hi:i+d+1<l.length),l[i]<l[i+d+1]:=by
   intro d
   induction d with
   |zero=>intro i hi;exact step i hi
   |succ d m=>
    intro i hi;have g:=m i o!;have f:=step (i+d+1) o!;have e:l[i+(d+1)+1]=l[i+d+1+1]:=rfl;rw[e];omega
  rw[ZdK];intro i j hi r p;have:=c (j - i - 1) i o!;have e:l[i+(j - i - 1)+1]' o!=l[j]:=by congr 1;omega
  rwa[e]at this
 obtain⟨k,q,rfl⟩:=Zas o;exact(a k q).1
def af4 {l:List Ay}(d:l.length<=3)(h:∀s∈l,s.over.Pairwise (· < ·)/\∀x∈s.over,0<=x/\x<l.length)(f:n<l.length)(e:k<l.length):(abI l n).getD k false=hasB (Ax l n) k:=by
 have c:(abg l).length=l.length:=by simp[abg]
 have:=vU (o:=abg l) o! (λo b=>by obtain⟨s,a,rfl⟩:=List.mem_map.1 b;exact(h s a).1)
  (λo b=>by obtain⟨s,a,rfl⟩:=List.mem_map.1 b;rw[c];exact(h s a).2)
 unfold WU at this;rw[Zdm]at this;have:=this n (by rw[List.mem_range];omega);rw[Zdm]at this;have:=this k (by rw[List.mem_range];omega);rw[afn];exact eq_of_beq this
def abb (l:List Ay):List Ay:=l.map λx=> {x with left:=0}
def ac4:∀(l:List Ay) (ab:Nat->Nat) (i:Nat),K6 ab i (abb l)=K6 ab i l
 | [],_,_=>rfl
 |s::r,ab,i=>ac4 r (HJ ab i s.over) (i+1)
def abU (l:List Ay):∀(n:Nat) (ab:Nat->Nat),G5 ab (abb l) n=G5 ab l n
 |0,_=>rfl
 |n+1,ab=>by
  show G5 (K6 ab 0 (abb l)) (abb l) n=G5 (K6 ab 0 l) l n;rw[ac4,abU l n]
def ac6 (l:List Ay):Ax (abb l)=Ax l:=by
 unfold Ax;rw[abU];simp[abb]
def ad5 {a b:List Ay}(h:abb a=abb b):Ax a=Ax b:=by rw[<-ac6 a,h,ac6]
def aci {a b:List Ay}(h:abb a=abb b):a.length=b.length:=by
 have:=congrArg List.length h;simpa[abb]using this
def adY (s:List Ay)(i:Nat):abb (Kn s i)=abb s:=by
 unfold abb Kn;apply YA;intro j;simp only[YL,List.getElem?_modify];cases s[j]? with
 |none=>rfl
 |some x=>by_cases h:i=j<;>simp[h]
def abx:∀(l:List Int) (s:List Ay),abb (CJ s l)=abb s
 | [],_=>rfl
 |i::r,s=>(abx r (Kn s i.toNat)).trans (adY s _)
def aeF {a b:List Ay}(h:abb a=abb b)(hi:i<a.length): {Aj a i with left:=0}= {Aj b i with left:=0}:=by
 have e:=congrArg (λl=>l[i]?) h;simp only[abb,YL,Db hi,Db (show i<b.length by rw[<-aci h];exact hi),Zdh]at e;exact ZW e
def bU (h:Qb6 w A)(k:Qb6 A B):Qb6 w B:=h.trans (k.mono h.size)
def fH:Nat->Nat->List (List Int)
 |0,_=> [[]]
 |m+1,n=>((Yr n).drop m).flatMap λlast=>(fH m last).map (· ++ [(last:Int)])
def g64 (w:Zb)(x y:Zbv)(xs a:Array Zf):(eqGuard .neq 94 x y (.agg xs) (.agg a)).run Lp w=.ok () w:=run_eqGuard_agg w _ _ _ _ _ _ k!
def q64 (w:Zb)(a b:Int):(binOp .neq 94 (.agg #[.int .i64 a,.int .i64 b]) (.agg #[.int .i64 a,.int .i64 b])).run Lp w=.ok (.bool false) w:=by
 rw[run_neq_struct,run_equalIn_agg (ht:=k!) (hp:=k!)];simp[go_sem]
def adk:Ke l l=true:=decide_eq_true rfl
def adZ {l:List (Int×Int)}:adi l l=true:=decide_eq_true rfl
variable {s:Ay}
def c97 {u3:Zf}(hp:SP S w v2 s.Ap)(y:SI S w v3 s.over)(x:SP T w u2 s.Ap)(q:SI T w u3 s.over)(m:Ql6 S w)(l:∀b,T b->b<w.heap.size):
  Calls Lp 41 #[.agg #[.int .i64 s.low,.int .i64 s.high,v2,v3,.int .i64 s.left],.agg #[.int .i64 s.low,.int .i64 s.high,u2,u3,.int .i64 s.left]] w λe w'=>e=.returned (.bool true)/\Qb6 w w':=by
 obtain⟨D,B,rfl,l1,m1⟩:=hp.val;obtain⟨C,A,rfl,l2,m2⟩:=y.val;obtain⟨Y,R,rfl,l3,m3⟩:=x.val;obtain⟨X,Q,rfl,l4,m4⟩:=q.val;have IX:=DJ;have o:YH w w ((w.alloc (.cells #[.int .i64 s.low,.int .i64 s.high,.slice D s.Ap.length B,.slice C s.over.length A,.int .i64 s.left] 48)).alloc (.cells #[.int .i64 s.low,.int .i64 s.high,.slice Y s.Ap.length R,.slice X s.over.length Q,.int .i64 s.left] 48)):=bA (bA (Zh _ _));have z:=Zd (λW (a:Qb6 w W)=>c46 (w:=W) (y.later a) (q.later a) (A3 m a) (A3 l a));rw[adk]at z;go_enter Lp.func97,n97;go_wp2_with (go_at_call 24;refine(z.out _ o).mono ?_;rintro e w1 ⟨rfl,c⟩;have G:=o.trans (c.mono o.size);obtain⟨Fl,DR⟩:=bw c;obtain⟨Z,I⟩:=E7 c);have v:=(c.block w j!).trans (Bf (Bp w (.cells #[.int .i64 s.low,.int .i64 s.high,.slice D s.Ap.length B,.slice C s.over.length A,.int .i64 s.left] 48)) _);have u:=(c.block (w+1) i!).trans (Jq w _ _);have N:=ch (i:=2) v rfl;have L:=ch (i:=2) u rfl;clear v u c Z I;go_loopg [5] s.Ap.length (λg i wr=>∃k:Nat,k<=s.Ap.length/\g=s.Ap.length - k/\i=.int .i64 k/\Qb6 w1 wr)
 case atStart=>exact⟨0,Zp _,rfl,rfl,Zh _ _⟩
 obtain⟨k,hk,rfl,rfl,a⟩:=hrel;have d:=G.trans (a.mono G.size);have M:=(a.cell (p:=⟨w,2,none⟩) Fl).trans N;have K:=(a.cell (p:=⟨w+1,2,none⟩) DR).trans L;by_cases H:k<s.Ap.length
 .obtain⟨j,t,rfl,E,P,J⟩:=hp.at_ H
  obtain⟨f,r,rfl,F,O,n⟩:=x.at_ H;rw[<-d.cell (p:=⟨j,t+k*2,none⟩) (m j E)]at P;rw[<-d.cell (p:=⟨j,t+k*2+1,none⟩) (m j E)]at J;rw[<-d.cell (p:=⟨f,r+k*2,none⟩) (l f F)]at O;rw[<-d.cell (p:=⟨f,r+k*2+1,none⟩) (l f F)]at n;have i1:(k:Int)<(s.Ap.length:Int):=o!
  have V:=q64;have U:=g64;go_wp2;go_quiet (fail);go_wp2;go_roundg (s.Ap.length - (k+1))
  case rel=>exact⟨k+1,o!,rfl,v!,Y5 a _⟩
  omega
 go_wp2;go_ret;exact⟨rfl,d⟩
def alc {u3:Zf}(hp:SP S w v2 s.Ap)(f:SI S w v3 s.over)(d:SP T w u2 s.Ap)(c:SI T w u3 s.over)(i:Ql6 S w)(g:∀b,T b->b<w.heap.size):
  ∀W,Qb6 w W->Calls Lp 41 #[.agg #[.int .i64 s.low,.int .i64 s.high,v2,v3,.int .i64 s.left],.agg #[.int .i64 s.low,.int .i64 s.high,u2,u3,.int .i64 s.left]] W λe w'=>e=.returned (.bool true)/\Qb6 W w':=
 λ_ a=>c97 (hp.later a) (f.later a) (d.later a) (c.later a) (A3 i a) (A3 g a)
variable {c:A_}
def c36 {u3:Zf}(h:RC S w v1 v2 v3 v4 v5 c)(g:RC T w u1 u2 u3 u4 u5 c)(l:Ql6 S w)(j:∀b,T b->b<w.heap.size):
  Calls Lp 15 #[.agg #[v1,v2,v3,v4,v5],.agg #[u1,u2,u3,u4,u5]] w λe w'=>e=.returned (.bool true)/\Qb6 w w':=by
 obtain⟨a1,c1,U,K,R,J,Q,I,P,H,rfl,rfl,rfl,rfl,rfl,l1,m1,l2,m2,l3,m3,l4,m4,l5,m5⟩:=h.vs;obtain⟨b1,d1,O,d2,N,d3,M,d4,L,G,rfl,rfl,rfl,rfl,rfl,k1,n1,k2,n2,k3,n3,k4,n4,k5,n5⟩:=g.vs;have IX:=DJ;have Bg:YH w w ((w.alloc (.cells (Qe6 c a1 c1 U K R J Q I P H) 26)).alloc (.cells (Qe6 c b1 d1 O d2 N d3 M d4 L G) 26)):=bA (bA (Zh _ _));have r0:=λ{i:Nat} {v:Zf}=>ch (i:=i) (v:=v) (Bf (Bp w (.cells (Qe6 c a1 c1 U K R J Q I P H) 26)) (.cells (Qe6 c b1 d1 O d2 N d3 M d4 L G) 26));have V:=λ{i:Nat} {v:Zf}=>ch (i:=i) (v:=v) (Jq w (.cells (Qe6 c a1 c1 U K R J Q I P H) 26) (.cells (Qe6 c b1 d1 O d2 N d3 M d4 L G) 26));have HR:Hid (∀(W:Zb),YH ((w.alloc (.cells (Qe6 c a1 c1 U K R J Q I P H) 26)).alloc (.cells (Qe6 c b1 d1 O d2 N d3 M d4 L G) 26)).heap.size ((w.alloc (.cells (Qe6 c a1 c1 U K R J Q I P H) 26)).alloc (.cells (Qe6 c b1 d1 O d2 N d3 M d4 L G) 26)) W->
   W.cell? ⟨w,1,none⟩=some (.slice U c.Af.length K)/\W.cell? ⟨w,2,none⟩=some (.slice R c.hooks.length J)/\W.cell? ⟨w,3,none⟩=some (.slice Q c.Aa.length I)/\W.cell? ⟨w,4,none⟩=some (.slice P c.now.length H)/\
   W.cell? ⟨w+1,1,none⟩=some (.slice O c.Af.length d2)/\W.cell? ⟨w+1,2,none⟩=some (.slice N c.hooks.length d3)/\W.cell? ⟨w+1,3,none⟩=some (.slice M c.Aa.length d4)/\W.cell? ⟨w+1,4,none⟩=some (.slice L c.now.length G)):=Zd λW a=>by
  obtain⟨u,_⟩:=E7 a;exact⟨(u _ _ j!).trans (r0 rfl),(u _ _ j!).trans (r0 rfl),(u _ _ j!).trans (r0 rfl),(u _ _ j!).trans (r0 rfl),(u _ _ i!).trans (V rfl),(u _ _ i!).trans (V rfl),(u _ _ i!).trans (V rfl),(u _ _ i!).trans (V rfl)⟩
 clear r0 V;have HA:=Zd (λW (a:Qb6 w W)=>c46 (w:=W) (h.base.later a) (g.base.later a) (A3 l a) (A3 j a));have HE:=Zd (λW (a:Qb6 w W)=>c43 (w:=W) (h.Af.later a) (g.Af.later a) (A3 l a) (A3 j a));have HH:=Zd (λW (a:Qb6 w W)=>c46 (w:=W) (h.hooks.later a) (g.hooks.later a) (A3 l a) (A3 j a));have am:=Zd (λW (a:Qb6 w W)=>c46 (w:=W) (h.now.later a) (g.now.later a) (A3 l a) (A3 j a));rw[adk]at HA HH am;rw[adZ]at HE;go_enter Lp.func36,n36;go_wp2_with (go_at_call 24;refine(HA.out _ Bg).mono ?_;rintro e w1 ⟨rfl,Bb⟩;have oT:=Bg.trans (Bb.mono Bg.size);obtain⟨C,B,q,A,z,y,o,x⟩:=HR.out _ Bb);have ac:=Bb;clear Bb;refine(HE.out _ oT).mono ?_;rintro e w2 ⟨rfl,f⟩;have E:=ac.trans (f.mono ac.size);have aT:=oT.trans (f.mono oT.size);clear f C B q A z y o x;obtain⟨C,B,q,A,z,y,o,x⟩:=HR.out _ E;dsimp only;go_wp2_with (fail);refine(HH.out _ aT).mono ?_;rintro e w3 ⟨rfl,f⟩;have D:=E.trans (f.mono E.size);have xa:=aT.trans (f.mono aT.size);clear f C B q A z y o x;obtain⟨C,B,q,A,z,y,o,x⟩:=HR.out _ D;dsimp only;go_wp2_with (fail);refine(am.out _ xa).mono ?_;rintro e w4 ⟨rfl,f⟩;have iu:=D.trans (f.mono D.size);have ai:=xa.trans (f.mono xa.size);clear f C B q A z y o x;obtain⟨C,B,q,A,z,y,o,x⟩:=HR.out _ iu;dsimp only;go_wp2_with (fail);clear C B A z y x;go_loopg [5] c.Aa.length (λg i wr=>∃k:Nat,k<=c.Aa.length/\g=c.Aa.length - k/\i=.int .i64 k/\Qb6 w4 wr)
 case atStart=>exact⟨0,Zp _,rfl,rfl,Zh _ _⟩
 obtain⟨k,hk,rfl,rfl,a⟩:=hrel;have d:=ai.trans (a.mono ai.size);have an:=iu.trans (a.mono iu.size);clear q o;obtain⟨_,_,q,_,_,_,o,_⟩:=HR.out _ an;by_cases Az:k<c.Aa.length
 .obtain⟨n,o1,s2,s3,rfl,q1,h0,h1,h2,h3,h4,hp,ho⟩:=h.Aa.at_ Az
  obtain⟨m,o2,t2,t3,rfl,Z,t,s,j2,j3,r,lR,rH⟩:=g.Aa.at_ Az;have F:=Zd (alc hp ho lR rH l j);obtain⟨sm,Qh⟩:=Qnm (Aj c.Aa k);rw[<-Qh]at h0 h1 h4 t s r F;clear Qh;have i1:(k:Int)<(c.Aa.length:Int):=o!
  have X:=λp=>Al p q;have Y:=λp=>Al p o;have h0:=λp=>Al p ((d.cell (p:=⟨n,o1+k*5,none⟩) (l n q1)).trans h0);have h1:=λp=>Al p ((d.cell (p:=⟨n,o1+k*5+1,none⟩) (l n q1)).trans h1);have h2:=λp=>Al p ((d.cell (p:=⟨n,o1+k*5+2,none⟩) (l n q1)).trans h2);have h3:=λp=>Al p ((d.cell (p:=⟨n,o1+k*5+3,none⟩) (l n q1)).trans h3);have h4:=λp=>Al p ((d.cell (p:=⟨n,o1+k*5+4,none⟩) (l n q1)).trans h4);have t:=λp=>Al p ((d.cell (p:=⟨m,o2+k*5,none⟩) (j m Z)).trans t);have s:=λp=>Al p ((d.cell (p:=⟨m,o2+k*5+1,none⟩) (j m Z)).trans s);have j2:=λp=>Al p ((d.cell (p:=⟨m,o2+k*5+2,none⟩) (j m Z)).trans j2);have j3:=λp=>Al p ((d.cell (p:=⟨m,o2+k*5+3,none⟩) (j m Z)).trans j3);have r:=λp=>Al p ((d.cell (p:=⟨m,o2+k*5+4,none⟩) (j m Z)).trans r);have HB:=Zd (λp=>d.trans ((AE wr p).mono d.size));have HQ:=Zd (λp=>a.trans ((AE wr p).mono a.size));go_wp2;refine Av k! k! ?_
  repeat (first|go_big_quiet_step ((go_at_call 41;exact AV (F.out _ (HB.out _))))|quiet_step ((go_at_call 41;exact AV (F.out _ (HB.out _)))))
  refine Z4 ?_;rintro _ ⟨p,rfl⟩;clear X Y h0 h1 h2 h3 h4 t s j2 j3 r;have yw:=HQ.out p;go_wp2;go_roundg (c.Aa.length - (k+1))
  case rel=>exact⟨k+1,o!,rfl,v!,yw⟩
  omega
 go_wp2;go_ret;exact⟨rfl,d⟩
attribute [local go_sem] Zdk
variable {e:Zs}
variable {xs news:List Zf}
def Tn {base:Nat}(a:Qb6 A B)(h:A.ownsRow base e k v n xs):B.ownsRow base e k v n xs:=CO (T:=λ_=>False) (Ak.later a) (λ_ _ x=>x) h
def SL.imp {l:List (List Int)}(h:SL S w v l)(a:∀b,S b->T b):SL T w v l:=Sl.imp h a λ_ _ ⟨u,e,c⟩=>⟨u,e,Sl.imp c a λ_ _ x=>x⟩
def LR (base:Nat)(w:Zb)(v:Zf)(P:List (List Int)):Prop:=∃a,w.ownsRow base 22 1 v P.length a/\∀(i:Nat) (x:List Int),P[i]?=some x->∃u,a[i]?=some u/\SI (J1 3 base w) w u x
def LR.nil (base:Nat)(w:Zb):LR base w () []:=⟨[],zq _ _ _ _,λi x h=>h!⟩
variable {P ls:List (List Int)}
def LR.sl {base:Nat}(h:LR base w v P):SL (Cb base w) w v P:=by
 obtain⟨a,j,g⟩:=h;refine WM j (Zj _) λi x c=>?_;obtain⟨u,f,e⟩:=g i x c;exact⟨u,f,Sl.imp e (λb d=>d.1) λ_ _ x=>x⟩
def LR.val {base:Nat}(h:LR base w v P):∃a c,v=.slice a P.length c/\P.length<=c/\c<=maxLen:=by
 obtain⟨a,c,e,d,b,_⟩:=h.sl;exact⟨a,c,e,d,b⟩
def LR.snoc {n w1:Zb}{base m:Nat}{x:List Int}{vals:List Zf}(l:A.ownsRow base 22 1 v P.length vals)(D:∀(i:Nat) (x:List Int),P[i]?=some x->∃u,vals[i]?=some u/\SI (J1 3 base A) A u x)
 (j:SI (J1 3 m A) A u x) (q:base<=m) (t:Qb6 A n) (B:n.grownBy w1 v.ownBlock) (F:w1.ownsRow base 22 1 v' (P.length+1) (vals++ [u])):LR base w1 v' (P++ [x]):=by
 have C:Ak (λk=>v.ownBlock=some k) A w1:=(Ak.later t).trans (Ak.grown B λk r=>r);refine⟨vals++ [u],by rw[ZA];exact F,λi y c=>?_⟩;have a:∀u,SI (J1 3 base A) A u y->SI (J1 3 base w1) w1 u y:=λu h=>by
  refine Dx C (λb f h=>?_) h;obtain⟨G,d⟩:=f.2;rcases l.2 with⟨e,_⟩|⟨g,cap,w,e,_,s,_⟩
  .rw[e]at h;cases h
  rw[e]at h;cases h;rw[s]at d;cases d
 by_cases E:i<P.length
 .rw[zl E]at c
  obtain⟨u,j,p⟩:=D i y c;exact⟨u,by rw[zl (Zm.1 j).1];exact j,a u p⟩
 have z:=(Zm.1 c).1;rw[ZA,zb,zR]at z;obtain rfl:i=P.length:=o!
 rw[Y1]at c;cases c;have o:vals.length=P.length:=by have:=l.1;omega
 exact⟨u,by rw[<-o,Y1],a _ (Sl.imp j (λb f=>⟨⟨Zr q f.1.1,f.1.2⟩,f.2⟩) (λ_ _ x=>x))⟩
def Own.typ {base:Nat}(h:Own w base v l):SI (J1 3 base w) w v l:=
 Lg (R:=Ri) d! h λi x a=>by
  rw[Nat.mul_one];obtain⟨b,e⟩:=Zm.1 a;rw[ZO (by simpa using b)];simp[Ri,e]
def ad7:∀(l:List (Int×Int)) (i:Nat) (p:Int×Int),i<l.length->((l.flatMap λp=> [ZL .i64 p.1,.int .i64 p.2]).set (i*2) (.int .i64 p.1)).set (i*2+1) (.int .i64 p.2)=(l.set i p).flatMap λp=> [ZL .i64 p.1,.int .i64 p.2]
 | [],_,_,h=>h!
 |q::r,0,p,_=>rfl
 |q::r,i+1,p,h=>by
  have:=ad7 r i p (by simpa using h);rw[List.set_cons_succ,List.flatMap_cons,List.flatMap_cons, <-this,show(i+1)*2=i*2+1+1 by omega]
  rfl
def Ih.set {base:Nat}{l:List (Int×Int)}(h:Ih w base (.slice g n cap) l e)(hi:i<l.length)(p:Int×Int):
  Ih ((w.setCell ⟨g,i*2,none⟩ (.int .i64 p.1)).setCell ⟨g,i*2+1,none⟩ (.int .i64 p.2)) base (.slice g n cap) (l.set i p) e:=by
 obtain⟨o,m⟩:=h;rcases m with⟨a,_⟩|⟨r,s,q,a,k,j,f,d,c,b⟩
 .cases a
 cases a;refine⟨?_,.inr ⟨g,cap,_,by rw[ZcC],k,Ba (Ba j _) _,by simpa using f,d,by simpa using c,?_⟩⟩
 .rw[<-ad7 l i p hi]
  simpa using o
 rw[<-ad7 l i p hi];simp only[ZcM,ZcC,List.take_set];rw[b]
variable {H α:Type}
def take_set {N O:List α}{x:α}(c:j<N.length)(b:j<O.length)(h:N[j]?=some x):(N.take j++O.drop j).set j x=N.take (j+1)++O.drop (j+1):=by
 have a:(N.take j).length=j:=by rw[ZcV];omega
 rw[List.set_append_right _ _ o!,a,Nat.sub_self,ZO b,List.set_cons_zero,ZbH,h];simp
inductive HT
 |leaf
 |one (i:Nat) (r:HT)
 |free (i:Nat) (r:HT)
 |fork (i:Nat) (x:HT) (j:Nat) (y:HT)
def HT.len:HT->Nat
 | .leaf=>0
 | .one _ r=>r.len+1
 | .free _ r=>r.len+1
 | .fork _ x _ _=>x.len+1
section
variable {P:Zo}{ops:Array Oper}{Q:Exit->Act->Zb->Prop}{md:YO}{S:Zb->Prop}{T:Nat->Zb->Prop}
def abo (P:Zo)(b:Array Oper)(Q:Exit->Act->Zb->Prop)(S:Zb->Prop)(T:Nat->Zb->Prop):HT->Act->Zb->Prop
 | .leaf,a,w=>Q .normal a w
 | .one i r,a,w=>wpOp P b Q i (λa' w'=>T i w'/\abo P b Q S T r a' w') a w
 | .free i r,a,w=>S w/\∃o v,b[i]?=some o/\ZbF P b S o v a/\abo P b Q S T r (a.put o.dst v) w
 | .fork i x j y,a,w=>wpOp P b Q i (λa' w'=>T i w'/\abo P b Q S T x a' w') a w/\wpOp P b Q j (λa' w'=>T j w'/\abo P b Q S T y a' w') a w
def htB (b:YO)(a:Array Oper)(n:Nat)(lates:List Nat):HT->Array Bool->Bool
 | .leaf,listed=>(zs b a listed).isEmpty
 | .one i r,listed=>decide (zs b a listed=[i])&&htB b a n lates r (listed.setIfInBounds i true)
 | .free i r,listed=>(zs b a listed).contains i&&Za3 b a listed i&&pQ b a n lates i&&htB b a n lates r (listed.setIfInBounds i true)
 | .fork i x j y,listed=>decide (zs b a listed=[i,j])&&decide (x.len=y.len)&&htB b a n lates x (listed.setIfInBounds i true)&&htB b a n lates y (listed.setIfInBounds j true)
def aby {n:Nat}{lates:List Nat}(q:YF ops=true)(l:∀c a d v w,Q (.panic c) (Zck a d v) w->Q (.panic c) a w):
  ∀(t:HT) (listed:Array Bool) (a:Act) (w:Zb),Dn md ops listed->htB md ops n lates t listed=true->abo P ops Q S (FG lates S) t a w->Cy P md ops Q (FG lates S) t.len listed a w
 | .leaf,_,_,_,_,b,h=>⟨by simpa[htB]using b,h⟩
 | .one i r,listed,a,w,e,b,h=>by
  simp only[htB,ZF,decide_eq_true_eq]at b;refine⟨λm=>(by rw[b.1]at m;cases m),λj u=>?_⟩;have s:=u;rw[b.1]at u;have:j=i:=by simpa using u
  subst this;exact Zcc (λp w' x=>⟨x.1,aby q l r _ p w' (e.step s) b.2 x.2⟩) h
 | .free i r,listed,a,w,e,b,h=>by
  simp only[htB,ZF]at b;obtain⟨F,o,v,E,D,h⟩:=h;have A:i∈zs md ops listed:=by simpa using b.1.1.1
  exact Me (S:=S) (n:=n) (f:=r.len) E q (λc a w x=>l c a o.dst v w x) (λw x=>.inr x) (iw b.1.2) listed a w e b.1.1.2 A D F (aby q l r _ _ w (e.step A) b.2 h)
 | .fork i x j y,listed,a,w,e,b,h=>by
  simp only[htB,ZF,decide_eq_true_eq]at b;obtain⟨⟨⟨B,I⟩,H⟩,G⟩:=b;refine⟨λm=>(by rw[B]at m;cases m),λk g=>?_⟩;have C:=g;rw[B]at g;rcases List.mem_cons.1 g with rfl|g
  .exact Zcc (λp w' z=>⟨z.1,aby q l x _ p w' (e.step C) H z.2⟩) h.1
  have:k=j:=by simpa using g
  subst this;exact Zcc (λp w' z=>⟨z.1,by have:=aby q l y _ p w' (e.step C) G z.2;rwa[<-I]at this⟩) h.2
variable {a:Act}
def ac7 {id:Nat}{l:List Oper}(n:Nat)(lates:List Nat)(t:HT)(ls:List Nat)(i:P.follows .mixedOrders=true)(g:∀c a d v w,Q (.panic c) (Zck a d v) w->Q (.panic c) a w)
 (b:(YF l.toArray&&decide (t.len+ls.length=l.toArray.size)&&lsB .any l.toArray n lates (htB .any l.toArray n lates t) ls (Yu l.toArray.size false))=true) (j:S w.drew)
 (h:MQ P l.toArray S (λa'=>abo P l.toArray Q S (FG lates S) t a' w.drew) ls a):(zU id l.toArray true).wp P Q a w:=by
 simp only[ZF,decide_eq_true_eq]at b;refine Zd5 i (JV (T:=FG lates S) _ _ _ _ ?_);have e:Dn .any l.toArray (Yu l.toArray.size false):=λk ok _ f=>by
  rw[show(Yu l.toArray.size false).getD k false=false by unfold Array.getD;split<;>simp]at f;cases f
 have:=Vd b.1.1 g j (λlisted a m p o=>aby b.1.1 g t listed a w.drew m p o) ls _ a e b.2 h;rw[b.1.2]at this;exact this
variable {r:HT}
variable {o:Oper}
def afp (b:ops[i]?=some o)(c:o.guard=none)(h:o.wp P a w (λa' w'=>T i w'/\abo P ops Q S T r a' w') Q):abo P ops Q S T (.one i r) a w:=by
 unfold abo wpOp;simp only[b];rw[if_pos (by simp[Yf,c])];exact .inl h
def ac2 (c:ops[i]?=some o)(d:o.guard=none)(b:(Zby a.eval o).run P w=.ok (.value v) w')(e:T i w')
 (h:abo P ops Q S T r (a.put o.dst v) w'):abo P ops Q S T (.one i r) a w:=by
 refine afp c d ?_;unfold ZbA;rw[b,Zdi];exact⟨e,h⟩
variable {f:ZaQ}
variable {args x cur cs:Array Zf}
def abS (c:ops[i]?=some o)(d:o.guard=none)(b:(Zby a.eval o).run P w=.ok (.enter f args) w)
 (g:Calls P f args w λe w'=>(∃v,e=.returned v/\T i w'/\abo P ops Q S T r (a.put o.dst v) w')\/∃x,e=.panicked x/\Q (.panic x) a w'):abo P ops Q S T (.one i r) a w:=by
 refine afp c d ?_;unfold ZbA;rw[b,Zdj];refine g.mono λe w' h=>?_;rcases h with⟨v,rfl,h⟩|⟨x,rfl,h⟩
 .exact h
 exact h
def afq (c:ops[i]?=some o)(d:o.guard=none)(b:(Zby a.eval o).run P w=.ok .skip w')(e:T i w')
 (h:abo P ops Q S T r (a.put o.dst Ze) w'):abo P ops Q S T (.one i r) a w:=by
 refine afp c d ?_;unfold ZbA;rw[b,ZcQ];exact⟨e,h⟩
def ad1 (e:S w)(c:ops[i]?=some o)(d:o.guard=none)(b:∀w,S w->(Zby a.eval o).run P w=.ok (.value v) w)
 (h:abo P ops Q S T r (a.put o.dst v) w):abo P ops Q S T (.free i r) a w:=
 ⟨e,o,v,c,.inl ⟨by simp[Yf,d],b⟩,h⟩
def aeG {x y:HT}(c:abo P ops Q S T (.one i x) a w)(b:abo P ops Q S T (.one j y) a w):abo P ops Q S T (.fork i x j y) a w:=⟨c,b⟩
end
def rB (ab:Nat->Nat):Nat->List Bool->Nat->Nat
 |_,[],s=>s
 |i,b::r,s=>rB ab (i+1) r (if b=true then s|||Iv (ab i) i else s)
def vD (o:List (List Int))(D:List Bool)(l:List Int):Bool:=((Yr o.length).all λi=> !(D.getD i false)||l.contains (i:Int))&&l.all λx=>(o.getD x.toNat []).all λy=>l.contains y
def aj3 (n m i:Nat):List (List Int):=(fH m n).drop i++((Yr (n+1)).drop (m+1)).flatMap λk=>fH k n
def WX (o:List (List Int))(D:List Bool):Bool:=(aj3 o.length 0 0).find? (vD o D)==some (AB (rB (ri o) 0 D 0))
def P3:List Bool:=[true,false]
def Hd (b:Bool):b∈P3:=by cases b<;>simp[P3]
def acN:∀a∈Lj,∀d∈P3,WX [a.filter (· <1)] [d]=true:=by decide+kernel
def acO:∀a∈Lj,∀b∈Lj,∀d∈P3,∀e∈P3,WX [a.filter (· <2),b.filter (· <2)] [d,e]=true:=by decide+kernel
def acP:∀a∈Lj,∀b∈Lj,∀c∈Lj,∀d∈P3,∀e∈P3,∀f∈P3,WX [a,b,c] [d,e,f]=true:=by decide+kernel
def least {o:List (List Int)}{D:List Bool}(j:1<=o.length)(k:o.length<=3)(n:D.length=o.length)(i:∀l∈o,l.Pairwise (· < ·))(g:∀l∈o,∀x∈l,0<=x/\x<o.length):WX o D=true:=by
 match o,D,j,k,n,i,g with
 | [a],[d],_,_,_,i,g=>
  have j:=g a i!;have:=acN a (EM (i a i!) λx h=>by have:=j x h;simp at this;omega) d (Hd d);rwa[filter_lt (λx h=>by have:=j x h;simpa using this)]at this
 | [a,b],[d,e],_,_,_,i,g=>
  have j:=g a i!;have m:=g b i!;have:=acO a (EM (i a i!) λx h=>by have:=j x h;simp at this;omega) b (EM (i b i!) λx h=>by have:=m x h;simp at this;omega) d (Hd d) e (Hd e);rwa[filter_lt (λx h=>by have:=j x h;simpa using this),filter_lt (λx h=>by have:=m x h;simpa using this)]at this
 | [a,b,c],[d,e,f],_,_,_,i,g=>
  exact acP a (EM (i a i!) λx h=>by have:=g a i! x h;simpa using this) b (EM (i b i!) λx h=>by have:=g b i! x h;simpa using this)
   c (EM (i c i!) λx h=>by have:=g c i! x h;simpa using this) d (Hd d) e (Hd e) f (Hd f)
 |_::_::_::_::_,_,_,k,_,_,_=>simp at k
def B3.aj4 (h:Qb6 w A)(c:B3 b A B)(d:w<=b):Qb6 w B:=h.trans ((c.CN (K:=λx=>x=b) rfl).below (λx a=>by have:x=b:=a;omega) h.size)
def ad8 (c:A_)(i:Int):Bool:=decide (0<(Aj c.Aa i.toNat).left)
def adl {t:Nat}:(JU c t=none)↔(AB t).all (ad8 c)=true:=by
 unfold JU;rw[List.find?_eq_none,Zdm];constructor
 .intro h x a
  have:=h x a;simp[SU,ad8]at this⊢;omega
 intro h x a;have:=h x a;simp[SU,ad8]at this⊢;omega
def ae3 (h:Ca c l=0):Eg c l=if(AB (DS c l)).all (ad8 c)=true then 0 else 12:=by
 unfold Eg;rw[BR h];by_cases a:JU c (DS c l)=none
 .rw[if_pos a,if_pos (adl.1 a)]
 rw[if_neg a,if_neg λx=>a (adl.2 x)]
def ad9 (h:BN c=0)(hi:i<c.Aa.length):0<=(Aj c.Aa i).left/\(Aj c.Aa i).left<=4:=(EG h).left i hi
def ae5 {s:List Ay}{n:List Int}(h:BN c=0)(g:abb s=abb c.Aa)(hl:∀i,i<s.length->0<=(Aj s i).left/\(Aj s i).left<=4)(F:Ct c n=0):BN {c with Aa:=s,now:=n}=0:=by
 have e:=aci g;have a:∀i,i<s.length->(Aj s i).low=(Aj c.Aa i).low/\(Aj s i).high=(Aj c.Aa i).high/\(Aj s i).Ap=(Aj c.Aa i).Ap/\(Aj s i).over=(Aj c.Aa i).over:=λi f=>by
  have:=aeF g f;simp only[Ay.mk.injEq]at this;obtain⟨d,b,l,j,_⟩:=this;exact⟨d,b,l,j⟩
 obtain⟨K,H⟩:=Bj h;obtain⟨J,G⟩:=Bj H;obtain⟨I,p⟩:=Bj G;have r:H0 c.Aa=true:=by
  by_cases q:H0 c.Aa=true
  .exact q
  rw[if_neg q]at p;cases p
 have k1:Dq {c with Aa:=s,now:=n}=0:=K;have D:Di (s.length:Int) 3=0:=by rw[e];exact J
 have C:JP {c with Aa:=s,now:=n}=0:=by
  unfold JP;refine J0 λk x E=>?_;have o:k<s.length:=(Zm.1 E).1;have m:=Gs I k _ (Db (show k<c.Aa.length by omega));rw[zN]at m⊢;obtain⟨d,b,l,j⟩:=a k o;unfold EF at m⊢;show PM (CV ((Aj s k).low,(Aj s k).high) (-2) 2) (PM (Di (Aj s k).Ap.length 2) (PM (CY (Fa c.base.length (Aj s k).Ap) 0 (Aj s k).Ap) (PM (CY (Ed s.length k (Aj s k).over) 0 (Aj s k).over) (Fo 0 4 (Aj s k).left))))=0;rw[d,b,l,j,e];obtain⟨A,z⟩:=Bj m;obtain⟨y,w⟩:=Bj z;obtain⟨v,u⟩:=Bj w;obtain⟨t,z8⟩:=Bj u;rw[BR A,BR y,BR v,BR t];exact Rm (hl k o)
 have B:H0 s=true:=by
  unfold H0 at r⊢;rw[ad5 g,e];exact r
 have k5:Ct {c with Aa:=s,now:=n} n=0:=by
  obtain⟨M,L⟩:=Fb F;refine iH ⟨by show n.length=s.length;omega,λi f=>?_⟩;show(Aj s i).low<=nth n i/\nth n i<=(Aj s i).high;obtain⟨d,b,_⟩:=a i o!;rw[d,b];exact L i f
 unfold BN;rw[BR k1,BR D,BR C,if_pos B];exact k5
def af5 {s:List Ay}{n m:List Int}(a:abb s=abb c.Aa)(b:Ct c n=0):Ct {c with Aa:=s,now:=m} n=0:=by
 have f:=aci a;obtain⟨g,e⟩:=Fb b;refine iH ⟨by show n.length=s.length;omega,λi d=>?_⟩;show(Aj s i).low<=nth n i/\nth n i<=(Aj s i).high;have:=aeF a (i:=i) o!;simp only[Ay.mk.injEq]at this;rw[this.1,this.2.1];exact e i d
def aef (a:Eg c l=0):BN (FH c l (DS c l))=0:=by
 obtain⟨n,o⟩:=Bj a;obtain⟨d,g⟩:=Bj n;have f:∀x∈AB (DS c l),0<=x/\x<c.Aa.length:=MT (EG d) (by have:=(Fb g).1;omega);have j:=ae3 n;have r:(AB (DS c l)).all (ad8 c)=true:=by
  by_cases q:(AB (DS c l)).all (ad8 c)=true
  .exact q
  rw[if_neg q]at j;rw[j]at a;cases a
 refine ae5 d (abx _ _) (λi m=>?_) g;rw[O_]at m;have b:=ad9 d m;by_cases k:(i:Int)∈AB (DS c l)
 .have p:=Zdm.1 r _ k
  simp only[ad8,Int.toNat_natCast,decide_eq_true_eq]at p;rcases MZ (AB (DS c l)) c.Aa i (PS _) f with e|e<;>rw[e]<;>omega
 rw[Ld _ _ i f k];exact b
def abq:A_->Nat->List (List Int)->Int×Int
 |_,_,[]=>(-1,-1)
 |c,k,l::r=>match JU c (DS c l) with
  |some x=>(k,x)
  |none=>abq (FH c l (DS c l)) (k+1) r
def adE (h:k<ls.length):abq c k (ls.drop k)=(match JU c (DS c (BM ls k)) with
  |some x=>((k:Int),x)
  |none=>abq (FH c (BM ls k) (DS c (BM ls k))) (k+1) (ls.drop (k+1))):=by
 obtain⟨a,e⟩:=Zm.1 (BJ h);rw[ZO a,e]
 rfl
def ade {ab:Nat->Nat}:∀(ls:List (List Int)) (c:A_) (k:Nat),ab=Ax c.Aa->MY ab c k ls=abq c k ls
 | [],_,_,_=>rfl
 |l::r,c,k,h=>by
  have e:Cx ab c.now l=DS c l:=by rw[h];rfl
  unfold MY abq;rw[e];cases JU c (DS c l) with
  |some x=>rfl
  |none=>exact ade r _ _ (by rw[h];exact(ad5 (abx _ _)).symm)
def adn (n lo hi:Int)(w:Zb):Calls Lp 74 #[.int .i64 n,.int .i64 lo,.int .i64 hi] w λe w'=>e=.returned (.bool (!AD n lo hi))/\w'=w:=by
 go_enter Lp.func135,al8;go_wp2
 all_goals go_ret
 all_goals refine⟨?_,rfl⟩
 all_goals simp_all[AD]
 have c:¬n<lo:=o!
 by_cases b:n<=hi
 .have a:¬hi<n:=by omega
  simp[b,c,a]
 have a:hi<n:=o!
 simp[b,a]
def ai3 (n a:Int)(w:Zb):Calls Lp 71 #[.int .i64 n,.int .i64 a] w λe w'=>e=.returned (.int .i64 (Di n a))/\w'=w:=by
 go_enter Lp.func107,al3;go_wp2
 all_goals go_ret
 all_goals simp_all[Di]
 all_goals omega
variable {p:Int×Int}
variable {lo hi:Int}
def aeH (h:AD p.1 lo hi=true):CV p lo hi=1:=if_pos (.inl h)
def aeI (h:AD p.2 lo hi=true):CV p lo hi=1:=if_pos (.inr h)
def aeJ (b:AD p.1 lo hi=false)(a:AD p.2 lo hi=false)(h:p.2<p.1):CV p lo hi=5:=by
 unfold CV;rw[if_neg (by rw[b,a];simp),if_pos h]
def ado (b:AD p.1 lo hi=false)(a:AD p.2 lo hi=false)(h:¬p.2<p.1):CV p lo hi=0:=by
 unfold CV;rw[if_neg (by rw[b,a];simp),if_neg h]
def alw (h:RC S w v1 v2 v3 v4 v5 c)(E:Ql6 S w):Calls Lp 70 #[.agg #[v1,v2,v3,v4,v5]] w λe w'=>e=.returned (.int .i64 (Dq c))/\Qb6 w w':=by
 obtain⟨O,J,N,I,M,H,L,G,K,F,rfl,rfl,rfl,rfl,rfl,l1,m1,l2,m2,l3,m3,l4,m4,l5,m5⟩:=h.vs;have IX:=DJ;go_enter Lp.func116,al5;have z:YH w w (w.alloc (.cells (Qe6 c O J N I M H L G K F) 26)):=(Zh _ _).alloc (Zj _) _;have Y:=Bp w (.cells (Qe6 c O J N I M H L G K F) 26);go_wp2_with (go_at_call 71;refine(ai3 _ _ _).mono ?_;rintro e w' ⟨rfl,rfl⟩)
 .have D:(Di c.base.length 3 !=0)=true:=by assumption
  go_ret;exact⟨Bw (by rw[Dq,K4 (Gr D)]),z⟩
 rename (Di _ _ !=0)=false=>D
 have l:=Zd D;clear D;go_loopg [4] c.base.length (λg i wr=>∃k:Nat,k<=c.base.length/\g=c.base.length - k/\i=.int .i64 k/\Bc (Fo 1 60) (c.base.drop k)=Bc (Fo 1 60) c.base/\wr=(w.alloc (.cells (Qe6 c O J N I M H L G K F) 26)))
 case atStart=>exact⟨0,Zp _,rfl,rfl,rfl,rfl⟩
 obtain⟨k,V,rfl,rfl,m,rfl⟩:=hrel;have a:=Zd m;clear m;by_cases n:k<c.base.length
 .obtain⟨b,o,rfl,u,T⟩:=h.base.at_ n
  have OJ:=z.cell (p:=⟨b,o+k,none⟩) (E b u);rw[T]at OJ;have d:=Zd (E_ (f:=Fo 1 60) (Bn n));go_wp2_with (go_at_call 74;refine(adn _ _ _ _).mono ?_;rintro e w' ⟨rfl,rfl⟩)
  .have r:AD (nth c.base k) 1 60=true:=by assumption
   go_ret;have U:Bc (Fo 1 60) c.base=1:=by rw[<-a.out,d.out,Ws r];rfl
   exact⟨Bw (by rw[Dq,BR (FE l.out),U];rfl),z⟩
  have r:AD (nth c.base k) 1 60=false:=a!
  go_roundg (c.base.length - (k+1))
  case rel=>exact⟨k+1,o!,rfl,v!,by rw[<-a.out,d.out,SK r];rfl,rfl⟩
  omega
 have s:=Zd (show Bc (Fo 1 60) c.base=0 by rw[<-a.out];exact FZ o!);clear a;go_wp2
 .have C:((c.Af.length:Int) !=c.base.length)=true:=by assumption
  go_ret;exact⟨Bw (by rw[Dq,BR (FE l.out),BR s.out,if_pos (xp C)]),z⟩
 rename (_ !=_)=false=>C
 have y:=Zd C;clear C;go_loopg [5] c.Af.length (λg i wr=>∃k:Nat,k<=c.Af.length/\g=c.Af.length - k/\i=.int .i64 k/\Bc (λp=>CV p (-9) 9) (c.Af.drop k)=Bc (λp=>CV p (-9) 9) c.Af/\Qb6 w wr/\wr.heap[w.heap.size]?=some (.cells (Qe6 c O J N I M H L G K F) 26 (0,0)))
 case atStart=>exact⟨0,Zp _,rfl,rfl,rfl,z,Y⟩
 obtain⟨k,V,rfl,rfl,m,j,P⟩:=hrel;have a:=Zd m;clear m;have k0:=ch (i:=0) P rfl;have k1:=ch (i:=1) P rfl;have k2:=ch (i:=2) P rfl;by_cases n:k<c.Af.length
 .obtain⟨b,o,rfl,u,R,X⟩:=h.Af.at_ n
  rw[<-j.cell (p:=⟨b,o+k*2,none⟩) (E b u)]at R;rw[<-j.cell (p:=⟨b,o+k*2+1,none⟩) (E b u)]at X;have d:=Zd (E_ (f:=λp=>CV p (-9) 9) (EE n));go_wp2_with (go_at_call 74;refine(adn _ _ _ _).mono ?_;rintro e w' ⟨rfl,rfl⟩)
  .have t:AD (BV c.Af k).1 (-9) 9=true:=by assumption
   go_ret;have A:Bc (λp=>CV p (-9) 9) c.Af=1:=by rw[<-a.out,d.out,aeH t];rfl
   exact⟨Bw (by rw[Dq,BR (FE l.out),BR s.out,if_neg (λx=>x (U2 y.out)),A];rfl),j⟩
  .have t:AD (BV c.Af k).2 (-9) 9=true:=by assumption
   go_ret;have A:Bc (λp=>CV p (-9) 9) c.Af=1:=by rw[<-a.out,d.out,aeI t];rfl
   exact⟨Bw (by rw[Dq,BR (FE l.out),BR s.out,if_neg (λx=>x (U2 y.out)),A];rfl),j⟩
  rename AD (BV c.Af k).2 _ _=false=>q
  rename¬AD (BV c.Af k).1 _ _=true=>t
  have v:=Zd (Bool.eq_false_iff.2 t);have B:=Zd q;clear t q;go_quiet (fail)
  all_goals go_wp2
  .have Q:(BV c.Af k).2<(BV c.Af k).1:=by assumption
   go_ret;have A:Bc (λp=>CV p (-9) 9) c.Af=5:=by rw[<-a.out,d.out,aeJ v.out B.out Q];rfl
   exact⟨Bw (by rw[Dq,BR (FE l.out),BR s.out,if_neg (λx=>x (U2 y.out)),A];rfl),Y5 j _⟩
  have Q:¬(BV c.Af k).2<(BV c.Af k).1:=o!
  go_roundg (c.Af.length - (k+1))
  case rel=>exact⟨k+1,o!,rfl,v!,by rw[<-a.out,d.out,ado v.out B.out Q];rfl,Y5 j _,by simpa using P⟩
  omega
 have v:=Zd (show Bc (λp=>CV p (-9) 9) c.Af=0 by rw[<-a.out];exact FZ o!);clear a;go_wp2
 .have q:((c.hooks.length:Int) !=c.base.length)=true:=by assumption
  go_ret;exact⟨Bw (by rw[Dq,BR (FE l.out),BR s.out,if_neg (λx=>x (U2 y.out)),BR v.out,if_pos (xp q)]),j⟩
 rename (_ !=_)=false=>q
 have B:=Zd q;clear q;go_loopg [6] c.hooks.length (λg i W=>∃k:Nat,k<=c.hooks.length/\g=c.hooks.length - k/\i=.int .i64 k/\Bc (Fo 0 5) (c.hooks.drop k)=Bc (Fo 0 5) c.hooks/\W=wr)
 case atStart=>exact⟨0,Zp _,rfl,rfl,rfl,rfl⟩
 obtain⟨k,V,rfl,rfl,m,rfl⟩:=hrel;have a:=Zd m;clear m;by_cases n:k<c.hooks.length
 .obtain⟨b,o,rfl,u,T⟩:=h.hooks.at_ n
  rw[<-j.cell (p:=⟨b,o+k,none⟩) (E b u)]at T;have d:=Zd (E_ (f:=Fo 0 5) (Bn n));go_wp2_with (go_at_call 74;refine(adn _ _ _ _).mono ?_;rintro e w' ⟨rfl,rfl⟩)
  .have r:AD (nth c.hooks k) 0 5=true:=by assumption
   go_ret;have U:Bc (Fo 0 5) c.hooks=1:=by rw[<-a.out,d.out,Ws r];rfl
   exact⟨Bw (by rw[Dq,BR (FE l.out),BR s.out,if_neg (λx=>x (U2 y.out)),BR v.out,if_neg (λx=>x (U2 B.out)),U]),j⟩
  have r:AD (nth c.hooks k) 0 5=false:=a!
  go_roundg (c.hooks.length - (k+1))
  case rel=>exact⟨k+1,o!,rfl,v!,by rw[<-a.out,d.out,SK r];rfl,rfl⟩
  omega
 have Z:=Zd (show Bc (Fo 0 5) c.hooks=0 by rw[<-a.out];exact FZ o!);clear a;go_wp2;go_ret;exact⟨Bw (by rw[Dq,BR (FE l.out),BR s.out,if_neg (λx=>x (U2 y.out)),BR v.out,if_neg (λx=>x (U2 B.out)),Z.out]),j⟩
def ac3 (g:Nat)(l:List (Int×Int)):Int:=PM (Di l.length 2) (CY (Fa g l) 0 l)
def alE {a:List (Int×Int)}(hp:SP S w v a)(T:g<=maxLen)(B:Ql6 S w):Calls Lp 92 #[.int .i64 g,v] w λe w'=>e=.returned (.int .i64 (ac3 g a))/\Qb6 w w':=by
 obtain⟨V,U,rfl,Q,P⟩:=hp.val;have X:=DJ;have F:=Zd (show ac3 g a=PM (Di a.length 2) (CY (Fa g a) 0 a) from rfl);go_enter Lp.func160,ala;go_wp2_with (go_at_call 71;refine(ai3 _ _ _).mono ?_;rintro e w' ⟨rfl,y⟩;have y:=y.symm;subst y)
 .have t:(Di a.length 2 !=0)=true:=by assumption
  go_ret;exact⟨Bw (by rw[F.out,K4 (Gr t)]),Zh _ _⟩
 rename (Di _ _ !=0)=false=>t
 have r:=Zd (show ac3 g a=CY (Fa g a) 0 a by rw[F.out,BR (FE t)]);have W:=Zd t;clear t F;go_loopg [6] a.length (λN i wr=>∃k:Nat,k<=a.length/\N=a.length - k/\i=.int .i64 k/\CY (Fa g a) k (a.drop k)=CY (Fa g a) 0 a/\Qb6 w wr)
 case atStart=>exact⟨0,Zp _,rfl,rfl,rfl,Zh _ _⟩
 obtain⟨k,R,rfl,rfl,K,d⟩:=hrel;have m:=Zd K;clear K;by_cases L:k<a.length
 .obtain⟨q,z,rfl,C,E,D⟩:=hp.at_ L
  obtain⟨O,M,e,_,J,_⟩:=hp.at_ (i:=0) o!;cases e;rw[<-d.cell (p:=⟨q,z+k*2,none⟩) (B q C)]at E;rw[<-d.cell (p:=⟨q,z+k*2+1,none⟩) (B q C)]at D;rw[<-d.cell (p:=⟨q,z+0*2,none⟩) (B q C)]at J;have n:=Zd (K5 (f:=Fa g a) (EE L));obtain⟨x,A⟩:=Qnm (BV a k);rw[<-A]at E D n;have Y:=Zd A;clear A;obtain⟨b,c⟩:=x;dsimp only at E D;rw[Nat.zero_mul,Nat.add_zero]at J;go_wp2_with (go_at_call 74;refine(adn _ _ _ _).mono ?_;rintro e w' ⟨rfl,rfl⟩)
  .have j:AD b 0 ((g:Int) - 1)=true:=by assumption
   have l:Fa g a k (b,c)=3:=by unfold Fa;rw[if_pos j]
   go_ret;exact⟨Bw (by rw[r.out, <-m.out,n.out,l];rfl),d⟩
  .have j:AD b 0 ((g:Int) - 1)=false:=by assumption
   have o:AD c (-4) 4=true:=a!
   have l:Fa g a k (b,c)=1:=by unfold Fa;rw[if_neg (by rw[j];decide),if_pos (.inr o)]
   go_ret;exact⟨Bw (by rw[r.out, <-m.out,n.out,l];rfl),d⟩
  .have j:AD b 0 ((g:Int) - 1)=false:=by assumption
   have o:(c==0)=true:=a!
   have l:Fa g a k (b,c)=1:=by unfold Fa;rw[if_neg (by rw[j];decide),if_pos (.inl (by simpa using o))]
   go_ret;exact⟨Bw (by rw[r.out, <-m.out,n.out,l];rfl),d⟩
  rename AD b 0 _=false=>j
  rename¬AD c _ _=true=>o
  rename (c==0)=false=>H
  have l:Fa g a k (b,c)=if 0<k/\b=(BV a 0).1 then 4 else 0:=by unfold Fa;rw[if_neg (by rw[j];decide),if_neg (λx=>x.elim (by simpa using H) o)]
  have G:=Zd l;clear l j o H;by_cases I:0<k
  .go_quiet (fail)
   go_wp2
   .have s:((BV a 0).1==b)=true:=by assumption
    go_ret;have u:Fa g a k (b,c)=4:=by rw[G.out,if_pos ⟨I,by simp at s;exact s.symm⟩]
    exact⟨Bw (by rw[r.out, <-m.out,n.out,u];rfl),Y5 d _⟩
   have s:((BV a 0).1==b)=false:=a!
   have u:Fa g a k (b,c)=0:=by rw[G.out,if_neg (λx=>by simp at s;exact s x.2.symm)]
   go_roundg (a.length - (k+1))
   case rel=>exact⟨k+1,o!,rfl,v!,by rw[<-m.out,n.out,u];rfl,Y5 d _⟩
   omega
  go_quiet (fail);go_wp2;have u:Fa g a k (b,c)=0:=by rw[G.out,if_neg (λx=>I x.1)]
  go_roundg (a.length - (k+1))
  case rel=>exact⟨k+1,o!,rfl,v!,by rw[<-m.out,n.out,u];rfl,Y5 d _⟩
  omega
 go_wp2;go_ret;exact⟨Bw (by rw[r.out, <-m.out];exact(MN o!).symm),d⟩
def af6 (a b c:Int):PM (PM a b) c=PM a (PM b c):=by
 unfold PM;by_cases h:a=0
 .rw[if_pos h,if_pos h]
 rw[if_neg h,if_neg h,if_neg h]
def alH (h:RC S w v1 v2 v3 v4 v5 c)(hn:n<c.Aa.length)(K:Ql6 S w):Calls Lp 72 #[.agg #[v1,v2,v3,v4,v5],.int .i64 n] w λe w'=>e=.returned (.int .i64 (EF c n))/\Qb6 w w':=by
 obtain⟨a1,c1,a2,c2,a3,c3,a4,c4,a5,c5,rfl,rfl,rfl,rfl,rfl,l1,m1,l2,m2,l3,m3,l4,m4,l5,m5⟩:=h.vs;have IX:=DJ;obtain⟨b,o,s2,s3,rfl,hb,ER,MM,LO,Z,V,P,J⟩:=h.Aa.at_ hn;obtain⟨a6,c6,rfl,l6,m6⟩:=P.val;obtain⟨a7,c7,rfl,l7,m7⟩:=J.val;have ig:=K b hb;obtain⟨s,O⟩:=Qnm (Aj c.Aa n);have D:EF c n=PM (CV (s.low,s.high) (-2) 2) (PM (ac3 c.base.length s.Ap) (PM (CY (Ed c.Aa.length n s.over) 0 s.over) (Fo 0 4 s.left))):=by rw[EF,O,ac3,af6]
 have C:=Zd D;rw[<-O]at ER MM LO Z V P J l6 l7;clear O D;obtain⟨a,j,BW,d,G⟩:=s;dsimp only at*;have Bg:YH w w (w.alloc (.cells (Qe6 c a1 c1 a2 c2 a3 c3 (some ⟨b,o,none⟩) c4 a5 c5) 26)):=bA (Zh _ _);have F:=Zd (λW (t:Qb6 w W)=>alE (w:=W) (g:=c.base.length) (P.later t) o! (A3 K t));go_enter Lp.func117,al6;go_wp2_with (first|(go_at_call 74;refine(adn _ _ _ _).mono ?_;rintro e w' ⟨rfl,rfl⟩)|(go_at_call 92;refine(F.out _ (bA (bA (Zh _ _)))).mono ?_;rintro e w' ⟨rfl,Bv⟩;obtain⟨De,m,Q⟩:=kp Bv;have f0:=m 0 (.slice a1 c.base.length c1) rfl;have f3:=m 3 (.slice (some ⟨b,o,none⟩) c.Aa.length c4) rfl;have g3:=Q 3 (.slice a7 d.length c7) rfl;have Y:=Q 4 (.int .i64 G) rfl;clear m Q))
 .have r:AD a (-2) 2=true:=by assumption
  go_ret;exact⟨Bw (by rw[C.out,aeH (p:=(a,j)) r];rfl),bA (bA (Zh _ _))⟩
 .have r:AD j (-2) 2=true:=by assumption
  go_ret;exact⟨Bw (by rw[C.out,aeI (p:=(a,j)) r];rfl),bA (bA (Zh _ _))⟩
 .have r:¬AD a (-2) 2=true:=by assumption
  have A:AD j (-2) 2=false:=a!
  have l:j<a:=a!
  go_ret;exact⟨Bw (by rw[C.out,aeJ (p:=(a,j)) (Bool.eq_false_iff.2 r) A l];rfl),bA (bA (Zh _ _))⟩
 .have r:¬AD a (-2) 2=true:=by assumption
  have A:AD j (-2) 2=false:=a!
  have l:a<=j:=a!
  have q:(ac3 c.base.length BW !=0)=true:=a!
  go_ret;exact⟨Bw (by rw[C.out,ado (p:=(a,j)) (Bool.eq_false_iff.2 r) A (by show¬j<a;omega),BR rfl,K4 (Gr q)]),De⟩
 rename¬AD a (-2) 2=true=>r
 rename AD j (-2) 2=false=>A
 rename a<=j=>l
 rename (ac3 _ _ !=0)=false=>q
 have I:=Zd (show EF c n=PM (CY (Ed c.Aa.length n d) 0 d) (Fo 0 4 G) by rw[C.out,ado (p:=(a,j)) (Bool.eq_false_iff.2 r) A (by show¬j<a;omega),BR rfl,BR (FE q)]);clear r A l C ER MM LO Z V F;have Q4:=Zd q;clear q;have D':=ZH w' _ Y;have Sb:w+1<w'.heap.size:=D';clear D';go_loopg [7] d.length (λg i wr=>∃k:Nat,k<=d.length/\g=d.length - k/\i=.int .i64 k/\CY (Ed c.Aa.length n d) k (d.drop k)=CY (Ed c.Aa.length n d) 0 d/\Qb6 w wr/\Qb6 w' wr)
 case atStart=>exact⟨0,Zp _,rfl,rfl,rfl,De,Zh _ _⟩
 obtain⟨k,hk,rfl,rfl,CP,u,t⟩:=hrel;have m:=Zd CP;clear CP;rw[<-t.cell (p:=w) j!]at f0;rw[<-t.cell (p:=⟨w,3,none⟩) j!]at f3;rw[<-t.cell (p:=⟨w+1,3,none⟩) j!]at g3;rw[<-t.cell (p:=⟨w+1,4,none⟩) j!]at Y;by_cases Az:k<d.length
 .obtain⟨E,L,rfl,U3,L6⟩:=J.at_ Az
  rw[<-u.cell (p:=⟨E,L+k,none⟩) (K E U3)]at L6;have R:0<k->wr.cell? ⟨E,L+(k - 1),none⟩=some (.int .i64 (nth d (k - 1))):=λh0=>by
   obtain⟨ai,ac,e,_,X⟩:=J.at_ (i:=k - 1) o!;cases e;rw[<-u.cell (p:=⟨E,L+(k - 1),none⟩) (K E U3)]at X;exact X
  have B:=Zd (K5 (f:=Ed c.Aa.length n d) (Bn Az));obtain⟨x,N⟩:=Qnm (nth d k);rw[<-N]at L6 B;have HX:=Zd N;have T:=Zd R;clear N R;cases l:AD x 0 ((c.Aa.length:Int) - 1) with
  |true=>
   go_wp2;go_quiet (first|(go_at_call 74;refine Zb5 (adn _ _ _ _)));go_wp2;go_ret;have v:Ed c.Aa.length n d k x=3:=by unfold Ed;rw[if_pos (.inl l)]
   exact⟨Bw (by rw[I.out, <-m.out,B.out,v];rfl),Y5 u _⟩
  |false=>
   go_wp2;go_quiet (first|(go_at_call 74;refine Zb5 (adn _ _ _ _)));go_wp2
   .have q:(x==(n:Int))=true:=by assumption
    go_ret;have v:Ed c.Aa.length n d k x=3:=by unfold Ed;rw[if_pos (.inr (by simpa using q))]
    exact⟨Bw (by rw[I.out, <-m.out,B.out,v];rfl),Y5 u _⟩
   rename (x==(n:Int))=false=>q
   have z:=Zd (show¬(AD x 0 ((c.Aa.length:Int) - 1)=true\/x=n) from λy=>y.elim (by rw[l];decide) (by simpa using q));clear l q;by_cases M:0<k
   .have R:=T.out M
    go_quiet (fail);go_wp2
    .have U:x<=nth d (k - 1):=by assumption
     have v:Ed c.Aa.length n d k x=5:=by unfold Ed;rw[if_neg z.out,if_pos ⟨M,U⟩]
     go_ret;exact⟨Bw (by rw[I.out, <-m.out,B.out,v];rfl),Y5 (Y5 u _) _⟩
    have U:nth d (k - 1)<x:=a!
    have v:Ed c.Aa.length n d k x=0:=by unfold Ed;rw[if_neg z.out,if_neg (λy=>by have:=y.2;omega)]
    go_roundg (d.length - (k+1))
    case rel=>exact⟨k+1,o!,rfl,v!,by rw[<-m.out,B.out,v];rfl,Y5 u _,Y5 t _⟩
    omega
   go_quiet (fail);go_wp2;have v:Ed c.Aa.length n d k x=0:=by unfold Ed;rw[if_neg z.out,if_neg (λy=>M y.1)]
   go_roundg (d.length - (k+1))
   case rel=>exact⟨k+1,o!,rfl,v!,by rw[<-m.out,B.out,v];rfl,Y5 u _,Y5 t _⟩
   omega
 have H:=Zd (show EF c n=Fo 0 4 G by rw[I.out,BR (by rw[<-m.out];exact MN o!)]);clear m;go_wp2_with (go_at_call 74;refine(adn _ _ _ _).mono ?_;rintro e w' ⟨rfl,rfl⟩)
 .have l:AD G 0 4=true:=by assumption
  go_ret;exact⟨Bw (by rw[H.out,Ws l]),u⟩
 have l:AD G 0 4=false:=a!
 go_ret;exact⟨Bw (by rw[H.out,SK l]),u⟩
def c93 (h:RC S w v1 v2 v3 v4 v5 c)(hl:SI S w v6 l)(r:Ql6 S w):Calls Lp 36 #[.agg #[v1,v2,v3,v4,v5],v6] w λe w'=>e=.returned (.int .i64 (Ct c l))/\Qb6 w w':=by
 obtain⟨Q,M,P,L,O,K,z,y,N,J,rfl,rfl,rfl,rfl,rfl,l1,m1,l2,m2,l3,m3,l4,m4,l5,m5⟩:=h.vs;obtain⟨a6,c6,rfl,l6,Z⟩:=hl.val;have IX:=DJ;have s:YH w w (w.alloc (.cells (Qe6 c Q M P L O K z y N J) 26)):=(Zh _ _).alloc (Zj _) _;by_cases t:l.length<c.Aa.length
 .go_enter Lp.func93,n93
  go_wp2;go_ret;exact⟨Bw (by rw[Ct,if_pos t]),s⟩
 by_cases A:c.Aa.length<l.length
 .go_enter Lp.func93,n93
  go_wp2;go_ret;exact⟨Bw (by rw[Ct,if_neg t,if_pos A]),s⟩
 have a:l.length=c.Aa.length:=o!
 have x:Ct c l=Bc (λp:Int×Ay=>Fo p.2.low p.2.high p.1) (l.zip c.Aa):=by rw[Ct,if_neg t,if_neg A]
 have j:(l.zip c.Aa).length=l.length:=by simp[a]
 have B:=Zd x;have V:=Zd j;have W:=Zd a;clear x j a;go_enter Lp.func93,n93;go_wp2;go_loopg [5] l.length (λg i wr=>∃k:Nat,k<=l.length/\g=l.length - k/\i=.int .i64 k/\Bc (λp:Int×Ay=>Fo p.2.low p.2.high p.1) ((l.zip c.Aa).drop k)=Bc (λp:Int×Ay=>Fo p.2.low p.2.high p.1) (l.zip c.Aa)/\Qb6 w wr/\wr.cell? ⟨w,3,none⟩=some (.slice z c.Aa.length y))
 case atStart=>exact⟨0,Zp _,rfl,rfl,rfl,s,i!⟩
 obtain⟨k,hk,rfl,rfl,E,d,G⟩:=hrel;have m:=Zd E;clear E;by_cases F:k<l.length
 .have C:k<c.Aa.length:=by have:=W.out;omega
  obtain⟨b,o,rfl,I,H⟩:=hl.at_ F;obtain⟨n,u,Y,X,rfl,D,T,U,_⟩:=h.Aa.at_ C;rw[<-d.cell (p:=⟨b,o+k,none⟩) (r b I)]at H;rw[<-d.cell (p:=⟨n,u+k*5,none⟩) (r n D)]at T;rw[<-d.cell (p:=⟨n,u+k*5+1,none⟩) (r n D)]at U;have v:=Zd (E_ (f:=λp:Int×Ay=>Fo p.2.low p.2.high p.1) (Ra F C));go_wp2;go_quiet (first|(go_at_call 74;refine Zb5 (adn _ _ _ _)))
  all_goals go_wp2
  .have q:AD (nth l k) (Aj c.Aa k).low (Aj c.Aa k).high=true:=by assumption
   go_ret;exact⟨Bw (by rw[B.out, <-m.out,v.out,Ws q];rfl),Y5 d _⟩
  have q:AD (nth l k) (Aj c.Aa k).low (Aj c.Aa k).high=false:=a!
  go_roundg (l.length - (k+1))
  case rel=>exact⟨k+1,o!,rfl,v!,by rw[<-m.out,v.out,SK q];rfl,Y5 d _,by simpa using G⟩
  omega
 have R:=Zd (show Ct c l=0 by rw[B.out, <-m.out];exact FZ (by have:=V.out;omega));clear m;go_wp2;go_ret;exact⟨Bw R.out.symm,d⟩
def ajr:(Tryz.prog.info? 4).map (λi=>(i.zero,i.size,i.bytes))=some (some (.bool false),1,1):=k!
def abN (st:List Bool):Array Zf:=(st.map Value.bool).toArray
def adF (n:Nat)(e:n<=1000)(w:Zb):(Zdp 140 (.int .i64 n) (.int .i64 n)).run Lp w=.ok (.slice w n n) (w.alloc (.cells (abN (List.replicate n false)) 4)):=by
 obtain⟨a,hi,b,d,c⟩:=zp ajr;have h:=run_make (P:=Lp) w 140 4 a (.bool false) (Cz Tryz.underlying140) (Dz hi) b .i64 .i64 n n o! (Int.le_refl _) (by rw[c];omega) o!;rw[h,d];simp only[Int.toNat_natCast]
 congr 3
 unfold abN;apply Array.ext
 .simp[madeCells]
 intro i g f;simp[madeCells,Value.cells,Nat.mod_one]
def afr (st:List Bool)(k:Nat):(abN st).setIfInBounds k (.bool true)=abN (st.set k true):=by
 unfold abN;simp
variable {st:List Bool}
def abv (h:k<st.length):(abN st)[k]?=some (.bool (st.getD k false)):=by
 unfold abN;simp[Y6,h]
def aej (h:k<l.length):aiJ (l.drop k) st=aiJ (l.drop (k+1)) (st.set (nth l k).toNat true):=by
 unfold aiJ;rw[ZO h,List.foldl_cons]
 congr 2
 simp[nth,h]
def aek {o:List (List Int)}(h:i<o.length):yn n i (o.drop i) st=yn n (i+1) (o.drop (i+1)) (if i=n\/st.getD i false=true then aiJ (o.getD i []) st else st):=by
 rw[ZO h];show yn n (i+1) (o.drop (i+1)) (if i=n\/st.getD i false=true then aiJ o[i] st else st)=_;rw[show o.getD i []=o[i] by simp[Y6,h]]
structure AbW (w:Zb)(x:Array Zf)(n:Nat)(st:List Bool)(wr:Zb):Prop where
 below:Qb6 w wr
 box:wr.heap[w.heap.size]?=some (.cells x 26 (0,0))
 row:wr.heap[w.heap.size+1]?=some (.cells (abN st) 4 (0,0))
 len:st.length=n
variable {args x cur cs:Array Zf}
def AbW.set {wr:Zb}(h:AbW w x n st wr)(k:Nat):AbW w x n (st.set k true) (wr.setCell ⟨w+1,k,none⟩ (.bool true)):=
 ⟨bS h.below o!,(AZ o! _).trans h.box,by rw[Ba h.row _,afr],by rw[ZcC];exact h.len⟩
def ajs (h:RC S w v1 v2 v3 v4 v5 c)(Jw:JO c.Aa)(R:Ql6 S w):
  Calls Lp 73 #[.agg #[v1,v2,v3,v4,v5],.int .i64 n] w λe w'=>e=.returned (.slice (w+1:Nat) c.Aa.length c.Aa.length)/\Qb6 w w'/\w'.heap[w.heap.size+1]?=some (.cells (abN (abI c.Aa n)) 4 (0,0))/\(abI c.Aa n).length=c.Aa.length:=by
 obtain⟨M,I,L,H,K,G,T,F,J,E,rfl,rfl,rfl,rfl,rfl,l1,m1,l2,m2,l3,m3,l4,m4,l5,m5⟩:=h.vs;have IX:=DJ;have Jm:=Jw.few;have ai:=λW=>adF c.Aa.length o! W;have m:(abg c.Aa).length=c.Aa.length:=by simp[abg]
 have A:iV n (abg c.Aa) c.Aa.length (List.replicate c.Aa.length false)=abI c.Aa n:=by unfold abI aiK;rw[m]
 have HF:=Zd A;have HO:=Zd m;clear A m;go_enter Lp.func118,al7;go_wp2;go_loopg [6] c.Aa.length (λg i wr=>∃(r:Nat) (st:List Bool),r<=c.Aa.length/\g=c.Aa.length - r/\i=.int .i64 r/\iV n (abg c.Aa) (c.Aa.length - r) st=abI c.Aa n/\AbW w #[.slice M c.base.length I,.slice L c.Af.length H,.slice K c.hooks.length G,.slice T c.Aa.length F,.slice J c.now.length E] c.Aa.length st wr)
 case atStart=>exact⟨0,_,Zp _,rfl,rfl,HF.out,⟨bA (bA (Zh _ _)),Bf (Bp _ _) _,by have:=Bp (w.alloc (.cells (Qe6 c M I L H K G T F J E) 26)) (.cells (abN (List.replicate c.Aa.length false)) 4);rwa[ZB]at this,i!⟩⟩
 obtain⟨r,st,hr,rfl,rfl,z,v⟩:=hrel;have B_:=Zd z;clear z;have Y:=ch (i:=3) v.box rfl;by_cases Az:r<c.Aa.length
 .go_wp2
  go_loopg [7] c.Aa.length (λg i wx=>∃(j:Nat) (a:List Bool),j<=c.Aa.length/\g=c.Aa.length - j/\i=.int .i64 j/\yn n j ((abg c.Aa).drop j) a=yn n 0 (abg c.Aa) st/\AbW w #[.slice M c.base.length I,.slice L c.Af.length H,.slice K c.hooks.length G,.slice T c.Aa.length F,.slice J c.now.length E] c.Aa.length a wx)
  case atStart=>exact⟨0,st,Zp _,rfl,rfl,rfl,v⟩
  obtain⟨j,a,hj,rfl,rfl,B,s⟩:=hrel;have V:=Zd B;clear B;have Y:=ch (i:=3) s.box rfl;by_cases O:j<c.Aa.length
  .have t:=ch s.row (abv (k:=j) (by have:=s.len;omega))
   have lY:(abg c.Aa).getD j []=(Aj c.Aa j).over:=by simp[abg,Aj,Y6,O]
   have Z:=Zd (aek (n:=n) (i:=j) (o:=abg c.Aa) (st:=a) (by have:=HO.out;omega));rcases(show j=n\/(¬j=n/\a.getD j false=true)\/¬j=n/\a.getD j false=false by
    by_cases e:j=n
    .exact .inl e
    cases e2:a.getD j false
    .exact .inr (.inr ⟨e,rfl⟩)
    exact .inr (.inl ⟨e,rfl⟩)) with hj1|⟨hj1,xK⟩|⟨hj1,xK⟩
   rotate_left 2
   .have BL:¬(j:Int)=n:=by omega
    rw[xK]at t;go_wp2;go_roundg (c.Aa.length - (j+1))
    case rel=>exact⟨j+1,a,o!,rfl,v!,by rw[<-V.out,Z.out,if_neg (λx=>x.elim hj1 (by rw[xK];decide))],s⟩
    omega
   case' inl=>
    subst hj1;go_wp2;have HC:=Zd (show j=j\/a.getD j false=true from .inl rfl)
   case' inr.inl=>
    have BL:¬(j:Int)=n:=o!
    have HC:=Zd (show j=n\/a.getD j false=true from .inr xK);rw[xK]at t;clear hj1 xK;go_wp2;clear BL
   all_goals
    obtain⟨b,o,v2,v3,ea,hb,_,_,_,U,_,_,Q⟩:=h.Aa.at_ O;subst ea;obtain⟨a7,c7,rfl,l7,m7⟩:=Q.val;obtain⟨d,C⟩:=Qnm ((Aj c.Aa j).over);have rU:∀k,k<d.length->0<=nth d k/\nth d k<c.Aa.length:=by rw[C];exact Jw.over j O
    have HV:=Zd C;rw[<-C]at U Q l7;clear C;rw[<-s.below.cell (p:=⟨b,o+j*5+3,none⟩) (R b hb)]at U;go_loopg [8] d.length (λg i X=>∃(k:Nat) (l:List Bool),k<=d.length/\g=d.length - k/\i=.int .i64 k/\aiJ (d.drop k) l=aiJ d a/\YH w wr X/\AbW w #[.slice M c.base.length I,.slice L c.Af.length H,.slice K c.hooks.length G,.slice (some ⟨b,o,none⟩) c.Aa.length F,.slice J c.now.length E] c.Aa.length l X)
    case atStart=>exact⟨0,a,Zp _,rfl,rfl,rfl,Zh _ _,s⟩
    obtain⟨k,l,hk,rfl,rfl,B,U5,f⟩:=hrel;have et:=Zd B;clear B;have Y:=ch (i:=3) f.box rfl;rw[<-U5.cell (p:=⟨b,o+j*5+3,none⟩) (R b hb)]at U;by_cases q:k<d.length
    .obtain⟨b7,o7,rfl,U3,u⟩:=Q.at_ q
     have y:=rU k q;obtain⟨x,P⟩:∃x:Nat,nth d k=x:=⟨_,(Int.toNat_of_nonneg y.1).symm⟩;have D:=aej (st:=l) q;rw[P]at u y D;rw[Int.toNat_natCast]at D;have HD:=Zd D;have HX:=Zd P;clear D P;have ac:x<c.Aa.length:=o!
     rw[<-f.below.cell (p:=⟨b7,o7+k,none⟩) (R b7 U3)]at u;have kx:=ch f.row (abv (k:=x) (by have:=f.len;omega));have fx:=cf (i:=x) f.row;go_wp2;go_roundg (d.length - (k+1))
     case rel=>exact⟨k+1,l.set x true,o!,rfl,v!,by rw[<-et.out,HD.out],U5.setCell (p:=⟨w+1,x,none⟩) (Nat.le_succ _) _,f.set x⟩
     omega
    go_wp2;have N:=et.out;rw[Z7.2 (show d.length<=k by omega)]at N;have N:l=aiJ d a:=N;go_roundg (c.Aa.length - (j+1))
    case rel=>exact⟨j+1,l,o!,rfl,v!,by rw[<-V.out,Z.out,if_pos HC.out,lY, <-HV.out,N],f⟩
    omega
  go_wp2;go_roundg (c.Aa.length - (r+1))
  case rel=>exact⟨r+1,a,o!,rfl,v!,by rw[<-B_.out,show c.Aa.length - r=(c.Aa.length - (r+1))+1 by omega];show _=iV n _ _ (yn n 0 _ st);rw[<-V.out,Z7.2 (by have:=HO.out;omega)];rfl,s⟩
  omega
 go_wp2;go_ret;have hz:c.Aa.length - r=0:=o!
 have e:=B_.out;rw[hz]at e;have e':st=abI c.Aa n:=e;exact⟨rfl,v.below,by rw[<-e'];exact v.row,by rw[<-e'];exact v.len⟩
def adG (f:JP c=0):∀s∈c.Aa,s.over.Pairwise (· < ·)/\∀x∈s.over,0<=x/\x<c.Aa.length:=λs d=>by
 obtain⟨k,a,e⟩:=Zas d;have h:=Gs f k s (by rw[zf a,e]);rw[zN]at h;unfold EF at h;have b:=(Bj (Bj (Bj (Bj h).2).2).2).1;have g:Aj c.Aa k=s:=by
  have:=Db a;rw[zf a,e]at this;exact(ZW this).symm
 rw[g]at b;exact afo b
def adH (d:Di c.Aa.length 3=0)(b:JP c=0)(hi:i<c.Aa.length)(a:k<c.Aa.length):(abI c.Aa i).getD k false=hasB (Ax c.Aa i) k:=
 af4 (by have:=(JQ d).2;omega) (adG b) hi a
def ahb {l:List Ay}(a:k<l.length)(h:hasB (Ax l k) k=true):H0 l=false:=ks a (by rw[h];rfl)
def ahf {l:List Ay}(h:∀k,k<l.length->hasB (Ax l k) k=false):H0 l=true:=by
 unfold H0;rw[Zdm];intro k a;rw[h k (List.mem_range.1 a)]
 rfl
def c50 (h:RC S w v1 v2 v3 v4 v5 c)(z:Ql6 S w):Calls Lp 35 #[.agg #[v1,v2,v3,v4,v5]] w λe w'=>e=.returned (.int .i64 (BN c))/\Qb6 w w':=by
 obtain⟨J,E,I,D,H,C,G,B,F,A,rfl,rfl,rfl,rfl,rfl,l1,m1,l2,m2,l3,m3,l4,m4,l5,m5⟩:=h.vs;have IX:=DJ;obtain⟨xs,am⟩:∃xs:Array Zf,xs= #[.slice J c.base.length E,.slice I c.Af.length D,.slice H c.hooks.length C,.slice G c.Aa.length B,.slice F c.now.length A]:=⟨_,rfl⟩;have L:=Zd (show BN c=PM (Dq c) (PM (Di c.Aa.length 3) (PM (JP c) (if H0 c.Aa=true then Ct c c.now else 9))) from rfl);have T:=Zd (λW (b:Qb6 w W)=>alw (h.later b) (A3 z b));have R:=Zd (λW (b:Qb6 w W) n (hn:n<c.Aa.length)=>alH (h.later b) hn (A3 z b));have U:=Zd (λW (b:Qb6 w W) n (K:JO c.Aa)=>ajs (n:=n) (h.later b) K (A3 z b));have ac:=Zd (λW (b:Qb6 w W)=>c93 (h.later b) (h.later b).now (A3 z b));go_enter Lp.func50,n50;go_wp2_with (first|(go_at_call 70;refine(T.out _ (bA (Zh _ _))).mono ?_;rintro e W1 ⟨rfl,Bg⟩;(have N:=(Bg.block _ (by rw[ZB];exact Nat.lt_succ_self _)).trans (Bp w (.cells (Qe6 c J E I D H C G B F A) 26)));(have V:Qb6 w W1:=(bA (Zh _ _)).trans (Bg.mono (by rw[ZB];omega)));(have x:=ch (i:=3) N rfl);(have v:=ch (i:=4) N rfl))|(go_at_call 71;refine(ai3 _ _ _).mono ?_;rintro e w' ⟨rfl,M⟩;have M:=M.symm;subst M))
 .have p:(Dq c !=0)=true:=by assumption
  go_ret;exact⟨Bw (by rw[L.out,K4 (Gr p)]),V⟩
 .have p:(Dq c !=0)=false:=by assumption
  have o:(Di c.Aa.length 3 !=0)=true:=a!
  go_ret;exact⟨Bw (by rw[L.out,BR (FE p),K4 (Gr o)]),V⟩
 rename (Dq c !=0)=false=>p
 rename (Di _ _ !=0)=false=>o
 have X:=Zd (SQ (FE o));have mG:=Zd (fun(h2:JP c=0) i k=>adH (c:=c) (i:=i) (k:=k) (FE o) h2);have um:=Zd (show BN c=PM (JP c) (if H0 c.Aa=true then Ct c c.now else 9) by rw[L.out,BR (FE p),BR (FE o)]);have Q1:=Zd p;have Q2:=Zd o;clear p o Bg x v L;go_loopg [5] c.Aa.length (λg i wr=>∃k:Nat,k<=c.Aa.length/\g=c.Aa.length - k/\i=.int .i64 k/\CY (λi _=>EF c i) k (c.Aa.drop k)=JP c/\Qb6 w wr/\wr.heap[w.heap.size]?=some (.cells (Qe6 c J E I D H C G B F A) 26 (0,0)))
 case atStart=>exact⟨0,Zp _,rfl,rfl,rfl,V,N⟩
 obtain⟨k,hk,rfl,rfl,CP,a,m⟩:=hrel;have y:=Zd CP;clear CP;obtain⟨k0,k1,k2,x,v⟩:=Qc5 m;have O:=(Za.1 m).1;by_cases t:k<c.Aa.length
 .have hd:=Zd (K5 (f:=λi _=>EF c i) (Db t))
  go_wp2_with (go_at_call 72;refine(R.out _ a _ t).mono ?_;rintro e w2 ⟨rfl,d⟩)
  .have l:(EF c k !=0)=true:=by assumption
   have s:JP c=EF c k:=by rw[<-y.out,hd.out,if_neg (Gr l)]
   go_ret;exact⟨Bw (by rw[um.out,s,K4 (Gr l)]),a.trans (d.mono a.size)⟩
  have l:(EF c k !=0)=false:=a!
  go_roundg (c.Aa.length - (k+1))
  case rel=>exact⟨k+1,o!,rfl,v!,by rw[<-y.out,hd.out,if_pos (FE l)],a.trans (d.mono a.size),(d.block _ O).trans m⟩
  omega
 have s:JP c=0:=by rw[<-y.out];exact MN o!
 have K:=X.out s;have HA:=Zd (mG.out s);have xq:=Zd (show BN c=(if H0 c.Aa=true then Ct c c.now else 9) by rw[um.out,BR s]);have HK:=Zd K;clear y s K;go_wp2;go_loopg [7] c.Aa.length (λg i wx=>∃k:Nat,k<=c.Aa.length/\g=c.Aa.length - k/\i=.int .i64 k/\(∀j,j<k->hasB (Ax c.Aa j) j=false)/\Qb6 w wx/\wx.heap[w.heap.size]?=some (.cells (Qe6 c J E I D H C G B F A) 26 (0,0)))
 case atStart=>exact⟨0,Zp _,rfl,rfl,λj Q=>absurd Q (ZbY _),a,m⟩
 obtain⟨k,hk,rfl,rfl,tE,a,m⟩:=hrel;have P:=Zd tE;clear tE k0 k1 k2 x v;obtain⟨k0,k1,k2,x,v⟩:=Qc5 m;have O:=(Za.1 m).1;by_cases t:k<c.Aa.length
 .have q:=HA.out k k t t
  obtain⟨bb,r⟩:=Qnm (hasB (Ax c.Aa k) k);rw[<-r]at q;have u:=Zd r;have Y:=Zd q;clear r q;go_wp2_with (go_at_call 73;refine(U.out _ a k HK.out).mono ?_;rintro e w2 ⟨rfl,d,Ci,ai⟩;have kx:=ch Ci (abv (k:=k) o!);rw[Y.out]at kx)
  .have l:bb=true:=by assumption
   go_ret;exact⟨Bw (by rw[xq.out,if_neg (by rw[ahb t (u.out.symm.trans l)];decide)]),a.trans (d.mono a.size)⟩
  have l:bb=false:=a!
  go_roundg (c.Aa.length - (k+1))
  case rel=>exact⟨k+1,o!,rfl,v!,λj Q=>by
   by_cases e:j=k
   .rw[e];exact u.out.symm.trans l
   exact P.out j o!,a.trans (d.mono a.size),(d.block _ O).trans m⟩
  omega
 have Z:=Zd (show BN c=Ct c c.now by rw[xq.out,if_pos (ahf λj Q=>P.out j o!)]);clear P;go_wp2_with (go_at_call 36;refine(ac.out _ a).mono ?_;rintro e w2 ⟨rfl,d⟩);go_ret;exact⟨Bw Z.out.symm,a.trans (d.mono a.size)⟩
structure abK (c:A_):Prop where
 base:c.base.length<=20
 Af:c.Af.length<=20
 hooks:c.hooks.length<=20
 Aa:c.Aa.length<=20
 now:c.now.length<=20
 part:∀i,i<c.Aa.length->(Aj c.Aa i).Ap.length<=20/\(Aj c.Aa i).over.length<=20
def adI (w:Zb)(c:A_)(e:Ending)(w':Zb):Prop:=∃b,e=.returned (.bool b)/\(b=false->abK c)/\Qb6 w w'
def adI.yes (h:Qb6 w w'):adI w c (.returned (.bool true)) w':=⟨true,rfl,(λx=>x!),h⟩
def c25 (h:RC S w v1 v2 v3 v4 v5 c)(n:Ql6 S w):
  Calls Lp 4 #[.agg #[v1,v2,v3,v4,v5]] w (adI w c):=by
 obtain⟨B,v,A,u,z,t,y,s,x,r,rfl,rfl,rfl,rfl,rfl,l1,W,l2,V,l3,U,l4,T,Z,R⟩:=h.vs;have IX:=DJ;obtain⟨W1,a⟩:=Qnm (w.alloc (.cells (Qe6 c B v A u z t y s x r) 26));have f:Qb6 w W1:=by rw[a];exact bA (Zh _ _)
 have D:W1.heap[w.heap.size]?=some (.cells (Qe6 c B v A u z t y s x r) 26 (0,0)):=by rw[a];exact Bp _ _
 obtain⟨H,k1,G,F,E⟩:=Qc5 D;by_cases q:20<c.base.length\/20<c.Af.length\/20<c.hooks.length\/20<c.Aa.length\/20<c.now.length
 .go_enter Lp.func25,n25
  clear H k1 G F E;go_wp2
  all_goals first
   |(exfalso;omega)
   |skip
  all_goals
   go_ret;exact adI.yes (bA (Zh _ _))
 have g1:¬20<(c.base.length:Int):=o!
 have g2:¬20<(c.Af.length:Int):=o!
 have g3:¬20<(c.hooks.length:Int):=o!
 have g4:¬20<(c.Aa.length:Int):=o!
 have g5:¬20<(c.now.length:Int):=o!
 have N:=Zd q;clear q;go_enter Lp.func25,n25;have L:=f;rw[a]at L;go_wp2;go_loopg [3] c.Aa.length (λg i wr=>∃k:Nat,k<=c.Aa.length/\g=c.Aa.length - k/\i=.int .i64 k/\(∀j,j<k->(Aj c.Aa j).Ap.length<=20/\(Aj c.Aa j).over.length<=20)/\wr=W1)
 case atStart=>exact⟨0,Zp _,rfl,rfl,λj l=>absurd l (ZbY _),a.symm⟩
 obtain⟨k,hk,rfl,rfl,d,rfl⟩:=hrel;have C:=Zd d;clear d;by_cases O:k<c.Aa.length
 .obtain⟨b,o,v2,v3,rfl,m,_,_,K,M,_,I,J⟩:=h.Aa.at_ O
  obtain⟨a6,c6,rfl,Y,Q⟩:=I.val;obtain⟨a7,c7,rfl,X,P⟩:=J.val;rw[<-f.cell (p:=⟨b,o+k*5+2,none⟩) (n b m)]at K;rw[<-f.cell (p:=⟨b,o+k*5+3,none⟩) (n b m)]at M;clear a;by_cases h6:20<(Aj c.Aa k).Ap.length\/20<(Aj c.Aa k).over.length
  .go_wp2
   all_goals first
    |(exfalso;omega)
    |skip
   all_goals
    go_ret;exact adI.yes f
  have g6:¬20<((Aj c.Aa k).Ap.length:Int):=o!
  have g7:¬20<((Aj c.Aa k).over.length:Int):=o!
  go_wp2;go_roundg (c.Aa.length - (k+1))
  case rel=>exact⟨k+1,o!,rfl,v!,λj l=>by
   by_cases e:j=k
   .rw[e];omega
   exact C.out j o!,rfl⟩
  omega
 clear a;go_wp2;go_ret;have:=N.out;exact⟨false,rfl,λ_=>⟨o!,o!,o!,o!,o!,λi hi=>C.out i o!⟩,f⟩
def acX {ab:Nat->Nat}{now:List Int}:∀(l:List Int) (a s k:Nat),k<l.length->JR ab now a (l.take (k+1)) s=if nth l k=nth now (a+k) then JR ab now a (l.take k) s else JR ab now a (l.take k) s|||Iv (ab (a+k)) (a+k)
 |x::r,a,s,0,_=>rfl
 |x::r,a,s,k+1,h=>by
  have b:k<r.length:=by simpa using h
  have:=acX (ab:=ab) (now:=now) r (a+1) (if x=nth now a then s else s|||Iv (ab a) a) k b;rw[show a+1+k=a+(k+1) by omega]at this;exact this
def ahh (s t i j:Nat):hasB (s|||Iv t i) j=(hasB s j||(hasB t j||decide (i=j))):=by
 unfold hasB Iv;rw[Nat.testBit_or,Nat.testBit_or,Nat.one_shiftLeft,Nat.testBit_two_pow]
def acj {s n:Nat}(h:s<2^n):∀k,n<=k->FF s k=FF s n
 |0,b=>by rw[Nat.le_zero.1 b]
 |k+1,b=>by
  by_cases e:n=k+1
  .rw[e]
  rw[eF,if_neg,acj h k o!];intro a;have:=Nat.testBit_lt_two_pow (Zl h (YX d! (show n<=k by omega)));unfold hasB at a;rw[this]at a;cases a
def adm (a:Fq c)(hl:l.length<=c.Aa.length):DS c l<2^c.Aa.length:=
 JW (LH a.over) l 0 0 o! (Zdz _)
def af7 (a:Fq c)(hl:l.length<=c.Aa.length):FF (DS c l) c.Aa.length=AB (DS c l):=
 (acj (adm a hl) 3 a.few.2).symm
def af8 (a:Fq c)(hl:l.length<=c.Aa.length)(k:Nat):(FF (DS c l) k).length<=c.Aa.length:=by
 by_cases e:k<=c.Aa.length
 .exact Zr (Jo _ _) e
 rw[acj (adm a hl) k o!];exact Jo _ _
def afs (st:List Bool)(k:Nat)(b:Bool):(abN st).setIfInBounds k (.bool b)=abN (st.set k b):=by
 unfold abN;simp
def AbW.put {wr:Zb}(h:AbW w x n st wr)(k:Nat)(b:Bool):AbW w x n (st.set k b) (wr.setCell ⟨w+1,k,none⟩ (.bool b)):=
 ⟨bS h.below o!,(AZ o! _).trans h.box,by rw[Ba h.row _,afs],by rw[ZcC];exact h.len⟩
def AbW.later {wr:Zb}(h:AbW w x n st wr)(a:Qb6 wr W):AbW w x n st W:=
 ⟨h.below.trans (a.mono h.below.size),(a.block _ (Za.1 h.box).1).trans h.box,(a.block _ (Za.1 h.row).1).trans h.row,h.len⟩
def adJ (st:List Bool)(k j:Nat)(b:Bool)(a:k<st.length):(st.set k b).getD j false=if k=j then b else st.getD j false:=by
 simp only[Y6,List.getElem?_set];by_cases e:k=j
 .subst e
  rw[if_pos rfl,if_pos rfl,if_pos a]
  rfl
 rw[if_neg e,if_neg e]
def c95 (h:RC S w v1 v2 v3 v4 v5 c)(hl:SI S w v6 l)(am:Ca c l=0)(hS:Ql6 S w):
  Calls Lp 38 #[.agg #[v1,v2,v3,v4,v5],v6] w λe w'=>∃v,e=.returned v/\Qb6 w w'/\SI (Cb w w') w' v (AB (DS c l)):=by
 obtain⟨Y,U,X,R,V,Q,M,K,a5,J,rfl,rfl,rfl,rfl,rfl,l1,m1,l2,m2,l3,m3,l4,m4,l5,m5⟩:=h.vs;obtain⟨a6,c6,rfl,l6,m6⟩:=hl.val;obtain⟨i0,hi,Fl,DR,EB⟩:=zp KY;have hu:=Cz YE;have IX:=DJ;obtain⟨Jz,ER⟩:=Bj am;have hv:=EG Jz;have UO:=(Fb ER).1;obtain⟨_,FD⟩:=Bj Jz;obtain⟨ba,EC⟩:=Bj FD;have ai:=(Bj EC).1;have Jm:=hv.few;have uX:c.now.length=c.Aa.length:=by
  have:=(Bj EC).2;split at this
  .exact(Fb this).1
  cases this
 have HA:=Zd (λi (hi:i<c.Aa.length) j (d:j<c.Aa.length)=>adH ba ai hi d);have fw:=λW=>adF c.Aa.length o! W;obtain⟨tp,s⟩:∃tp:Nat->Nat,tp=λk=>JR (Ax c.Aa) c.now 0 (l.take k) 0:=⟨_,rfl⟩;have fi:=Zd (show tp 0=0 by rw[s];rfl);have ed:=Zd (show∀k,k<c.Aa.length->tp (k+1)=if nth l k=nth c.now k then tp k else tp k|||Iv (Ax c.Aa k) k from λk hk=>by
  rw[s];have:=acX (ab:=Ax c.Aa) (now:=c.now) l 0 0 k o!;rwa[zN]at this)
 have fd:=Zd (show tp c.Aa.length=DS c l by
  rw[s];show JR _ _ 0 (l.take c.Aa.length) 0=JR _ _ 0 l 0;rw[Zb3 o!])
 have fJ:=Zd (show∀k,(FF (DS c l) k).length<=c.Aa.length from af8 hv o!);have fm:=Zd (show FF (DS c l) c.Aa.length=AB (DS c l) from af7 hv o!);have dl:=Zd (λW (hW:Qb6 w W) (n:Nat)=>ajs (n:=n) (h.later hW) hv.over (A3 hS hW));have b9:=Zd uX;have cA:=Zd UO;clear uX UO s am Jz ER FD EC ai ba;have ap:AbW w #[.slice Y c.base.length U,.slice X c.Af.length R,.slice V c.hooks.length Q,.slice M c.Aa.length K,.slice a5 c.now.length J] c.Aa.length (List.replicate c.Aa.length false) ((w.alloc (.cells (Qe6 c Y U X R V Q M K a5 J) 26)).alloc (.cells (abN (List.replicate c.Aa.length false)) 4)):=by
  exact⟨bA (bA (Zh _ _)),Bf (Bp _ _) _,by have:=Bp (w.alloc (.cells (Qe6 c Y U X R V Q M K a5 J) 26)) (.cells (abN (List.replicate c.Aa.length false)) 4);rwa[ZB]at this,i!⟩
 go_enter Lp.func95,n95;go_wp2;go_loopg [6] c.Aa.length (λg i wr=>∃(k:Nat) (T:List Bool),k<=c.Aa.length/\g=c.Aa.length - k/\i=.int .i64 k/\(∀j,j<c.Aa.length->T.getD j false=hasB (tp k) j)/\AbW w #[.slice Y c.base.length U,.slice X c.Af.length R,.slice V c.hooks.length Q,.slice M c.Aa.length K,.slice a5 c.now.length J] c.Aa.length T wr)
 case atStart=>exact⟨0,_,Zp _,rfl,rfl,λj d=>by rw[fi.out];simp[hasB,Y6,d],ap⟩
 obtain⟨k,T,hk,rfl,rfl,aW,A⟩:=hrel;have hT:=Zd aW;clear aW ap;have k3:=ch (i:=3) A.box (v:=.slice M c.Aa.length K) rfl;have k4:=ch (i:=4) A.box (v:=.slice a5 c.now.length J) rfl;by_cases Az:k<c.Aa.length
 .have y:k<c.now.length:=by have:=b9.out;omega
  have lQ:k<l.length:=by have:=cA.out;omega
  obtain⟨b5,o5,rfl,wN,H⟩:=h.now.at_ y;obtain⟨b6,o6,rfl,Xj,G⟩:=hl.at_ lQ;rw[<-A.below.cell (p:=⟨b5,o5+k,none⟩) (hS b5 wN)]at H;rw[<-A.below.cell (p:=⟨b6,o6+k,none⟩) (hS b6 Xj)]at G;have HS:=Zd (ed.out k Az);have z1:=λp=>Al p H;have z2:=λp=>Al p G;have z4:=λp=>Al p k4;go_wp2;refine Av k! k! ?_
  repeat (first|go_big_quiet_step (fail)|quiet_step (fail))
  refine Z4 ?_;rintro _ ⟨p,rfl⟩;have yw:=AE wr p;obtain⟨du,ac⟩:=Qnm (calm wr p);rw[<-ac]at yw⊢;clear ac z1 z2 z4 k3 k4 H G;have o:=A.later yw;obtain⟨k0,k1,k2,k3,k4⟩:=Qc5 o.box;have fx:=cf (i:=k) o.row;have C:=ch o.row (abv (k:=k) (by have:=o.len;omega));by_cases f:nth l k=nth c.now k
  .have N:=Zd (show tp (k+1)=tp k by rw[HS.out,if_pos f])
   have z:(nth l k==nth c.now k)=true:=by simpa using f
   clear f;go_wp2;go_roundg (c.Aa.length - (k+1))
   case rel=>exact⟨k+1,T,o!,rfl,v!,λj d=>by rw[N.out];exact hT.out j d,o⟩
   omega
  have N:=Zd (show tp (k+1)=tp k|||Iv (Ax c.Aa k) k by rw[HS.out,if_neg f]);have z:(nth l k==nth c.now k)=false:=by simpa using f
  clear f;obtain⟨W1,NL⟩:=Qnm (du.setCell ⟨w+1,k,none⟩ (.bool true));have O:=o.put k true;rw[<-NL]at O;have ct:=Zd (dl.out W1 O.below k);obtain⟨q,D⟩:=Qnm (W1.heap.size+1);have M9:q=W1+1:=D;go_wp2;rw[<-NL];clear NL;refine ct.out.mono ?_;rintro e W2 ⟨rfl,bK,mA,bV⟩;rw[<-D]at mA⊢;clear D;have aT:=O.later bK;have HQ:=Zd M9;have I:(T.set k true).length=c.Aa.length:=O.len;have rU:=(Za.1 mA).1;have ck:=O.row;have lX:=(Za.1 O.row).1;have fu:w+1<q:=by have:=HQ.out;omega
  clear M9 ck lX C fx k0 k1 k2 k3 k4;obtain⟨B,L⟩:=Qnm (abI c.Aa k);have uW:=Zd L;rw[<-L]at mA bV;clear L;go_wp2;go_loopg [8] c.Aa.length (λg i Z=>∃(j:Nat) (a:List Bool),j<=c.Aa.length/\g=c.Aa.length - j/\i=.int .i64 j/\(∀m,m<c.Aa.length->a.getD m false=((T.set k true).getD m false||(decide (m<j)&&B.getD m false)))/\AbW w #[.slice Y c.base.length U,.slice X c.Af.length R,.slice V c.hooks.length Q,.slice M c.Aa.length K,.slice (some ⟨b5,o5,none⟩) c.now.length J] c.Aa.length a Z/\Z.heap[q]?=some (.cells (abN B) 4 (0,0)))
  case atStart=>exact⟨0,_,Zp _,rfl,rfl,λm E=>i!,aT,mA⟩
  obtain⟨j,a,d,rfl,rfl,be,r,bc⟩:=hrel;have D3:=Zd be;clear be;by_cases lp:j<c.Aa.length
  .have b8:=Zd r.len
   have mK:j<B.length:=o!
   have C:=ch r.row (abv (k:=j) (by have:=r.len;omega));have fx:=cf (i:=j) r.row;have ky:=ch bc (abv (k:=j) mK);have Bu:∀b:Bool,b=(a.getD j false||B.getD j false)->(∀m,m<c.Aa.length->(a.set j b).getD m false=((T.set k true).getD m false||(decide (m<j+1)&&B.getD m false)))/\AbW w #[.slice Y c.base.length U,.slice X c.Af.length R,.slice V c.hooks.length Q,.slice M c.Aa.length K,.slice (some ⟨b5,o5,none⟩) c.now.length J] c.Aa.length (a.set j b) (wr.setCell ⟨w+1,j,none⟩ (.bool b))/\(wr.setCell ⟨w+1,j,none⟩ (.bool b)).heap[q]?=some (.cells (abN B) 4 (0,0)):=λb hb=>by
    refine⟨λm E=>?_,r.put j b,(AZ o! _).trans bc⟩;rw[adJ _ _ _ _ (by have:=b8.out;omega)];by_cases e:j=m
    .subst e
     rw[if_pos rfl,hb,D3.out j E];simp
    rw[if_neg e,D3.out m E];rw[show decide (m<j+1)=decide (m<j) from decide_eq_decide.2 o!]
   have qO:=Zd Bu;clear Bu;cases P:a.getD j false<;>cases e2:B.getD j false
   all_goals
    rw[P]at C;rw[e2]at ky;go_wp2;go_roundg (c.Aa.length - (j+1))
    case rel=>exact⟨j+1,_,o!,rfl,v!,qO.out _ (by rw[P,e2];rfl)⟩
    omega
  have F:j=c.Aa.length:=o!
  go_wp2;go_roundg (c.Aa.length - (k+1))
  case rel=>exact⟨k+1,a,o!,rfl,v!,λm E=>by
   rw[D3.out m E,N.out,ahh,adJ _ _ _ _ (by have:=I;rw[ZcC]at this;omega),uW.out,HA.out k Az m E,show decide (m<j)=true from decide_eq_true o!,Bool.true_and];by_cases e:k=m
   .subst e;simp
   rw[if_neg e,hT.out m E];simp[e],r⟩
  omega
 have y:k=c.Aa.length:=o!
 have I:=Zd (show∀j,j<c.Aa.length->T.getD j false=hasB (DS c l) j from λj d=>by rw[hT.out j d,y,fd.out]);obtain⟨t,ht⟩:=Qnm (DS c l);have bi:=Zd ht;obtain⟨W3,Hv⟩:=Qnm wr;subst Hv;have r:=A;have fI:=A.len;clear y hT ht A;go_wp2;go_loopg [9,10] c.Aa.length (λg v i Z=>∃j:Nat,j<=c.Aa.length/\g=c.Aa.length - j/\i=.int .i64 j/\Z.ownsRow W3 3 1 v (FF t j).length ((FF t j).map (ZL .i64))/\Qb6 W3 Z)
 case atStart=>exact⟨0,Zp _,rfl,rfl,zq _ _ _ _,Zh _ _⟩
 obtain⟨j,d,rfl,rfl,AX,hB⟩:=hrel;have fy:=Jo t j;have D':=hB.size;by_cases lp:j<c.Aa.length
 .have HS:=Zd (eF t j)
  have an:=r.later hB;have C:=ch an.row (abv (k:=j) (by have:=an.len;omega));rw[show T.getD j false=hasB t j by rw[I.out j lp,bi.out]]at C;cases z:hasB t j with
  |true=>
   rw[z]at C;have P:=Zd (show FF t (j+1)=FF t j++ [(j:Int)] by rw[HS.out,if_pos z]);clear z;go_wp2_with (at_builtin;refine Yc _ rfl _ _ 22 rfl W3 3 i0 (.int .i64 0) 1 8 hu (Dz hi) Fl DR EB rfl d! _ _ _ rfl (AX.alloc _) ⟨_,0,none⟩ 1 1 [.int .i64 j] rfl rfl (by intro j u d;match j,d with|0,d=>(simp at d;subst d;simp[Zcu])) (by intro u hu;simp at hu;subst hu;rfl) u! o! j! ?_;intro v' w1 Bi AG Gc);have hg:(wr.alloc (.cells #[.int .i64 j] 3)).grownBy w1 u9.ownBlock:=AG;have Bg:Qb6 W3 w1:=Bm (bA hB) hg (λk hk=>(AX.lt k hk).1) j!;have Cm:w1.ownsRow W3 3 1 v' (FF t (j+1)).length ((FF t (j+1)).map (ZL .i64)):=by
    rw[P.out];simpa using Bi
   go_roundg (c.Aa.length - (j+1))
   case rel=>exact⟨j+1,o!,rfl,v!,Cm,Bg⟩
   case measure=>omega
  |false=>
   rw[z]at C;have P:=Zd (show FF t (j+1)=FF t j by rw[HS.out,if_neg (by rw[z];decide)]);clear z;go_wp2;go_roundg (c.Aa.length - (j+1))
   case rel=>exact⟨j+1,o!,rfl,v!,by rw[P.out];exact AX,hB⟩
   omega
 have F:j=c.Aa.length:=o!
 have bv:=eC AX;have HE:=Zd (show FF t j=AB (DS c l) by rw[F,bi.out,fm.out]);have ci:=Sl.imp (T:=Cb w wr) bv (λx hx=>⟨Zr r.below.size hx.1,hx.2⟩) λ_ _ x=>x;have Lc:Qb6 w wr:=r.below.trans (hB.mono r.below.size);clear F;go_wp2;go_ret;exact⟨_,rfl,Lc,by rw[<-HE.out];exact ci⟩
def c94 (h:RC S w v1 v2 v3 v4 v5 c)(hl:SI T w v6 l)(Q:∀i,i<c.Aa.length->0<=(Aj c.Aa i).left)(P:∀x,x∈l->0<=x/\x<c.Aa.length)(R:Ql6 S w)(J:∀b,T b->b<w.heap.size):
  Calls Lp 37 #[.agg #[v1,v2,v3,v4,v5],v6] w λe w'=>e=.returned (.int .i64 ((l.find? (SU c)).getD (-1)))/\Qb6 w w':=by
 obtain⟨a1,X,a2,W,a3,V,a4,K,Z,U,rfl,rfl,rfl,rfl,rfl,l1,m1,l2,m2,l3,m3,l4,m4,l5,m5⟩:=h.vs;obtain⟨a6,c6,rfl,l6,m6⟩:=hl.val;have IX:=DJ;obtain⟨F,hF⟩:=Qnm (l.find? (SU c));rw[<-hF];have HF:=Zd (show(l.drop 0).find? (SU c)=F from hF.symm);clear hF;go_enter Lp.func94,n94;go_wp2;go_loopg [5] l.length (λg i wr=>∃k:Nat,k<=l.length/\g=l.length - k/\i=.int .i64 k/\(l.drop k).find? (SU c)=F/\Qb6 w wr/\wr.heap[w.heap.size]?=some (.cells (Qe6 c a1 X a2 W a3 V a4 K Z U) 26 (0,0)))
 case atStart=>exact⟨0,Zp _,rfl,rfl,HF.out,bA (Zh _ _),Bp _ _⟩
 obtain⟨k,hk,rfl,rfl,L,m,A⟩:=hrel;have u:=Zd L;clear L;by_cases C:k<l.length
 .obtain⟨b,o,rfl,I,r⟩:=hl.at_ C
  have y:=Zd (U_ (f:=SU c) C);obtain⟨Oo,MF⟩:=P _ (Rd C);obtain⟨x,G⟩:∃x:Nat,nth l k=x:=⟨(nth l k).toNat,o!⟩;rw[G]at r y MF Oo;clear G;have D:x<c.Aa.length:=o!
  obtain⟨B,E,s2,s3,rfl,G1,_,_,_,_,s,_,_⟩:=h.Aa.at_ (i:=x) D;rw[<-m.cell (p:=⟨B,E+x*5+4,none⟩) (R B G1)]at s;rw[<-m.cell (p:=⟨b,o+k,none⟩) (J b I)]at r;have t:=Zd (Q x D);have H:=ch (i:=3) A (v:=.slice (some ⟨B,E,none⟩) c.Aa.length K) rfl;have O:=λp=>Al p r;have N:=λp=>Al p s;have M:=λp=>Al p H;go_wp2;refine Av k! k! ?_
  repeat (first|go_big_quiet_step (fail)|quiet_step (fail))
  refine Z4 ?_;rintro _ ⟨p,rfl⟩;have q:=AE wr p;obtain⟨Y,a⟩:=Qnm (calm wr p);rw[<-a]at q⊢;have z:=(q.block _ (Za.1 A).1).trans A;have j:=bU m q;rw[<-q.cell (p:=⟨b,o+k,none⟩) (Zl (J b I) m.size)]at r;clear a O N M H s;by_cases d:(Aj c.Aa x).left=0
  .have T6:((Aj c.Aa x).left==0)=true:=by simpa using d
   have n:=Zd (show F=some (x:Int) by rw[<-u.out,y.out,if_pos (by simp[SU,d])]);clear d;go_wp2;go_ret;exact⟨Bw (by rw[n.out];rfl),j⟩
  have T6:((Aj c.Aa x).left==0)=false:=by simpa using d
  have n:=Zd (show(l.drop (k+1)).find? (SU c)=F by rw[<-u.out,y.out,if_neg (by have:=t.out;simp[SU];omega)]);clear d;go_wp2;go_roundg (l.length - (k+1))
  case rel=>exact⟨k+1,o!,rfl,v!,n.out,j,z⟩
  omega
 have n:=Zd (show F=none by rw[<-u.out,Z7.2 o!];rfl);go_wp2;go_ret;exact⟨Bw (by rw[n.out];rfl),m⟩
structure aae (S:Nat->Prop)(w:Zb)(q:Nat)(ss:List Ay)(cur:Array Zf)(wr:Zb):Prop where
 arr:wr.heap[q]?=some (.cells cur 48 (0,0))
 at_:∀i,i<ss.length->∃v2 v3,cur[i*5]?=some (.int .i64 (Aj ss i).low)/\cur[i*5+1]?=some (.int .i64 (Aj ss i).high)/\cur[i*5+2]?=some v2/\cur[i*5+3]?=some v3/\cur[i*5+4]?=some (.int .i64 (Aj ss i).left)/\
  SP S w v2 (Aj ss i).Ap/\SI S w v3 (Aj ss i).over
def aae.dec {wr:Zb}{a:List Ay}(h:aae S w q a cur wr)(hi:i<a.length):
  aae S w q (Kn a i) (cur.setIfInBounds (i*5+4) (.int .i64 ((Aj a i).left - 1))) (wr.setCell ⟨q,i*5+4,none⟩ (.int .i64 ((Aj a i).left - 1))):=by
 refine⟨Ba h.arr _,λj d=>?_⟩;rw[Gw]at d;obtain⟨v2,v3,l,k,g,f,e,c,b⟩:=h.at_ j d;have n:=(Za.1 e).1;simp only[LI hi];by_cases m:j=i
 .subst m
  rw[if_pos rfl];refine⟨v2,v3,?_,?_,?_,?_,?_,c,b⟩
  .rw[Zk o!];exact l
  .rw[Zk o!];exact k
  .rw[Zk o!];exact g
  .rw[Zk o!];exact f
  rw[ZV n]
 rw[if_neg m];refine⟨v2,v3,?_,?_,?_,?_,?_,c,b⟩
 .rw[Zk o!];exact l
 .rw[Zk o!];exact k
 .rw[Zk o!];exact g
 .rw[Zk o!];exact f
 rw[Zk o!];exact e
def aae.sl {wr:Zb}{b:List Ay}(h:aae S w q b cur wr)(e:Qb6 w wr)(d:∀x,S x->T x)(l:T q)(n:b.length<=cap)(m:cap<=maxLen):Sl T (λW=>Rs T W) 5 wr (.slice q b.length cap) b:=by
 refine⟨_,_,rfl,n,m,λi x c=>?_⟩;have hi:=(Zm.1 c).1;have k:x=Aj b i:=by have:=Db hi;rw[c]at this;exact ZW this
 subst k;obtain⟨v2,v3,t,s,r,p,o,g,f⟩:=h.at_ i hi;refine⟨q,0,[.int .i64 (Aj b i).low,.int .i64 (Aj b i).high,v2,v3,.int .i64 (Aj b i).left],rfl,l,rfl,λj u a=>?_,v2,v3,rfl,(g.later e).imp d λ_ _ x=>x,(f.later e).imp d λ_ _ x=>x⟩;rw[zN];refine ch h.arr ?_
 match j,a with
 |0,a=>cases a;exact t
 |1,a=>cases a;exact s
 |2,a=>cases a;exact r
 |3,a=>cases a;exact p
 |4,a=>cases a;exact o
def aae.later {wr:Zb}{a:List Ay}(h:aae S w q a cur wr)(b:Qb6 wr W):aae S w q a cur W:=
 ⟨(b.block _ (Za.1 h.arr).1).trans h.arr,h.at_⟩
def ajz {wr:Zb}{a:List Ay}(l:wr.heap[q]?=some (.cells cur 48 (0,0)))(k:a.length=n)(m:cur.toList.take (n*5)=news)(o:∀(i:Nat) (x:Ay),a[i]?=some x->Rs S w ((news.drop (i*5)).take 5) x):aae S w q a cur wr:=by
 subst k;refine⟨l,λi hi=>?_⟩;obtain⟨v2,v3,e,g,f⟩:=o i _ (Db hi);have b:∀j u,[.int .i64 (Aj a i).low,.int .i64 (Aj a i).high,v2,v3,.int .i64 (Aj a i).left][j]?=some u->cur[i*5+j]?=some u:=λj u c=>by
  have d:j<5:=by have:=(Zm.1 c).1;simpa using this
  rw[<-e,Z2 d,Yl, <-m,Z2 (by have:=ij hi d;omega)]at c;simpa using c
 exact⟨v2,v3,b 0 _ rfl,b 1 _ rfl,b 2 _ rfl,b 3 _ rfl,b 4 _ rfl,g,f⟩
def aft (w1:Zb)(p:Addr)(u:Zf)(e:Zs)(k:Nat):((w1.setCell p u).alloc (.cells #[] e)).ownsRow w1 e k (.slice w1 0 0) 0 []:=by
 have h:(w1.setCell p u).heap.size=w1.heap.size:=i!
 have:=YC (base:=w1) (e:=e) (size:=k) (w1.setCell p u) #[] 0 (by rw[h];exact Zj _) (Zp _) i!;rwa[h]at this
def ahj {base:Nat}(h:w.ownsRow base e k v n xs)(l:0<n):∃q cap cur,v=.slice (some ⟨q,0,none⟩) n cap/\base<=q/\w.heap[q]?=some (.cells cur e (0,0))/\n<=cap/\cap<=maxLen/\cur.toList.take (n*k)=xs:=by
 rcases h.2 with⟨_,j⟩|⟨q,cap,cur,c,d,f,g,a,i,b⟩
 .omega
 exact⟨q,cap,cur,c,d,f,g,a,b⟩
def ahk (h:Qb6 w A)(a:B3 b A B)(d:w<=b):Qb6 w B:=
 ⟨a.os.trans h.os,a.tape.trans h.tape,a.output.trans h.output,Zr h.size a.size,λk c=>(a.block k (Zl c h.size) o!).trans (h.block k c)⟩
def ajA (S:Nat->Prop)(w:Zb)(c:A_)(l:List Int)(e:Ending)(w':Zb):Prop:=∃(u1 u2 u3 u4 u5:Zf),e=.returned (.agg #[u1,u2,u3,u4,u5])/\Qb6 w w'/\RC (λx=>S x\/Cb w w' x) w' u1 u2 u3 u4 u5 (FH c l (DS c l))
def c96 (h:RC S w v1 v2 v3 v4 v5 c)(hl:SI S w v6 l)(M:Ca c l=0)(hS:Ql6 S w):
  Calls Lp 39 #[.agg #[v1,v2,v3,v4,v5],v6] w (ajA S w c l):=by
 obtain⟨J,G,I,F,H,E,a4,D,a5,c5,rfl,rfl,rfl,rfl,rfl,l1,m1,l2,m2,l3,m3,l4,m4,l5,m5⟩:=h.vs;obtain⟨a6,c6,rfl,l6,m6⟩:=hl.val;have IX:=DJ;have HV:=EG (Bj M).1;have UO:=Zd (Fb (Bj M).2).1;have Jm:=HV.few;have ka:=Zd HV.left;have fi:∀x,x∈AB (DS c l)->0<=x/\x<c.Aa.length:=MT HV (l:=l) (by have:=UO.out;omega);clear HV;obtain⟨du,rfl⟩:∃ad,a6=some ad:=by
  obtain⟨b,o,e,_⟩:=hl.at_ (i:=0) (by have:=UO.out;omega);exact⟨_,e⟩
 obtain⟨f,rfl⟩:∃ad,a4=some ad:=by
  obtain⟨b,o,v2,v3,e,_⟩:=h.Aa.at_ (i:=0) o!;exact⟨_,e⟩
 obtain⟨i7,L,IV,ac⟩:=Sl.row hl d! du rfl;have gj:=row_one d! L IV pJ;have ci:=kY (R:=Ri) L IV;obtain⟨i6,tX,am,ai⟩:=Sl.row h.Aa d! f rfl;have gn:=row_one d! tX am ah8;have jp:=Zd am;have kv:=Zd (λW (hW:Qb6 w W) j u B=>(hW.cell (ZH _ _ (ac j u B))).trans (ac j u B));have kw:=Zd (λW (hW:Qb6 w W) j u B=>(hW.cell (ZH _ _ (ai j u B))).trans (ai j u B));clear ac ai IV am;have iX:=Zd ci;clear ci;obtain⟨i0,hi,Fl,DR,EB⟩:=zp KY;have hu:=Cz YE;obtain⟨i9,gi,im,ii,gt⟩:=zp eI;have i8:=Cz Tryz.underlying24;obtain⟨W1,NL⟩:=Qnm ((w.alloc (.cells #[.slice J c.base.length G,.slice I c.Af.length F,.slice H c.hooks.length E,.slice (some f) c.Aa.length D,.slice a5 c.now.length c5] 26)).alloc (.cells Qz6 26));have Bg:Qb6 w W1:=by rw[NL];exact bA (bA (Zh _ _))
 have lD:W1.heap[w.heap.size]?=some (.cells #[.slice J c.base.length G,.slice I c.Af.length F,.slice H c.hooks.length E,.slice (some f) c.Aa.length D,.slice a5 c.now.length c5] 26 (0,0)):=by rw[NL];exact Bf (Bp _ _) _
 have O:W1.heap[w.heap.size+1]?=some (.cells Qz6 26 (0,0)):=by rw[NL];exact Jq w _ _
 have lm:=Zd (c95 (h.later Bg) (hl.later Bg) M (A3 hS Bg));clear M;go_enter Lp.func96,n96;go_wp2;rw[<-NL];clear NL;refine lm.out.mono ?_;rintro e a ⟨v,rfl,Bb,hv⟩;obtain⟨t,ht⟩:=Qnm (AB (DS c l));have HT:=Zd (show FH c l (DS c l)= {c with now:=l,Aa:=CJ c.Aa t} by rw[ht];rfl);rw[<-ht]at hv fi;have lJ:t.length<=3:=by rw[ht];exact Jo _ 3
 clear ht;obtain⟨p7,c7,rfl,l7,m7⟩:=hv.val;have io:=bU Bg Bb;have Ia:=(Bb.block _ (Za.1 lD).1).trans lD;have yv:=(Bb.block _ (Za.1 O).1).trans O;obtain⟨k0,k1,k2,k3,k4⟩:=Qc5 Ia;have yd:((a.alloc (.cells #[.slice J c.base.length G,.slice I c.Af.length F,.slice H c.hooks.length E,.slice (some f) c.Aa.length D,.slice a5 c.now.length c5] 26)).alloc (.cells #[] 3)).ownsRow (a+1) 3 1 (.slice (a+1:Nat) 0 0) 0 []:=by
  have:=YC (base:=a+1) (e:=3) (size:=1) (a.alloc (.cells #[.slice J c.base.length G,.slice I c.Af.length F,.slice H c.hooks.length E,.slice (some f) c.Aa.length D,.slice a5 c.now.length c5] 26)) #[] 0 (by rw[ZB];exact Zj _) (Zp _) rfl;rwa[ZB]at this
 have HK:=Zd (show((a.alloc (.cells #[.slice J c.base.length G,.slice I c.Af.length F,.slice H c.hooks.length E,.slice (some f) c.Aa.length D,.slice a5 c.now.length c5] 26)).alloc (.cells #[] 3)).heap[a.heap.size]?=some (.cells #[.slice J c.base.length G,.slice I c.Af.length F,.slice H c.hooks.length E,.slice (some f) c.Aa.length D,.slice a5 c.now.length c5] 26 (0,0)) from Bf (Bp _ _) _);have mh:=Bb.size;have k9:=(Za.1 O).1;have lL:¬a.heap.size=w.heap.size:=o!
 have iS:¬w.heap.size=a.heap.size:=o!
 have ed:=Zd Ia;have fd:=Zd yv;have A:=Zd io;clear Ia yv;go_wp2_with (first|(at_builtin;refine Yc _ rfl _ _ 22 rfl (a+1) 3 i0 (.int .i64 0) 1 8 hu (Dz hi) Fl DR EB rfl d! _ 0 [] rfl yd du l.length c6 i7 rfl L (λj u B=>ca (ca (kv.out _ A.out j u B) _) _) gj (by have:=UO.out;unfold maxLen;omega) (by have:=UO.out;omega) i! ?_;intro v' w1 Bi AG Gc;clear yd k0 k1 k2 k3 k4;rw[zN,zP,iX.out]at Bi;(have Bv:Qb6 a w1:=Bm (bA (bA (Zh _ _))) AG (λk hk=>by cases hk;exact Nat.le_succ _) j!);(have et:=eC Bi);obtain⟨n,z,rfl,_⟩:=et.val;(have U4:=(AG.block a j! (λe=>by have:=ZW (show some a.heap.size=some (a.heap.size+1) from e);omega)).trans HK.out);(have n4:=ch (i:=4) U4 (v:=.slice a5 c.now.length c5) rfl);(have f4:=cf (i:=4) U4);(have iz:=(Bv.block _ o!).trans ed.out);(have k3:=ca (ch (i:=3) ((AZ (b:=a) (i:=4) iS (.slice n l.length z)).trans iz) (v:=.slice (some f) c.Aa.length D) rfl) (.cells #[] 48));(have rp:=bU A.out Bv);(have an:YH w w (w1.setCell ⟨a,4,none⟩ (.slice n l.length z)):=bS rp A.out.size);(have dl:((w1.setCell ⟨a,4,none⟩ (.slice n l.length z)).alloc (.cells #[] 48)).ownsRow w1 48 5 (.slice w1 0 0) 0 []:=aft w1 _ _ 48 5);clear AG Gc)|(at_builtin;refine Yc _ rfl _ _ 24 rfl w1 48 i9 (.agg #[.int .i64 0,.int .i64 0,(),(),.int .i64 0]) 5 72 i8 (Dz gi) im ii gt rfl d! _ 0 [] rfl dl f c.Aa.length D i6 rfl tX (λj u B=>ca (kw.out _ an j u B) _) gn u! o! i! ?_;intro v' w4 rz ct iv;rw[zN,zP]at rz;(have De:YH w1 (w1.setCell ⟨a,4,none⟩ (.slice n l.length z)) w4:=Bm ((Zh w1 (w1.setCell ⟨a,4,none⟩ (.slice n l.length z))).alloc i! _) ct (λk hk=>by cases hk;exact Zj _) i!);obtain⟨q,cap,cur,rfl,T6,M9,JA,fy,iB⟩:=ahj rz o!;(have K:w4.heap[a.heap.size]?=some (.cells #[.slice J c.base.length G,.slice I c.Af.length F,.slice H c.hooks.length E,.slice (some f) c.Aa.length D,.slice n l.length z] 26 (0,0)):=(De.block _ (Za.1 U4).1).trans (Ba U4 _));(have n3:=ch (i:=3) K (v:=.slice (some f) c.Aa.length D) rfl);(have f3:=cf (i:=3) K);clear n4 f4 k3 dl ct iv));have lG:a<w1.heap.size:=(Za.1 U4).1;have fw:¬q=a:=o!
 have qM:¬a.heap.size=q:=o!
 obtain⟨Q,Jy⟩:=Qnm (w4.setCell ⟨a,3,none⟩ (.slice q c.Aa.length cap));have fG:Q.heap[a.heap.size]?=some (.cells #[.slice J c.base.length G,.slice I c.Af.length F,.slice H c.hooks.length E,.slice q c.Aa.length cap,.slice n l.length z] 26 (0,0)):=by rw[Jy];exact Ba K _
 have ba:YH (w1.setCell ⟨a,4,none⟩ (.slice n l.length z)).heap.size (w1.setCell ⟨a,4,none⟩ (.slice n l.length z)) w4:=by
  rw[show(w1.setCell ⟨a,4,none⟩ (.slice n l.length z)).heap.size=w1.heap.size by simp];exact De
 have C:B3 a w1 Q:=by rw[Jy];exact((B3.refl _ _).set.below ba).set
 have Cj:Qb6 w Q:=by rw[Jy];exact bS (bU an ba) A.out.size
 have ap:aae S w q c.Aa cur Q:=by rw[Jy];exact ajz ((AZ fw _).trans M9) rfl iB jp.out
 have bv:SI (Cb W1 a) Q (.slice p7 t.length c7) t:=(hv.later Bv).Ar (C.same λy r=>by have:=r.2;omega);have bV:SI (λy=>a.heap.size<y/\y<w1) Q (.slice n l.length z) l:=Sl.imp (et.Ar (C.same λy r=>by have:=r.1;omega)) (λy r=>⟨by have:=r.1;omega,r.2⟩) λ_ _ x=>x;have fJ:Q.heap[w.heap.size+1]?=some (.cells Qz6 26 (0,0)):=(C.block _ o! o!).trans ((Bv.block _ o!).trans fd.out);have lK:=C.size;have lI:q<Q:=(Za.1 ap.arr).1;have jt:=Zd bV;have jn:=Zd bv;have li:=Zd Cj;rw[<-Jy];clear Jy K De ba C an M9 iB rz et hv Bi U4 iz rp bV n3 f3 HK fd ed lD O L tX bv Cj Bv;go_loopg [7] t.length (λg i wr=>∃(k:Nat) (m:List Ay) (bc:Array Zf),k<=t.length/\g=t.length - k/\i=.int .i64 k/\m.length=c.Aa.length/\CJ m (t.drop k)=CJ c.Aa t/\(∀j,j<c.Aa.length->-(k:Int)<=(Aj m j).left/\(Aj m j).left<=4)/\B3 q Q wr/\aae S w q m bc wr)
 case atStart=>exact⟨0,c.Aa,cur,Zp _,rfl,rfl,rfl,rfl,λj B=>by have:=ka.out j B;omega,B3.refl _ _,ap⟩
 obtain⟨k,m,bc,hk,rfl,rfl,ck,CP,U,N,hA⟩:=hrel;have hf:=Zd CP;have iD:=Zd ck;clear CP ck ap;have bi:=(N.block _ o! qM).trans fG;by_cases Az:k<t.length
 .obtain⟨b,o,rfl,hb,hc⟩:=jn.out.at_ Az
  have OJ:=CE.cell (N.same (T:=λb=>b≠q) (λ_ h=>h)) (p:=⟨b,o+k,none⟩) (by have:=hb.2;simp;omega) hc;clear hc;obtain⟨Oo,MF⟩:=fi _ (Rd Az);have Pv:=Zd (eM (s:=m) Az);obtain⟨y,be⟩:∃y:Nat,nth t k=y:=⟨(nth t k).toNat,o!⟩;rw[be]at OJ Oo MF Pv;clear be;have Y:y<c.Aa.length:=o!
  have V:y<m.length:=by rw[iD.out];exact Y
  have lF:(y:Int)<(c.Aa.length:Int):=o!
  obtain⟨y2,y3,_,_,_,_,e4,_,_⟩:=hA.at_ y V;obtain⟨xr,MK⟩:=U y Y;have b9:=Zd U;have Uh:YH wr wr wr.drew:=(Zh _ _).drew;have P:=hA.later Uh;have HD:=Zd (P.dec V);have HU:=Zd ((N.below Uh).set (i:=y*5+4) (v:=.int .i64 ((Aj m y).left - 1)));have r4:=ch hA.arr e4;have f4:=cf (i:=y*5+4) P.arr;have fm:=ch P.arr e4;have b3:=ch (i:=3) bi (v:=.slice q c.Aa.length cap) rfl;have z1:=λp=>Al p OJ;have z2:=λp=>Al p r4;have z3:=λp=>Al p b3;clear hA N U e4 P;obtain⟨lf,U⟩:=Qnm ((Aj m y).left);rw[<-U]at r4 fm xr MK HD HU z2;have mj:=Zd U;clear U;have Qu:IntKind.i64.wrap (lf - 1)=lf - 1:=ZcD _ o!;go_wp2;refine B0 (S:=λW=>∃p,W=calm wr p) [12] [(false,9),(false,10),(false,11),(false,12)] [0,1,2,3,4,5,6,7,8] k! (λ_ _ d _ _ h=>by cases d<;>exact h) k! (AL Uh) ?_;refine A4 _ _ k! ?_;simp only[Z6,zd,ZG,ZD,ZC]
  repeat (first|go_big_quiet_step (fail)|quiet_step (fail))
  refine Z4 ?_;clear z1 z2 z3 b3 OJ r4;change Dl _ _ _ _ _ _ _;refine Dw (v:=.int .i64 (lf - 1)) rfl rfl g! (.inr (AL Uh)) ?_;refine Dw (v:=.pointer (some ⟨q,y*5,none⟩)) rfl rfl g! (.inr (AL Uh)) ?_;refine Dw (v:=.pointer (some ⟨q,y*5+4,none⟩)) rfl rfl g! (.inr (AL Uh)) ?_;refine K8 (w':=wr.drew.setCell ⟨q,y*5+4,none⟩ (.int .i64 (lf - 1))) rfl rfl g! (.inl rfl) ?_;unfold Dl
  go_simp
  go_wp2;go_roundg (t.length - (k+1))
  case rel=>exact⟨k+1,Kn m y,_,o!,rfl,v!,by rw[Gw];exact iD.out,by rw[<-hf.out,Pv.out];rfl,λi hi=>by
   have:=b9.out i hi;rw[LI V];split
   .have:=b9.out y Y
    show -((k+1:Nat):Int)<=(Aj m y).left - 1/\(Aj m y).left - 1<=4;omega
   omega,HU.out,HD.out⟩
  omega
 have fI:=Zd (show m=CJ c.Aa t by rw[<-hf.out,Z7.2 o!];rfl);have b8:=(N.block _ (by have:=N.size;omega) o!).trans fJ;obtain⟨t0,t1,t2,t3,t4⟩:=Qc5 bi;obtain⟨g0,g1,g2,g3,g4⟩:=Qc5 b8;obtain⟨f0,f1,f2,f3,f4⟩:=Qf5 b8;go_wp2;refine ZN (v:=.agg #[.slice J c.base.length G,.slice I c.Af.length F,.slice H c.hooks.length E,.slice q c.Aa.length cap,.slice n l.length z]) (by rw[A8 rfl];go_simp) rfl ?_;have ip:Qb6 w wr:=ahk li.out N (by have:=A.out.size;omega);have lC:=N.size;have fu:∀X,Qb6 w X->Ak (λx=>x=w.heap.size+1) wr X->ajA S w c l (.returned (.agg #[.slice J c.base.length G,.slice I c.Af.length F,.slice H c.hooks.length E,.slice q c.Aa.length cap,.slice n l.length z])) X:=λX Ov Pc=>by
  have lE:=Pc.size;have fK:aae S w q m bc X:=⟨(Pc.block _ o! o!).trans hA.arr,hA.at_⟩;have NK:=fK.sl (T:=λx=>S x\/Cb w X x) Ov (λx Z=>.inl Z) (.inr ⟨by have:=A.out.size;omega,o!⟩) (by rw[iD.out];exact JA) fy;rw[iD.out,fI.out]at NK;refine⟨_,_,_,_,_,rfl,Ov,?_⟩;rw[HT.out];refine⟨(h.base.later Ov).imp (λx Z=>.inl Z) λ_ _ x=>x,(h.Af.later Ov).imp (λx Z=>.inl Z) λ_ _ x=>x,(h.hooks.later Ov).imp (λx Z=>.inl Z) λ_ _ x=>x,NK,?_⟩;have n1:=jt.out.Ar (N.same λy r=>by have:=r.2;omega);exact Sl.imp (n1.Ar (Pc.same λy r=>show¬y=w+1 by have:=r.1;omega)) (λy r=>.inr ⟨by have:=r.1;omega,by have:=r.2;omega⟩) λ_ _ x=>x
 refine fu _ ?_ ?_
 .repeat (with_reducible first|exact ip|(refine bS ?_ o!))
 repeat (with_reducible first|exact Ak.refl _ _|(refine Ak.DT ?_))
def c31 (h:SL S w v ls)(hS:Ql6 S w)(hn:ls.length<=1000)(hl:∀l∈ls,l.length<=1000):
  Calls Lp 10 #[v] w λe w'=>∃u,e=.returned u/\Qb6 w w'/\LR w w' u ls:=by
 obtain⟨a,c,rfl,l1,m1⟩:=h.val;obtain⟨E,L,K,J,I⟩:=zp Hw;have IX:=DJ;go_enter Lp.func31,n31;go_wp2;go_loopg [3,4] ls.length (λgg X i wr=>∃k:Nat,k<=ls.length/\gg=ls.length - k/\i=.int .i64 k/\Qb6 w wr/\LR w wr X (ls.take k))
 case atStart=>exact⟨0,Zp _,rfl,rfl,Zh _ _,by rw[ZdB];exact LR.nil _ _⟩
 obtain⟨k,hk,rfl,rfl,z,d⟩:=hrel;by_cases C:k<ls.length
 .obtain⟨b,o,u,rfl,F,hc,O⟩:=h.at_ C
  have t:=Zd (hl _ (Z3 (BJ C)));have g:=Zd (show ls.take (k+1)=ls.take k++ [BM ls k] by rw[ZbH,BJ C];rfl);rw[<-z.cell (p:=⟨b,o+k,none⟩) (hS b F)]at hc;have M:=O.later z;obtain⟨x,N⟩:=Qnm (BM ls k);rw[<-N]at t g M;clear N O;obtain⟨ua,uc,rfl,_⟩:=M.val;obtain⟨P,G⟩:=Qnm (ls.take k);have ac:P.length<=1000:=by rw[G,ZcV];omega
  rw[<-G]at d g;clear G;obtain⟨W,V,rfl,_⟩:=d.val;obtain⟨m,r,q⟩:=d;have TB:(k:Int)<(ls.length:Int):=o!
  have n:=z.size;go_wp2_with (first|(go_at_call 11;refine(WO M (by have:=t.out;omega)).mono ?_;rintro e w1 ⟨u1,rfl,B,j⟩;obtain⟨Z,Y,rfl,_⟩:=j.si.val;have DR:=B.size;have f:=Tn B r)|(at_builtin;refine Yc _ rfl _ _ 27 rfl w 22 E () 1 24 (Cz zW) (Dz L) K J I rfl d! _ P.length m rfl (Ya f _) w1 1 1 [.slice Z x.length Y] rfl rfl (Dj _ _ _) (by simp[YT]) u! o! j! ?_;intro v3 w3 Q D H));have A:LR w w3 v3 (P++ [x]):=LR.snoc f (λi y hi=>by
   obtain⟨u,h1,h2⟩:=q i y hi;exact⟨u,h1,Dx (T:=λ_=>False) (Ak.later B) (λ_ _ x=>x) h2⟩) j.typ n (bA (Zh _ _)) D Q
  have U:Qb6 w w3:=Bm ((z.trans (B.mono n)).alloc o! _) D (λb F=>(Zcm f b F).1) j!;have R:=Zd (ZY U A);clear A U Q D H f r q j;go_roundg (ls.length - (k+1))
  case rel=>exact⟨k+1,C,rfl,v!,R.out.1,by rw[g.out];exact R.out.2⟩
  omega
 have s:k=ls.length:=o!
 rw[s,ZcU]at d;have HL:=Zd d;obtain⟨W,V,rfl,_⟩:=d.val;clear d s;go_wp2;go_ret;exact⟨_,rfl,z,HL.out⟩
def ajG (w:Zb)(a b e:Int)(x:Ending)(w':Zb):Prop:=x=.returned (.tuple #[.int .i64 a,.int .i64 b,.int .i64 e])/\Qb6 w w'
def afx (c:A_)(ls:List (List Int)):Eu c ls=if F2 c ls=0 then abq c 0 ls else(0,0):=by
 unfold Eu;rw[ade ls c 0 rfl]
def afz (b:Ca c l=0)(a:JU c (DS c l)=none):Eg c l=0:=by
 unfold Eg;rw[BR b,if_pos a]
def aeM {d:A_}{n:List Int}(b:abb d.Aa=abb c.Aa)(a:Ct c n=0):Ct d n=0:=by
 have:=af5 (m:=d.now) b a;exact this
def c35 (h:RC S w v1 v2 v3 v4 v5 c)(hl:SL S w v6 ls)(L:Ql6 S w):
  Calls Lp 14 #[.agg #[v1,v2,v3,v4,v5],v6] w (ajG w (Eu c ls).1 (Eu c ls).2 (F2 c ls)):=by
 obtain⟨a1,c1,a2,c2,a3,c3,a4,c4,a5,c5,rfl,rfl,rfl,rfl,rfl,l1,m1,l2,m2,l3,m3,l4,m4,l5,m5⟩:=h.vs;obtain⟨a6,c6,rfl,l6,m6⟩:=hl.val;have IX:=DJ;obtain⟨X,hX⟩:=Qnm (w.alloc (.cells (Qe6 c a1 c1 a2 c2 a3 c3 a4 c4 a5 c5) 26));have Bg:Qb6 w X:=by rw[hX];exact bA (Zh _ _)
 have l_:X.heap[w.heap.size]?=some (.cells (Qe6 c a1 c1 a2 c2 a3 c3 a4 c4 a5 c5) 26 (0,0)):=by rw[hX];exact Bp _ _
 obtain⟨z,U⟩:=Qnm (BN c);have an:=c50 (h.later Bg) (A3 L Bg);rw[<-U]at an;have ii:=Zd an;clear an;go_enter Lp.func35,n35;go_wp2;rw[<-hX];clear hX;refine ii.out.mono ?_;rintro e W2 ⟨rfl,Bb⟩;have B:=bU Bg Bb;have fm:=(Bb.block _ (Za.1 l_).1).trans l_;clear l_ Bb Bg ii;by_cases Fl:z=0
 .subst Fl
  have iv:=Zd U.symm;have HE:=Zd (show F2 c ls=if 5<ls.length then 6 else Bc (Ct c) ls by rw[F2,BR U.symm]);clear U;by_cases hm:5<ls.length
  .have HX:=Zd (show F2 c ls=6 by rw[HE.out,if_pos hm])
   have HV:=Zd (show Eu c ls=(0,0) by rw[Eu,HX.out];rfl);have im:(5:Int)<(ls.length:Int):=o!
   go_wp2;refine ZN (Eh rfl _ _ _) rfl ?_;exact⟨by rw[HV.out,HX.out];rfl,B⟩
  have HX:=Zd (show F2 c ls=Bc (Ct c) ls by rw[HE.out,if_neg hm]);have i6:ls.length<=5:=o!
  have im:¬(5:Int)<(ls.length:Int):=o!
  clear hm;have iS:=Zd (λW (hW:Qb6 w W) v l (hv:SI S W v l)=>c93 (h.later hW) hv (A3 L hW));go_wp2;go_loopg [8] ls.length (λgg i wr=>∃k:Nat,k<=ls.length/\gg=ls.length - k/\i=.int .i64 k/\Bc (Ct c) (ls.drop k)=Bc (Ct c) ls/\Qb6 w wr/\wr.heap[w.heap.size]?=some (.cells (Qe6 c a1 c1 a2 c2 a3 c3 a4 c4 a5 c5) 26 (0,0)))
  case atStart=>exact⟨0,Zp _,rfl,rfl,rfl,B,fm⟩
  obtain⟨k,hk,rfl,rfl,CP,M,hK⟩:=hrel;have J:=Zd CP;clear CP B fm;by_cases Az:k<ls.length
  .obtain⟨b,o,u,rfl,a,K,hu⟩:=hl.at_ Az
   rw[<-M.cell (p:=⟨b,o+k,none⟩) (L b a)]at K;have G:=hu.later M;have s:=Zd (E_ (f:=Ct c) (BJ Az));obtain⟨x,hx⟩:=Qnm (BM ls k);rw[<-hx]at s G;obtain⟨ua,uc,rfl,_⟩:=G.val;obtain⟨y,r⟩:=Qnm (Ct c x);rw[<-r]at s;have fI:=Zd (show∀W,Qb6 wr W->Calls Lp 36 #[.agg #[.slice a1 c.base.length c1,.slice a2 c.Af.length c2,.slice a3 c.hooks.length c3,.slice a4 c.Aa.length c4,.slice a5 c.now.length c5],.slice ua x.length uc] W λe w'=>e=.returned (.int .i64 y)/\Qb6 W w' from λW hW=>by rw[r];exact iS.out W (bU M hW) _ _ (G.later hW));have TB:(k:Int)<(ls.length:Int):=o!
   clear hu G hx r;obtain⟨z0,z1,z2,z3,z4⟩:=Qz5 hK;have z5:=λp=>Al p K;go_wp2;refine Av k! k! ?_
   repeat (first|go_big_quiet_step ((go_at_call 36;exact AV (fI.out _ (AE _ _))))|quiet_step ((go_at_call 36;exact AV (fI.out _ (AE _ _)))))
   refine Z4 ?_;rintro _ ⟨p,rfl⟩;have yw:=AE wr p;obtain⟨i9,g⟩:=Qnm (calm wr p);rw[<-g]at yw⊢;have fh:=(yw.block _ (Za.1 hK).1).trans hK;have fu:=bU M yw;clear g z0 z1 z2 z3 z4 z5 hK M K;by_cases mC:y=0
   .subst mC
    have e1:=Zd (show Bc (Ct c) (ls.drop (k+1))=Bc (Ct c) ls by rw[<-J.out,s.out,if_pos rfl]);go_wp2;go_roundg (ls.length - (k+1))
    case rel=>exact⟨k+1,Az,rfl,v!,e1.out,fu,fh⟩
    omega
   have hq:(y !=0)=true:=by simpa using mC
   have e2:=Zd (show F2 c ls=y by rw[HX.out, <-J.out,s.out,if_neg mC]);have e3:=Zd (show Eu c ls=(0,0) by rw[Eu,e2.out,if_neg mC]);clear mC;go_wp2;refine ZN (Eh rfl _ _ _) rfl ?_;exact⟨by rw[e3.out,e2.out];rfl,fu⟩
  have e0:Bc (Ct c) ls=0:=by rw[<-J.out];exact FZ o!
  have bi:=Zd (show F2 c ls=0 by rw[HX.out,e0]);have HV:=Zd (show Eu c ls=abq c 0 ls by rw[afx,if_pos bi.out]);have ip:=Zd (λi (hi:i<ls.length)=>Ef e0 i _ (BJ hi));obtain⟨k0,k1,k2,k3,k4⟩:=Qc5 hK;have be:=Bp wr (.cells Qz6 26);obtain⟨g0,g1,g2,g3,g4⟩:=Qc5 be;obtain⟨f0,f1,f2,f3,f4⟩:=Qf5 be;clear J e0;go_wp2;obtain⟨W3,Hv⟩:=Qnm (wr.alloc (.cells (Qe6 c a1 c1 a2 c2 a3 c3 a4 c4 a5 c5) 26));have Bv:Qb6 wr W3:=by rw[Hv];exact bA (Zh _ _)
  have I:W3.heap[wr.heap.size]?=some (.cells (Qe6 c a1 c1 a2 c2 a3 c3 a4 c4 a5 c5) 26 (0,0)):=by rw[Hv];exact Bp _ _
  rw[<-Hv];obtain⟨j,H_⟩:=Qnm wr.heap.size;have WS:wr<=j/\j<=wr.heap.size:=o!
  rw[<-H_]at I⊢;have g:w<=j:=by have:=M.size;omega
  have rp:=bU M Bv;have O9:=h.later rp;clear Hv H_ be g0 g1 g2 g3 g4 f0 f1 f2 f3 f4 k0 k1 k2 k3 k4 hK M Bv;go_loopg [11] ls.length (λgg i wx=>∃(k:Nat) (d:A_) (T:Nat->Prop) (R Q P O N:Option Addr) (d1 d2 d3 d4 d5:Nat),k<=ls.length/\gg=ls.length - k/\i=.int .i64 k/\abq d k (ls.drop k)=abq c 0 ls/\BN d=0/\abb d.Aa=abb c.Aa/\Qb6 w wx/\wx.heap[j]?=some (.cells (Qe6 d R d1 Q d2 P d3 O d4 N d5) 26 (0,0))/\RC T wx (.slice R d.base.length d1) (.slice Q d.Af.length d2) (.slice P d.hooks.length d3) (.slice O d.Aa.length d4) (.slice N d.now.length d5) d/\(∀b,T b->b<wx.heap.size/\b≠j))
  case atStart=>exact⟨0,c,S,_,_,_,_,_,_,_,_,_,_,Zp _,rfl,rfl,rfl,iv.out,rfl,rp,I,O9,λb a=>⟨by have:=L b a;have:=rp.size;omega,by have:=L b a;omega⟩⟩
  obtain⟨k,d,T,R,Q,P,O,N,d1,d2,d3,d4,d5,hk,rfl,rfl,CP,pM,ct,U5,t,ai,Z⟩:=hrel;have J:=Zd CP;have b9:=Zd pM;have b8:=Zd ct;clear CP pM ct O9 I rp;by_cases G4:k<ls.length
  .obtain⟨b,o,u,rfl,a,K,hu⟩:=hl.at_ G4
   rw[<-U5.cell (p:=⟨b,o+k,none⟩) (L b a)]at K;have G:=hu.later U5;have q:=Zd (adE (c:=d) G4);have F:=ip.out k G4;obtain⟨l,jD⟩:=Qnm (BM ls k);rw[<-jD]at q G F;have dl:Ca d l=0:=by unfold Ca;rw[BR b9.out];exact aeM b8.out F
   obtain⟨ua,uc,rfl,_⟩:=G.val;have ed:∀b,(T b\/S b)->b<wr.heap.size/\b≠j:=λb a=>by
    rcases a with a|a
    .exact Z b a
    exact⟨by have:=L b a;have:=U5.size;omega,by have:=L b a;omega⟩
   have fi:RC (λb=>T b\/S b) wr (.slice R d.base.length d1) (.slice Q d.Af.length d2) (.slice P d.hooks.length d3) (.slice O d.Aa.length d4) (.slice N d.now.length d5) d:=ai.imp λb a=>.inl a;have ck:SI (λb=>T b\/S b) wr (.slice ua l.length uc) l:=Sl.imp G (λb a=>.inr a) λ_ _ x=>x;have fJ:l.length<=d.Aa.length:=by have:=(Fb (aeM (d:=d) b8.out F)).1;omega
   have rU:∀x,x∈AB (DS d l)->0<=x/\x<d.Aa.length:=MT (EG b9.out) fJ;have gt:=Zd rU;have ci:=Zd dl;have HU:=Zd (ZY fi ck);have H:=Zd ed;have TB:(k:Int)<(ls.length:Int):=o!
   clear hu G jD dl F ai Z rU fi ck ed fJ;obtain⟨x0,x1,x2,x3,x4⟩:=Qc5 t;have z0:=λp=>Al p x0;have z1:=λp=>Al p x1;have z2:=λp=>Al p x2;have z3:=λp=>Al p x3;have z4:=λp=>Al p x4;have z5:=λp=>Al p K;have HC:=Zd K;clear x0 x1 x2 x3 x4 K;obtain⟨n,V⟩:=Qnm ((JU d (DS d l)).getD (-1));go_wp2;refine B0 (S:=λW=>∃p,W=calm wr p) [] [(false,6),(false,7),(false,8)] [0,1,2,3,4,5] k! (λ_ _ d _ _ h=>by cases d<;>exact h) k! (AL (Zh _ _).drew) ?_;refine A4 _ _ k! ?_;simp only[Z6,zd,ZG,ZD,ZC]
   repeat (first|go_big_quiet_step (fail)|quiet_step (fail))
   refine Z4 ?_;clear z0 z1 z2 z3 z4 z5;change Dl _ _ _ _ _ _ _;have Uh:YH wr wr wr.drew:=(Zh _ _).drew;refine Dd (f:=38) (args:= #[.agg (Qe6 d R d1 Q d2 P d3 O d4 N d5),.slice ua l.length uc]) rfl rfl g! ((c95 (HU.out.1.later Uh) (HU.out.2.later Uh) ci.out (λb a=>(H.out b a).1)).mono ?_);rintro e w1 ⟨v,rfl,Bg,hv⟩;obtain⟨sa,sc,rfl,_⟩:=hv.val;have E:=bU Uh Bg;refine⟨_,rfl,.inr (AL E),?_⟩;refine Dd (f:=37) (args:= #[.agg (Qe6 d R d1 Q d2 P d3 O d4 N d5),.slice sa (AB (DS d l)).length sc]) rfl rfl g! ((c94 (HU.out.1.later E) hv (λi hi=>(ad9 b9.out hi).1) gt.out (λb a=>by have:=(H.out b a).1;have:=E.size;omega) (λb a=>a.2)).mono ?_);rintro e w2 ⟨rfl,Bb⟩;have m:=bU E Bb;refine⟨_,rfl,.inr (AL m),?_⟩;rw[show((AB (DS d l)).find? (SU d)).getD (-1)=n from V.symm];refine Dw (v:=.int .i64 n) rfl rfl g! (.inr (AL m)) ?_;unfold Dl
   go_simp
   have Ia:=(m.block _ (Za.1 t).1).trans t;have fy:=bU U5 m;have bv:=Zd (ZY (HU.out.1.later m) (HU.out.2.later m));have bc:∀b,(T b\/S b)->b<w2.heap.size/\b≠j:=λb a=>⟨by have:=(H.out b a).1;have:=m.size;omega,(H.out b a).2⟩;have NP:=(m.cell (ZH _ _ HC.out)).trans HC.out;have ba:=Zd bc;cases jG:JU d (DS d l) with
   |some x=>
    rw[jG]at V q;have yU:n=x:=V;have Oo:0<=x:=by
     have:x∈AB (DS d l):=List.mem_of_find?_eq_some jG;exact(gt.out x this).1
    subst yU;have bV:=Zd (show Eu c ls=((k:Int),n) by rw[HV.out, <-J.out,q.out]);clear V q jG bc HU bv hv;go_wp2;refine ZN (Eh rfl _ _ _) rfl ?_;exact⟨by rw[bV.out,bi.out];rfl,fy⟩
   |none=>
    rw[jG]at V q;have tE:Eg d l=0:=afz ci.out jG;have Vl:n= -1:=V;subst Vl;have fK:=Zd (aef tE);have gj:=Zd (show abb (FH d l (DS d l)).Aa=abb c.Aa from(abx _ _).trans b8.out);have gn:=Zd (show abq (FH d l (DS d l)) (k+1) (ls.drop (k+1))=abq c 0 ls by rw[<-J.out,q.out]);clear V q jG tE bc hv;go_wp2;obtain⟨x0,x1,x2,x3,x4⟩:=Qc5 Ia;have z0:=λp=>Al p x0;have z1:=λp=>Al p x1;have z2:=λp=>Al p x2;have z3:=λp=>Al p x3;have z4:=λp=>Al p x4;have z5:=λp=>Al p NP;clear x0 x1 x2 x3 x4 NP;refine B0 (S:=λW=>∃p,W=calm w2 p) [6] [(false,5),(false,6)] [0,1,2,3,4] k! (λ_ _ d _ _ h=>by cases d<;>exact h) k! (AL (Zh _ _).drew) ?_;refine A4 _ _ k! ?_;simp only[Z6,zd,ZG,ZD,ZC]
    repeat (first|go_big_quiet_step (fail)|quiet_step (fail))
    refine Z4 ?_;clear z0 z1 z2 z3 z4 z5;change Dl _ _ _ _ _ _ _;have ap:YH w2 w2 w2.drew:=(Zh _ _).drew;refine Dd (f:=39) (args:= #[.agg (Qe6 d R d1 Q d2 P d3 O d4 N d5),.slice ua l.length uc]) rfl rfl g! ((c96 (bv.out.1.later ap) (bv.out.2.later ap) ci.out (λb a=>(ba.out b a).1)).mono ?_);rintro e w3 ⟨u1,u2,u3,u4,u5,rfl,Bv,A⟩;obtain⟨p1,t1,p2,t2,p3,t3,p4,t4,p5,t5,rfl,rfl,rfl,rfl,rfl,_⟩:=A.vs;have C:=bU ap Bv;have I:=(C.block _ (Za.1 Ia).1).trans Ia;refine⟨_,rfl,.inr (AL C),?_⟩;obtain⟨D,hD⟩:=Qnm (FH d l (DS d l));rw[<-hD]at fK gj gn A⊢;clear hD;obtain⟨g0,g1,g2,g3,g4⟩:=Qc5 I;obtain⟨f0,f1,f2,f3,f4⟩:=Qf5 I;obtain⟨Y,hY⟩:=Qnm ((((((w3.setCell j (.slice p1 D.base.length t1)).setCell ⟨j,1,none⟩ (.slice p2 D.Af.length t2)).setCell ⟨j,2,none⟩ (.slice p3 D.hooks.length t3)).setCell ⟨j,3,none⟩ (.slice p4 D.Aa.length t4)).setCell ⟨j,4,none⟩ (.slice p5 D.now.length t5)));have ac:Ak (λy=>y=j) w3 Y:=by rw[hY];exact(Ak.refl (λy=>y=j) w3).DT.DT.DT.DT.DT
    have io:=bU fy C;have fw:Qb6 w Y:=by rw[hY];exact bS (bS (bS (bS (bS io g) g) g) g) g
    have du:Y.heap[j]?=some (.cells (Qe6 D p1 t1 p2 t2 p3 t3 p4 t4 p5 t5) 26 (0,0)):=by rw[hY];exact Ba (Ba (Ba (Ba (Ba I _) _) _) _) _
    refine K8 (w':=Y) rfl rfl (by rw[hY];go_simp) (.inl rfl) ?_;clear hY g0 g1 g2 g3 g4 f0 f1 f2 f3 f4;unfold Dl
    go_simp
    have i8:j<w2:=(Za.1 Ia).1;have Rb:=C.size;have i7:=Bv.size;have am:∀y,((T y\/S y)\/Cb w2.drew w3 y)->y<Y.heap.size/\y≠j:=λy r=>by
     have iX:=ac.size;rcases r with r|r
     .exact⟨by have:=(ba.out y r).1;omega,(ba.out y r).2⟩
     have h1:=r.1;have h2:=r.2;have h3:w2.drew=w2.heap.size:=rfl;exact⟨o!,o!⟩
    have fd:=A.Ar (ac.same λy r=>(am y r).2);have Qs:=Zd (ZY fw (ZY du (ZY fd am)));clear A fd am ac I Ia fw du;go_wp2;go_roundg (ls.length - (k+1))
    case rel=>exact⟨k+1,D,_,p1,p2,p3,p4,p5,t1,t2,t3,t4,t5,G4,rfl,v!,gn.out,fK.out,gj.out,Qs.out.1,Qs.out.2.1,Qs.out.2.2.1,Qs.out.2.2.2⟩
    omega
  have bV:=Zd (show Eu c ls=(-1,-1) by rw[HV.out, <-J.out,Z7.2 o!];rfl);clear ai Z t;go_wp2;refine ZN (Eh rfl _ _ _) rfl ?_;exact⟨by rw[bV.out,bi.out];rfl,U5⟩
 have HE:=Zd (show F2 c ls=z by rw[F2,K4 (by rw[<-U];exact Fl),U]);have HV:=Zd (show Eu c ls=(0,0) by rw[Eu,HE.out,if_neg Fl]);have hq:(z !=0)=true:=by simpa using Fl
 clear U Fl;go_wp2;refine ZN (Eh rfl _ _ _) rfl ?_;exact⟨by rw[HV.out,HE.out];rfl,B⟩
def Dis (u v:Zf):Prop:=∀g,u.ownBlock=some g->v.ownBlock=some g->False
def adf {base:Nat}(h:A.ownsRow base e k v n xs):∀g,v.ownBlock=some g->g<A.heap.size:=λg a=>by
 obtain⟨_,cs,h⟩:=J3 h g a;exact(Za.1 h).1
def adq {base n' k':Nat}{e':Zs}{a:List Zf}(h:A.ownsRow base e k v n xs)(c:B.ownsRow A e' k' v' n' a):Dis v v':=λg b d=>by
 have i:=adf h g b;have f:=(J3 c g d).1;omega
def abh {base:Nat}{t:Zs}(h:A.ownsRow base e k v n xs)(d:Ak (λx=>x=q) A B)(b:A.heap[q]?=some (.cells cs t (0,0)))(c:e≠t):B.ownsRow base e k v n xs:=
 Fc h d λx g a f=>by
  subst f;rw[b]at a;cases a;exact c rfl
def ad2 {base:Nat}(h:A.ownsRow base e k v n xs)(d:Ak (λx=>u.ownBlock=some x) A B)(a:∀g,u.ownBlock=some g->∃cs,A.heap[g]?=some (.cells cs 48 (0,0)))(c:e≠48):B.ownsRow base e k v n xs:=
 Fc h d λx i b f=>by
  obtain⟨cs,a⟩:=a x f;rw[a]at b;cases b;exact c rfl
def abn {base a:Nat}(h:A.ownsRow base e k v n xs)(c:a<=base):A.ownsRow a e k v n xs:=by
 refine⟨h.1,?_⟩;rcases h.2 with b|⟨g,cap,cur,b,f,d⟩
 .exact .inl b
 exact .inr ⟨g,cap,cur,b,Zr c f,d⟩
structure CSp (n M:Nat)(w:Zb)(u1 u2 u3 u4 u5:Zf)(c:A_):Prop where
 base:Own w n u1 c.base
 Af:Ih w n u2 c.Af 67
 hooks:Own w n u3 c.hooks
 now:Own w n u5 c.now
 row:En M w M u4 c.Aa
 le:n<=M
 l1:∀g,u1.ownBlock=some g->g<M
 l2:∀g,u2.ownBlock=some g->g<M
 l3:∀g,u3.ownBlock=some g->g<M
 l5:∀g,u5.ownBlock=some g->g<M
 d13:Dis u1 u3
 d15:Dis u1 u5
 d35:Dis u3 u5
def aeQ (w:Zb)(c:A_)(e:Ending)(w':Zb):Prop:=∃u1 u2 u3 u4 u5 M,e=.returned (.agg #[u1,u2,u3,u4,u5])/\Qb6 w w'/\CSp w M w' u1 u2 u3 u4 u5 c
def aev {l:List (Int×Int)}(a:news.length=l.length*2)(h:∀i x,l[i]?=some x->(news.drop (i*2)).take 2=[.int .i64 x.1,.int .i64 x.2]):news=l.flatMap λp=> [ZL .i64 p.1,.int .i64 p.2]:=by
 induction l generalizing news with
 |nil=>exact YM (by simpa using a)
 |cons p l c=>
  have b:=h 0 p rfl;rw[Nat.zero_mul,List.drop_zero]at b;rw[List.flatMap_cons, <-b, <-c (news:=news.drop 2) (by rw[List.length_drop,a,zb];omega) λi x d=>by
   rw[List.drop_drop,show 2+i*2=(i+1)*2 by omega];exact h (i+1) x (by simpa using d)]
  exact(List.take_append_drop 2 news).symm
def amr {l:List (Int×Int)}(h:Sl S Rp 2 w v l)(m:l.length<=1000):Calls Lp 29 #[v] w λe w'=>∃u,e=.returned u/\Qb6 w w'/\Ih w' w u l 67:=by
 obtain⟨a,c,rfl,L,K⟩:=h.val;obtain⟨s,hi,H,J,I⟩:=zp Wu;have t:=Cz Zdg;cases a with
 |none=>
  have y:l=[]:=by
   cases l with
   |nil=>rfl
   |cons x r=>
    obtain⟨N,M,i,_,_,C⟩:=h;cases i;obtain⟨b,o,cs,e,_⟩:=C 0 x rfl;cases e
  subst y;go_enter Lp.func40,n40;go_wp2;go_ret;exact⟨_,rfl,bA (Zh _ _),YC w #[] 0 (Zj _) (Zp _) rfl⟩
 |some p=>
  obtain⟨news,f,g,n⟩:=Sl.row h d! p rfl;have i:=row_one d! f g bC;have F:=Zd n;have D:=Zd g;clear n g;go_enter Lp.func40,n40;go_wp2_with (at_builtin;refine Yc _ rfl _ _ 23 rfl w 67 s (.agg #[.int .i64 0,.int .i64 0]) 2 16 t (Dz hi) H J I rfl d! _ 0 [] rfl (YC w #[] 0 (Zj _) (Zp _) rfl) p l.length c news rfl f (λj u A=>ca (F.out j u A) _) i u! o! i! ?_;intro v' w1 d q G);have B:Qb6 w w1:=Bm (bA (Zh _ _)) q (λk z=>by cases z;exact Zj _) i!;rw[zN,zP]at d;rw[aev f D.out]at d;have E:=Zd d;clear d q G;go_ret;exact⟨_,rfl,B,E.out⟩
structure CRs (w:Zb)(n0 M q:Nat)(xs:Array Zf)(s1 s2 s3 s5:Zf)(c:A_)(k:Nat)(v4:Zf)(wr:Zb):Prop where
 below:Qb6 w wr
 box:wr.heap[w.heap.size]?=some (.cells xs 26 (0,0))
 res:wr.heap[w.heap.size+1]?=some (.cells Qz6 26 (0,0))
 qx:wr.heap[q]?=some (.cells #[s1,s2,s3,v4,s5] 26 (0,0))
 base:Own wr n0 s1 c.base
 Af:Ih wr n0 s2 c.Af 67
 hooks:Own wr n0 s3 c.hooks
 now:Own wr n0 s5 c.now
 row:En M wr M v4 (c.Aa.take k)
 z:M<=wr.heap.size
def amt (h:RC S w v1 v2 v3 v4 v5 c)(hS:Ql6 S w)(ig:c.base.length<=1000)(bv:c.Af.length<=1000)(bi:c.hooks.length<=1000)(Xm:c.Aa.length<=1000)(UO:c.now.length<=1000)(xB:∀i,i<c.Aa.length->(Aj c.Aa i).Ap.length<=1000/\(Aj c.Aa i).over.length<=1000):
  Calls Lp 12 #[.agg #[v1,v2,v3,v4,v5]] w (aeQ w c):=by
 obtain⟨a1,c1,a2,c2,a3,c3,a4,c4,a5,c5,rfl,rfl,rfl,rfl,rfl,l1,m1,l2,m2,l3,m3,l4,m4,l5,m5⟩:=h.vs;have IX:=DJ;go_enter Lp.func33,n33;go_wp2;obtain⟨B,Hv⟩:=Qnm ((w.alloc (.cells (Qe6 c a1 c1 a2 c2 a3 c3 a4 c4 a5 c5) 26)).alloc (.cells Qz6 26));have Y:Qb6 w B:=by rw[Hv];exact bA (bA (Zh _ _))
 have F1:B.heap[w.heap.size]?=some (.cells (Qe6 c a1 c1 a2 c2 a3 c3 a4 c4 a5 c5) 26 (0,0)):=by rw[Hv];exact Bf (Bp _ _) _
 have O9:B.heap[w.heap.size+1]?=some (.cells Qz6 26 (0,0)):=by rw[Hv];exact Jq _ _ _
 rw[<-Hv];clear Hv;have be:w+1<B.heap.size:=(Za.1 O9).1;refine Code.wp_mono (Q:=λe a' V=>e=.normal/\∃(q:Nat) (G I F E:Option Addr) (d1 d2 d3 H:Nat) (x5 x6 x7 x8 x9 jX Qj ai MH Lx Ly K0 K1:Zf),a'= {tmps:= #[.agg #[.slice a1 c.base.length c1,.slice a2 c.Af.length c2,.slice a3 c.hooks.length c3,.slice a4 c.Aa.length c4,.slice a5 c.now.length c5],.pointer w,.pointer (w+1:Nat),.pointer q,Ze,x5,x6,x7,x8,x9,jX,Qj,ai,MH,Lx,Ly,K0,K1,Ze,Ze,Ze,Ze,Ze,Ze,Ze,Ze,Ze,Ze,Ze,Ze,Ze,Ze,Ze,Ze,Ze,Ze,Ze],defers:=[]}/\w+1<q/\Qb6 B V/\V.heap[q]?=some (.cells #[.slice G c.base.length d1,.slice I c.Af.length d2,.slice F c.hooks.length d3,(),.slice E c.now.length H] 26 (0,0))/\Own V B (.slice G c.base.length d1) c.base/\Ih V B (.slice I c.Af.length d2) c.Af 67/\Own V B (.slice F c.hooks.length d3) c.hooks/\Own V B (.slice E c.now.length H) c.now/\Dis (.slice G c.base.length d1) (.slice F c.hooks.length d3)/\Dis (.slice G c.base.length d1) (.slice E c.now.length H)/\Dis (.slice F c.hooks.length d3) (.slice E c.now.length H)) ?rest ?first
 case first=>
  have z0:=λp=>Al p (ch (i:=0) F1 (v:=.slice a1 c.base.length c1) rfl);have z1:=λp=>Al p (ch (i:=1) F1 (v:=.slice a2 c.Af.length c2) rfl);have z2:=λp=>Al p (ch (i:=2) F1 (v:=.slice a3 c.hooks.length c3) rfl);have z4:=λp=>Al p (ch (i:=4) F1 (v:=.slice a5 c.now.length c5) rfl);refine G6 (S:=λW=>∃p,W=calm B p) [0,1,3,4,6,7,9,10] 7 #[true,true,false,true,true,false,true,true,false,true,true,false,false,false,false] k! (λ_ _ _ _ _ h=>nomatch h.1) k! (AL (Zh _ _).drew) ?_;refine A4 _ _ k! ?_;simp only[Z6,zd,ZG,ZD,ZC]
  repeat (first|go_big_quiet_step (fail)|quiet_step (fail))
  refine Z4 ?_;clear z0 z1 z2 z4;change Cy _ _ _ _ _ _ _ _ _;obtain⟨V,hV⟩:=Qnm B.drew;have b:Qb6 B V:=by rw[hV];exact(Zh _ _).drew
  rw[<-hV];clear hV;have l:=Yz;have r:=Yz;have t:=Yz;have n3:=Yz;have s:=Yz;refine AK [2,13] k! i! (Ix ?gA2 ?gB2)
  case' gB2=>
   refine EX (v:=.pointer V) (w':=V.alloc (.cells Qz6 26)) rfl rfl g! ?_;obtain⟨o,m⟩:=Qnm (V.alloc (.cells Qz6 26));have a:Qb6 V o:=by rw[m];exact bA (Zh _ _)
   have l:o.heap[V.heap.size]?=some (.cells Qz6 26 (0,0)):=by rw[m];exact Bp _ _
   have D:=b.size;obtain⟨q,z⟩:=Qnm V.heap.size;rw[<-z]at l D
   try (have r:=Fu r a)
   try (have t:=Fu t a)
   try (have n3:=Fu n3 a)
   try (have s:=Fu s a)
   have b:=b.trans (a.mono b.size);rw[<-m, <-z];refine⟨AL b,?_⟩;clear a z m;obtain⟨V,P⟩:∃U,U=o:=⟨_,rfl⟩;subst P;refine AK [2] k! i! (BF ?_)
  all_goals
   refine DK (f:=11) (args:= #[.slice a1 c.base.length c1]) rfl rfl g! ((WO (h.later (Y.trans (b.mono Y.size))).base ig).mono ?_);rintro e V ⟨u,rfl,a,y⟩;have r:=abn y b.size;obtain⟨G,d1,rfl,_,_⟩:=JS y;clear y
   try (have l:=(a.block _ (Za.1 l).1).trans l)
   try (have t:=Fu t a)
   try (have n3:=Fu n3 a)
   try (have s:=Fu s a)
   have b:=b.trans (a.mono b.size);refine .inl ⟨_,rfl,AL b,?_⟩;clear a
  all_goals first
   |(have kL:=Za.1 l;clear kL;refine AK [5] k! i! (BF ?_))
   |(refine AK [5,13] k! i! (Ix ?gA5 ?gB5)
     case' gB5=>
      refine EX (v:=.pointer V) (w':=V.alloc (.cells Qz6 26)) rfl rfl g! ?_;obtain⟨o,m⟩:=Qnm (V.alloc (.cells Qz6 26));have a:Qb6 V o:=by rw[m];exact bA (Zh _ _)
      have l:o.heap[V.heap.size]?=some (.cells Qz6 26 (0,0)):=by rw[m];exact Bp _ _
      have D:=b.size;obtain⟨q,z⟩:=Qnm V.heap.size;rw[<-z]at l D
      try (have r:=Fu r a)
      try (have t:=Fu t a)
      try (have n3:=Fu n3 a)
      try (have s:=Fu s a)
      have b:=b.trans (a.mono b.size);rw[<-m, <-z];refine⟨AL b,?_⟩;clear a z m;obtain⟨V,P⟩:∃U,U=o:=⟨_,rfl⟩;subst P;refine AK [5] k! i! (BF ?_))
  all_goals
   refine DK (f:=29) (args:= #[.slice a2 c.Af.length c2]) rfl rfl g! ((amr (h.later (Y.trans (b.mono Y.size))).Af bv).mono ?_);rintro e V ⟨u,rfl,a,y⟩;have t:=abn y b.size;obtain⟨I,d2,rfl,_,_⟩:=JS y;clear y
   try (have l:=(a.block _ (Za.1 l).1).trans l)
   try (have r:=Fu r a)
   try (have n3:=Fu n3 a)
   try (have s:=Fu s a)
   have b:=b.trans (a.mono b.size);refine .inl ⟨_,rfl,AL b,?_⟩;clear a
  all_goals first
   |(have kL:=Za.1 l;clear kL;refine AK [8] k! i! (BF ?_))
   |(refine AK [8,13] k! i! (Ix ?gA8 ?gB8)
     case' gB8=>
      refine EX (v:=.pointer V) (w':=V.alloc (.cells Qz6 26)) rfl rfl g! ?_;obtain⟨o,m⟩:=Qnm (V.alloc (.cells Qz6 26));have a:Qb6 V o:=by rw[m];exact bA (Zh _ _)
      have l:o.heap[V.heap.size]?=some (.cells Qz6 26 (0,0)):=by rw[m];exact Bp _ _
      have D:=b.size;obtain⟨q,z⟩:=Qnm V.heap.size;rw[<-z]at l D
      try (have r:=Fu r a)
      try (have t:=Fu t a)
      try (have n3:=Fu n3 a)
      try (have s:=Fu s a)
      have b:=b.trans (a.mono b.size);rw[<-m, <-z];refine⟨AL b,?_⟩;clear a z m;obtain⟨V,P⟩:∃U,U=o:=⟨_,rfl⟩;subst P;refine AK [8] k! i! (BF ?_))
  all_goals
   refine DK (f:=11) (args:= #[.slice a3 c.hooks.length c3]) rfl rfl g! ((WO (h.later (Y.trans (b.mono Y.size))).hooks bi).mono ?_);rintro e V ⟨u,rfl,a,y⟩;have n3:=abn y b.size;obtain⟨F,d3,rfl,_,_⟩:=JS y;have O:=adq r y;clear y
   try (have l:=(a.block _ (Za.1 l).1).trans l)
   try (have r:=Fu r a)
   try (have t:=Fu t a)
   try (have s:=Fu s a)
   have b:=b.trans (a.mono b.size);refine .inl ⟨_,rfl,AL b,?_⟩;clear a
  all_goals first
   |(have kL:=Za.1 l;clear kL;refine AK [11] k! i! (BF ?_))
   |(refine AK [11,13] k! i! (Ix ?gA11 ?gB11)
     case' gB11=>
      refine EX (v:=.pointer V) (w':=V.alloc (.cells Qz6 26)) rfl rfl g! ?_;obtain⟨o,m⟩:=Qnm (V.alloc (.cells Qz6 26));have a:Qb6 V o:=by rw[m];exact bA (Zh _ _)
      have l:o.heap[V.heap.size]?=some (.cells Qz6 26 (0,0)):=by rw[m];exact Bp _ _
      have D:=b.size;obtain⟨q,z⟩:=Qnm V.heap.size;rw[<-z]at l D
      try (have r:=Fu r a)
      try (have t:=Fu t a)
      try (have n3:=Fu n3 a)
      try (have s:=Fu s a)
      have b:=b.trans (a.mono b.size);rw[<-m, <-z];refine⟨AL b,?_⟩;clear a z m;obtain⟨V,P⟩:∃U,U=o:=⟨_,rfl⟩;subst P;refine AK [11] k! i! (BF ?_))
  all_goals
   refine DK (f:=11) (args:= #[.slice a5 c.now.length c5]) rfl rfl g! ((WO (h.later (Y.trans (b.mono Y.size))).now UO).mono ?_);rintro e V ⟨u,rfl,a,y⟩;have s:=abn y b.size;obtain⟨E,H,rfl,_,_⟩:=JS y;have N:=adq r y;have L:=adq n3 y;clear y
   try (have l:=(a.block _ (Za.1 l).1).trans l)
   try (have r:=Fu r a)
   try (have t:=Fu t a)
   try (have n3:=Fu n3 a)
   have b:=b.trans (a.mono b.size);refine .inl ⟨_,rfl,AL b,?_⟩;clear a
  all_goals first
   |(have kL:=Za.1 l;clear kL;refine AK [12] k! i! (BF ?_)
     refine EX (v:=.agg #[.slice G c.base.length d1,.slice I c.Af.length d2,.slice F c.hooks.length d3,(),.slice E c.now.length H]) (w':=V) rfl rfl g! ?_;refine⟨AL b,?_⟩)
   |(refine AK [12,13] k! i! (Ix ?gA12 ?gB12)
     case' gB12=>
      refine EX (v:=.pointer V) (w':=V.alloc (.cells Qz6 26)) rfl rfl g! ?_;obtain⟨o,m⟩:=Qnm (V.alloc (.cells Qz6 26));have a:Qb6 V o:=by rw[m];exact bA (Zh _ _)
      have l:o.heap[V.heap.size]?=some (.cells Qz6 26 (0,0)):=by rw[m];exact Bp _ _
      have D:=b.size;obtain⟨q,z⟩:=Qnm V.heap.size;rw[<-z]at l D
      try (have r:=Fu r a)
      try (have t:=Fu t a)
      try (have n3:=Fu n3 a)
      try (have s:=Fu s a)
      have b:=b.trans (a.mono b.size);rw[<-m, <-z];refine⟨AL b,?_⟩;clear a z m;obtain⟨V,P⟩:∃U,U=o:=⟨_,rfl⟩;subst P;refine AK [12] k! i! (BF ?_);refine EX (v:=.agg #[.slice G c.base.length d1,.slice I c.Af.length d2,.slice F c.hooks.length d3,(),.slice E c.now.length H]) (w':=V) rfl rfl g! ?_;refine⟨AL b,?_⟩
     case' gA12=>
      refine EX (v:=.agg #[.slice G c.base.length d1,.slice I c.Af.length d2,.slice F c.hooks.length d3,(),.slice E c.now.length H]) (w':=V) rfl rfl g! ?_;refine⟨AL b,?_⟩;refine AK [13] k! i! (BF ?_);refine EX (v:=.pointer V) (w':=V.alloc (.cells Qz6 26)) rfl rfl g! ?_;obtain⟨o,m⟩:=Qnm (V.alloc (.cells Qz6 26));have a:Qb6 V o:=by rw[m];exact bA (Zh _ _)
      have l:o.heap[V.heap.size]?=some (.cells Qz6 26 (0,0)):=by rw[m];exact Bp _ _
      have D:=b.size;obtain⟨q,z⟩:=Qnm V.heap.size;rw[<-z]at l D
      try (have r:=Fu r a)
      try (have t:=Fu t a)
      try (have n3:=Fu n3 a)
      try (have s:=Fu s a)
      have b:=b.trans (a.mono b.size);rw[<-m, <-z];refine⟨AL b,?_⟩;clear a z m;obtain⟨V,P⟩:∃U,U=o:=⟨_,rfl⟩;subst P)
  all_goals
   refine AK [14] k! i! (BF ?_);obtain⟨g0,g1,g2,g3,g4⟩:=Qc5 l;obtain⟨f0,f1,f2,f3,f4⟩:=Qf5 l;obtain⟨o,m⟩:=Qnm (((((V.setCell q (.slice G c.base.length d1)).setCell ⟨q,1,none⟩ (.slice I c.Af.length d2)).setCell ⟨q,2,none⟩ (.slice F c.hooks.length d3)).setCell ⟨q,3,none⟩ ()).setCell ⟨q,4,none⟩ (.slice E c.now.length H));refine Rj (w':=o) rfl rfl (by rw[m];go_simp) ?_;have an:Qb6 B o:=by rw[m];exact bS (bS (bS (bS (bS b D) D) D) D) D
   have hT:Ak (λx=>x=q) V o:=by rw[m];exact(Ak.refl (λx=>x=q) V).DT.DT.DT.DT.DT
   refine⟨AL an,rfl,?_⟩;exact⟨rfl,q,G,I,F,E,d1,d2,d3,H,_,_,_,_,_,_,_,_,_,_,_,_,_,rfl,o!,an,by rw[m];exact Ba (Ba (Ba (Ba (Ba l _) _) _) _) _,abh r hT l d!,abh t hT l d!,abh n3 hT l d!,abh s hT l d!,O,N,L⟩
 rintro e a' V ⟨rfl,q,G,I,F,E,d1,d2,d3,H,x5,x6,x7,x8,x9,jX,Qj,ai,MH,Lx,Ly,K0,K1,rfl,D,b,l,r,t,n3,s,O,N,L⟩;obtain⟨M,hM⟩:=Qnm V.heap.size;have ct:B<=M:=by rw[hM];exact b.size
 have L1:=adf r;have L2:=adf t;have L3:=adf n3;have T:=adf s;rw[<-hM]at L1 L2 L3 T;have HD:=Zd (ZY L1 (ZY L2 (ZY L3 (ZY T (ZY O (ZY N L))))));clear L1 L2 L3 T O N L;have bV:CRs w B M q #[.slice a1 c.base.length c1,.slice a2 c.Af.length c2,.slice a3 c.hooks.length c3,.slice a4 c.Aa.length c4,.slice a5 c.now.length c5] (.slice G c.base.length d1) (.slice I c.Af.length d2) (.slice F c.hooks.length d3) (.slice E c.now.length H) c 0 () V:=
  ⟨Y.trans (b.mono Y.size),(b.block _ (Za.1 F1).1).trans F1,(b.block _ be).trans O9,l,r,t,n3,s,⟨[],zq _ _ _ _,λi x hx=>by cases hx⟩,ZcS hM⟩
 clear hM b l r t n3 s F1 O9 Y;dsimp only;go_wp2;go_loopg [4] c.Aa.length (λg i wr=>∃(k:Nat) (v4:Zf),k<=c.Aa.length/\g=c.Aa.length - k/\i=.int .i64 k/\CRs w B M q #[.slice a1 c.base.length c1,.slice a2 c.Af.length c2,.slice a3 c.hooks.length c3,.slice a4 c.Aa.length c4,.slice a5 c.now.length c5] (.slice G c.base.length d1) (.slice I c.Af.length d2) (.slice F c.hooks.length d3) (.slice E c.now.length H) c k v4 wr)
 case atStart=>exact⟨0,_,Zp _,rfl,rfl,bV⟩
 obtain⟨k,v4,hk,rfl,rfl,n⟩:=hrel;obtain⟨sl,NK⟩:=Qnm (c.Aa.take k);have ac:sl.length=k:=by rw[NK];simp;omega
 have Ci:=n.row;rw[<-NK]at Ci;obtain⟨va,Z,rfl,_⟩:=Ci.val;rw[ac]at n Ci;by_cases Az:k<c.Aa.length
 .obtain⟨b4,o4,s2,s3,rfl,UQ,x0,x1,x2,x3,x4,hp,ho⟩:=h.Aa.at_ (i:=k) Az
  have Ga:∀j u,w.cell? ⟨b4,j,none⟩=some u->wr.cell? ⟨b4,j,none⟩=some u:=λj u y=>(n.below.cell (p:=⟨b4,j,none⟩) (hS b4 UQ)).trans y;replace x0:=Ga _ _ x0;replace x1:=Ga _ _ x1;replace x2:=Ga _ _ x2;replace x3:=Ga _ _ x3;replace x4:=Ga _ _ x4;clear Ga;replace hp:=hp.later n.below;replace ho:=ho.later n.below;obtain⟨Oq,Qm⟩:=xB k Az;obtain⟨sm,Qh⟩:=Qnm (Aj c.Aa k);have ci:=Zd (show c.Aa.take (k+1)=sl++ [sm] by rw[NK,Qh,ZbH,Db Az];rfl);rw[<-Qh]at x0 x1 x4 hp ho Oq Qm;clear Qh NK;obtain⟨low,C,Ap,over,left⟩:=sm;dsimp only at x0 x1 x4 hp ho Oq Qm;obtain⟨a6,c6,rfl,l6,m6⟩:=hp.val;obtain⟨a7,c7,rfl,l7,m7⟩:=ho.val;obtain⟨K,Ig⟩:∃K:Nat->Prop,K=λx=>x≠q/\w+1<x:=⟨_,rfl⟩;have LP:∀x,w.heap.size+1<x->x≠q->K x:=λx hx l=>by rw[Ig];exact⟨l,hx⟩
  have qF:¬K w:=by rw[Ig];intro x;omega
  have l_:¬K (w+1):=by rw[Ig];intro x;omega
  have Tg:¬K q:=by rw[Ig];exact λx=>x.1 rfl
  have Qn:¬K b4:=by rw[Ig];intro x;have:=hS b4 UQ;omega
  clear Ig;have z0:=λp:Tw K wr=>p.cell (ch (i:=3) n.box (v:=.slice (some ⟨b4,o4,none⟩) c.Aa.length c4) rfl) qF;have z1:=λp:Tw K wr=>p.cell (ch (i:=3) n.qx (v:=.slice va k Z) rfl) Tg;have y0:=λp:Tw K wr=>p.cell x0 Qn;have y1:=λp:Tw K wr=>p.cell x1 Qn;have y2:=λp:Tw K wr=>p.cell x2 Qn;have y3:=λp:Tw K wr=>p.cell x3 Qn;have y4:=λp:Tw K wr=>p.cell x4 Qn;have TB:(k:Int)<(c.Aa.length:Int):=o!
  have dl:(0:Int)<=(k:Int):=o!
  have kD:q<wr:=(Za.1 n.qx).1;have kx:=ch (i:=3) n.box (v:=.slice (some ⟨b4,o4,none⟩) c.Aa.length c4) rfl;have bG:=n.below.size;have DR:w+1<wr.heap.size:=(Za.1 n.res).1;have Rb:M<=wr.heap.size:=n.z;go_wp2;clear kx;refine B0 (S:=λW=>∃p:Tw K wr,W=p.v) [11] [(false,7),(false,8),(false,9),(false,10),(false,11)] [0,1,2,3,4,5,6] k! (λ_ _ d _ _ h=>by cases d<;>exact h) k! (A5 (Ak.later (Zh _ _).drew)) ?_;refine A4 _ _ k! ?_;simp only[Z6,zd,ZG,ZD,ZC]
  repeat (first|go_big_quiet_step (fail)|quiet_step (fail))
  refine Z4 ?_;clear z0 z1 y0 y1 y2 y3 y4 x0 x1 x2 x3 x4;change Dl _ _ _ _ _ _ _;have Uh:YH wr wr wr.drew:=(Zh _ _).drew;refine Dd (f:=26) (args:= #[.agg #[.int .i64 low,.int .i64 C,.slice a6 Ap.length c6,.slice a7 over.length c7,.int .i64 left]]) rfl rfl g! ((aoP (hp.later Uh) (ho.later Uh) Oq Qm).mono ?_);rintro e w1 ⟨u2,u3,rfl,Bg,Hb,Lb⟩;have cu:Qb6 wr w1:=Uh.trans (Bg.mono (Zj _));have Kd:Ak K wr w1:=Ak.later cu;refine⟨_,rfl,.inr (A5 Kd),?_⟩;have Hb:SP (TT wr w1) w1 u2 Ap:=Hb;have Lb:SI (TT wr w1) w1 u3 over:=Own.tt Lb;obtain⟨p6,t6,rfl,_⟩:=Hb.val;obtain⟨p7,t7,rfl,_⟩:=Lb.val;obtain⟨uT,uU⟩:=Qnm (w1.alloc (.cells #[.int .i64 low,.int .i64 C,.slice p6 Ap.length t6,.slice p7 over.length t7,.int .i64 left] 48));have Vn:Qb6 w1 uT:=by rw[uU];exact bA (Zh _ _)
  have Jp:=cu.trans (Vn.mono cu.size);have WQ:Ak K wr uT:=Ak.later Jp;refine JZ (v:=.slice w1 1 1) (w':=uT) rfl rfl (by rw[uU];go_simp) (.inr (A5 WQ)) ?_;obtain⟨am,AX,DF⟩:=Ci.later Jp;rw[ac]at AX;obtain⟨i0,hi,eL,k9,b9⟩:=zp eI;have b8:=Cz Tryz.underlying24;refine PW rfl rfl ?_;refine Zak _ _ _ 24 rfl M 48 i0 (.agg #[.int .i64 0,.int .i64 0,(),(),.int .i64 0]) 5 72 b8 (Dz hi) eL k9 b9 rfl d! _ k am rfl AX w1 1 1 [.int .i64 low,.int .i64 C,.slice p6 Ap.length t6,.slice p7 over.length t7,.int .i64 left] rfl rfl (by rw[uU];exact Hc _ _ _) (by intro u y;simp at y;rcases y with rfl|rfl|rfl|rfl|rfl<;>rfl) u! o! (by have:=Jp.size;omega) ?_;intro v' w2 Cm AG Gc;have Em:∀g,(Zy va k Z).ownBlock=some g->M<=g/\∃cs,wr.heap[g]?=some (.cells cs 48 (0,0)):=Ci.own;have Js:Ak (λx=>(Zy va k Z).ownBlock=some x) uT w2:=Ak.grown AG λg J=>J;have D3:Ak K wr w2:=WQ.trans (Ak.grown AG λg J=>by
   obtain⟨h1,cs,h2⟩:=Em g J;exact LP g o! (λe=>by subst e;rw[n.qx]at h2;cases h2))
  refine⟨.inr (A5 D3),?_⟩;obtain⟨g',Ey,rfl⟩:=Zay Cm;have M9:=(D3.block q kD Tg).trans n.qx;have f3:=cf (i:=3) M9;have e3:=ch (i:=3) M9 (v:=.slice va k Z) rfl;refine Dw (v:=.pointer (some ⟨q,3,none⟩)) rfl rfl g! (.inr (A5 D3)) ?_;refine K8 (w':=w2.setCell ⟨q,3,none⟩ (.slice g' (k+1) Ey)) rfl rfl g! (.inl rfl) ?_;have bM:CRs w B M q #[.slice a1 c.base.length c1,.slice a2 c.Af.length c2,.slice a3 c.hooks.length c3,.slice (some ⟨b4,o4,none⟩) c.Aa.length c4,.slice a5 c.now.length c5] (.slice G c.base.length d1) (.slice I c.Af.length d2) (.slice F c.hooks.length d3) (.slice E c.now.length H) c (k+1) (.slice g' (k+1) Ey) (w2.setCell ⟨q,3,none⟩ (.slice g' (k+1) Ey)):=by
   have Th:Ak (λx=>x=q) w2 (w2.setCell ⟨q,3,none⟩ (.slice g' (k+1) Ey)):=(Ak.refl (λx=>x=q) w2).DT;have ba:∀x,TT M w2 x->¬x=q:=λx hx e=>TT.not (e▸hx) M9 ⟨d!,d!,d!⟩;have bc:∀ {A:Zb} (hA:∀g cs,wr.heap[g]?=some (Zbi cs 48 (0,0))->A.heap[g]?=some (Zbi cs 48 (0,0))) x,TT M A x->¬(Zy va k Z).ownBlock=some x:=λhA x hx e=>by
    obtain⟨_,cs,h2⟩:=Em x e;exact TT.not hx (hA x cs h2) ⟨d!,d!,d!⟩
   have R:Ak (λx=>(Zy va k Z).ownBlock=some x) wr w2:=((Ak.later Jp).mono λ_ x=>x).trans Js;have mW:∀g,(Zy va k Z).ownBlock=some g->∃cs,wr.heap[g]?=some (.cells cs 48 (0,0)):=λg J=>(Em g J).2;have rK:=bc (A:=uT) (λg cs h=>(Jp.block g (Za.1 h).1).trans h);refine⟨?_,?_,?_,Ba M9 _,abh (ad2 n.base R mW d!) Th M9 d!,abh (ad2 n.Af R mW d!) Th M9 d!,abh (ad2 n.hooks R mW d!) Th M9 d!,abh (ad2 n.now R mW d!) Th M9 d!,?_,by have:=R.size;simp;omega⟩
   .exact bS ((n.below.trans (Jp.mono n.below.size)).trans (Js.below (λg J=>by have:=(Em g J).1;omega) (by have:=Jp.size;omega))) o!
   .exact(AZ o! _).trans ((D3.block _ o! qF).trans n.box)
   .exact(AZ o! _).trans ((D3.block _ DR l_).trans n.res)
   rw[ci.out];refine En.CN (A:=w2) ?_ Th ba (λg J e=>by
    cases J;subst e;rcases Cm.2 with⟨e,_⟩|⟨g,cap,cur,e,_,h3,_⟩
    .cases e
    cases e;rw[M9]at h3;cases h3)
   rw[show k+1=sl.length+1 by rw[ac]]at*;have xG:Rs (TT M uT) uT [.int .i64 low,.int .i64 C,.slice p6 Ap.length t6,.slice p7 over.length t7,.int .i64 left] ⟨low,C,Ap,over,left⟩:=⟨_,_,rfl,Ug (M6 Hb Vn) Rb,LQ (Ei Lb Vn) Rb⟩;exact En.snoc (λi x hi=>xR (DF i x hi) Js rK) (by have:=AX.1;rw[this,ac]) rfl (xR xG Js rK) Cm
  have ck:=Zd bM;clear bM n D3 Js WQ Kd Jp Vn uU Bg cu Hb Lb AX Cm DF AG Gc Em Ci f3 e3 M9 hp ho;unfold Dl
  go_simp
  go_wp2;go_roundg (c.Aa.length - (k+1))
  case rel=>exact⟨k+1,_,Az,rfl,v!,ck.out⟩
  omega
 have T5:k=c.Aa.length:=o!
 rw[T5,ZcU]at NK;subst NK;subst T5;have kx:=ch (i:=3) n.box (v:=.slice a4 c.Aa.length c4) rfl;obtain⟨s0,s1,s2,s3,s4⟩:=Qc5 n.qx;obtain⟨f0,f1,f2,f3,f4⟩:=Qf5 n.res;obtain⟨r0,r1,r2,r3,r4⟩:=Qc5 n.res;have kD:q<wr:=(Za.1 n.qx).1;have bG:=n.below.size;have DR:w+1<wr.heap.size:=(Za.1 n.res).1;have HC:=Zd n;have HR:=Zd Ci;clear n Ci;go_wp2;refine ZN (v:=.agg #[.slice G c.base.length d1,.slice I c.Af.length d2,.slice F c.hooks.length d3,.slice va c.Aa.length Z,.slice E c.now.length H]) (by rw[A8 rfl];go_simp) rfl ?_;have ap:∀X,Qb6 w X->Ak (λx=>x=w.heap.size+1) wr X->aeQ w c (.returned (.agg #[.slice G c.base.length d1,.slice I c.Af.length d2,.slice F c.hooks.length d3,.slice va c.Aa.length Z,.slice E c.now.length H])) X:=λX Ov Pc=>by
  have hn:∀x,TT M wr x->¬x=w+1:=λx hx e=>by have:=hx.1;omega
  have mM:w<=B.heap.size:=o!
  have J:∀g,(Zy va c.Aa.length Z).ownBlock=some g->¬g=w+1:=λg J e=>by have:=(HR.out.own g J).1;omega
  obtain⟨L1,L2,L3,T,O,N,L⟩:=HD.out;exact⟨_,_,_,_,_,M,rfl,Ov,abn (abh HC.out.base Pc HC.out.res d!) mM,abn (abh HC.out.Af Pc HC.out.res d!) mM,abn (abh HC.out.hooks Pc HC.out.res d!) mM,abn (abh HC.out.now Pc HC.out.res d!) mM,HR.out.CN Pc hn J,o!,L1,L2,L3,T,O,N,L⟩
 have Lc:=HC.out.below;refine ap _ ?_ ?_
 .repeat (with_reducible first|exact Lc|(refine bS ?_ o!))
 repeat (with_reducible first|exact Ak.refl _ _|(refine Ak.DT ?_))
def CSp.rc {u3:Zf}(h:CSp n M w u1 u2 u3 u4 u5 c):RC (Cb n w) w u1 u2 u3 u4 u5 c:=
 ⟨h.base.si,Sl.imp (h.Af.tt (.inr (.inr rfl))) (λb a=>a.new) λ_ _ x=>x,h.hooks.si,(h.row.ss (Zj _)).imp (λb a=>⟨Zr h.le a.1,a.2⟩) λ_ _ ⟨v2,v3,e,f,d⟩=>⟨v2,v3,e,Sl.imp f (λb a=>⟨Zr h.le a.1,a.2⟩) λ_ _ x=>x,Sl.imp d (λb a=>⟨Zr h.le a.1,a.2⟩) λ_ _ x=>x⟩,h.now.si⟩
def af9 (S:Nat->Prop)(w:Zb)(cs:List Zf)(x:A_):Prop:=∃v1 v2 v3 v4 v5,cs=[v1,v2,v3,v4,v5]/\RC S w v1 v2 v3 v4 v5 x
def ahP (S:Nat->Prop)(w:Zb)(b:Nat)(lv:Zf)(d:Nat)(c:A_)(e:Ending)(w':Zb):Prop:=
 ∃(f a:A_) (q g:Nat),e=.returned (.slice q 4 4)/\B3 b w w'/\BK w' b lv g/\g<=d+2000/\H6 f/\abK a/\w<=q/\Sl (λx=>S x\/Cb w w' x) (af9 λx=>S x\/Cb w w' x) 5 w' (.slice q 4 4) [c,f,a,f]
def aeC (b:l.Pairwise (· < ·))(a:∀x∈l,0<=x/\x<3):l.length<=3:=(show∀l∈Lj,l.length<=3 by decide) l (EM b a)
def adL (h:BN c=0):∀i,i<c.Aa.length->(Aj c.Aa i).over.length<=3:=λi hi=>by
 have d:=(Bj (Bj h).2).2;have e:=(JQ (Bj (Bj h).2).1).2;have a:=adG (Bj d).1 (Aj c.Aa i) (Z3 (Db hi));exact aeC a.1 λx b=>by have:=a.2 x b;omega
def H6.small (h:H6 c):abK c:=
 ⟨by have:=h.Fp;omega,by have:=h.PN;have:=h.Fp;omega,by have:=h.hooks;have:=h.Fp;omega,by have:=h.few;omega,by have:=h.now.1;have:=h.few;omega,λi hi=>⟨by have:=(h.seam i hi).few;omega,by have:=adL h.begin i hi;omega⟩⟩
def afN {l:List Ay}:Aj (l.set k s) j=if j=k/\k<l.length then s else Aj l j:=by
 unfold Aj;by_cases e:j=k
 .subst e
  by_cases a:j<l.length
  .simp[Y6,a]
  simp[Y6,a]
 rw[if_neg (λx=>e x.1),Y6,ZS (λx=>e x.symm),Y6]
def abK.put (h:abK c)(b:s.Ap.length<=20/\s.over.length<=20):abK {c with Aa:=c.Aa.set i s}:=
 ⟨h.base,h.Af,h.hooks,by rw[ZcC];exact h.Aa,h.now,λj a=>by
  rw[ZcC]at a;rw[afN];split
  .exact b
  exact h.part j a⟩
def CSp.CN {u3:Zf}(h:CSp n M A u1 u2 u3 u4 u5 c)(b:Ak T A B)(a:∀x,n<=x->¬T x):CSp n M B u1 u2 u3 u4 u5 c:=
 ⟨CO b a h.base,CO b a h.Af,CO b a h.hooks,CO b a h.now,h.row.CN b (λx d=>a x (Zr h.le d.1)) (λg e=>a g (Zr h.le (h.row.own g e).1)),h.le,h.l1,h.l2,h.l3,h.l5,h.d13,h.d15,h.d35⟩
def CSp.later {u3:Zf}(h:CSp n M A u1 u2 u3 u4 u5 c)(a:Qb6 A B):CSp n M B u1 u2 u3 u4 u5 c:=h.CN (T:=λ_=>False) (Ak.later a) λ_ _ x=>x
def CSp.box {u3:Zf}(h:CSp n M A u1 u2 u3 u4 u5 c)(b:Ak (λx=>x=q) A B)(a:A.heap[q]?=some (.cells cs 26 (0,0))):CSp n M B u1 u2 u3 u4 u5 c:=
 ⟨abh h.base b a d!,abh h.Af b a d!,abh h.hooks b a d!,abh h.now b a d!,h.row.CN b (λx f e=>TT.not (e▸f) a ⟨d!,d!,d!⟩) (λg i e=>by
  obtain⟨_,j,d⟩:=h.row.own g i;subst e;rw[a]at d;cases d),h.le,h.l1,h.l2,h.l3,h.l5,h.d13,h.d15,h.d35⟩
def abR {V:Zb}{d A:Nat}{F E D C B p n m l k z y v t s:Zf}{f co:A_}(H:B3 b w V)(I:BK V b lv A)(M:A<=d+2000)(N:H6 f)(L:abK co)
 (K:RC S V F E D C B c) (G:RC (Cb w V) V p n m l k f) (J:RC (Cb w V) V z y v t s co):
  ahP S w b lv d c (.returned (.slice V 4 4)) (V.alloc (.cells #[F,E,D,C,B,p,n,m,l,k,z,y,v,t,s,p,n,m,l,k] 26)):=by
 have g:∀o,YH V V (V.alloc o):=λo=>bA (Zh _ _);have q:=H.size;have r:∀o x,Cb w V x->Cb w (V.alloc o) x:=λo x e=>⟨e.1,by rw[ZB];have:=e.2;omega⟩;refine⟨f,co,V,A,rfl,H.below (g _),I.later (g _),M,N,L,q,_,_,rfl,Zj _,d!,λi x e=>?_⟩
 match i,e with
 |0,e=>
  cases e;exact⟨V,0,[F,E,D,C,B],rfl,.inr ⟨q,by rw[ZB];omega⟩,rfl,(λj u a=>by
   match j,a with
   |0,a=>cases a;exact cn _ _ _ rfl
   |1,a=>cases a;exact cn _ _ _ rfl
   |2,a=>cases a;exact cn _ _ _ rfl
   |3,a=>cases a;exact cn _ _ _ rfl
   |4,a=>cases a;exact cn _ _ _ rfl),_,_,_,_,_,rfl,(K.later (g _)).imp λx e=>.inl e⟩
 |1,e=>
  cases e;exact⟨V,0,[p,n,m,l,k],rfl,.inr ⟨q,by rw[ZB];omega⟩,rfl,(λj u a=>by
   match j,a with
   |0,a=>cases a;exact cn _ _ _ rfl
   |1,a=>cases a;exact cn _ _ _ rfl
   |2,a=>cases a;exact cn _ _ _ rfl
   |3,a=>cases a;exact cn _ _ _ rfl
   |4,a=>cases a;exact cn _ _ _ rfl),_,_,_,_,_,rfl,(G.later (g _)).imp λx e=>.inr (r _ x e)⟩
 |2,e=>
  cases e;exact⟨V,0,[z,y,v,t,s],rfl,.inr ⟨q,by rw[ZB];omega⟩,rfl,(λj u a=>by
   match j,a with
   |0,a=>cases a;exact cn _ _ _ rfl
   |1,a=>cases a;exact cn _ _ _ rfl
   |2,a=>cases a;exact cn _ _ _ rfl
   |3,a=>cases a;exact cn _ _ _ rfl
   |4,a=>cases a;exact cn _ _ _ rfl),_,_,_,_,_,rfl,(J.later (g _)).imp λx e=>.inr (r _ x e)⟩
 |3,e=>
  cases e;exact⟨V,0,[p,n,m,l,k],rfl,.inr ⟨q,by rw[ZB];omega⟩,rfl,(λj u a=>by
   match j,a with
   |0,a=>cases a;exact cn _ _ _ rfl
   |1,a=>cases a;exact cn _ _ _ rfl
   |2,a=>cases a;exact cn _ _ _ rfl
   |3,a=>cases a;exact cn _ _ _ rfl
   |4,a=>cases a;exact cn _ _ _ rfl),_,_,_,_,_,rfl,(G.later (g _)).imp λx e=>.inr (r _ x e)⟩
def c28 {Sn:Nat->Prop}{d:Nat}(h:RC S w v1 v2 v3 v4 v5 c)(hS:∀x,S x->x<w.heap.size/\x≠b)(hn:SI Sn w lv nums)(E8:∀x,Sn x->x<w.heap.size/\x≠b)(hL:BK w b lv d)(hd:d+5000<4611686018427387904)(Qh:abK c):
  Calls Lp 7 #[.agg #[v1,v2,v3,v4,v5],.pointer b] w (ahP S w b lv d c):=by
 obtain⟨a1,c1,a2,c2,a3,c3,a4,c4,a5,c5,rfl,rfl,rfl,rfl,rfl,l1,m1,l2,m2,l3,m3,l4,m4,l5,m5⟩:=h.vs;have IX:=DJ;have GK:b<w:=hL.lt;obtain⟨W1,NL⟩:=Qnm (w.alloc (.cells (Qe6 c a1 c1 a2 c2 a3 c3 a4 c4 a5 c5) 26));have Bg:Qb6 w W1:=by rw[NL];exact bA (Zh _ _)
 have lD:W1.heap[w.heap.size]?=some (.cells (Qe6 c a1 c1 a2 c2 a3 c3 a4 c4 a5 c5) 26 (0,0)):=by rw[NL];exact Bp _ _
 have DR:W1=w.heap.size+1:=by rw[NL,ZB]
 have ne:=Zd (c44 (s:=3) (hn.later Bg) (λx a=>⟨by have:=(E8 x a).1;omega,(E8 x a).2⟩) (hL.later Bg) o! d!);go_enter Lp.func28,n28;go_wp2;rw[<-NL];clear NL;refine ne.out.mono ?_;rintro e W2 ⟨j,u1,u2,u3,u4,u5,d2,rfl,M7,rr,yv,hM,_⟩;obtain⟨p1,e1,p2,e2,p3,e3,p4,e4,p5,e5,rfl,rfl,rfl,rfl,rfl,_⟩:=yv.vs;obtain⟨X2,Ia⟩:=Qnm (W2.alloc (.cells (Qe6 j p1 e1 p2 e2 p3 e3 p4 e4 p5 e5) 26));have jt:Qb6 W2 X2:=by rw[Ia];exact bA (Zh _ _)
 have rE:X2=W2.heap.size+1:=by rw[Ia,ZB]
 have jn:X2.heap[W2.heap.size]?=some (.cells (Qe6 j p1 e1 p2 e2 p3 e3 p4 e4 p5 e5) 26 (0,0)):=by rw[Ia];exact Bp _ _
 have Ot:=M7.Cn;have EB:=Ot.size;have i9:=yv.later jt;have mz:=Ot.below jt;have my:=mz.at_ lD o!;have t:=hM.small;have nm:=Zd (amt i9 (λx a=>by have:=a.2;omega) (by have:=t.base;omega) (by have:=t.Af;omega) (by have:=t.hooks;omega) (by have:=t.Aa;omega) (by have:=t.now;omega) λi hi=>⟨by have:=(t.part i hi).1;omega,by have:=(t.part i hi).2;omega⟩);obtain⟨m,hm⟩:=Qnm W2.heap.size;rw[<-hm]at jn;have rg:W2<=m/\m<=W2.heap.size:=o!
 go_wp2;rw[<-Ia, <-hm];clear Ia hm;refine nm.out.mono ?_;rintro e W3 ⟨q1,q2,q3,q4,q5,M,rfl,Bv,Z⟩;obtain⟨r1,f1,rfl,_⟩:=JS Z.base;obtain⟨r2,f2,rfl,_⟩:=JS Z.Af;obtain⟨r3,f3,rfl,_⟩:=JS Z.hooks;obtain⟨r4,f4,rfl,_⟩:=Z.row.val;obtain⟨r5,f5,rfl,_⟩:=JS Z.now;obtain⟨X3,iz⟩:=Qnm (W3.alloc (.cells (Qe6 j r1 f1 r2 f2 r3 f3 r4 f4 r5 f5) 26));have mx:Qb6 W3 X3:=by rw[iz];exact bA (Zh _ _)
 have rC:X3=W3.heap.size+1:=by rw[iz,ZB]
 have q9:X3.heap[W3.heap.size]?=some (.cells (Qe6 j r1 f1 r2 f2 r3 f3 r4 f4 r5 f5) 26 (0,0)):=by rw[iz];exact Bp _ _
 have pm:=Bv.size;have fm:=Bv.trans (mx.mono pm);have mw:=mz.below fm;have hC:=Z.later mx;have mv:=(fm.block _ o!).trans jn;have mt:=(fm.block _ o!).trans my;have mp:=i9.later fm;have i7:=((hn.later Bg).Cn mw (λx a=>⟨by have:=(E8 x a).1;omega,(E8 x a).2⟩));have pc:=(M7.E4.later jt).later fm;obtain⟨o,ho⟩:=Qnm W3.heap.size;rw[<-ho]at q9;have iG:=Zd (c29 (n:=2) i7 (λx a=>⟨by have:=(E8 x a).1;omega,(E8 x a).2⟩) pc o! d!);have nF:W3<=o/\o<=W3.heap.size:=o!
 go_wp2;rw[<-iz, <-ho];clear iz ho;refine iG.out.mono ?_;rintro e y ⟨r,d4,rfl,hr,S5,ck,rq⟩;have Ox:r<=2:=hr;have fC:Ak (λx=>x=b) X3 y:=S5.CN rfl;have Q:=hC.CN fC (λx a e=>o!);have fi:=S5.at_ q9 o!;have fd:=S5.at_ mv o!;have an:=S5.at_ mt o!;have dl:=mp.Ar (S5.same λx a=>by have:=a.1;omega);have Y:B3 b w y:=by
  have hh:B3 b W1 y:=mw.trans S5;exact⟨hh.os.trans Bg.os,hh.tape.trans Bg.tape,hh.output.trans Bg.output,Zr Bg.size hh.size,λk hk F=>(hh.block k o! F).trans (Bg.block k hk)⟩
 have re:=Y.size;have U:=h.Ar (Y.same λx a=>(hS x a).2);have se:=S5.size;have x1:w<m:=o!
 have x2:m<o:=o!
 have x3:o<y:=o!
 clear ne nm iG lD my jn mv mt q9 i9 mp Z hC yv M7;obtain rfl|rfl|rfl:r=0\/r=1\/r=2:=o!
 .have pu:=Zd (WO U.now (by have:=Qh.now;omega))
  have ow:=ch (i:=4) an rfl;go_wp2;refine pu.out.mono ?_;rintro e W5 ⟨u,rfl,Cj,ml⟩;obtain⟨t5,s5,rfl,_⟩:=JS ml;have p9:=Cj.size;have du:=(Cj.block _ x3).trans fi;obtain⟨B,b8⟩:=Qnm (W5.setCell ⟨o,4,none⟩ (.slice t5 c.now.length s5));have A:Ak (λx=>x=o) W5 B:=by rw[b8];exact(Ak.refl (λx=>x=o) W5).DT
  have am:B.heap[o]?=some (.cells #[.slice r1 j.base.length f1,.slice r2 j.Af.length f2,.slice r3 j.hooks.length f3,.slice r4 j.Aa.length f4,.slice t5 c.now.length s5] 26 (0,0)):=by rw[b8];exact Ba du _
  have pt:=(Cj.block _ o!).trans an;have pp:=(Cj.block _ o!).trans fd;obtain⟨iv,be,ip,bc,io⟩:=Qc5 pt;obtain⟨im,ii,gt,gn,gj⟩:=Qc5 pp;obtain⟨fK,ba,fJ,ap,fI⟩:=Qc5 du;have ru:=cf (i:=4) du;have n1:¬w.heap.size=o:=o!
  have n2:¬m=o:=o!
  clear ow;have V:B3 b w B:=by
   have O:=Y.below Cj;exact⟨A.os.trans O.os,A.tape.trans O.tape,A.output.trans O.output,Zr O.size A.size,λk hk F=>(A.block k (by have:=O.size;omega) o!).trans (O.block k hk F)⟩
  have lG:=A.size;have ac:BK B b lv d4:=by
   obtain⟨st,B_⟩:=ck.later Cj;exact⟨st,(A.block b o! o!).trans B_⟩
  have g1:=(U.later Cj).Ar (A.same λx a=>show¬x=o by have:=hS x a;omega);have g2:=((dl.later Cj).Ar (A.same λx a=>show¬x=o by have:=a.2;omega)).imp (T:=Cb w B) λx a=>⟨by have:=a.1;omega,by have:=a.2;omega⟩;have g3:=(((Q.later Cj).box A du).rc).imp (T:=Cb w B) λx a=>⟨by have:=a.1;omega,a.2⟩;have g4:SI (Cb w B) B (.slice t5 c.now.length s5) c.now:=Sl.imp (Own.si (abh ml A du d!)) (λx a=>⟨by have:=a.1;omega,a.2⟩) λ_ _ x=>x;have H:=abR (d:=d) V ac o! hM (co:= {j with now:=c.now}) ⟨t.base,t.Af,t.hooks,t.Aa,Qh.now,t.part⟩ g1 g2 ⟨g3.base,g3.Af,g3.hooks,g3.Aa,g4⟩;clear g1 g2 g3 g4 V ac;have lK:B=W5.heap.size:=by rw[b8];simp
  rw[lK]at H;clear lK;go_wp2;rw[<-b8];clear b8;go_ret;exact H
 .have lm:=abR (d:=d) Y ck o! hM t U (dl.imp (T:=Cb w y) λx a=>⟨by have:=a.1;omega,by have:=a.2;omega⟩) (Q.rc.imp (T:=Cb w y) λx a=>⟨by have:=a.1;omega,a.2⟩)
  obtain⟨iv,be,ip,bc,io⟩:=Qc5 an;obtain⟨im,ii,gt,gn,gj⟩:=Qc5 fd;obtain⟨fK,ba,fJ,ap,fI⟩:=Qc5 fi;by_cases h0:c.Aa.length=0
  .have hh:¬0<(c.Aa.length:Int):=by omega
   clear h0;go_wp2;go_ret;exact lm
  have hh:0<(c.Aa.length:Int):=o!
  go_wp2;obtain⟨g,eg⟩:∃g,r4=some ⟨g,0,none⟩:=by
   obtain⟨lF,h1,_⟩:=Q.row;rcases h1.2 with⟨e,h2⟩|⟨g,cap,cur,e,_⟩
   .have:=hM.few
    omega
   cases e;exact⟨g,rfl⟩
  subst eg;obtain⟨R,o4,v2,v3,ea,UQ,x0,x1,iX,iS,x4,hp,rH⟩:=U.Aa.at_ (i:=0) o!;subst ea;obtain⟨a6,c6,rfl,l6,m6⟩:=hp.val;obtain⟨a7,c7,rfl,l7,m7⟩:=rH.val;have ed:=Qh.part 0 o!;obtain⟨sm,ai⟩:=Qnm (Aj c.Aa 0);have so:=Zd ai;rw[<-ai]at x0 x1 iX iS x4 hp rH ed l6 l7;rw[Nat.zero_mul,Nat.add_zero]at x0 x1 iX iS x4;clear ai;obtain⟨low,z,Ap,E,left⟩:=sm;dsimp only at x0 x1 iX iS x4 hp rH ed l6 l7;obtain⟨K,Ig⟩:∃K:Nat->Prop,K=λx=>x=b\/y<=x:=⟨_,rfl⟩;have fh:K b:=by rw[Ig];exact .inl rfl
  have LP:∀x,y.heap.size<=x->K x:=λx a=>by rw[Ig];exact .inr a
  have qF:∀x,x<y.heap.size->x≠b->¬K x:=λx h1 h2=>by rw[Ig];exact λe=>e.elim h2 o!
  clear Ig;have mi:=hS R UQ;have z0:=λp:Tw K y=>p.cell ap (qF _ (by show o<_;omega) (by show o≠b;omega));have z1:=λp:Tw K y=>p.cell bc (qF _ (by show w.heap.size<_;omega) (by show w≠b;omega));have z2:=λp:Tw K y=>p.cell x0 (qF _ (by show R<_;omega) (by show R≠b;omega));have z3:=λp:Tw K y=>p.cell x1 (qF _ (by show R<_;omega) (by show R≠b;omega));have z4:=λp:Tw K y=>p.cell iX (qF _ (by show R<_;omega) (by show R≠b;omega));have z5:=λp:Tw K y=>p.cell iS (qF _ (by show R<_;omega) (by show R≠b;omega));have z6:=λp:Tw K y=>p.cell x4 (qF _ (by show R<_;omega) (by show R≠b;omega));have Qu:IntKind.i64.wrap ((j.Aa.length:Int) - 1)=(j.Aa.length:Int) - 1:=by rw[zE];have:=hM.few;omega
  refine B0 (S:=λW=>∃p:Tw K y,W=p.v) [14] [(false,5),(false,6),(false,7),(false,12),(false,13),(false,14)] [0,1,2,3,4,8,9,10,11] k! (λ_ _ d _ _ h=>by cases d<;>exact h) k! (A5 (Ak.later (Zh _ _).drew)) ?_;refine A4 _ _ k! ?_;simp only[Z6,zd,ZG,ZD,ZC]
  repeat (first|go_big_quiet_step (fail)|quiet_step (fail))
  refine Z4 ?_;clear z0 z1 z2 z3 z4 z5 z6;change Dl _ _ _ _ _ _ _;have Uh:YH y y y.drew:=(Zh _ _).drew;have b9:Ak K y y.drew:=Ak.later Uh;refine Dw (v:=.int .i64 j.Aa.length) rfl rfl g! (.inr (A5 b9)) ?_;refine Dw (v:=.int .i64 ((j.Aa.length:Int) - 1)) rfl rfl g! (.inr (A5 b9)) ?_;refine Dd (f:=8) (args:= #[.pointer b,.int .i64 ((j.Aa.length:Int) - 1)]) rfl rfl g! ((c29 ((i7.Cn S5 (λx a=>⟨by have:=(E8 x a).1;omega,(E8 x a).2⟩)).later Uh) (λx a=>⟨by have:=(E8 x a).1;simp;omega,(E8 x a).2⟩) (ck.later Uh) o! (by have:=hM.few;omega)).mono ?_);rintro e W5 ⟨C,d5,rfl,o8,O,xZ,pa⟩;have J:B3 b y W5:=by
   exact⟨O.os,O.tape,O.output,O.size,λk hk F=>O.block k hk F⟩
  have mh:Ak K y W5:=J.CN fh;refine⟨_,rfl,.inr (A5 mh),?_⟩;have jp:C<j.Aa.length:=by have:=hM.few;omega
  have p9:=J.size;refine Dd (f:=26) (args:= #[.agg #[.int .i64 low,.int .i64 z,.slice a6 Ap.length c6,.slice a7 E.length c7,.int .i64 left]]) rfl rfl g! ((aoP (hp.Ar (J.same λx a=>(hS x a).2)) (rH.Ar (J.same λx a=>(hS x a).2)) (by have:=ed.1;omega) (by have:=ed.2;omega)).mono ?_);rintro e B ⟨u2,u3,rfl,DM,Hb,Lb⟩;have A:Ak K y B:=mh.trans (Ak.later DM);refine⟨_,rfl,.inr (A5 A),?_⟩;have Lb:SI (TT W5 B) B u3 E:=Own.tt Lb;obtain⟨p6,t6,rfl,_⟩:=Hb.val;obtain⟨p7,t7,rfl,_⟩:=Lb.val;have lG:=DM.size;have I:=(Q.CN (J.CN (K:=λx=>x=b) rfl) (λx a e=>o!)).later DM;have am:=(DM.block _ o!).trans (J.at_ fi o!);have li:=(DM.block _ o!).trans (J.at_ fd o!);have kw:=(DM.block _ o!).trans (J.at_ an o!);have V:=J.below DM;have kv:=dl.Ar (V.same λx a=>by have:=a.1;omega);have ka:=U.Ar (V.same λx a=>(hS x a).2);have ac:=xZ.later DM;have D:B3 b w B:=Y.trans V;obtain⟨cur,q,P⟩:∃cur,B.heap[g]?=some (.cells cur 48 (0,0))/\∀k,k<5->∃v,cur[C*5+k]?=some v:=by
   obtain⟨lF,h1,_⟩:=I.row;rcases h1.2 with⟨e,_⟩|⟨g',cap,cur,e,g3,g4,g5,g6,g7,_⟩
   .cases e
   cases e;exact⟨cur,g4,λk hk=>⟨_,Zx (by rw[g7];omega)⟩⟩
  obtain⟨w0,bv⟩:=P 0 d!;obtain⟨w1,lX⟩:=P 1 d!;obtain⟨w2,nj⟩:=P 2 d!;obtain⟨w3,lI⟩:=P 3 d!;obtain⟨w4,xX⟩:=P 4 d!;have q0:=ch q bv;have q1:=ch q lX;have q2:=ch q nj;have q3:=ch q lI;have q4:=ch q xX;have bi:=cf (i:=C*5+0) q;have i6:=cf (i:=C*5+1) q;have ol:=cf (i:=C*5+2) q;have n7:=cf (i:=C*5+3) q;have no:=cf (i:=C*5+4) q;rw[Nat.add_zero]at q0 bi;obtain⟨N,G⟩:=Qnm (((((B.setCell ⟨g,C*5,none⟩ (.int .i64 low)).setCell ⟨g,C*5+1,none⟩ (.int .i64 z)).setCell ⟨g,C*5+2,none⟩ (.slice p6 Ap.length t6)).setCell ⟨g,C*5+3,none⟩ (.slice p7 E.length t7)).setCell ⟨g,C*5+4,none⟩ (.int .i64 left));have pi:(C:Int)<(j.Aa.length:Int):=o!
  have pd:(0:Int)<=(C:Int):=o!
  refine Dw (v:=.pointer (some ⟨g,C*5,none⟩)) rfl rfl g! (.inr (A5 A)) ?_;refine K8 (w':=N) rfl rfl (by rw[G];go_simp) (.inl rfl) ?_;have l:Ak (λx=>x=g) B N:=by rw[G];exact(Ak.refl (λx=>x=g) B).DT.DT.DT.DT.DT
  have o9:=(I.row.own g rfl).1;have rA:=I.le;have bV:∀x,x<X2.heap.size->¬x=g:=λx a e=>o!
  have i8:¬o=g:=λe=>by subst e;rw[am]at q;cases q
  have ry:g<y:=by
   obtain⟨_,cs,h⟩:=Q.row.own g rfl;exact(Za.1 h).1
  have mj:Rs (TT M B) B [.int .i64 low,.int .i64 z,.slice p6 Ap.length t6,.slice p7 E.length t7,.int .i64 left] ⟨low,z,Ap,E,left⟩:=⟨_,_,rfl,Sl.imp Hb (λx a=>⟨by have:=a.1;omega,a.2⟩) (λ_ _ x=>x),Sl.imp Lb (λx a=>⟨by have:=a.1;omega,a.2⟩) λ_ _ x=>x⟩;have L:=En.put (s:=⟨low,z,Ap,E,left⟩) I.row jp mj;dsimp only at L;rw[<-G]at L;have X:N=B.heap.size:=by rw[G];simp
  have ct:B3 b w N:=by
   exact⟨l.os.trans D.os,l.tape.trans D.tape,l.output.trans D.output,Zr D.size l.size,λk hk F=>(l.block k (by have:=D.size;omega) o!).trans (D.block k hk F)⟩
  have ci:BK N b lv d5:=by
   obtain⟨st,B_⟩:=ac;exact⟨st,(l.block b o! o!).trans B_⟩
  have U3:∀ {v:Zf} {e:Zs} {k n:Nat} {xs:List Zf} {base:Nat},B.ownsRow base e k v n xs->e≠48->N.ownsRow base e k v n xs:=λh he=>abh h l q he;have g1:=ka.Ar (l.same λx a=>show¬x=g by have:=hS x a;omega);have g2:=(kv.Ar (l.same λx a=>show¬x=g by have:=a.2;omega)).imp (T:=Cb w N) λx a=>⟨by have:=a.1;omega,by have:=a.2;omega⟩;have g3:RC (Cb w N) N (.slice r1 j.base.length f1) (.slice r2 j.Af.length f2) (.slice r3 j.hooks.length f3) (.slice g j.Aa.length f4) (.slice r5 j.now.length f5) {j with Aa:=j.Aa.set C ⟨low,z,Ap,E,left⟩}:=
   ⟨Sl.imp (Own.si (U3 I.base d!)) (λx a=>⟨by have:=a.1;omega,a.2⟩) (λ_ _ x=>x),Sl.imp (Ih.tt (U3 I.Af d!) (.inr (.inr rfl))) (λx a=>⟨by have:=a.1;omega,a.lt⟩) (λ_ _ x=>x),Sl.imp (Own.si (U3 I.hooks d!)) (λx a=>⟨by have:=a.1;omega,a.2⟩) (λ_ _ x=>x),(L.ss (Zj _)).imp (λx a=>⟨by have:=a.1;omega,a.2⟩) (λ_ _ ⟨v2,v3,e,h2,h3⟩=>⟨v2,v3,e,Sl.imp h2 (λx a=>⟨by have:=a.1;omega,a.2⟩) λ_ _ x=>x,Sl.imp h3 (λx a=>⟨by have:=a.1;omega,a.2⟩) λ_ _ x=>x⟩),Sl.imp (Own.si (U3 I.now d!)) (λx a=>⟨by have:=a.1;omega,a.2⟩) (λ_ _ x=>x)⟩
  have H:=abR (d:=d) ct ci o! hM (co:= {j with Aa:=j.Aa.set C ⟨low,z,Ap,E,left⟩}) (t.put ed) g1 g2 g3;rw[X]at H;have fy:=(l.block o o! i8).trans am;have fw:=(l.block m o! (bV m o!)).trans li;have fu:=(l.block w o! (bV _ o!)).trans kw;obtain⟨iv,be,ip,bc,io⟩:=Qc5 fu;obtain⟨im,ii,gt,gn,gj⟩:=Qc5 fw;obtain⟨fK,ba,fJ,ap,fI⟩:=Qc5 fy;have lC:=Zd H;have lE:=Zd X;clear G H g1 g2 g3 U3 L mj l fy fw fu q0 q1 q2 q3 q4 bi i6 ol n7 no bv lX nj lI xX X ci ct;unfold Dl
  go_simp
  go_wp2;rw[lE.out];go_ret;exact lC.out
 have lm:=abR (d:=d) Y ck o! hM t U (dl.imp (T:=Cb w y) λx a=>⟨by have:=a.1;omega,by have:=a.2;omega⟩) (Q.rc.imp (T:=Cb w y) λx a=>⟨by have:=a.1;omega,a.2⟩);obtain⟨iv,be,ip,bc,io⟩:=Qc5 an;obtain⟨im,ii,gt,gn,gj⟩:=Qc5 fd;obtain⟨fK,ba,fJ,ap,fI⟩:=Qc5 fi;by_cases h0:c.Af.length=0
 .have hh:¬0<(c.Af.length:Int):=by omega
  clear h0;go_wp2;go_ret;exact lm
 have hh:0<(c.Af.length:Int):=o!
 go_wp2;have lL:j.Af.length=j.base.length:=hM.PN;have sq:=Zd lL;have rx:1<=j.Af.length/\j.Af.length<=3:=by have:=hM.Fp;omega
 clear lL;obtain⟨g,eg⟩:∃g,r2=some ⟨g,0,none⟩:=by
  rcases Q.Af.2 with⟨e,h2⟩|⟨g,cap,cur,e,_⟩
  .omega
  cases e;exact⟨g,rfl⟩
 subst eg;obtain⟨R,o4,ea,UQ,x0,x1⟩:=U.Af.at_ (i:=0) o!;subst ea;obtain⟨sm,ai⟩:=Qnm (BV c.Af 0);rw[<-ai]at x0 x1;rw[Nat.zero_mul,Nat.add_zero]at x0 x1;clear ai;obtain⟨low,z⟩:=sm;dsimp only at x0 x1;obtain⟨K,Ig⟩:∃K:Nat->Prop,K=λx=>x=b\/y<=x:=⟨_,rfl⟩;have fh:K b:=by rw[Ig];exact .inl rfl
 have LP:∀x,y.heap.size<=x->K x:=λx a=>by rw[Ig];exact .inr a
 have qF:∀x,x<y.heap.size->x≠b->¬K x:=λx h1 h2=>by rw[Ig];exact λe=>e.elim h2 o!
 clear Ig;have mi:=hS R UQ;have z0:=λp:Tw K y=>p.cell ba (qF _ (by show o<_;omega) (by show o≠b;omega));have z1:=λp:Tw K y=>p.cell be (qF _ (by show w.heap.size<_;omega) (by show w≠b;omega));have z2:=λp:Tw K y=>p.cell x0 (qF _ (by show R<_;omega) (by show R≠b;omega));have z3:=λp:Tw K y=>p.cell x1 (qF _ (by show R<_;omega) (by show R≠b;omega));have Qu:IntKind.i64.wrap ((j.Af.length:Int) - 1)=(j.Af.length:Int) - 1:=by rw[zE];omega
 refine B0 (S:=λW=>∃p:Tw K y,W=p.v) [13] [(false,5),(false,6),(false,7),(false,12),(false,13)] [0,1,2,3,4,8,9,10,11] k! (λ_ _ d _ _ h=>by cases d<;>exact h) k! (A5 (Ak.later (Zh _ _).drew)) ?_;refine A4 _ _ k! ?_;simp only[Z6,zd,ZG,ZD,ZC]
 repeat (first|go_big_quiet_step (fail)|quiet_step (fail))
 refine Z4 ?_;clear z0 z1 z2 z3;change Dl _ _ _ _ _ _ _;have Uh:YH y y y.drew:=(Zh _ _).drew;have b9:Ak K y y.drew:=Ak.later Uh;refine Dw (v:=.int .i64 j.Af.length) rfl rfl g! (.inr (A5 b9)) ?_;refine Dw (v:=.int .i64 ((j.Af.length:Int) - 1)) rfl rfl g! (.inr (A5 b9)) ?_;refine Dd (f:=8) (args:= #[.pointer b,.int .i64 ((j.Af.length:Int) - 1)]) rfl rfl g! ((c29 ((i7.Cn S5 (λx a=>⟨by have:=(E8 x a).1;omega,(E8 x a).2⟩)).later Uh) (λx a=>⟨by have:=(E8 x a).1;simp;omega,(E8 x a).2⟩) (ck.later Uh) o! o!).mono ?_);rintro e B ⟨C,d5,rfl,o8,O,ac,pa⟩;have V:B3 b y B:=by
  exact⟨O.os,O.tape,O.output,O.size,λk hk F=>O.block k hk F⟩
 have A:Ak K y B:=V.CN fh;refine⟨_,rfl,.inr (A5 A),?_⟩;have jp:C<j.Af.length:=o!
 have lG:=V.size;have I:=Q.CN (V.CN (K:=λx=>x=b) rfl) (λx a e=>o!);have am:=V.at_ fi o!;have li:=V.at_ fd o!;have kw:=V.at_ an o!;have kv:=dl.Ar (V.same λx a=>by have:=a.1;omega);have ka:=U.Ar (V.same λx a=>(hS x a).2);have D:B3 b w B:=Y.trans V;obtain⟨cur,q,P⟩:∃cur,B.heap[g]?=some (.cells cur 67 (0,0))/\∀k,k<2->∃v,cur[C*2+k]?=some v:=by
  rcases I.Af.2 with⟨e,_⟩|⟨g',cap,cur,e,g3,g4,g5,g6,g7,_⟩
  .cases e
  cases e;exact⟨cur,g4,λk hk=>⟨_,Zx (by rw[g7];omega)⟩⟩
 obtain⟨w0,bv⟩:=P 0 d!;obtain⟨w1,lX⟩:=P 1 d!;have q0:=ch q bv;have q1:=ch q lX;have bi:=cf (i:=C*2+0) q;have i6:=cf (i:=C*2+1) q;rw[Nat.add_zero]at q0 bi;obtain⟨N,G⟩:=Qnm ((B.setCell ⟨g,C*2,none⟩ (.int .i64 low)).setCell ⟨g,C*2+1,none⟩ (.int .i64 z));have pi:(C:Int)<(j.Af.length:Int):=o!
 have pd:(0:Int)<=(C:Int):=o!
 refine Dw (v:=.pointer (some ⟨g,C*2,none⟩)) rfl rfl g! (.inr (A5 A)) ?_;refine K8 (w':=N) rfl rfl (by rw[G];go_simp) (.inl rfl) ?_;have l:Ak (λx=>x=g) B N:=by rw[G];exact(Ak.refl (λx=>x=g) B).DT.DT
 have o9:=(J3 I.Af g rfl).1;have rm:=I.l2 g rfl;have bV:∀x,x<X2.heap.size->¬x=g:=λx a e=>o!
 have i8:¬o=g:=λe=>by subst e;rw[am]at q;cases q
 have L:=Ih.set I.Af jp (low,z);dsimp only at L;rw[<-G]at L;have X:N=B.heap.size:=by rw[G];simp
 have ct:B3 b w N:=by
  exact⟨l.os.trans D.os,l.tape.trans D.tape,l.output.trans D.output,Zr D.size l.size,λk hk F=>(l.block k (by have:=D.size;omega) o!).trans (D.block k hk F)⟩
 have ci:BK N b lv d5:=by
  obtain⟨st,B_⟩:=ac;exact⟨st,(l.block b o! o!).trans B_⟩
 have U3:∀ {v:Zf} {e:Zs} {k n:Nat} {xs:List Zf} {base:Nat},B.ownsRow base e k v n xs->e≠67->N.ownsRow base e k v n xs:=λh he=>abh h l q he;have lJ:=I.row.CN l (λx a e=>by have:=a.1;omega) (λx a e=>by have:=(I.row.own x a).1;omega);have rj:=I.le;have g1:=ka.Ar (l.same λx a=>show¬x=g by have:=hS x a;omega);have g2:=(kv.Ar (l.same λx a=>show¬x=g by have:=a.2;omega)).imp (T:=Cb w N) λx a=>⟨by have:=a.1;omega,by have:=a.2;omega⟩;have g3:RC (Cb w N) N (.slice r1 j.base.length f1) (.slice g j.Af.length f2) (.slice r3 j.hooks.length f3) (.slice r4 j.Aa.length f4) (.slice r5 j.now.length f5) {j with Af:=j.Af.set C (low,z)}:=
  ⟨Sl.imp (Own.si (U3 I.base d!)) (λx a=>⟨by have:=a.1;omega,a.2⟩) (λ_ _ x=>x),Sl.imp (Ih.tt L (.inr (.inr rfl))) (λx a=>⟨by have:=a.1;omega,a.lt⟩) (λ_ _ x=>x),Sl.imp (Own.si (U3 I.hooks d!)) (λx a=>⟨by have:=a.1;omega,a.2⟩) (λ_ _ x=>x),(lJ.ss (Zj _)).imp (λx a=>⟨by have:=a.1;omega,a.2⟩) (λ_ _ ⟨v2,v3,e,h2,h3⟩=>⟨v2,v3,e,Sl.imp h2 (λx a=>⟨by have:=a.1;omega,a.2⟩) λ_ _ x=>x,Sl.imp h3 (λx a=>⟨by have:=a.1;omega,a.2⟩) λ_ _ x=>x⟩),Sl.imp (Own.si (U3 I.now d!)) (λx a=>⟨by have:=a.1;omega,a.2⟩) (λ_ _ x=>x)⟩
 have H:=abR (d:=d) ct ci o! hM (co:= {j with Af:=j.Af.set C (low,z)}) ⟨t.base,by rw[ZcC];exact t.Af,t.hooks,t.Aa,t.now,t.part⟩ g1 g2 g3;rw[X]at H;have fy:=(l.block o o! i8).trans am;have fw:=(l.block m o! (bV m o!)).trans li;have fu:=(l.block w o! (bV _ o!)).trans kw;obtain⟨iv,be,ip,bc,io⟩:=Qc5 fu;obtain⟨im,ii,gt,gn,gj⟩:=Qc5 fw;obtain⟨fK,ba,fJ,ap,fI⟩:=Qc5 fy;have lC:=Zd H;have lE:=Zd X;clear G H g1 g2 g3 U3 L lJ l fy fw fu q0 q1 bi i6 bv lX X ci ct;unfold Dl
 go_simp
 go_wp2;rw[lE.out];go_ret;exact lC.out
def agc {i:Nat}{l:List A_}{x:A_}(h:Sl S (af9 S) 5 w (.slice q n i) l)(b:l[k]?=some x):
  S q/\∃v1 v2 v3 v4 v5,w.cell? ⟨q,k*5,none⟩=some v1/\w.cell? ⟨q,k*5+1,none⟩=some v2/\w.cell? ⟨q,k*5+2,none⟩=some v3/\w.cell? ⟨q,k*5+3,none⟩=some v4/\w.cell? ⟨q,k*5+4,none⟩=some v5/\RC S w v1 v2 v3 v4 v5 x:=by
 obtain⟨r,o,e,_,_,f⟩:=h;cases e;obtain⟨p,j,cs,g,c,m,a,v1,v2,v3,v4,v5,rfl,d⟩:=f k x b;cases g;rw[zN]at a;exact⟨c,v1,v2,v3,v4,v5,by simpa using a 0 v1 rfl,a 1 v2 rfl,a 2 v3 rfl,a 3 v4 rfl,a 4 v5 rfl,d⟩
def aeD (a:List (List Int)):O' a a=true:=decide_eq_true rfl
def amA {v7:Zf}(h:RC (λx=>x<w.heap.size) w v1 v2 v3 v4 v5 c)(hs:SL (λx=>x<w.heap.size) w v6 ls)(hn:SI (λx=>x<w.heap.size) w v7 nums)(hG:Jr w):Calls Lp 3 #[.agg #[v1,v2,v3,v4,v5],v6,v7] w (Two w (.bool true)):=by
 obtain⟨a1,c1,a2,c2,a3,c3,a4,c4,a5,c5,rfl,rfl,rfl,rfl,rfl,l1,m1,l2,m2,l3,m3,l4,m4,l5,m5⟩:=h.vs;obtain⟨a6,c6,rfl,l6,m6⟩:=hs.val;obtain⟨la,lc,rfl,_⟩:=hn.val;have IX:=DJ;obtain⟨X,hX⟩:=Qnm (w.alloc (.cells (Qe6 c a1 c1 a2 c2 a3 c3 a4 c4 a5 c5) 26));have Ov:Qb6 w X:=by rw[hX];exact bA (Zh _ _)
 have GP:X=w.heap.size+1:=by rw[hX,ZB]
 have ut:X.heap[w.heap.size]?=some (.cells (Qe6 c a1 c1 a2 c2 a3 c3 a4 c4 a5 c5) 26 (0,0)):=by rw[hX];exact Bp _ _
 have B2:=Zd (c25 (h.later Ov) (λx (g:x<w)=>o!));go_enter Lp.func3,n3;go_wp2;rw[<-hX];clear hX;refine B2.out.mono ?_;rintro e W1 ⟨li,rfl,oX,Bg⟩;have ac:=bU Ov Bg;have kG:=hG.later ac;have DR:=Bg.size;have l_:=(Bg.block _ o!).trans ut;by_cases kv:li=true\/20<ls.length
 .cases li with
  |true=>
   go_wp2_with (go_at_call 5;refine(c26 _ kG).mono ?_;rintro e V ⟨Ui,rfl|⟨x,rfl,Ss⟩⟩)
   .go_ret
    exact⟨bU ac Ui,.inl rfl⟩
   .exact⟨rfl,bU ac Ui,.inr ⟨_,rfl,Ss⟩⟩
  |false=>
   have DP:20<(ls.length:Int):=by
    rcases kv with e|e
    .cases e
    omega
   go_wp2_with (go_at_call 5;refine(c26 _ kG).mono ?_;rintro e V ⟨Ui,rfl|⟨x,rfl,Ss⟩⟩)
   .go_ret
    exact⟨bU ac Ui,.inl rfl⟩
   exact⟨rfl,bU ac Ui,.inr ⟨_,rfl,Ss⟩⟩
 have s8:li=false:=by cases li;rfl;exact absurd (.inl rfl) kv
 have DP:¬20<(ls.length:Int):=λe=>kv (.inr o!);have Qh:=oX s8;subst s8;clear kv oX B2 ut;have MM:=hs.later ac;go_wp2;go_loopg [7] ls.length (λgg i wr=>∃k:Nat,k<=ls.length/\gg=ls.length - k/\i=.int .i64 k/\(∀j,j<k->(BM ls j).length<=20)/\wr=W1)
 case atStart=>exact⟨0,Zp _,rfl,rfl,λj hj=>absurd hj o!,rfl⟩
 obtain⟨k,hk,rfl,rfl,hq,Qu⟩:=hrel;have Qu:=Qu.symm;subst Qu;by_cases Az:k<ls.length
 .obtain⟨b6,o6,u,ea,Xj,lH,hu⟩:=MM.at_ Az
  subst ea;obtain⟨x,g⟩:=Qnm (BM ls k);rw[<-g]at hu;obtain⟨ua,uc,rfl,_⟩:=hu.val;have TB:(k:Int)<(ls.length:Int):=o!
  have HX:=Zd g;clear g;by_cases ne:20<(x.length:Int)
  .go_wp2_with (go_at_call 5;refine(c26 _ kG).mono ?_;rintro e V ⟨Ui,rfl|⟨x,rfl,Ss⟩⟩)
   .go_ret
    exact⟨bU ac Ui,.inl rfl⟩
   exact⟨rfl,bU ac Ui,.inr ⟨_,rfl,Ss⟩⟩
  have HQ:=Zd (show∀j,j<k+1->(BM ls j).length<=20 from λj hj=>by
   by_cases e:j=k
   .rw[e, <-HX.out];omega
   exact hq j o!)
  clear hq;go_wp2;go_roundg (ls.length - (k+1))
  case rel=>exact⟨k+1,Az,rfl,v!,HQ.out,rfl⟩
  omega
 have C7:k=ls.length:=o!
 rw[C7]at hq;have HQ:=Zd hq;clear hq;obtain⟨k0,k1,k2,k3,k4⟩:=Qc5 l_;obtain⟨W2,MX⟩:=Qnm (W1.alloc (.cells #[.slice la nums.length lc,.int .i64 0,.int .u64 1] 63));have Bb:Qb6 W1 W2:=by rw[MX];exact bA (Zh _ _)
 have EB:W2=W1.heap.size+1:=by rw[MX,ZB]
 have rV:BK W2 W1 (.slice la nums.length lc) 0:=⟨1,by rw[MX];exact Bp _ _⟩;obtain⟨b,hb⟩:=Qnm W1.heap.size;rw[<-hb]at rV;have EC:W1<=b/\b<=W1.heap.size:=o!
 go_wp2;refine(c27 _ ⟨_,_,_,rfl⟩ _).mono ?_;rintro e ym ⟨rfl,hw⟩;rw[<-MX]at hw;have hw:=hw.symm;subst hw;rw[<-hb];clear hb MX;have D:=bU ac Bb;have BY:=Zd (c28 (h.later D) (λx (g:x<w)=>⟨by have:=D.size;omega,o!⟩) (hn.later D) (λx (g:x<w)=>⟨by have:=D.size;omega,o!⟩) rV d! Qh);have DB:=(Bb.block _ o!).trans l_;clear k0 k1 k2 k3 k4;obtain⟨k0,k1,k2,k3,k4⟩:=Qc5 DB;go_wp2;refine BY.out.mono ?_;rintro e W3 ⟨G,b8,q,d3,rfl,H4,mj,Is,hM,so,JA,vd⟩;have Rb:=H4.size;have BL:∀x,(x<w.heap.size\/Cb W2 W3 x)->x<W3.heap.size/\x≠b:=λx g=>by
  rcases g with g|g
  .have:=D.size;exact⟨o!,o!⟩
  have:=g.1;have:=g.2;exact⟨o!,o!⟩
 have ai:=hM.small;have An:=hM.small;have EI:∀x,(x<w.heap.size\/Cb W2 W3 x)->x<W3:=λx g=>(BL x g).1;have o9:=Zd (show∀W,B3 b W3 W->Sl (λx=>x<W3.heap.size/\x≠b) (af9 λx=>x<W3.heap.size/\x≠b) 5 W (.slice q 4 4) [c,G,b8,G] from λW hU=>by
  refine Sl.imp (Sl.Ar vd (hU.same λx g=>(BL x g).2) (R:=af9 λx=>x<w.heap.size\/Cb W2 W3 x) ?_) BL ?_
  .rintro cs x ⟨y1,y2,y3,y4,y5,rfl,hR⟩
   exact⟨y1,y2,y3,y4,y5,rfl,hR.Ar (hU.same λx g=>(BL x g).2)⟩
  rintro cs x ⟨y1,y2,y3,y4,y5,rfl,hR⟩;exact⟨y1,y2,y3,y4,y5,rfl,hR.imp BL⟩)
 have sq:=(hn.later D).Cn H4 (λx (g:x<w)=>⟨by have:=D.size;omega,o!⟩);have Id:w<=W3.heap.size:=by have:=D.size;omega
 have GK:w<b:=o!
 have mz:∀x,x<w.heap.size->x<W3.heap.size/\x≠b:=λx g=>⟨o!,o!⟩;have ow:=Zd (show∀W,B3 b W3 W->SI (λx=>x<w.heap.size) W (.slice la nums.length lc) nums from λW hU=>sq.Cn hU mz);have o8:=Zd (show∀W,B3 b W3 W->SL (λx=>x<w.heap.size) W (.slice a6 ls.length c6) ls from λW hU=>(hs.later D).Ar ((H4.trans hU).same λx (g:x<w.heap.size)=>o!));have yx:∀W,B3 b W3 W->Qb6 w W:=λW hU=>B3.aj4 D (H4.trans hU) o!;have HB:=Zd yx;have JT:b<W3:=mj.lt;have lm:=Zd mz;clear k0 k1 k2 k3 k4 sq mz yx vd BY;go_wp2;refine(abW (ow.out W3 (B3.refl _ _)) lm.out ⟨B3.refl _ _,mj⟩ o! d!).mono ?_;rintro e W4 ⟨r,d4,rfl,hr,S5,ld,In⟩;have iK:r<=5:=hr;have un:=ld.E4;have HG:=S5.size;obtain⟨rE,vz,vy,vx,vw⟩:=zp Hw;clear ld;go_wp2;go_loopg [10,11] r (λgg ov i wr=>∃(m d:Nat) (P:List (List Int)),gg=m/\i=.int .i64 (m:Int)/\m+P.length=r/\LR W4 wr ov P/\(∀l∈P,l.length<=20)/\B3 b W4 wr/\BK wr b (.slice la nums.length lc) d/\d<=3000+20*P.length)
 case atStart=>exact⟨r,d4,[],rfl,rfl,i!,LR.nil _ _,(λl hl=>by cases hl),B3.refl _ _,un,j!⟩
 obtain⟨m,d,P,lF,rfl,sr,i9,yu,hU,hL,hd⟩:=hrel;have lF:=lF.symm;subst lF;have HP:=Zd yu;clear yu;have fi:=S5.trans hU;have GT:=hU.size;by_cases Az:0<m
 .obtain⟨fu,ck,gn⟩:=i9
  obtain⟨va,vc,rfl,_⟩:=JS ck;obtain⟨B9,p1,p2,p3,p4,p5,x0,x1,x2,x3,x4,lJ⟩:=agc (k:=1) (o9.out _ fi) rfl;rw[Nat.one_mul]at x0 x1 x2 x3 x4;obtain⟨Ju,GC,IS,GB,IR,GA,IO,Fr,IN,Fm,rfl,rfl,rfl,rfl,rfl,_⟩:=lJ.vs;have Do:P.length<=5:=o!
  have If:(0:Int)<(m:Int):=o!
  have hw:IntKind.i64.wrap ((m:Int) - 1)=((m - 1:Nat):Int):=by rw[zE];omega
  have BE:=Zd (ajk lJ (λx g=>⟨by have:=g.1;omega,g.2⟩) (ow.out _ fi) (λx g=>⟨by have:=(lm.out x g).1;omega,(lm.out x g).2⟩) hL (by have:=ai.Aa;omega) (by have:=ai.Aa;omega) λi hi=>by have:=(hM.valid.step i hi);omega);go_wp2;refine BE.out.mono ?_;rintro e W5 ⟨v5,l,d5,rfl,cN,xZ,Im,td,Xc,_⟩;obtain⟨B7,B4,rfl,_⟩:=td.si.val;have Ev:l.length<=20:=by have:=ai.Aa;omega
  clear Xc;have p9:=cN.size;have jp:=D2 ck cN (by omega:b<W4);clear x0 x1 x2 x3 x4 lJ BE B9 ck;go_wp2_with (at_builtin;refine Yc _ rfl _ _ 27 rfl W4 22 rE () 1 24 (Cz zW) (Dz vz) vy vx vw rfl d! _ P.length fu rfl (Ya jp _) W5 1 1 [.slice B7 l.length B4] rfl rfl (Dj _ _ _) (by simp[YT]) u! o! j! ?_;intro v9 w9 ci r_ nm);have t:LR W4 w9 v9 (P++ [l]):=LR.snoc jp (λi y hi=>by
   obtain⟨u,h1,h2⟩:=gn i y hi;exact⟨u,h1,Dx (T:=λx=>x=b) (cN.CN (K:=λx=>x=b) rfl) (λx g e=>by have:=g.1.1;omega) h2⟩) td.typ o! (bA (Zh _ _)) r_ ci
  have Em:=J3 jp;have pY:B3 b W4 w9:=((hU.trans cN).below (bA (Zh _ _))).grown r_ λx g=>by have:=(Em x g).1;omega
  have t9:BK w9 b (.slice la nums.length lc) d5:=(xZ.later (bA (Zh _ _))).of (r_.block b (xZ.later (bA (Zh _ _))).lt (λe=>by have:=(Em b e.symm).1;omega));have Qs:=Zd (ZY t (ZY pY t9));have Fd:=Zd sr;clear t pY t9 jp r_ ci nm Em xZ gn sr;go_roundg (m - 1)
  case rel=>exact⟨m - 1,d5,P++ [l],rfl,rfl,by have:=Fd.out;rw[ZA];simp;omega,Qs.out.1,(λx g=>by
   rcases Zab.1 g with h|h
   .exact HP.out x h
   rw[Yh.1 h];exact Ev),Qs.out.2.1,Qs.out.2.2,by have:=ai.Aa;rw[ZA];simp;omega⟩
  omega
 have CA:m=0:=o!
 subst CA;have Do:P.length<=5:=o!
 obtain⟨oa,oc,rfl,_⟩:=i9.val;obtain⟨Z,hZ⟩:=Qnm wr;subst hZ;have io:=i9.sl;have b9:=Zd (c31 io (λx g=>g.2) o! (λl hl=>by have:=HP.out l hl;omega));have yr:=HB.out _ fi;have gt:=o8.out _ fi;have yq:=Zd (o9.out _ fi);clear i9;go_wp2;refine b9.out.mono ?_;rintro e Z1 ⟨u,rfl,i6,ka⟩;obtain⟨ma,mc,rfl,_⟩:=ka.val;have xi:=i6.size;have ww:=gt.later i6;have HI:w<=Z.heap.size:=yr.size;have i7:=Zd (show∀l∈P,l.length<=20 from HP.out);clear b9;by_cases my:0<ls.length
 case' pos=>
  obtain⟨b6,o6,v6,ea,Xj,lH,hu⟩:=ww.at_ my;subst ea;rw[Nat.add_zero]at lH;obtain⟨x,g⟩:=Qnm (BM ls 0);have ne:x.length<=20:=by rw[g];exact HQ.out 0 my
  rw[<-g]at hu;obtain⟨ua,uc,rfl,_⟩:=hu.val;have C3:(0:Int)<(ls.length:Int):=o!
  obtain⟨fu,ck,gn⟩:=ka;clear g;go_wp2_with (first|(go_at_call 11;refine(WO hu o!).mono ?_;rintro e w1 ⟨u1,rfl,Bg,lL⟩;obtain⟨ta,B,rfl,_⟩:=lL.si.val;have DR:=Bg.size;have kw:=Tn Bg ck)|(at_builtin;refine Yc _ rfl _ _ 27 rfl Z 22 rE () 1 24 (Cz zW) (Dz vz) vy vx vw rfl d! _ P.length fu rfl (Ya kw _) w1 1 1 [.slice ta x.length B] rfl rfl (Dj _ _ _) (by simp[YT]) u! o! j! ?_;intro v9 w9 ci r_ nm;obtain⟨g9,vi,rfl⟩:=Zay ci));have t:LR Z w9 (.slice g9 (P.length+1) vi) (P++ [x]):=LR.snoc kw (λi y hi=>by
   obtain⟨u,h1,h2⟩:=gn i y hi;exact⟨u,h1,Dx (T:=λ_=>False) (Ak.later Bg) (λ_ _ x=>x) h2⟩) lL.typ xi (bA (Zh _ _)) r_ ci
  have Jx:Qb6 Z w9:=Bm ((i6.trans (Bg.mono xi)).alloc o! _) r_ (λy a=>(Zcm kw y a).1) j!;obtain⟨M,hM⟩:=Qnm (P++ [x]);have ai:∀l∈M,l.length<=20:=by
   rw[hM];intro l hl;rcases Zab.1 hl with h|h
   .exact i7.out l h
   rw[Yh.1 h];exact ne
  have mh:M.length<=6:=by rw[hM,ZA,List.length_singleton];omega
  rw[<-hM]at t;obtain⟨J,iv⟩:=Qnm (Zy g9 (P.length+1) vi);rw[<-iv]at t⊢;obtain⟨y6,h6⟩:=Qnm (Zy (some ⟨b6,o6,none⟩) ls.length c6);rw[<-h6]at gt⊢;obtain⟨z,h8⟩:=Qnm (Zy oa P.length oc);rw[<-h8]at io⊢;obtain⟨Zn,ii⟩:=Qnm w9;rw[<-ii]at t Jx⊢;clear ii gn ck kw ci r_ nm lL hu lH hM iv h6 h8 ne o8;obtain⟨rC,rg⟩:∃X:Zf,X=Zy ma P.length mc:=⟨_,rfl⟩;obtain⟨rA,re⟩:∃X:Zf,X=Value.bool true:=⟨_,rfl⟩;obtain⟨ry,pu⟩:∃X:Zf,X=Zy ma P.length mc:=⟨_,rfl⟩;obtain⟨rx,pt⟩:∃X:Zf,X=y6:=⟨_,rfl⟩;obtain⟨ru,pp⟩:∃X:Zf,X=ZbT (some ⟨b6,o6,none⟩):=⟨_,rfl⟩;obtain⟨rr,pm⟩:∃X:Zf,X=Zy ua x.length uc:=⟨_,rfl⟩;obtain⟨rq,pi⟩:∃X:Zf,X=Zy ta x.length B:=⟨_,rfl⟩;obtain⟨rm,pd⟩:∃X:Zf,X=Zy w1 1 1:=⟨_,rfl⟩;obtain⟨rj,pc⟩:∃X:Zf,X=J:=⟨_,rfl⟩
 case' neg=>
  have C3:¬(0:Int)<(ls.length:Int):=o!
  go_wp2;have Jx:=i6;have ai:=i7.out;have mh:P.length<=6:=o!
  have t:=ka;obtain⟨J,iv⟩:=Qnm (Zy ma P.length mc);rw[<-iv]at t⊢;obtain⟨y6,h6⟩:=Qnm (Zy a6 ls.length c6);rw[<-h6]at gt⊢;obtain⟨z,h8⟩:=Qnm (Zy oa P.length oc);rw[<-h8]at io⊢;obtain⟨M,hM⟩:=Qnm P;rw[<-hM]at t ai mh;obtain⟨Zn,ii⟩:=Qnm Z1;rw[<-ii]at t Jx⊢;clear ii ka hM iv h6 h8 o8;obtain⟨rC,rg⟩:∃X:Zf,X=J:=⟨_,rfl⟩;obtain⟨rA,re⟩:∃X:Zf,X=Value.bool false:=⟨_,rfl⟩;obtain⟨ry,pu⟩:∃X:Zf,X=Ze:=⟨_,rfl⟩;obtain⟨rx,pt⟩:∃X:Zf,X=Ze:=⟨_,rfl⟩;obtain⟨ru,pp⟩:∃X:Zf,X=Ze:=⟨_,rfl⟩;obtain⟨rr,pm⟩:∃X:Zf,X=Ze:=⟨_,rfl⟩;obtain⟨rq,pi⟩:∃X:Zf,X=Ze:=⟨_,rfl⟩;obtain⟨rm,pd⟩:∃X:Zf,X=Ze:=⟨_,rfl⟩;obtain⟨rj,pc⟩:∃X:Zf,X=Ze:=⟨_,rfl⟩
 all_goals
  have GE:=Jx.size;obtain⟨Y,hY⟩:=Qnm (Zn.alloc (.cells #[y6,z,z,J] 27));have jn:Qb6 Zn Y:=by rw[hY];exact bA (Zh _ _)
  have us:Y.heap[Zn.heap.size]?=some (.cells #[y6,z,z,J] 27 (0,0)):=by rw[hY];exact Bp _ _
  obtain⟨qs,lE⟩:=Qnm Zn.heap.size;rw[<-lE]at us;rw[<-hY, <-lE];clear hY lE;have GO:=jn.size;have fd:Qb6 Z Y:=bU Jx jn;have mx:Qb6 w Y:=bU yr fd;have vb:Jr Y:=hG.later mx;have tn:∀k,k<4->∃v L,(#[y6,z,z,J]:Array Zf)[k]?=some v/\SL (λx=>x<Y.heap.size) Y v L/\L.length<=20/\∀l∈L,l.length<=20:=by
   have h1:SL (λx=>x<Y.heap.size) Y y6 ls:=(gt.later fd).imp λx (g:x<w)=>by show x<Y;omega
   have h2:SL (λx=>x<Y.heap.size) Y z P:=(io.later fd).imp λx g=>by have:=g.2;show x<Y;omega
   have h3:SL (λx=>x<Y.heap.size) Y J M:=(t.sl.later jn).imp λx g=>by have:=g.2;show x<Y;omega
   have T2:ls.length<=20:=o!
   have T6:∀l∈ls,l.length<=20:=λl hl=>by
    obtain⟨j,hj,e⟩:=List.mem_iff_getElem.1 hl;have:=HQ.out j hj;rw[<-e];simpa[BM,Y6,hj]using this
   intro k hk;obtain rfl|rfl|rfl|rfl:k=0\/k=1\/k=2\/k=3:=o!
   .exact⟨_,_,rfl,h1,T2,T6⟩
   .exact⟨_,_,rfl,h2,o!,i7.out⟩
   .exact⟨_,_,rfl,h2,o!,i7.out⟩
   exact⟨_,_,rfl,h3,o!,ai⟩
  have ml:Sl (λx=>x<Y.heap.size) (af9 λx=>x<Y.heap.size) 5 Y (.slice q 4 4) [c,G,b8,G]:=by
   refine Sl.imp (Sl.Ar yq.out (CE.Ec fd) (R:=af9 λx=>x<W3.heap.size/\x≠b) ?_) (T:=λx=>x<Y.heap.size) (λx g=>by have:=g.1;show x<Y;omega) ?_
   .rintro cs x ⟨y1,y2,y3,y4,y5,rfl,hR⟩
    exact⟨y1,y2,y3,y4,y5,rfl,hR.Ar (CE.Ec fd)⟩
   rintro cs x ⟨y1,y2,y3,y4,y5,rfl,hR⟩;exact⟨y1,y2,y3,y4,y5,rfl,hR.imp λx g=>by have:=g.1;show x<Y;omega⟩
  obtain⟨cl,dL⟩:=Qnm ([c,G,b8,G]);have At:∀k,k<4->∃x,cl[k]?=some x/\abK x:=by
   intro k hk;rw[dL];obtain rfl|rfl|rfl|rfl:k=0\/k=1\/k=2\/k=3:=o!
   .exact⟨_,rfl,Qh⟩
   .exact⟨_,rfl,An⟩
   .exact⟨_,rfl,so⟩
   exact⟨_,rfl,An⟩
  rw[<-dL]at ml;have Fk:=Zd ml;have yg:=Zd tn;have EQ:=Zd At;clear dL ml tn At gt io t yq o9 ow HB lm hM so Qh BL EI hs hn h ai mh i7 HP HQ hL mj un hU H4 S5 fi MM ww i6 Jx jn fd my;go_loopg [14] 4 (λgg i wr=>∃k:Nat,k<=4/\gg=4 - k/\i=.int .i64 k/\Qb6 Y wr)
  case atStart=>exact⟨0,d!,rfl,rfl,Zh _ _⟩
  obtain⟨k,hk,rfl,rfl,O⟩:=hrel;by_cases Az:k<4
  .obtain⟨x,g,be⟩:=EQ.out k Az
   obtain⟨LF,L,B8,lG,It,DA⟩:=yg.out k Az;obtain⟨_,p1,p2,p3,p4,p5,x0,x1,x2,x3,x4,lI⟩:=agc Fk.out g;obtain⟨fK,e1,fJ,e2,fI,e3,fy,e4,fw,e5,rfl,rfl,rfl,rfl,rfl,_⟩:=lI.vs;have lH:=ch us B8;obtain⟨ua,uc,rfl,_⟩:=lG.val;obtain⟨V,hV⟩:=Qnm wr;subst hV;have GS:=O.size;have rU:∀y,y<Y.heap.size->y<V.heap.size:=λy a=>o!
   have n:∀ {p:Addr} {v:Zf},Y.cell? p=some v->V.cell? p=some v:=λh=>(O.cell (ZH _ _ h)).trans h;have lK:RC (λy=>y<V.heap.size) V (.slice fK x.base.length e1) (.slice fJ x.Af.length e2) (.slice fI x.hooks.length e3) (.slice fy x.Aa.length e4) (.slice fw x.now.length e5) x:=(lI.later O).imp rU;have lC:SL (λy=>y<V.heap.size) V (.slice ua L.length uc) L:=(lG.later O).imp rU;replace x0:=n x0;replace x1:=n x1;replace x2:=n x2;replace x3:=n x3;replace x4:=n x4;replace lH:=n lH;clear n rU lI lG;have pa:=Zd (λW (C:Qb6 V W)=>aoQ (lK.later C) (λy (a:y<V.heap.size)=>by have:=C.size;omega) (by have:=be.base;omega) (by have:=be.Af;omega) (by have:=be.hooks;omega) (by have:=be.Aa;omega) (by have:=be.now;omega) λi hi=>⟨by have:=(be.part i hi).1;omega,by have:=(be.part i hi).2;omega⟩);have b9:=Zd (λW (C:Qb6 V W)=>c31 (lC.later C) (λy (a:y<V.heap.size)=>by have:=C.size;omega) o! (λl hl=>by have:=DA l hl;omega));have AI:=Zd lK;have AC:=Zd lC;have TB:(k:Int)<4:=o!
   have Lo:(0:Int)<=(k:Int):=o!
   have z0:=λp=>Al p x0;have z1:=λp=>Al p x1;have z2:=λp=>Al p x2;have z3:=λp=>Al p x3;have z4:=λp=>Al p x4;have z5:=λp=>Al p lH;clear lK lC;go_wp2
   rename Act->Zb->Prop=>KK
   have D0:∀(F:Zb) (o:Nat) (bc ba ap an am ta:Option Addr) (n1 n2 n3 n4 n5 B:Nat),Qb6 V F->F.heap[o]?=some (.cells (Qe6 x bc n1 ba n2 ap n3 an n4 am n5) 26 (0,0))->RC (λy=>y<F.heap.size) F (.slice bc x.base.length n1) (.slice ba x.Af.length n2) (.slice ap x.hooks.length n3) (.slice an x.Aa.length n4) (.slice am x.now.length n5) x->SL (λy=>y<F.heap.size) F (.slice ta L.length B) L->KK {tmps:= #[Value.agg #[Zy a1 c.base.length c1,Zy a2 c.Af.length c2,Zy a3 c.hooks.length c3,Zy a4 c.Aa.length c4,Zy a5 c.now.length c5],y6,Zy la nums.length lc,ZbT w,Ze,Ze,u6,ZL .i64 (ls.length:Int),ZbT b,Zy q 4 4,z,ZL .i64 0,J,Zy qs 4 4,ZL .i64 (k:Int),ZbT o,Zy ta L.length B,u17,u18,u19,u20,u21,u22,Value.agg #[Zy a1 c.base.length c1,Zy a2 c.Af.length c2,Zy a3 c.hooks.length c3,Zy a4 c.Aa.length c4,Zy a5 c.now.length c5],Value.bool false,Value.bool false,y6,ZL .i64 (ls.length:Int),Value.bool (decide (20<(ls.length:Int))),Value.bool (decide (20<(ls.length:Int))),Ze,ZL .i64 (ls.length:Int),y6,ZL .i64 (ls.length:Int),Value.bool false,u35,u36,u37,u38,u39,u40,u41,u42,u43,Zy la nums.length lc,ZbT b,Value.agg #[Zy a1 c.base.length c1,Zy a2 c.Af.length c2,Zy a3 c.hooks.length c3,Zy a4 c.Aa.length c4,Zy a5 c.now.length c5],ZbT b,Zy q 4 4,ZbT b,ZL .i64 (r:Int),ZL .i64 0,Value.bool false,u53,u54,u55,u56,u57,u58,u59,u60,u61,u62,z,rC,y6,ZL .i64 (ls.length:Int),rA,ry,rx,ru,rr,rq,rm,rj,y6,z,z,J,Zy qs 4 4,ZL .i64 (k:Int),Zy q 4 4,ZL .i64 4,Value.bool true,u84,u85,Zy q 4 4,ZL .i64 (k:Int),ZbT (some ⟨q,k*5,none⟩),Value.agg #[Zy fK x.base.length e1,Zy fJ x.Af.length e2,Zy fI x.hooks.length e3,Zy fy x.Aa.length e4,Zy fw x.now.length e5],Value.agg #[Zy bc x.base.length n1,Zy ba x.Af.length n2,Zy ap x.hooks.length n3,Zy an x.Aa.length n4,Zy am x.now.length n5],Zy qs 4 4,ZL .i64 (k:Int),ZbT (some ⟨qs,k,none⟩),Zy ua L.length uc,Zy ta L.length B,u96,u97,u98,u99,u100,u101,u102,u103,u104,u105,u106,u107,u108,u109,u110,u111,u112,u113,u114,u115,u116,u117,u118,u119,u120,u121,u122,u123,u124,u125,u126,u127,u128,u129,u130,u131,u132,u133,u134,u135,u136,u137,u138,u139,u140,u141,u142,u143,u144,u145,u146,Ze],defers:=[]} F:=by
    subst rg re pu pt pp pm pi pd pc;intro F o bc ba ap an am ta n1 n2 n3 n4 n5 B bV Ia iX iS;clear z0 z1 z2 z3 z4 z5 pa b9;have IF:=bV.size;have WS:=(Za.1 Ia).1;have T3:Jr F:=vb.later (bU O bV);have mt:=c34 iX iS (λy a=>a) T3 (λi hi=>by have:=(be.part i hi).2;omega);have mp:=λW (C:Qb6 V W)=>c35 (AI.out.later C) (AC.out.later C) (λy (a:y<V.heap.size)=>by have:=C.size;omega);obtain⟨ol,H⟩:=Qnm ((Eu x L).1);obtain⟨n7,hB⟩:=Qnm ((Eu x L).2);obtain⟨no,hE⟩:=Qnm (F2 x L);rw[<-H, <-hB, <-hE]at mt mp;have A9:=Zd mt;have AT:=Zd mp;clear mt mp H hB hE;obtain⟨g0,g1,g2,g3,g4⟩:=Qc5 Ia;go_wp2_with (go_at_call 13;refine A9.out.mono ?_;rintro e Y3 ⟨fm,rfl|⟨LE,rfl,Ss⟩⟩)
    case' inr=>exact⟨rfl,bU mx (bU O (bU bV fm)),.inr ⟨_,rfl,Ss⟩⟩
    all_goals
     obtain mw:=bU bV fm;have Iz:=fm.size;have iz:=(fm.block _ WS).trans Ia;have ws:=(iX.later fm).imp (T:=λy=>y<Y3.heap.size) λy a=>by have a:y<F.heap.size:=a;show y<Y3;omega
     have wn:=SL.imp (T:=λy=>y<Y3.heap.size) (iS.later fm) λy a=>by have a:y<F:=a;show y<Y3;omega
     clear g0 g1 g2 g3 g4 iX iS A9;have ct:∀ {p:Addr} {v:Zf},V.cell? p=some v->Y3.cell? p=some v:=λh=>(mw.cell (ZH _ _ h)).trans h;obtain⟨z0,z1,z2,z3,z4⟩:=Qy5 ct x0 x1 x2 x3 x4;have z5:=λp=>Al p (ct lH);go_wp2;refine ac7 (S:=λW=>∃p,W=calm Y3 p) 16 [] (.one 8 (.free 9 (.free 10 (.free 11 (.free 12 (.one 13 (.one 14 (.one 15 .leaf)))))))) [0,1,2,3,4,5,6,7] k! (λ_ _ d _ _ h=>by cases d<;>exact h) k! (AL (Zh _ _).drew) ?_;refine A4 _ _ k! ?_;simp only[Z6,zd,ZG,ZD,ZC]
     repeat (first|go_big_quiet_step (fail)|quiet_step (fail))
     refine Z4 ?_;clear z0 z1 z2 z3 z4 z5;change abo _ _ _ _ _ _ _ _;have mv:YH Y3 Y3 Y3.drew:=(Zh _ _).drew;refine abS (f:=14) (args:= #[.agg (Qe6 x fK e1 fJ e2 fI e3 fy e4 fw e5),.slice ua L.length uc]) rfl rfl g! ((AT.out _ (bU mw mv)).mono ?_);rintro e Y4 ⟨rfl,wd⟩;have ed:Qb6 Y3 Y4:=bU mv wd;have N:∃p,Y4=calm Y3 p:=AL ed;refine .inl ⟨_,rfl,.inr N,?_⟩;refine ad1 (v:=.tuple #[.int .i64 ol,.int .i64 n7,.int .i64 no]) N rfl rfl (λw _=>g!) ?_;refine ad1 (v:=.int .i64 ol) N rfl rfl (λw _=>g!) ?_;refine ad1 (v:=.int .i64 n7) N rfl rfl (λw _=>g!) ?_;refine ad1 (v:=.int .i64 no) N rfl rfl (λw _=>g!) ?_;refine ac2 (v:=.int .i64 ol) (w':=Y4) rfl rfl g! (.inr N) ?_;refine ac2 (v:=.int .i64 n7) (w':=Y4) rfl rfl g! (.inr N) ?_;refine ac2 (v:=.int .i64 no) (w':=Y4) rfl rfl g! (.inr N) ?_;unfold abo
     go_simp
     have KV:=ed.size;have du:=bU mw ed;have Ks:=(ed.block _ o!).trans iz;have vG:=(ws.later ed).imp (T:=λy=>y<Y4.heap.size) λy a=>by have a:y<Y3:=a;show y<Y4;omega
     have vF:=SL.imp (T:=λy=>y<Y4.heap.size) (wn.later ed) λy a=>by have a:y<Y3:=a;show y<Y4;omega
     have vE:=(AI.out.later du).imp (T:=λy=>y<Y4.heap.size) λy a=>by have a:y<V:=a;have:=du.size;show y<Y4;omega
     have vC:=SL.imp (T:=λy=>y<Y4.heap.size) (AC.out.later du) λy a=>by have a:y<V:=a;have:=du.size;show y<Y4;omega
     have gj:∀W,Qb6 Y4 W->∀y,y<Y4.heap.size->y<W.heap.size:=λW C y a=>Zl a C.size;have AS:=Zd (λW (C:Qb6 Y4 W)=>c36 (vG.later C) (vE.later C) (gj W C) (gj W C));have AN:=Zd (λW (C:Qb6 Y4 W)=>show Calls Lp 16 #[.slice ta L.length B,.slice ua L.length uc] W λe w'=>e=.returned (.bool true)/\Qb6 W w' from by
      have:=c37 (vF.later C) (vC.later C) (gj W C) (gj W C);rwa[aeD]at this)
     have ct:∀ {p:Addr} {v:Zf},V.cell? p=some v->Y4.cell? p=some v:=λh=>(du.cell (ZH _ _ h)).trans h;obtain⟨z0,z1,z2,z3,z4⟩:=Qy5 ct x0 x1 x2 x3 x4;have z5:=λp=>Al p (ct lH);obtain⟨s0,s1,s2,s3,s4⟩:=Qz5 Ks;clear vG vE vF vC wn ws gj ct N mv wd AT;go_wp2;refine Av k! k! ?_
     repeat (first|go_big_quiet_step ((first|(go_at_call 15;exact AV (AS.out _ (AE _ _)))|(go_at_call 16;exact AV (AN.out _ (AE _ _)))))|quiet_step ((first|(go_at_call 15;exact AV (AS.out _ (AE _ _)))|(go_at_call 16;exact AV (AN.out _ (AE _ _))))))
     refine Z4 ?_;rintro _ ⟨p,rfl⟩;have yw:=AE Y4 p;obtain⟨Y5,tb⟩:=Qnm (calm Y4 p);rw[<-tb]at yw⊢;clear tb z0 z1 z2 z3 z4 z5 s0 s1 s2 s3 s4;have Cj:=bU O (bU du yw);go_wp2;go_roundg (4 - (k+1))
     case rel=>exact⟨k+1,Az,rfl,v!,Cj⟩
     omega
   subst rg re pu pt pp pm pi pd pc;refine ac7 (S:=λW=>∃p,W=calm V p) 13 [] (.fork 4 (.fork 9 (.one 10 (.one 11 (.one 12 .leaf))) 10 (.one 9 (.one 11 (.one 12 .leaf)))) 10 (.one 4 (.one 9 (.one 11 (.one 12 .leaf))))) [0,1,2,3,5,6,7,8] k! (λ_ _ d _ _ h=>by cases d<;>exact h) k! (AL (Zh _ _).drew) ?_;refine A4 _ _ k! ?_;simp only[Z6,zd,ZG,ZD,ZC]
   repeat (first|go_big_quiet_step (fail)|quiet_step (fail))
   refine Z4 ?_;clear z0 z1 z2 z3 z4 z5;change abo _ _ _ _ _ _ _ _;have Uh:YH V V V.drew:=(Zh _ _).drew;refine aeG ?_ ?_;refine abS (f:=12) (args:= #[.agg (Qe6 x fK e1 fJ e2 fI e3 fy e4 fw e5)]) rfl rfl g! ((pa.out _ Uh).mono ?_);rintro e W5 ⟨y1,y2,y3,y4,y5,rfl,Cj,im⟩;have U:Qb6 V W5:=bU Uh Cj;have dl:=im.rc;obtain⟨bc,n1,ba,n2,ap,n3,an,n4,am,n5,rfl,rfl,rfl,rfl,rfl,_⟩:=dl.vs;clear im;refine .inl ⟨_,rfl,.inr (AL U),?_⟩;refine aeG ?_ ?_;refine abS (f:=10) (args:= #[.slice ua L.length uc]) rfl rfl g! ((b9.out _ U).mono ?_);rintro e I ⟨v,rfl,DM,ip⟩;have Q:Qb6 V I:=bU U DM;have s:=ip.sl;obtain⟨ta,B,rfl,_⟩:=s.val;refine .inl ⟨_,rfl,.inr (AL Q),?_⟩;obtain⟨A,H⟩:=Qnm (I.alloc (.cells Qz6 26));have bv:Qb6 I A:=by rw[H];exact bA (Zh _ _)
   have yp:A.heap[I.heap.size]?=some (.cells Qz6 26 (0,0)):=by rw[H];exact Bp _ _
   have E:Qb6 V A:=bU Q bv;have H_:V<=I.heap.size:=(Q).size;refine ac2 (v:=.pointer I) (w':=A) rfl rfl (by rw[H];go_simp) (.inr (AL E)) ?_;have se:A=I.heap.size+1:=by rw[H,ZB]
   obtain⟨o,bi⟩:=Qnm I.heap.size;have vB:o<=I.heap.size/\I<=o:=o!
   rw[<-bi]at yp H_⊢;clear bi H;have vA:=DM.size;have i8:=((dl.later DM).later bv).imp (T:=λy=>y<A.heap.size/\y≠o) λy a=>by have:=a.2;omega
   have s:=SL.imp (T:=λy=>y<A.heap.size/\y≠o) (s.later bv) (λy a=>by have:=a.2;omega);have jt:=E;obtain⟨Y,hY⟩:=Qnm A;subst hY
   rotate_left
   obtain⟨A,H⟩:=Qnm (W5.alloc (.cells Qz6 26));have bv:Qb6 W5 A:=by rw[H];exact bA (Zh _ _)
   have yp:A.heap[W5.heap.size]?=some (.cells Qz6 26 (0,0)):=by rw[H];exact Bp _ _
   have E:Qb6 V A:=bU U bv;have H_:V<=W5.heap.size:=(U).size;refine ac2 (v:=.pointer W5) (w':=A) rfl rfl (by rw[H];go_simp) (.inr (AL E)) ?_;have se:A=W5.heap.size+1:=by rw[H,ZB]
   obtain⟨o,bi⟩:=Qnm W5.heap.size;have vB:o<=W5.heap.size/\W5<=o:=o!
   rw[<-bi]at yp H_⊢;clear bi H;refine abS (f:=10) (args:= #[.slice ua L.length uc]) rfl rfl g! ((b9.out _ E).mono ?_);rintro e I ⟨v,rfl,DM,ip⟩;have Q:Qb6 V I:=bU E DM;have s:=ip.sl;obtain⟨ta,B,rfl,_⟩:=s.val;refine .inl ⟨_,rfl,.inr (AL Q),?_⟩;have vA:=DM.size;have i8:=((dl.later bv).later DM).imp (T:=λy=>y<I.heap.size/\y≠o) λy a=>by have:=a.2;omega
   have s:=SL.imp (T:=λy=>y<I.heap.size/\y≠o) s (λy a=>by have:=a.1;have:=a.2;omega);have yp:=(DM.block _ (Za.1 yp).1).trans yp;have jt:=Q;obtain⟨Y,hY⟩:=Qnm I;subst hY
   rotate_left
   obtain⟨A,H⟩:=Qnm (V.drew.alloc (.cells Qz6 26));have bv:YH V.drew V.drew A:=by rw[H];exact bA (Zh _ _)
   have yp:A.heap[V.drew.heap.size]?=some (.cells Qz6 26 (0,0)):=by rw[H];exact Bp _ _
   have E:Qb6 V A:=bU Uh bv;have H_:V<=V.drew.heap.size:=(Uh).size;refine ac2 (v:=.pointer V.drew) (w':=A) rfl rfl (by rw[H];go_simp) (.inr (AL E)) ?_;have se:A=V.drew.heap.size+1:=by rw[H,ZB]
   obtain⟨o,bi⟩:=Qnm V.drew.heap.size;have vB:o<=V.drew.heap.size/\V.drew<=o:=o!
   rw[<-bi]at yp H_⊢;clear bi H;refine abS (f:=12) (args:= #[.agg (Qe6 x fK e1 fJ e2 fI e3 fy e4 fw e5)]) rfl rfl g! ((pa.out _ E).mono ?_);rintro e W5 ⟨y1,y2,y3,y4,y5,rfl,Cj,im⟩;have U:Qb6 V W5:=bU E Cj;have dl:=im.rc;obtain⟨bc,n1,ba,n2,ap,n3,an,n4,am,n5,rfl,rfl,rfl,rfl,rfl,_⟩:=dl.vs;clear im;refine .inl ⟨_,rfl,.inr (AL U),?_⟩;refine abS (f:=10) (args:= #[.slice ua L.length uc]) rfl rfl g! ((b9.out _ U).mono ?_);rintro e I ⟨v,rfl,DM,ip⟩;have Q:Qb6 V I:=bU U DM;have s:=ip.sl;obtain⟨ta,B,rfl,_⟩:=s.val;refine .inl ⟨_,rfl,.inr (AL Q),?_⟩;have vA:=DM.size;have p9:=Cj.size;have i8:=(dl.later DM).imp (T:=λy=>y<I.heap.size/\y≠o) λy a=>by have:=a.1;have:=a.2;omega
   have s:=SL.imp (T:=λy=>y<I.heap.size/\y≠o) s (λy a=>by have:=a.1;have:=a.2;omega);have yp:=(DM.block _ (by have:=(Za.1 yp).1;have:=Cj.size;omega)).trans ((Cj.block _ (Za.1 yp).1).trans yp);have jt:=Q;obtain⟨Y,hY⟩:=Qnm I;subst hY
   rotate_left
   all_goals
    obtain⟨g0,g1,g2,g3,g4⟩:=Qc5 yp;obtain⟨f0,f1,f2,f3,f4⟩:=Qf5 yp;obtain⟨F,rD⟩:=Qnm ((((((Y.setCell o (.slice bc x.base.length n1)).setCell ⟨o,1,none⟩ (.slice ba x.Af.length n2)).setCell ⟨o,2,none⟩ (.slice ap x.hooks.length n3)).setCell ⟨o,3,none⟩ (.slice an x.Aa.length n4)).setCell ⟨o,4,none⟩ (.slice am x.now.length n5)));have D3:Ak (λy=>y=o) Y F:=by rw[rD];exact(Ak.refl (λy=>y=o) Y).DT.DT.DT.DT.DT
    have bV:Qb6 V F:=by rw[rD];exact bS (bS (bS (bS (bS jt H_) H_) H_) H_) H_
    have Ia:F.heap[o]?=some (.cells (Qe6 x bc n1 ba n2 ap n3 an n4 am n5) 26 (0,0)):=by rw[rD];exact Ba (Ba (Ba (Ba (Ba yp _) _) _) _) _
    refine afq (w':=F) rfl rfl (by rw[rD];go_simp) (.inr (AL bV)) ?_;refine ac2 (v:=.slice ta L.length B) (w':=F) rfl rfl g! (.inr (AL bV)) ?_;clear rD g0 g1 g2 g3 g4 f0 f1 f2 f3 f4;unfold abo
    go_simp
    have Hi:=D3.size;have iX:=(i8.Ar (D3.same λy a=>show¬y=o from a.2)).imp (T:=λy=>y<F.heap.size) λy a=>by have:=a.1;show y<F;omega
    have iS:=SL.imp (T:=λy=>y<F.heap.size) (SL.Ar s (D3.same λy a=>show¬y=o from a.2)) (λy a=>by have:=a.1;show y<F;omega);clear i8 s yp jt D3;exact D0 _ _ _ _ _ _ _ _ _ _ _ _ _ _ bV Ia iX iS
  have Lc:=bU mx O;have DO:=vb.later O;go_wp2_with (go_at_call 5;refine(c26 _ DO).mono ?_;rintro e V ⟨Ui,rfl|⟨x,rfl,Ss⟩⟩)
  .go_ret
   exact⟨bU Lc Ui,.inl rfl⟩
  exact⟨rfl,bU Lc Ui,.inr ⟨_,rfl,Ss⟩⟩
end Go.Proofs.Fit
namespace Go.Proofs.YtebhdbbhmdeelaaGreatDoor
open Go Go.Conc Go.RowKit Go.Proofs.Fit
set_option maxRecDepth 100000
def agj:(Rows.seamLastsRow.inPlace==Tryz.prog.inPlace 3)=true:=k!
def adP:(Rows.seamLastsRow.unfollowed==Tryz.prog.unfollowed 3)=true:=k!
def afh:(Rows.seamLastsRow.recurses==Tryz.prog.recurses 3)=true:=k!
def aje:(Rows.seamLastsRow.named==Tryz.prog.varsNamed 3)=true:=k!
def ajf:joinedFacts Zc 3 Tryz.f3 Rows.seamLastsSpec Rows.seamLastsRow=true:=
 kQ k! k! k! k! k! agj adP afh aje k! k! k! k! k! k! k! k! k! rfl rfl rfl rfl rfl rfl k! k! k!
def ahK (os:Os)(a:os.Started)(H:Type)(enc:Zs×Zf->H):ReturnsInLeavingWide {} Tryz.checked os 3 .any (λw args=>(Rows.seamLastsSpec.pre enc Zc Tryz.f3 [] false w args/\laidMetH Zc PT w)/\sizedMet enc Zc Tryz.f3 (ZbV Rows.seamLastsSpec) false w args)
   (Rows.seamLastsSpec.post enc Zc Tryz.f3 false true false false):=
 eO (s:=Rows.seamLastsSpec) a rfl rfl Tryz.func3 rfl rfl k! k! rfl k! (λf h=>by
    match f,h with
    | [_,_,_],_=>rfl)
   (ChangeSpec.witness_shaped (enc:=enc) (C:=Tryz.checked) (os:=os) (X:=λw _=>laidMetH Zc PT w) false (Vg os) #[.agg #[(),(),(),(),()],(),()] 8 rfl (World.shaped_of_RefB k! k!) k! k! k! (Ub os _))
   (λW base args f r b j _ d=>afm rfl b j d λw q p o n m l k c t e h i g d=>amA h i g d)
def an1:Rows.SeamLastsSaid:=
 OpenClaim.holds_of_wide_leaving 3 Tryz.f3 rfl rfl rfl rfl rfl rfl rfl ⟨rfl,rfl,rfl,rfl,rfl⟩ rfl rfl rfl rfl rfl k! Tryz.func3 ajf
  (of_decide_eq_true k!) (by unfold Func.isWrapper;rw[if_neg (by decide+kernel)];exact⟨rfl,rfl⟩) (λc a H b _=>ahK c a H b)
def akl:true=Rows.seamLastsRow.goesBy Tryz.pinned.checked.prog:=k!
theorem lasts_holds:Rows.SeamLastsCardSaid:=
 kM [.handle] (true,"fa5a316215c0550d9822c93e92e789b2e32ffe9dfc961d2a1a618ac15631f803") an1 k! (OpenClaim.laidByTextAt_later rfl rfl qd abD) rfl ⟨rfl,rfl⟩ uI
  (λf fn c d=>by
   obtain rfl:f=3:=ZW ((show Tryz.prog.funcNamed "galloon/galloonlaw02.SeamLasts" =some 3 by kernel_rfl).symm.trans c)|>.symm;obtain rfl:fn=Tryz.f3:=(ZW (Tryz.func3.symm.trans d)).symm;exact⟨abE,λj t a=>by
    have b:t∈ [26,27,22]:=by simpa using zY a
    have e:([26,27,22].all λu=> !Tryz.prog.wantsStandIn u)=true:=k!
    exact(show Tryz.prog.wantsStandIn t=false by simpa using Zdm.1 e t b)⟩)
  akl
#print axioms lasts_holds
end Go.Proofs.YtebhdbbhmdeelaaGreatDoor
