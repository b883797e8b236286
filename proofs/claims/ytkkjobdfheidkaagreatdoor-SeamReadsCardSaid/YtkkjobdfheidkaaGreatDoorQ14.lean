/- SeamReads: for all arguments of the row's types, on every schedule and without a data race, the law returns true, and the arguments read afterwards as they read before. Conditions: those of the given row alone (the variable errors.errorType starts as the program's text lays it; the card ties that to the text). -/
import Derived.Test.YtkkjobdfheidkaaGreatDoorQ08
import Derived.Test.YtkkjobdfheidkaaGreatDoorQ11
import Derived.Test.YtkkjobdfheidkaaGreatDoorQ10b
import Derived.Lib.MinMax
set_option maxRecDepth 100000
set_option maxHeartbeats 6400000
noncomputable section
set_option linter.all false
open And renaming intro->ZY
open Array renaming toList_setIfInBounds->ZcM,replicate->Yu,length_toList->Zd2,getElem?_eq_getElem->Zx,getElem?_eq_some_iff->Za,mem_of_getElem?->zY
open Bool renaming and_eq_true->ZF
open Go renaming Value->Zf,World->Zb,callFunc->Zz,Program->Zo,TypeId->Zs,FuncId->ZaQ,YieldsIf->ZbF,wpOp_mono->Zcc,wp_region_any->Zd5,execOp->Zby,below_drewN->Y5,info_parts->zp,wpQuiet_nil->Z4,wpList_append_own->Yc,undef->Ze,wp_append_own->Zak,ownsRow_succ->Zay,bodyPost_ret->ZN
open Go.Act renaming put->Zck
open Go.Calls renaming quiet_of_same->Zb5
open Go.Code renaming region->zU
open Go.DataW renaming TrodAll->Za9
open Go.Instr renaming makeSlice->Zdp,slice->ZbI
open Go.IntKind renaming wrap_i64->zE
open Go.Lib renaming hid->Zd
open Go.Obj renaming cells->Zbi
open Go.Op renaming stringOp->ZcJ
open Go.OpenSpec renaming ofChange->ZbV
open Go.Oper renaming semAt_some->Zdk,wp->ZbA,upon_value->Zdi,upon_enter->Zdj
open Go.Proofs.Tryz renaming prog->Zc,underlying22->YE,underlying166->Zb2,underlying23->Zdg
open Go.Region renaming Mode->YO,ready->zs,free->Za3,noSelect->YF,wanted->Yf
open Go.RowKit renaming Below->YH
open Go.RowKit.Below renaming refl->Zh
open Go.Value renaming okWide->Zbk,int->ZL,slice->Zy
open Go.World renaming block_lt_of_cell?->ZH,size_alloc->ZB,ownsRow_made->YC,ownsRow_nil->zq
open List renaming getElem?_eq_getElem->zf,mem_of_getElem?->Z3,mem_singleton->Yh,getElem?_toArray->ZG,range->Yr,getD_eq_getElem?_getD->Y6,pairwise_iff_getElem->ZdK,getElem_of_mem->Zas,all_eq_true->Zdm,length_set->ZcC,drop_eq_getElem_cons->ZO,drop_eq_nil_iff->Z7,length_append->ZA,append_assoc->Zae,append_nil->ZaA,filterMap_cons->Z6,filterMap_nil->zd,getElem?_cons_succ->ZD,getElem?_cons_zero->ZC,getElem?_map->YL,getElem?_eq_some_iff->Zm,length_take->ZcV,eq_nil_of_length_eq_zero->YM,length_cons->zb,nil_append->zP,take_add_one->ZbH,take_length->ZcU,getElem?_set_ne->ZS
open Nat renaming zero_add->zN,le_refl->Zj,zero_le->Zp,not_lt_zero->ZbY,le_trans->Zr,lt_of_lt_of_le->Zl,le_of_eq->ZcS
open Option renaming bind_eq_some_iff->ZX
open Option.some renaming inj->ZW
open True renaming intro->Yz
open UInt8 renaming ofNat->Zcn
namespace Go.Proofs.Fit
open Go
@[simp] def Lp.func21:=l! Tryz.func21
@[simp] def Lp.func25:=l! Tryz.func25
@[simp] def Lp.call25:=c! Lp.func25
@[simp] def Lp.call27:=c! Lp.func27
@[simp] def Lp.func28:=l! Tryz.func28
@[simp] def Lp.call28:=c! Lp.func28
@[simp] def Lp.func50:=l! Tryz.func50
@[simp] def Lp.call50:=c! Lp.func50
@[simp] def Lp.func70:=l! Tryz.func70
@[simp] def Lp.call70:=c! Lp.func70
@[simp] def Lp.func80:=l! Tryz.func80
@[simp] def Lp.call80:=c! Lp.func80
@[simp] def Lp.func81:=l! Tryz.func81
@[simp] def Lp.call81:=c! Lp.func81
@[simp] def Lp.func82:=l! Tryz.func82
@[simp] def Lp.call82:=c! Lp.func82
@[simp] def Lp.func93:=l! Tryz.func93
@[simp] def Lp.call93:=c! Lp.func93
@[simp] def Lp.func107:=l! Tryz.func107
@[simp] def Lp.call107:=c! Lp.func107
@[simp] def Lp.func114:=l! Tryz.func114
@[simp] def Lp.call114:=c! Lp.func114
@[simp] def Lp.func116:=l! Tryz.func116
@[simp] def Lp.call116:=c! Lp.func116
@[simp] def Lp.func117:=l! Tryz.func117
@[simp] def Lp.call117:=c! Lp.func117
@[simp] def Lp.func118:=l! Tryz.func118
@[simp] def Lp.call118:=c! Lp.func118
@[simp] def Lp.func135:=l! Tryz.func135
@[simp] def Lp.call135:=c! Lp.func135
@[simp] def Lp.func141:=l! Tryz.func141
@[simp] def Lp.call141:=c! Lp.func141
@[simp] def Lp.func142:=l! Tryz.func142
@[simp] def Lp.call142:=c! Lp.func142
@[simp] def Lp.func160:=l! Tryz.func160
@[simp] def Lp.call160:=c! Lp.func160
end Go.Proofs.Fit
namespace Go.Proofs.Fit
open Go Go.Conc Go.FA Go.RowKit
variable {W w A B w':Zb}
variable {n k aa1 rr ww i g q M:Nat}
variable {v v1 v2 v3 v4 v5 v6 u1 u2 u4 u5 lv:Zf}
def adP {a:Addr}{c:Nat}(h:W.cell? (a.add k)=some v):VR (Qk W) (.slice (some a) n c) (.slice (some a) n c):=by
 obtain⟨_,_,_,b⟩:=Sp h;rw[CF]at b;exact .slice n c ⟨pA b,rfl,rfl⟩
end Go.Proofs.Fit
namespace Go.Proofs.Fit
open Go
def n21:Tryz.f21.ntmps=104:=rfl
def n25:Tryz.f25.ntmps=57:=rfl
def n28:Tryz.f28.ntmps=63:=rfl
def n50:Tryz.f50.ntmps=50:=rfl
def n70:Tryz.f70.ntmps=56:=rfl
def n80:Tryz.f80.ntmps=57:=rfl
def n81:Tryz.f81.ntmps=110:=rfl
def n82:Tryz.f82.ntmps=147:=rfl
def n93:Tryz.f93.ntmps=42:=rfl
def ajU:Tryz.f107.ntmps=10:=rfl
def ajV:Tryz.f114.ntmps=14:=rfl
def ajW:Tryz.f116.ntmps=94:=rfl
def ajX:Tryz.f117.ntmps=84:=rfl
def ajY:Tryz.f118.ntmps=60:=rfl
def ajZ:Tryz.f135.ntmps=15:=rfl
def ak0:Tryz.f141.ntmps=12:=rfl
def ai7:Tryz.f142.ntmps=65:=rfl
def ak1:Tryz.f160.ntmps=57:=rfl
end Go.Proofs.Fit
namespace Go.Proofs.Fit
open Go Go.RowKit
variable {H α:Type}
variable {P:Zo}
variable {W w A B w':Zb}
variable {t e:Zs}
def ad6 {enc:Zs×Zf->H}{base:Nat}{c:Nat->Bool}{d:Bool}{f0 e:Field}(ht:P.underlying t=some (.struct #[f0,e]))(x:P.cellsOf t=2)(A:P.underlying f0.type=some (.int .i64))(z:P.underlying e.type=some (.int .i64))(D:P.cellsOf f0.type=1)(C:P.cellsOf e.type=1)(q:f0.offset=0)(p:e.offset=1):
  Reads enc P w base c d t Rp:=by
 intro n B y r;obtain⟨o,m,_,_,k,s,l⟩:=DataW.trod_struct ht r;have g:=l 0 f0 rfl;have f:=l 1 e rfl;rw[D,q]at g;rw[C,p]at f;have E:o.length=2:=s;rw[zf o!]at g f;obtain⟨a,j⟩:=kJ A _ _ _ g;obtain⟨b,i⟩:=kJ z _ _ _ f;rw[x]at k
 match B,k with
 | [u,v],_=>
  unfold Ri at j i;simp at j i;exact⟨(a,b),by unfold Rp;rw[j,i]⟩
end Go.Proofs.Fit
namespace Go.Proofs.Fit
open Go Go.Conc Go.FA Go.ChangeShapes Go.WideShapes Go.RowKit
set_option maxRecDepth 100000
def Nr (w:Zb)(v:Zf):Prop:=(∃n c,v=.slice none n c)\/(∃a,v=.slice (some a) 0 0)\/∃a n c k u,v=.slice (some a) n c/\w.cell? (a.add k)=some u
variable {W w A B w':Zb}
variable {v v1 v2 v3 v4 v5 v6 u1 u2 u4 u5 lv:Zf}
def Nr.aa0 (h:Nr W v):VR (Qk W) v v:=by
 rcases h with⟨n,c,rfl⟩|⟨a,rfl⟩|⟨a,n,c,k,u,rfl,h⟩
 .exact .slice (a:=none) n c trivial
 .exact .void _ _
 exact adP h
section
variable {H:Type}{enc:Zs×Zf->H}{P:Zo}{w:Zb}{base:Nat}{held:Bool}{α:Type}
variable {t e:Zs}
variable {n k aa1 rr ww i g q M:Nat}
def reads_held {R:Zb->List Zf->α->Prop}(ht:P.underlying t=some (.slice e))(s:P.cellsOf e=k)(hp:0<k)(h:Reads enc P w base (λ_=>true) held e R):
  Reads enc P w base (λ_=>true) held t (λw cs (l:List α)=>∃v,cs=[v]/\Sl (Lv w) R k w v l/\Nr w v):=by
 intro n cs y m;obtain⟨l,v,rfl,r⟩:=bW ht s hp h n cs y m;refine⟨l,v,rfl,r,?_⟩;rcases DataW.trod_slice ht m with⟨e,_⟩|⟨a,b,c,g,j,p,_,e,_,_,q,_,o,d,z,_⟩
 .cases e;exact .inl ⟨_,_,rfl⟩
 cases e;by_cases x:c=0
 .obtain rfl:b=0:=by omega
  subst x;exact .inr (.inl ⟨_,rfl⟩)
 have go:∀i:Nat,(∃y,(w.cells? base (a.add (i*P.cellsOf e)) (P.cellsOf e)).bind (DataW.trod enc P w base (λ_=>true) held p e)=some y)->Nr w (.slice (some a) b c):=λi ⟨y,h⟩=>by
  obtain⟨D,f,_⟩:=ZX.1 h;obtain⟨B,u⟩:=bR f;have:=u 0 _ (zf o!);rw[Addr.add_zero']at this;exact .inr (.inr ⟨a,b,c,_,_,rfl,this⟩)
 by_cases A:b=0
 .obtain⟨C,f⟩:=z rfl
  exact go (b+0) ⟨_,(f 0 o!).trans (zf o!)⟩
 exact go 0 ⟨_,(d 0 o!).trans (zf o!)⟩
end
def RsH (w:Zb)(cs:List Zf)(s:Ay):Prop:=∃v2 v3,cs=[.int .i64 s.low,.int .i64 s.high,v2,v3,.int .i64 s.left]/\SP (Lv w) w v2 s.Ap/\SI (Lv w) w v3 s.over/\Nr w v2/\Nr w v3
section
variable {H:Type}{enc:Zs×Zf->H}{w:Zb}{base:Nat}{held:Bool}
def afN:Tryz.prog.cellsOf 3=1:=k!
def aek:Tryz.prog.cellsOf 22=1:=k!
def ai8:Tryz.prog.cellsOf 23=1:=k!
def ai9:Tryz.prog.cellsOf 24=1:=k!
def aia:Tryz.prog.cellsOf 60=1:=k!
def agf:Tryz.prog.cellsOf 62=5:=k!
def aib:Tryz.prog.cellsOf 26=5:=k!
def ad3:Reads enc Zc w base (λ_=>true) held 3 Ri:=kJ k!
def abK:Reads enc Zc w base (λ_=>true) held 22 (λw cs (l:List Int)=>∃v,cs=[v]/\SI (Lv w) w v l/\Nr w v):=
 reads_held (t:=22) (e:=3) k! afN d! ad3
def adw:Reads enc Zc w base (λ_=>true) held 60 (λw cs (l:List (Int×Int))=>∃v,cs=[v]/\SP (Lv w) w v l/\Nr w v):=
 reads_held (t:=60) (e:=64) k! k! d! (ad6 Tryz.underlying64 k! k! k! k! k! rfl rfl)
def ady:Reads enc Zc w base (λ_=>true) held 23 (λw cs (l:List (Int×Int))=>∃v,cs=[v]/\SP (Lv w) w v l/\Nr w v):=
 reads_held (t:=23) (e:=80) k! k! d! (ad6 Tryz.underlying80 k! k! k! k! k! rfl rfl)
def adQ:Reads enc Zc w base (λ_=>true) held 62 RsH:=by
 intro n b y t;obtain⟨a,m,_,_,o,u,c⟩:=DataW.trod_struct Tryz.underlying62 t;have E:a.length=5:=u;have l:DataW.trod enc Zc w base (λ_=>true) held m 3 ((b.drop 0).take (Tryz.prog.cellsOf 3))=a[0]? :=c 0 _ rfl;have k:DataW.trod enc Zc w base (λ_=>true) held m 3 ((b.drop 1).take (Tryz.prog.cellsOf 3))=a[1]? :=c 1 _ rfl;have j:DataW.trod enc Zc w base (λ_=>true) held m 60 ((b.drop 2).take (Tryz.prog.cellsOf 60))=a[2]? :=c 2 _ rfl;have i:DataW.trod enc Zc w base (λ_=>true) held m 22 ((b.drop 3).take (Tryz.prog.cellsOf 22))=a[3]? :=c 3 _ rfl;have g:DataW.trod enc Zc w base (λ_=>true) held m 3 ((b.drop 4).take (Tryz.prog.cellsOf 3))=a[4]? :=c 4 _ rfl;rw[afN,zf o!]at l;rw[afN,zf o!]at k;rw[aia,zf o!]at j;rw[aek,zf o!]at i;rw[afN,zf o!]at g;rw[agf]at o;obtain⟨D,f⟩:=ad3 _ _ _ l;obtain⟨C,e⟩:=ad3 _ _ _ k;obtain⟨B,x⟩:=adw _ _ _ j;obtain⟨A,v⟩:=abK _ _ _ i;obtain⟨z,d⟩:=ad3 _ _ _ g
 match b,o with
 | [u0,u1,u2,u3,u4],_=>
  unfold Ri at f e d;obtain⟨v2,q,s,d2⟩:=x;obtain⟨v3,p,r,d3⟩:=v;simp at f e q p d;exact⟨⟨D,C,B,A,z⟩,v2,v3,by rw[f,e,d,q,p],s,r,d2,d3⟩
def adz:Reads enc Zc w base (λ_=>true) held 24 (λw cs (l:List Ay)=>∃v,cs=[v]/\Sl (Lv w) RsH 5 w v l/\Nr w v):=
 reads_held (t:=24) (e:=62) k! agf d! adQ
structure InC (w:Zb)(v1 v2 v3 v4 v5:Zf)(c:A_):Prop where
 base:SI (Lv w) w v1 c.base/\Nr w v1
 Af:SP (Lv w) w v2 c.Af/\Nr w v2
 hooks:SI (Lv w) w v3 c.hooks/\Nr w v3
 Aa:Sl (Lv w) RsH 5 w v4 c.Aa/\Nr w v4
 now:SI (Lv w) w v5 c.now/\Nr w v5
def adj:Reads enc Zc w base (λ_=>true) held 26 (λw cs (c:A_)=>∃v1 v2 v3 v4 v5,cs=[v1,v2,v3,v4,v5]/\InC w v1 v2 v3 v4 v5 c):=by
 intro n cs y s;obtain⟨a,m,_,_,j,t,b⟩:=DataW.trod_struct Tryz.underlying26 s;have G:a.length=5:=t;have i:DataW.trod enc Zc w base (λ_=>true) held m 22 ((cs.drop 0).take (Tryz.prog.cellsOf 22))=a[0]? :=b 0 _ rfl;have g:DataW.trod enc Zc w base (λ_=>true) held m 23 ((cs.drop 1).take (Tryz.prog.cellsOf 23))=a[1]? :=b 1 _ rfl;have f:DataW.trod enc Zc w base (λ_=>true) held m 22 ((cs.drop 2).take (Tryz.prog.cellsOf 22))=a[2]? :=b 2 _ rfl;have e:DataW.trod enc Zc w base (λ_=>true) held m 24 ((cs.drop 3).take (Tryz.prog.cellsOf 24))=a[3]? :=b 3 _ rfl;have d:DataW.trod enc Zc w base (λ_=>true) held m 22 ((cs.drop 4).take (Tryz.prog.cellsOf 22))=a[4]? :=b 4 _ rfl;rw[aek,zf o!]at i;rw[ai8,zf o!]at g;rw[aek,zf o!]at f;rw[ai9,zf o!]at e;rw[aek,zf o!]at d;rw[aib]at j;obtain⟨F,r,q,A⟩:=abK _ _ _ i;obtain⟨E,v1,p,z⟩:=ady _ _ _ g;obtain⟨D,v2,o,x⟩:=abK _ _ _ f;obtain⟨C,v3,l,v⟩:=adz _ _ _ e;obtain⟨B,v4,k,u⟩:=abK _ _ _ d
 match cs,j with
 | [u0,u1,u2,u3,u4],_=>
  simp at q p o l k;exact⟨⟨F,E,D,C,B⟩,r,v1,v2,v3,v4,by rw[q,p,o,l,k],A,z,x,v,u⟩
end
variable {H α:Type}
variable {n k aa1 rr ww i g q M:Nat}
def Sl.left {t:Tape}{R R':Zb->List Zf->α->Prop}{l:List α}(h:Sl (Lv W) R k W v l)(m:∀cs x,R W cs x->(∀u∈cs,VR (Qk W) u u)/\R' (tp (BD W) t) cs x):Sl (Lv (tp (BD W) t)) R' k (tp (BD W) t) v l:=by
 obtain⟨a,c,r,q,p,n⟩:=h;refine⟨a,c,r,q,p,λi x g=>?_⟩;obtain⟨b,o,cs,A,z,y,w,s⟩:=n i x g;obtain⟨f,e⟩:=m _ _ s;refine⟨b,o,cs,A,?_,y,λj u d=>?_,e⟩
 .show b<(BD W).heap.size
  rw[ej];exact z
 exact SJ (w j u d) (f u (Z3 d))
variable {l nums:List Int}
def ad7 {t:Tape}(h:SI (Lv W) W v l):SI (Lv (tp (BD W) t)) (tp (BD W) t) v l:=Sl.left h λc x a=>by
 unfold Ri at a;subst a;exact⟨λu b=>by obtain rfl:=Yh.1 b;exact .int _ _,rfl⟩
def afa {t:Tape}{l:List (Int×Int)}(h:SP (Lv W) W v l):SP (Lv (tp (BD W) t)) (tp (BD W) t) v l:=Sl.left h λc x a=>by
 unfold Rp at a;subst a;exact⟨λu b=>by simp at b;rcases b with rfl|rfl<;>exact .int _ _,rfl⟩
def agV {t:Tape}{l:List Ay}(h:Sl (Lv W) RsH 5 W v l):SS (Lv (tp (BD W) t)) (tp (BD W) t) v l:=Sl.left h λe x d=>by
 obtain⟨v2,v3,rfl,c,b,d2,d3⟩:=d;refine⟨λu a=>?_,v2,v3,rfl,afa c,ad7 b⟩;simp at a;rcases a with rfl|rfl|rfl|rfl|rfl
 .exact .int _ _
 .exact .int _ _
 .exact d2.aa0
 .exact d3.aa0
 exact .int _ _
variable {c:A_}
def InC.left (t:Tape)(h:InC W v1 v2 v3 v4 v5 c):RC (Lv (tp (BD W) t)) (tp (BD W) t) v1 v2 v3 v4 v5 c:=
 ⟨ad7 h.base.1,afa h.Af.1,ad7 h.hooks.1,agV h.Aa.1,ad7 h.now.1⟩
def InC.aa0 {W:Zb}{v1 v2 v3 v4 v5:Zf}{c:A_}(h:InC W v1 v2 v3 v4 v5 c):VR (Qk W) (.agg #[v1,v2,v3,v4,v5]) (.agg #[v1,v2,v3,v4,v5]):=by
 refine .P6 ⟨rfl,λi x y b a=>?_⟩
 match i,b,a with
 |0,b,a=>cases b;cases a;exact h.base.2.aa0
 |1,b,a=>cases b;cases a;exact h.Af.2.aa0
 |2,b,a=>cases b;cases a;exact h.hooks.2.aa0
 |3,b,a=>cases b;cases a;exact h.Aa.2.aa0
 |4,b,a=>cases b;cases a;exact h.now.2.aa0
section
variable {H:Type}{enc:Zs×Zf->H}{W:Zb}
variable {ps:List MemPlace}
def adR {base:Nat}{d:DataW H}(ok:Zbk Zc W .any base 26 v)(h:DataW.Trod enc Zc W 0 (λ_=>true) true 26 v d ps):∃v1 v2 v3 v4 v5 c,v=.agg #[v1,v2,v3,v4,v5]/\InC W v1 v2 v3 v4 v5 c:=by
 obtain⟨a,rfl,_⟩:=okWide_struct Tryz.underlying26 ok;obtain⟨n,b⟩:=h;obtain⟨c,v1,v2,v3,v4,v5,e,f⟩:=adj n _ _ b;refine⟨v1,v2,v3,v4,v5,c,?_,f⟩;have:a.toList=[v1,v2,v3,v4,v5]:=e;rw[<-Array.toList_inj.1 (show a.toList= #[v1,v2,v3,v4,v5].toList from this)]
def afb {base:Nat}{d:DataW H}(ok:Zbk Zc W .any base 22 v)(h:DataW.Trod enc Zc W 0 (λ_=>true) true 22 v d ps):∃l,SI (Lv W) W v l/\Nr W v:=by
 obtain⟨a,n,c,rfl⟩:=okWide_slice (t:=22) YE ok;obtain⟨n,f⟩:=h;obtain⟨l,u,e,b⟩:=abK n _ _ f;cases e;exact⟨l,b⟩
end
set_option maxRecDepth 100000
set_option maxRecDepth 100000
variable {P:Zo}
variable {t e:Zs}
def aeQ {r:Reach}{base:Nat}(ht:P.underlying t=some (.int .u8))(h:Zbk P w r base t v):∃b:UInt8,v=.int .u8 (b.toNat:Int):=by
 obtain⟨n,rfl⟩:=okWide_int ht h;simp only[Zbk,ht,Cell.okWide]at h;have a:0<=n/\n<=255:=by
  have c:IntKind.u8.min<=n/\n<=IntKind.u8.max:=by simpa[Cell.ok,ht,IntKind.has]using h
  have e:IntKind.u8.min=0:=d!
  have d:IntKind.u8.max=255:=d!
  omega
 refine⟨Zcn n.toNat,?_⟩;rw[UInt8.toNat_ofNat']
 congr 1
 omega
def adT {r:Reach}{base:Nat}(ht:P.underlying t=some .string)(h:Zbk P w r base t v):∃s:ByteArray,v=.string s:=okWide_string ht h
variable {ps:List MemPlace}
def abb {enc:Zs×Zf->H}{f:List Zs}{l:List Zf}{n:List (DataW H)}(h:Za9 enc Zc W 0 (λ_=>true) true (t::f) l n ps):
  ∃x l' d e p b,l=x::l'/\DataW.Trod enc Zc W 0 (λ_=>true) true t x d p/\Za9 enc Zc W 0 (λ_=>true) true f l' e b:=by
 obtain⟨x,a,d1,c,i,g,m,_,_,k,j⟩:=trodAll_cons h;exact⟨x,a,d1,c,i,g,m,k,j⟩
def trodAll_nil {enc:Zs×Zf->H}{l:List Zf}{b:List (DataW H)}(h:Za9 enc Zc W 0 (λ_=>true) true [] l b ps):l=[]:=by
 cases l with
 |nil=>rfl
 |cons a l=>cases b<;>exact(show False from h).elim
def afc {ρ:Ren}:∀(l:List Zf),(∀v∈l,VR ρ v v)->BS ρ l.toArray l.toArray:=λl h=>⟨rfl,λi u v a b=>by
 rw[a]at b;cases b;rw[ZG]at a;exact h u (Z3 a)⟩
variable {f:ZaQ}
variable {args cs:Array Zf}
def afd {fn:Func}{base:Nat}{enc:Zs×Zf->H}{T:List (DataW H)}(hp:fn.params= #[26,9,3,3,5,22])
 (a:∀(j:Nat) t v,fn.params[j]?=some t->args[j]?=some v->Zbk Zc W .any base t v) (d:Za9 enc Zc W 0 (λ_=>true) true fn.params.toList args.toList T ps) (B:Jr (BD W))
 (g:∀(w:Zb) (v1 v2 v3 v4 v5 u:Zf) (c:A_) (s:ByteArray) (p q:Int) (b:UInt8) (nums:List Int),RC (λx=>x<w.heap.size) w v1 v2 v3 v4 v5 c->SI (λx=>x<w.heap.size) w u nums->Jr w->Calls Lp f #[.agg #[v1,v2,v3,v4,v5],.string s,.int .i64 p,.int .i64 q,.int .u8 (b.toNat:Int),u] w (Two w (.bool true))):
  BS (Qk W) args args/\∀t,Calls Lp f args (tp (BD W) t) (Wr (tp (BD W) t)):=by
 rw[hp]at a d;obtain⟨r,l1,d1,S,p1,q1,M,D,d⟩:=abb d;obtain⟨o,l2,d2,R,p2,Z,L,h2,d⟩:=abb d;obtain⟨n,l3,d3,Q,p3,Y,K,h3,d⟩:=abb d;obtain⟨m,l4,d4,P,p4,X,J,h4,d⟩:=abb d;obtain⟨l,l5,d5,O,p5,V,I,h5,d⟩:=abb d;obtain⟨k,l6,d6,N,p6,U,G,C,d⟩:=abb d;have F:=trodAll_nil d;subst F G I J K L;have E:args= #[r,o,n,m,l,k]:=Array.toList_inj.1 M;subst E;obtain⟨v1,v2,v3,v4,v5,c,rfl,z⟩:=adR (a 0 26 r rfl rfl) D;obtain⟨s,rfl⟩:=adT Tryz.underlying9 (a 1 9 o rfl rfl);obtain⟨p,rfl⟩:=okWide_int Tryz.underlying3 (a 2 3 n rfl rfl);obtain⟨q,rfl⟩:=okWide_int Tryz.underlying3 (a 3 3 m rfl rfl);obtain⟨b,rfl⟩:=aeQ Tryz.underlying5 (a 4 5 l rfl rfl);obtain⟨nums,A,i⟩:=afb (a 5 22 k rfl rfl) C;refine⟨afc [_,_,_,_,_,_] (λv y=>?_),λt=>(g _ _ _ _ _ _ _ _ _ _ _ _ _ (z.left t) (ad7 A) B).mono λe w' h=>h⟩;simp at y;rcases y with rfl|rfl|rfl|rfl|rfl|rfl
 .exact z.aa0
 .exact .string _
 .exact .int _ _
 .exact .int _ _
 .exact .int _ _
 exact i.aa0
end Go.Proofs.Fit
namespace Go.Proofs.Fit
open Go Go.RowKit
def aiJ (l:List Int)(out:List Bool):List Bool:=l.foldl (λo x=>o.set x.toNat true) out
def yn (n:Nat):Nat->List (List Int)->List Bool->List Bool
 |_,[],out=>out
 |i,s::r,out=>yn n (i+1) r (if i=n\/out.getD i false=true then aiJ s out else out)
def iV (n:Nat)(l:List (List Int)):Nat->List Bool->List Bool
 |0,out=>out
 |k+1,out=>iV n l k (yn n 0 l out)
def aaZ (l:List Ay):List (List Int):=l.map (·.over)
def aiK (o:List (List Int))(n:Nat):List Bool:=iV n o o.length (List.replicate o.length false)
def ac3 (l:List Ay)(n:Nat):List Bool:=aiK (aaZ l) n
def rh (ab:Nat->Nat)(i:Nat):List (List Int)->Nat->Nat
 | []=>ab
 |s::r=>rh (HJ ab i s) (i+1) r
def iW (ab:Nat->Nat)(l:List (List Int)):Nat->Nat->Nat
 |0=>ab
 |n+1=>iW (rh ab 0 l) l n
def ri (l:List (List Int)):Nat->Nat:=iW (λ_=>0) l l.length
def adA:∀(l:List Ay) (ab:Nat->Nat) (i:Nat),K6 ab i l=rh ab i (aaZ l)
 | [],_,_=>rfl
 |s::r,ab,i=>adA r (HJ ab i s.over) (i+1)
def adm (l:List Ay):∀(n:Nat) (ab:Nat->Nat),G5 ab l n=iW ab (aaZ l) n
 |0,_=>rfl
 |n+1,ab=>by
  show G5 (K6 ab 0 l) l n=iW (rh ab 0 (aaZ l)) (aaZ l) n;rw[adm l n,adA]
def afe (l:List Ay):Ax l=ri (aaZ l):=by
 unfold Ax ri;rw[adm,show(aaZ l).length=l.length by simp[aaZ]]
def WU (o:List (List Int)):Bool:=(Yr o.length).all λn=>(Yr o.length).all λk=>(aiK o n).getD k false==hasB (ri o n) k
def Lj:List (List Int):=[[],[0],[1],[2],[0,1],[0,2],[1,2],[0,1,2]]
def acD:∀a∈Lj,WU [a.filter (· <1)]=true:=by decide+kernel
def acE:∀a∈Lj,∀b∈Lj,WU [a.filter (· <2),b.filter (· <2)]=true:=by decide+kernel
def acF:∀a∈Lj,∀b∈Lj,∀c∈Lj,WU [a,b,c]=true:=by decide+kernel
variable {l nums:List Int}
def EM (f:l.Pairwise (· < ·))(e:∀x∈l,0<=x/\x<3):l∈Lj:=by
 have g:∀x:Int,0<=x/\x<3->x=0\/x=1\/x=2:=λx h=>o!
 match l,f,e with
 | [],_,_=>simp[Lj]
 | [a],_,e=>
  rcases g a (e a i!) with rfl|rfl|rfl<;>simp[Lj]
 | [a,b],f,e=>
  have i:a<b:=by simpa using f
  rcases g a (e a i!) with rfl|rfl|rfl<;>rcases g b (e b i!) with rfl|rfl|rfl<;>first|(exfalso;omega)|simp[Lj]
 | [a,b,c],f,e=>
  have i:a<b/\b<c:=by
   simp at f;exact⟨f.1.1,f.2⟩
  have j:=e a i!;have m:=e c i!;obtain rfl:a=0:=o!
  obtain rfl:c=2:=o!
  obtain rfl:b=1:=o!
  simp[Lj]
 |a::b::c::d::r,f,e=>
  exfalso;simp only[List.pairwise_cons]at f;have i:=f.1 b i!;have o:=f.2.1 c i!;have n:=f.2.2.1 d i!;have j:=e a i!;have k:=e d i!;omega
def filter_lt {n:Int}(a:∀x∈l,0<=x/\x<n):l.filter (· <n)=l:=List.filter_eq_self.2 λx h=>by simpa using(a x h).2
def vU {o:List (List Int)}(g:o.length<=3)(e:∀l∈o,l.Pairwise (· < ·))(d:∀l∈o,∀x∈l,0<=x/\x<o.length):WU o=true:=by
 match o,g,e,d with
 | [],_,_,_=>rfl
 | [a],_,e,d=>
  have f:=d a i!;have:=acD a (EM (e a i!) λx h=>by have:=f x h;simp at this;omega);rwa[filter_lt (λx h=>by have:=f x h;simpa using this)]at this
 | [a,b],_,e,d=>
  have f:=d a i!;have i:=d b i!;have:=acE a (EM (e a i!) λx h=>by have:=f x h;simp at this;omega) b (EM (e b i!) λx h=>by have:=i x h;simp at this;omega);rwa[filter_lt (λx h=>by have:=f x h;simpa using this),filter_lt (λx h=>by have:=i x h;simpa using this)]at this
 | [a,b,c],_,e,d=>
  exact acF a (EM (e a i!) λx h=>by have:=d a i! x h;simpa using this) b (EM (e b i!) λx h=>by have:=d b i! x h;simpa using this)
   c (EM (e c i!) λx h=>by have:=d c i! x h;simpa using this)
 |_::_::_::_::_,g,_,_=>simp at g
variable {n k aa1 rr ww i g q M:Nat}
def aff {number:Nat}(h:CY (Ed n number l) 0 l=0):l.Pairwise (· < ·)/\∀x∈l,0<=x/\x<n:=by
 have a:∀k (a:k<l.length),(0<=l[k]/\l[k]<n)/\(0<k->nth l (k - 1)<l[k]):=λk a=>by
  have:=Gs h k l[k] (zf a);unfold Ed at this;split at this
  .cases this
  next g=>
  split at this
  .cases this
  next f=>
  refine⟨?_,λs=>?_⟩
  .have:=G' (n:=l[k]) (lo:=0) (hi:=(n:Int) - 1) (by cases e:AD l[k] 0 ((n:Int) - 1);rfl;exact absurd (.inl e) g)
   omega
  exact Int.lt_of_not_ge λb=>f ⟨o!,by rw[zN];exact b⟩
 refine⟨?_,λx o=>?_⟩
 .have step:∀i (hi:i+1<l.length),l[i]<l[i+1]:=λi hi=>by
   have:=(a (i+1) hi).2 (Nat.succ_pos _);simpa[nth,Y6,show i<l.length by omega]using this
  have c:∀d i (hi:i+d+1<l.length),l[i]<l[i+d+1]:=by
   intro d
   induction d with
   |zero=>intro i hi;exact step i hi
   |succ d m=>
    intro i hi;have g:=m i o!;have f:=step (i+d+1) o!;have e:l[i+(d+1)+1]=l[i+d+1+1]:=rfl;rw[e];omega
  rw[ZdK];intro i j hi r p;have:=c (j - i - 1) i o!;have e:l[i+(j - i - 1)+1]' o!=l[j]:=by congr 1;omega
  rwa[e]at this
 obtain⟨k,q,rfl⟩:=Zas o;exact(a k q).1
def aeR {l:List Ay}(d:l.length<=3)(h:∀s∈l,s.over.Pairwise (· < ·)/\∀x∈s.over,0<=x/\x<l.length)(f:n<l.length)(e:k<l.length):(ac3 l n).getD k false=hasB (Ax l n) k:=by
 have c:(aaZ l).length=l.length:=by simp[aaZ]
 have:=vU (o:=aaZ l) o! (λo b=>by obtain⟨s,a,rfl⟩:=List.mem_map.1 b;exact(h s a).1)
  (λo b=>by obtain⟨s,a,rfl⟩:=List.mem_map.1 b;rw[c];exact(h s a).2)
 unfold WU at this;rw[Zdm]at this;have:=this n (by rw[List.mem_range];omega);rw[Zdm]at this;have:=this k (by rw[List.mem_range];omega);rw[afe];exact eq_of_beq this
def abN (a:UInt8):Bool:=decide (97<=a.toNat)&&decide (a.toNat<=122)
def abR (d:UInt8):Bool:=decide (49<=d.toNat)&&decide (d.toNat<=57)
def sgB (b:UInt8):Int:=if b.toNat=45 then -1 else if b.toNat=43 then 1 else 0
def afT (d:UInt8):Int:=if abR d=true then(d.toNat:Int) - 48 else 0
def abj:List UInt8->Bool
 | [a,b,d]=>abN a&&decide (sgB b≠0)&&abR d
 |_=>false
def abn:List UInt8->Int×Int
 | [a,b,d]=>((a.toNat:Int) - 97,sgB b*((d.toNat:Int) - 48))
 |_=>(0,0)
def afX (s:ByteArray)(pos:Nat)(h:pos<s.size):(((s[pos]'h).toNat<128/\Utf8.decode s pos=((s[pos]'h).toNat,1))\/(128<=(s[pos]'h).toNat/\128<=(Utf8.decode s pos).1/\1<=(Utf8.decode s pos).2))/\(Utf8.decode s pos).1<=2147483647:=by
 refine⟨?_,decode_le s pos⟩;by_cases a:(s[pos]'h).toNat<128
 .exact .inl ⟨a,decode_ascii s pos h a⟩
 have:=decode_high s pos h o!;exact .inr ⟨o!,this.1,this.2⟩
structure abq (a b d:UInt8)(pos:Nat)(x n z:Int):Prop where
 seam:x=if 1<=pos/\abN a=true then(a.toNat:Int) - 97 else -1
 sign:a.toNat<128->z=if 2<=pos then sgB b else 0
 num:a.toNat<128->b.toNat<128->n=if 3<=pos then afT d else 0
 z0:pos<=1->z=0
 n0:pos<=2->n=0
 zb: -1<=z/\z<=1
 nb:0<=n/\n<=9
variable {a d b:UInt8}
variable {x z y last lo hi:Int}
def abq.end_ {pos:Nat}{n:Int}(h:abq a b d pos x n z)(hp:3<=pos):((decide (0<=x)&& !(z==0))&&decide (0<n))=abj [a,b,d]/\(abj [a,b,d]=true->(x,z*n)=abn [a,b,d]):=by
 obtain⟨k,j,i,_,_,s,r⟩:=h;rw[show abj [a,b,d]=(abN a&&decide (sgB b≠0)&&abR d) from rfl,show abn [a,b,d]=((a.toNat:Int) - 97,sgB b*((d.toNat:Int) - 48)) from rfl];by_cases f:abN a=true
 .have g:97<=a.toNat/\a.toNat<=122:=by unfold abN at f;simpa using f
  rw[if_pos ⟨o!,f⟩]at k;have j:=j o!;rw[if_pos o!]at j;by_cases c:sgB b=0
  .have:z=0:=by omega
   subst this;rw[c];simp
  have m:b.toNat<128:=by
   unfold sgB at c;split at c
   .omega
   split at c
   .omega
   exact absurd rfl c
  have i:=i o! m;rw[if_pos o!]at i;subst k j i;unfold afT;by_cases e:abR d=true
  .have l:49<=d.toNat/\d.toNat<=57:=by unfold abR at e;simpa using e
   rw[if_pos e,f,e];refine⟨?_,λ_=>rfl⟩;have q:decide (0<=(a.toNat:Int) - 97)=true:=decide_eq_true o!;have p:(sgB b==0)=false:=by simpa using c
   have o:decide (0<(d.toNat:Int) - 48)=true:=decide_eq_true o!;rw[q,p,o,decide_eq_true c]
   rfl
  have l:abR d=false:=by simpa using e
  rw[if_neg e,l];simp
 have g:abN a=false:=by simpa using f
 rw[if_neg (λh=>f h.2)]at k;subst k;rw[g];simp
def adp:abN a=true↔97<=a.toNat/\a.toNat<=122:=by unfold abN;simp
def adq:abR d=true↔49<=d.toNat/\d.toNat<=57:=by unfold abR;simp
def abq.first {n:Int}(h:abq a b d 0 x n z)(l:aa1=a.toNat)(f:(aa1<128/\rr=aa1/\ww=1)\/(128<=aa1/\128<=rr/\1<=ww))(j:y=if 97<=rr/\rr<=122 then(rr:Int) - 97 else -1):abq a b d ww y n z:=by
 have i:=h.z0 o!;have k:=h.n0 o!;subst i k;refine⟨?_,λm=>?_,λm l=>?_,λ_=>rfl,λ_=>rfl,o!,o!⟩
 .rw[j]
  by_cases c:abN a=true
  .have:=adp.1 c
   rcases f with⟨e,g,o⟩|⟨e,_⟩
   .rw[if_pos o!,if_pos ⟨o!,c⟩];omega
   omega
  have:¬(97<=a.toNat/\a.toNat<=122):=λh=>c (adp.2 h);have p:¬(97<=rr/\rr<=122):=by rcases f with⟨e,g,o⟩|⟨e,g,_⟩<;>omega
  exact(if_neg p).trans (if_neg (λh=>c h.2)).symm
 .rw[if_neg o!]
 rw[if_neg o!]
def abq.second {n e:Int}(h:abq a b d 1 x n z)(g:aa1=b.toNat)(l:(aa1<128/\rr=aa1/\ww=1)\/(128<=aa1/\128<=rr/\1<=ww))(f:e=if rr=45 then -1 else if rr=43 then 1 else 0):abq a b d (1+ww) x n e:=by
 have k:=h.n0 o!;subst k;have j:e=sgB b:=by
  rw[f];unfold sgB;rcases l with⟨o,i,q⟩|⟨o,i,_⟩
  .rw[i,g]
  rw[if_neg o!,if_neg o!,if_neg o!,if_neg o!]
 refine⟨?_,λm=>?_,λm g=>?_,λp=>o!,λ_=>rfl,?_,o!⟩
 .rw[h.seam]
  by_cases c:abN a=true
  .rw[if_pos ⟨o!,c⟩,if_pos ⟨o!,c⟩]
  rw[if_neg (λh=>c h.2),if_neg (λh=>c h.2)]
 .rw[if_pos o!];exact j
 .rw[if_neg o!]
 rw[f];split
 .omega
 split<;>omega
def abq.afg {n n':Int}(h:abq a b d 2 x n z)(m:aa1=d.toNat)(g:(aa1<128/\rr=aa1/\ww=1)\/(128<=aa1/\128<=rr/\1<=ww))(f:n'=if 49<=rr/\rr<=57 then(rr:Int) - 48 else 0):abq a b d (2+ww) x n' z:=by
 have l:n'=afT d:=by
  rw[f];unfold afT;by_cases c:abR d=true
  .have:=adq.1 c
   rcases g with⟨e,j,o⟩|⟨e,_⟩
   .rw[if_pos o!,if_pos c];omega
   omega
  have:¬(49<=d.toNat/\d.toNat<=57):=λh=>c (adq.2 h);rw[if_neg c,if_neg];rcases g with⟨e,j,o⟩|⟨e,j,_⟩<;>omega
 refine⟨?_,λi=>?_,λi m=>?_,λk=>o!,λk=>o!,h.zb,?_⟩
 .rw[h.seam]
  by_cases c:abN a=true
  .rw[if_pos ⟨o!,c⟩,if_pos ⟨o!,c⟩]
  rw[if_neg (λh=>c h.2),if_neg (λh=>c h.2)]
 .rw[h.sign i,if_pos o!,if_pos o!]
 .rw[if_pos o!];exact l
 rw[f];split<;>omega
def ad8 (ss:List Ay)(out:List Int)(i:Nat):Bool:=decide (nth out i=0)&&AD 0 (Aj ss i).low (Aj ss i).high
def abI (ss:List Ay):List UInt8->List Int->Int->Int×List Int
 | [],out,_=>if(Yr ss.length).any (ad8 ss out)=true then(1,[]) else(0,out)
 | [_],_,_=>(2,[])
 | [_,_],_,_=>(2,[])
 |a::b::d::r,out,last=>
  if abj [a,b,d]=true then
   if(ss.length:Int)<=(abn [a,b,d]).1 then(3,[])
   else if(abn [a,b,d]).1<=last then(5,[])
   else if AD (abn [a,b,d]).2 (Aj ss (abn [a,b,d]).1.toNat).low (Aj ss (abn [a,b,d]).1.toNat).high=true then(1,[])
   else abI ss r (out.set (abn [a,b,d]).1.toNat (abn [a,b,d]).2) (abn [a,b,d]).1
  else(2,[])
def abS (c:A_)(l:List UInt8):Int×List Int:=if BN c=0 then abI c.Aa l (List.replicate c.Aa.length 0) (-1) else(BN c,[])
def ad9 {ss:List Ay}{l:List UInt8}{out:List Int}(f:k<l.length)(h:abj ((l.drop k).take 3)=false):abI ss (l.drop k) out last=(2,[]):=by
 match c:l.drop k with
 | []=>have:=congrArg List.length c;rw[List.length_drop]at this;simp at this;omega
 | [_]=>rfl
 | [_,_]=>rfl
 |a::b::d::r=>
  rw[c]at h;have e:abj [a,b,d]=false:=h;unfold abI;rw[e]
  rfl
def adn {l:List UInt8}(h:abj ((l.drop k).take 3)=true):∃a b d,l.drop k=a::b::d::l.drop (k+3)/\(l.drop k).take 3=[a,b,d]/\k+3<=l.length/\abN a=true/\sgB b≠0/\abR d=true:=by
 match c:l.drop k with
 | []=>rw[c]at h;cases h
 | [_]=>rw[c]at h;cases h
 | [_,_]=>rw[c]at h;cases h
 |a::b::d::r=>
  have f:r=l.drop (k+3):=by
   rw[<-List.drop_drop,c]
   rfl
  have g:k+3<=l.length:=by
   have:=congrArg List.length c;rw[List.length_drop]at this;simp at this;omega
  rw[c]at h;have e:(abN a&&decide (sgB b≠0)&&abR d)=true:=h;simp only[ZF,decide_eq_true_eq]at e;exact⟨a,b,d,by rw[f],rfl,g,e.1.1,e.1.2,e.2⟩
def adB (k:abN a=true)(c:sgB b≠0)(j:abR d=true):0<=(abn [a,b,d]).1/\(abn [a,b,d]).1<=25/\(abn [a,b,d]).2≠0/\-9<=(abn [a,b,d]).2/\(abn [a,b,d]).2<=9:=by
 have:=adp.1 k;have:=adq.1 j;have f:sgB b= -1\/sgB b=1:=by
  unfold sgB at c⊢;split
  .exact .inl rfl
  split
  .exact .inr rfl
  rename_i i g;rw[if_neg i,if_neg g]at c;exact absurd rfl c
 show 0<=(a.toNat:Int) - 97/\(a.toNat:Int) - 97<=25/\sgB b*((d.toNat:Int) - 48)≠0/\-9<=sgB b*((d.toNat:Int) - 48)/\sgB b*((d.toNat:Int) - 48)<=9;rcases f with e|e<;>rw[e]<;>omega
def aev {ss:List Ay}{l:List UInt8}{out:List Int}{i n:Int}(h:abj ((l.drop k).take 3)=true)(c:(i,n)=abn ((l.drop k).take 3)):
  abI ss (l.drop k) out last=if(ss.length:Int)<=i then(3,[]) else if i<=last then(5,[]) else if AD n (Aj ss i.toNat).low (Aj ss i.toNat).high=true then(1,[]) else abI ss (l.drop (k+3)) (out.set i.toNat n) i:=by
 obtain⟨a,b,d,f,e,_⟩:=adn h;rw[e]at h c;rw[f]
 conv=>lhs;unfold abI
 rw[if_pos h, <-c]
def adC {ss:List Ay}{l:List UInt8}{out:List Int}(a:l.length<=k):abI ss (l.drop k) out last=if(Yr ss.length).any (ad8 ss out)=true then(1,[]) else(0,out):=by
 rw[List.drop_eq_nil_of_le a]
 rfl
def aeS (s:ByteArray)(i j:Nat):(s.extract i j).data.toList=(s.data.toList.drop i).take (j - i):=by
 rw[ByteArray.data_extract,Array.toList_extract]
variable {W w A B w':Zb}
def bU (h:Qb6 w A)(k:Qb6 A B):Qb6 w B:=h.trans (k.mono h.size)
attribute [local go_sem] Zdk
def ade:∀(l:List (Int×Int)) (i:Nat) (p:Int×Int),i<l.length->((l.flatMap λp=> [ZL .i64 p.1,.int .i64 p.2]).set (i*2) (.int .i64 p.1)).set (i*2+1) (.int .i64 p.2)=(l.set i p).flatMap λp=> [ZL .i64 p.1,.int .i64 p.2]
 | [],_,_,h=>h!
 |q::r,0,p,_=>rfl
 |q::r,i+1,p,h=>by
  have:=ade r i p (by simpa using h);rw[List.set_cons_succ,List.flatMap_cons,List.flatMap_cons, <-this,show(i+1)*2=i*2+1+1 by omega]
  rfl
variable {t e:Zs}
def Ih.set {base a:Nat}{l:List (Int×Int)}(h:Ih w base (.slice g n a) l e)(hi:i<l.length)(p:Int×Int):
  Ih ((w.setCell ⟨g,i*2,none⟩ (.int .i64 p.1)).setCell ⟨g,i*2+1,none⟩ (.int .i64 p.2)) base (.slice g n a) (l.set i p) e:=by
 obtain⟨q,o⟩:=h;rcases o with⟨b,_⟩|⟨s,t,r,b,m,k,j,f,d,c⟩
 .cases b
 cases b;refine⟨?_,.inr ⟨g,a,_,by rw[ZcC],m,Ba (Ba k _) _,by simpa using j,f,by simpa using d,?_⟩⟩
 .rw[<-ade l i p hi]
  simpa using q
 rw[<-ade l i p hi];simp only[ZcM,ZcC,List.take_set];rw[c]
inductive HT
 |leaf
 |one (i:Nat) (r:HT)
 |free (i:Nat) (r:HT)
 |fork (i:Nat) (x:HT) (j:Nat) (y:HT)
def HT.len:HT->Nat
 | .leaf=>0
 | .one _ r=>r.len+1
 | .free _ r=>r.len+1
 | .fork _ x _ _=>x.len+1
section
variable {P:Zo}{ops:Array Oper}{Q:Exit->Act->Zb->Prop}{md:YO}{S:Zb->Prop}{T:Nat->Zb->Prop}
def abv (P:Zo)(b:Array Oper)(Q:Exit->Act->Zb->Prop)(S:Zb->Prop)(T:Nat->Zb->Prop):HT->Act->Zb->Prop
 | .leaf,a,w=>Q .normal a w
 | .one i r,a,w=>wpOp P b Q i (λa' w'=>T i w'/\abv P b Q S T r a' w') a w
 | .free i r,a,w=>S w/\∃o v,b[i]?=some o/\ZbF P b S o v a/\abv P b Q S T r (a.put o.dst v) w
 | .fork i x j y,a,w=>wpOp P b Q i (λa' w'=>T i w'/\abv P b Q S T x a' w') a w/\wpOp P b Q j (λa' w'=>T j w'/\abv P b Q S T y a' w') a w
def htB (b:YO)(a:Array Oper)(n:Nat)(lates:List Nat):HT->Array Bool->Bool
 | .leaf,listed=>(zs b a listed).isEmpty
 | .one i r,listed=>decide (zs b a listed=[i])&&htB b a n lates r (listed.setIfInBounds i true)
 | .free i r,listed=>(zs b a listed).contains i&&Za3 b a listed i&&pQ b a n lates i&&htB b a n lates r (listed.setIfInBounds i true)
 | .fork i x j y,listed=>decide (zs b a listed=[i,j])&&decide (x.len=y.len)&&htB b a n lates x (listed.setIfInBounds i true)&&htB b a n lates y (listed.setIfInBounds j true)
def abU {n:Nat}{lates:List Nat}(q:YF ops=true)(l:∀c a d v w,Q (.panic c) (Zck a d v) w->Q (.panic c) a w):
  ∀(t:HT) (listed:Array Bool) (a:Act) (w:Zb),Dn md ops listed->htB md ops n lates t listed=true->abv P ops Q S (FG lates S) t a w->Cy P md ops Q (FG lates S) t.len listed a w
 | .leaf,_,_,_,_,b,h=>⟨by simpa[htB]using b,h⟩
 | .one i r,listed,a,w,e,b,h=>by
  simp only[htB,ZF,decide_eq_true_eq]at b;refine⟨λm=>(by rw[b.1]at m;cases m),λj u=>?_⟩;have s:=u;rw[b.1]at u;have:j=i:=by simpa using u
  subst this;exact Zcc (λp w' x=>⟨x.1,abU q l r _ p w' (e.step s) b.2 x.2⟩) h
 | .free i r,listed,a,w,e,b,h=>by
  simp only[htB,ZF]at b;obtain⟨F,o,v,E,D,h⟩:=h;have A:i∈zs md ops listed:=by simpa using b.1.1.1
  exact Me (S:=S) (n:=n) (f:=r.len) E q (λc a w x=>l c a o.dst v w x) (λw x=>.inr x) (iw b.1.2) listed a w e b.1.1.2 A D F (abU q l r _ _ w (e.step A) b.2 h)
 | .fork i x j y,listed,a,w,e,b,h=>by
  simp only[htB,ZF,decide_eq_true_eq]at b;obtain⟨⟨⟨B,I⟩,H⟩,G⟩:=b;refine⟨λm=>(by rw[B]at m;cases m),λk g=>?_⟩;have C:=g;rw[B]at g;rcases List.mem_cons.1 g with rfl|g
  .exact Zcc (λp w' z=>⟨z.1,abU q l x _ p w' (e.step C) H z.2⟩) h.1
  have:k=j:=by simpa using g
  subst this;exact Zcc (λp w' z=>⟨z.1,by have:=abU q l y _ p w' (e.step C) G z.2;rwa[<-I]at this⟩) h.2
def abl {id:Nat}{a:Act}{l:List Oper}(n:Nat)(lates:List Nat)(t:HT)(ls:List Nat)(i:P.follows .mixedOrders=true)(g:∀c a d v w,Q (.panic c) (Zck a d v) w->Q (.panic c) a w)
 (b:(YF l.toArray&&decide (t.len+ls.length=l.toArray.size)&&lsB .any l.toArray n lates (htB .any l.toArray n lates t) ls (Yu l.toArray.size false))=true) (j:S w.drew)
 (h:MQ P l.toArray S (λa'=>abv P l.toArray Q S (FG lates S) t a' w.drew) ls a):(zU id l.toArray true).wp P Q a w:=by
 simp only[ZF,decide_eq_true_eq]at b;refine Zd5 i (JV (T:=FG lates S) _ _ _ _ ?_);have e:Dn .any l.toArray (Yu l.toArray.size false):=λk ok _ f=>by
  rw[show(Yu l.toArray.size false).getD k false=false by unfold Array.getD;split<;>simp]at f;cases f
 have:=Vd b.1.1 g j (λlisted a m p o=>abU b.1.1 g t listed a w.drew m p o) ls _ a e b.2 h;rw[b.1.2]at this;exact this
variable {r:HT}
variable {o:Oper}
def agh {a:Act}(b:ops[i]?=some o)(c:o.guard=none)(h:o.wp P a w (λa' w'=>T i w'/\abv P ops Q S T r a' w') Q):abv P ops Q S T (.one i r) a w:=by
 unfold abv wpOp;simp only[b];rw[if_pos (by simp[Yf,c])];exact .inl h
variable {v v1 v2 v3 v4 v5 v6 u1 u2 u4 u5 lv:Zf}
def abx {a:Act}(c:ops[i]?=some o)(d:o.guard=none)(b:(Zby a.eval o).run P w=.ok (.value v) w')(e:T i w')
 (h:abv P ops Q S T r (a.put o.dst v) w'):abv P ops Q S T (.one i r) a w:=by
 refine agh c d ?_;unfold ZbA;rw[b,Zdi];exact⟨e,h⟩
variable {f:ZaQ}
variable {args cs:Array Zf}
def ad4 {a:Act}(c:ops[i]?=some o)(d:o.guard=none)(b:(Zby a.eval o).run P w=.ok (.enter f args) w)
 (g:Calls P f args w λe w'=>(∃v,e=.returned v/\T i w'/\abv P ops Q S T r (a.put o.dst v) w')\/∃x,e=.panicked x/\Q (.panic x) a w'):abv P ops Q S T (.one i r) a w:=by
 refine agh c d ?_;unfold ZbA;rw[b,Zdj];refine g.mono λe w' h=>?_;rcases h with⟨v,rfl,h⟩|⟨x,rfl,h⟩
 .exact h
 exact h
def abg {a:Act}(e:S w)(c:ops[i]?=some o)(d:o.guard=none)(b:∀w,S w->(Zby a.eval o).run P w=.ok (.value v) w)
 (h:abv P ops Q S T r (a.put o.dst v) w):abv P ops Q S T (.free i r) a w:=
 ⟨e,o,v,c,.inl ⟨by simp[Yf,d],b⟩,h⟩
end
def adU (w:Zb)(s:ByteArray)(p:Nat):YH w w (w.iter s p):=(Zh _ _).alloc (Zj _) _
def agi (s:ByteArray)(w:Zb)(e:Ending)(w':Zb):Prop:=Qb6 w w'/\∃x y b,e=.returned (.tuple #[.int .i64 x,.int .i64 y,.bool b])/\b=abj s.data.toList/\(b=true->(x,y)=abn s.data.toList)
variable {s:ByteArray}
def acf {b:Bool}(a:Qb6 w w')(d:b=abj s.data.toList)(c:b=true->(x,y)=abn s.data.toList):agi s w (.returned (.tuple #[.int .i64 x,.int .i64 y,.bool b])) w':=⟨a,x,y,b,rfl,d,c⟩
def ak2 (s:ByteArray)(w:Zb):Calls Lp 142 #[.string s] w (agi s w):=by
 by_cases J:s.size=3
 .obtain⟨a,b,d,H⟩:∃a b d,s.data.toList=[a,b,d]:=by
   have h:s.data.toList.length=3:=by rw[Zd2];exact J
   match V:s.data.toList,h with
   | [a,b,d],_=>exact⟨a,b,d,rfl⟩
  have v:∀(i:Nat) (h:i<s.size),[a,b,d][i]?=some (s[i]'h):=λi h=>by
   rw[<-H,Array.getElem?_toList];exact Zx (show i<s.data.size from h)
  have q:=Zd H;have O:=Zd v;clear H v;have U:((s.size:Int) !=3)=false:=by rw[J];rfl
  go_enter Lp.func142,ai7;go_wp2;go_loopg [5,6,7] 3 (λY L K zv wr=>∃(c:Nat) (x n z:Int),Y=3 - c/\L=.int .i64 x/\K=.int .i64 n/\zv=.int .i64 z/\abq a b d c x n z/\wr=w.iter s c)
  case atStart=>exact⟨0,-1,0,0,rfl,rfl,rfl,rfl,⟨rfl,λ_=>rfl,λ_ _=>rfl,λ_=>rfl,λ_=>rfl,o!,o!⟩,rfl⟩
  obtain⟨c,x,n,z,rfl,rfl,rfl,rfl,o,B⟩:=hrel;by_cases D:c<s.size
  .have g:=Zd o
   have t:=run_next_any (P:=Lp) w s c 0 D;obtain⟨m,G⟩:=afX s c D;have S:=O.out c D;obtain⟨aa1,e⟩:=Qnm ((s[c]'D).toNat);rw[<-e]at m;obtain⟨rr,j⟩:∃r,r=(Utf8.decode s c).1:=⟨_,rfl⟩;obtain⟨ww,u⟩:∃r,r=(Utf8.decode s c).2:=⟨_,rfl⟩;have f:(aa1<128/\rr=aa1/\ww=1)\/(128<=aa1/\128<=rr/\1<=ww):=by
    rcases m with⟨R,X⟩|h
    .rw[X]at j u;exact .inl ⟨R,j,u⟩
    rw[<-j, <-u]at h;exact .inr h
   rw[<-j]at t G;rw[<-u]at t;clear m j u o;have HW:=Zd B;obtain⟨W,p⟩:=Qnm (w.iter s c);rw[<-p]at t B;subst B;clear p;have N:=Zd e;have E:=Zd S;clear e S;obtain rfl|rfl|rfl:c=0\/c=1\/c=2:=o!
   .have e:aa1=a.toNat:=by rw[N.out];have:=E.out;simp at this;rw[this]
    by_cases T:97<=(rr:Int)
    .by_cases I:(rr:Int)<=122
     .go_wp2
      go_roundg (3 - (0+ww))
      case rel=>exact⟨ww,(rr:Int) - 97,n,z,o!,rfl,rfl,rfl,g.out.first e f (by rw[if_pos o!]),rfl⟩
      omega
     go_wp2;go_roundg (3 - (0+ww))
     case rel=>exact⟨ww,x,n,z,o!,rfl,rfl,rfl,g.out.first e f (by rw[if_neg o!,g.out.seam,if_neg o!]),rfl⟩
     omega
    go_wp2;go_roundg (3 - (0+ww))
    case rel=>exact⟨ww,x,n,z,o!,rfl,rfl,rfl,g.out.first e f (by rw[if_neg o!,g.out.seam,if_neg o!]),rfl⟩
    omega
   .have e:aa1=b.toNat:=by rw[N.out];have:=E.out;simp at this;rw[this]
    obtain rfl:z=0:=g.out.z0 o!;by_cases y:(rr:Int)=45
    .have Z:((rr:Int)==45)=true:=by simpa using y
     go_wp2;go_roundg (3 - (1+ww))
     case rel=>exact⟨1+ww,x,n,-1,o!,rfl,rfl,rfl,g.out.second e f (by rw[if_pos o!]),rfl⟩
     omega
    have Z:((rr:Int)==45)=false:=by simpa using y
    by_cases A:(rr:Int)=43
    .have M9:((rr:Int)==43)=true:=by simpa using A
     go_wp2;go_roundg (3 - (1+ww))
     case rel=>exact⟨1+ww,x,n,1,o!,rfl,rfl,rfl,g.out.second e f (by rw[if_neg o!,if_pos o!]),rfl⟩
     omega
    have M9:((rr:Int)==43)=false:=by simpa using A
    go_wp2;go_roundg (3 - (1+ww))
    case rel=>exact⟨1+ww,x,n,0,o!,rfl,rfl,rfl,g.out.second e f (by rw[if_neg o!,if_neg o!]),rfl⟩
    omega
   have e:aa1=d.toNat:=by rw[N.out];have:=E.out;simp at this;rw[this]
   obtain rfl:n=0:=g.out.n0 o!;by_cases T:49<=(rr:Int)
   .by_cases I:(rr:Int)<=57
    .go_wp2
     go_roundg (3 - (2+ww))
     case rel=>exact⟨2+ww,x,(rr:Int) - 48,z,o!,rfl,rfl,rfl,g.out.afg e f (by rw[if_pos o!]),rfl⟩
     omega
    go_wp2;go_roundg (3 - (2+ww))
    case rel=>exact⟨2+ww,x,0,z,o!,rfl,rfl,rfl,g.out.afg e f (by rw[if_neg o!]),rfl⟩
    omega
   go_wp2;go_roundg (3 - (2+ww))
   case rel=>exact⟨2+ww,x,0,z,o!,rfl,rfl,rfl,g.out.afg e f (by rw[if_neg o!]),rfl⟩
   omega
  have t:=run_next_end (P:=Lp) w s c 0 D;have C:=Zd (o.end_ o!);have M:=Zd (ZY o.zb o.nb);obtain⟨W,p⟩:=Qnm (w.iter s c);have l:Qb6 w W:=by rw[p];exact adU _ _ _
  rw[<-p]at t B;subst B;clear p o;have hw:IntKind.i64.wrap (z*n)=z*n:=by
   have:=M.out;rw[zE];have R: -9<=z*n/\z*n<=9:=by
    have:z= -1\/z=0\/z=1:=o!
    rcases this with rfl|rfl|rfl<;>omega
   omega
  by_cases Q:0<=x
  .by_cases F:z=0
   .subst F
    have k:=Zd (show abj [a,b,d]=false by have:=C.out.1;simpa using this.symm);go_wp2
    go_ret3
    exact acf l (by rw[q.out];exact k.out.symm) (by rw[q.out];exact λh=>h!)
   have Fl:(z==0)=false:=by simpa using F
   have DR:(z !=0)=true:=by simpa using F
   have k:=Zd (show decide (0<n)=abj [a,b,d] by have:=C.out.1;rw[decide_eq_true Q,Fl]at this;simpa using this);go_wp2
   go_ret3
   exact acf l (by rw[q.out];exact k.out) (by rw[q.out];exact λh=>C.out.2 (k.out.symm.trans h))
  have k:=Zd (show abj [a,b,d]=false by have:=C.out.1;rw[decide_eq_false Q]at this;simpa using this.symm);go_wp2
  go_ret3
  exact acf l (by rw[q.out];exact k.out.symm) (by rw[q.out];exact λh=>h!)
 have U:((s.size:Int) !=3)=true:=j!
 have k:=Zd (show abj s.data.toList=false from by
  have h:s.data.toList.length≠3:=by rw[Zd2];exact J
  match V:s.data.toList,h with
  | [],_=>rfl
  | [_],_=>rfl
  | [_,_],_=>rfl
  | [_,_,_],h=>exact absurd rfl h
  |_::_::_::_::_,_=>rfl)
 go_enter Lp.func142,ai7;go_wp2
 go_ret3
 exact acf (Zh _ _) k.out.symm (λh=>h!)
def B3.aj4 {b:Nat}(h:Qb6 w A)(c:B3 b A B)(d:w<=b):Qb6 w B:=h.trans ((c.CN (K:=λx=>x=b) rfl).below (λx a=>by have:x=b:=a;omega) h.size)
def adf (n lo hi:Int)(w:Zb):Calls Lp 135 #[.int .i64 n,.int .i64 lo,.int .i64 hi] w λe w'=>e=.returned (.bool (!AD n lo hi))/\w'=w:=by
 go_enter Lp.func135,ajZ;go_wp2
 all_goals go_ret
 all_goals refine⟨?_,rfl⟩
 all_goals simp_all[AD]
 have c:¬n<lo:=o!
 by_cases b:n<=hi
 .have a:¬hi<n:=by omega
  simp[b,c,a]
 have a:hi<n:=o!
 simp[b,a]
def ah1 (n a:Int)(w:Zb):Calls Lp 107 #[.int .i64 n,.int .i64 a] w λe w'=>e=.returned (.int .i64 (Di n a))/\w'=w:=by
 go_enter Lp.func107,ajU;go_wp2
 all_goals go_ret
 all_goals simp_all[Di]
 all_goals omega
variable {p:Int×Int}
def aeC (h:AD p.1 lo hi=true):CV p lo hi=1:=if_pos (.inl h)
def aeD (h:AD p.2 lo hi=true):CV p lo hi=1:=if_pos (.inr h)
def aeF (b:AD p.1 lo hi=false)(a:AD p.2 lo hi=false)(h:p.2<p.1):CV p lo hi=5:=by
 unfold CV;rw[if_neg (by rw[b,a];simp),if_pos h]
def adr (b:AD p.1 lo hi=false)(a:AD p.2 lo hi=false)(h:¬p.2<p.1):CV p lo hi=0:=by
 unfold CV;rw[if_neg (by rw[b,a];simp),if_neg h]
variable {S:Nat->Prop}
variable {v v1 v2 v3 v4 v5 v6 u1 u2 u4 u5 lv:Zf}
variable {c:A_}
def ak3 (h:RC S w v1 v2 v3 v4 v5 c)(E:Ql6 S w):Calls Lp 116 #[.agg #[v1,v2,v3,v4,v5]] w λe w'=>e=.returned (.int .i64 (Dq c))/\Qb6 w w':=by
 obtain⟨O,J,N,I,M,H,L,G,K,F,rfl,rfl,rfl,rfl,rfl,l1,m1,l2,m2,l3,m3,l4,m4,l5,m5⟩:=h.vs;have IX:=DJ;go_enter Lp.func116,ajW;have z:YH w w (w.alloc (.cells (Qe6 c O J N I M H L G K F) 26)):=(Zh _ _).alloc (Zj _) _;have Y:=Bp w (.cells (Qe6 c O J N I M H L G K F) 26);go_wp2_with (go_at_call 107;refine(ah1 _ _ _).mono ?_;rintro e w' ⟨rfl,rfl⟩)
 .have D:(Di c.base.length 3 !=0)=true:=by assumption
  go_ret;exact⟨Bw (by rw[Dq,K4 (Gr D)]),z⟩
 rename (Di _ _ !=0)=false=>D
 have l:=Zd D;clear D;go_loopg [4] c.base.length (λg i wr=>∃k:Nat,k<=c.base.length/\g=c.base.length - k/\i=.int .i64 k/\Bc (Fo 1 60) (c.base.drop k)=Bc (Fo 1 60) c.base/\wr=(w.alloc (.cells (Qe6 c O J N I M H L G K F) 26)))
 case atStart=>exact⟨0,Zp _,rfl,rfl,rfl,rfl⟩
 obtain⟨k,V,rfl,rfl,m,rfl⟩:=hrel;have a:=Zd m;clear m;by_cases n:k<c.base.length
 .obtain⟨b,o,rfl,u,T⟩:=h.base.at_ n
  have OJ:=z.cell (p:=⟨b,o+k,none⟩) (E b u);rw[T]at OJ;have d:=Zd (E_ (f:=Fo 1 60) (Bn n));go_wp2_with (go_at_call 135;refine(adf _ _ _ _).mono ?_;rintro e w' ⟨rfl,rfl⟩)
  .have r:AD (nth c.base k) 1 60=true:=by assumption
   go_ret;have U:Bc (Fo 1 60) c.base=1:=by rw[<-a.out,d.out,Ws r];rfl
   exact⟨Bw (by rw[Dq,BR (FE l.out),U];rfl),z⟩
  have r:AD (nth c.base k) 1 60=false:=a!
  go_roundg (c.base.length - (k+1))
  case rel=>exact⟨k+1,o!,rfl,v!,by rw[<-a.out,d.out,SK r];rfl,rfl⟩
  omega
 have s:=Zd (show Bc (Fo 1 60) c.base=0 by rw[<-a.out];exact FZ o!);clear a;go_wp2
 .have C:((c.Af.length:Int) !=c.base.length)=true:=by assumption
  go_ret;exact⟨Bw (by rw[Dq,BR (FE l.out),BR s.out,if_pos (xp C)]),z⟩
 rename (_ !=_)=false=>C
 have y:=Zd C;clear C;go_loopg [5] c.Af.length (λg i wr=>∃k:Nat,k<=c.Af.length/\g=c.Af.length - k/\i=.int .i64 k/\Bc (λp=>CV p (-9) 9) (c.Af.drop k)=Bc (λp=>CV p (-9) 9) c.Af/\Qb6 w wr/\wr.heap[w.heap.size]?=some (.cells (Qe6 c O J N I M H L G K F) 26 (0,0)))
 case atStart=>exact⟨0,Zp _,rfl,rfl,rfl,z,Y⟩
 obtain⟨k,V,rfl,rfl,m,j,P⟩:=hrel;have a:=Zd m;clear m;have k0:=ch (i:=0) P rfl;have k1:=ch (i:=1) P rfl;have k2:=ch (i:=2) P rfl;by_cases n:k<c.Af.length
 .obtain⟨b,o,rfl,u,R,X⟩:=h.Af.at_ n
  rw[<-j.cell (p:=⟨b,o+k*2,none⟩) (E b u)]at R;rw[<-j.cell (p:=⟨b,o+k*2+1,none⟩) (E b u)]at X;have d:=Zd (E_ (f:=λp=>CV p (-9) 9) (EE n));go_wp2_with (go_at_call 135;refine(adf _ _ _ _).mono ?_;rintro e w' ⟨rfl,rfl⟩)
  .have t:AD (BV c.Af k).1 (-9) 9=true:=by assumption
   go_ret;have A:Bc (λp=>CV p (-9) 9) c.Af=1:=by rw[<-a.out,d.out,aeC t];rfl
   exact⟨Bw (by rw[Dq,BR (FE l.out),BR s.out,if_neg (λx=>x (U2 y.out)),A];rfl),j⟩
  .have t:AD (BV c.Af k).2 (-9) 9=true:=by assumption
   go_ret;have A:Bc (λp=>CV p (-9) 9) c.Af=1:=by rw[<-a.out,d.out,aeD t];rfl
   exact⟨Bw (by rw[Dq,BR (FE l.out),BR s.out,if_neg (λx=>x (U2 y.out)),A];rfl),j⟩
  rename AD (BV c.Af k).2 _ _=false=>q
  rename¬AD (BV c.Af k).1 _ _=true=>t
  have v:=Zd (Bool.eq_false_iff.2 t);have B:=Zd q;clear t q;go_quiet (fail)
  all_goals go_wp2
  .have Q:(BV c.Af k).2<(BV c.Af k).1:=by assumption
   go_ret;have A:Bc (λp=>CV p (-9) 9) c.Af=5:=by rw[<-a.out,d.out,aeF v.out B.out Q];rfl
   exact⟨Bw (by rw[Dq,BR (FE l.out),BR s.out,if_neg (λx=>x (U2 y.out)),A];rfl),Y5 j _⟩
  have Q:¬(BV c.Af k).2<(BV c.Af k).1:=o!
  go_roundg (c.Af.length - (k+1))
  case rel=>exact⟨k+1,o!,rfl,v!,by rw[<-a.out,d.out,adr v.out B.out Q];rfl,Y5 j _,by simpa using P⟩
  omega
 have v:=Zd (show Bc (λp=>CV p (-9) 9) c.Af=0 by rw[<-a.out];exact FZ o!);clear a;go_wp2
 .have q:((c.hooks.length:Int) !=c.base.length)=true:=by assumption
  go_ret;exact⟨Bw (by rw[Dq,BR (FE l.out),BR s.out,if_neg (λx=>x (U2 y.out)),BR v.out,if_pos (xp q)]),j⟩
 rename (_ !=_)=false=>q
 have B:=Zd q;clear q;go_loopg [6] c.hooks.length (λg i W=>∃k:Nat,k<=c.hooks.length/\g=c.hooks.length - k/\i=.int .i64 k/\Bc (Fo 0 5) (c.hooks.drop k)=Bc (Fo 0 5) c.hooks/\W=wr)
 case atStart=>exact⟨0,Zp _,rfl,rfl,rfl,rfl⟩
 obtain⟨k,V,rfl,rfl,m,rfl⟩:=hrel;have a:=Zd m;clear m;by_cases n:k<c.hooks.length
 .obtain⟨b,o,rfl,u,T⟩:=h.hooks.at_ n
  rw[<-j.cell (p:=⟨b,o+k,none⟩) (E b u)]at T;have d:=Zd (E_ (f:=Fo 0 5) (Bn n));go_wp2_with (go_at_call 135;refine(adf _ _ _ _).mono ?_;rintro e w' ⟨rfl,rfl⟩)
  .have r:AD (nth c.hooks k) 0 5=true:=by assumption
   go_ret;have U:Bc (Fo 0 5) c.hooks=1:=by rw[<-a.out,d.out,Ws r];rfl
   exact⟨Bw (by rw[Dq,BR (FE l.out),BR s.out,if_neg (λx=>x (U2 y.out)),BR v.out,if_neg (λx=>x (U2 B.out)),U]),j⟩
  have r:AD (nth c.hooks k) 0 5=false:=a!
  go_roundg (c.hooks.length - (k+1))
  case rel=>exact⟨k+1,o!,rfl,v!,by rw[<-a.out,d.out,SK r];rfl,rfl⟩
  omega
 have Z:=Zd (show Bc (Fo 0 5) c.hooks=0 by rw[<-a.out];exact FZ o!);clear a;go_wp2;go_ret;exact⟨Bw (by rw[Dq,BR (FE l.out),BR s.out,if_neg (λx=>x (U2 y.out)),BR v.out,if_neg (λx=>x (U2 B.out)),Z.out]),j⟩
def aca (g:Nat)(l:List (Int×Int)):Int:=PM (Di l.length 2) (CY (Fa g l) 0 l)
def ak4 {a:List (Int×Int)}(hp:SP S w v a)(T:g<=maxLen)(B:Ql6 S w):Calls Lp 160 #[.int .i64 g,v] w λe w'=>e=.returned (.int .i64 (aca g a))/\Qb6 w w':=by
 obtain⟨V,U,rfl,Q,P⟩:=hp.val;have X:=DJ;have F:=Zd (show aca g a=PM (Di a.length 2) (CY (Fa g a) 0 a) from rfl);go_enter Lp.func160,ak1;go_wp2_with (go_at_call 107;refine(ah1 _ _ _).mono ?_;rintro e w' ⟨rfl,y⟩;have y:=y.symm;subst y)
 .have t:(Di a.length 2 !=0)=true:=by assumption
  go_ret;exact⟨Bw (by rw[F.out,K4 (Gr t)]),Zh _ _⟩
 rename (Di _ _ !=0)=false=>t
 have r:=Zd (show aca g a=CY (Fa g a) 0 a by rw[F.out,BR (FE t)]);have W:=Zd t;clear t F;go_loopg [6] a.length (λN i wr=>∃k:Nat,k<=a.length/\N=a.length - k/\i=.int .i64 k/\CY (Fa g a) k (a.drop k)=CY (Fa g a) 0 a/\Qb6 w wr)
 case atStart=>exact⟨0,Zp _,rfl,rfl,rfl,Zh _ _⟩
 obtain⟨k,R,rfl,rfl,K,d⟩:=hrel;have m:=Zd K;clear K;by_cases L:k<a.length
 .obtain⟨q,z,rfl,C,E,D⟩:=hp.at_ L
  obtain⟨O,M,e,_,J,_⟩:=hp.at_ (i:=0) o!;cases e;rw[<-d.cell (p:=⟨q,z+k*2,none⟩) (B q C)]at E;rw[<-d.cell (p:=⟨q,z+k*2+1,none⟩) (B q C)]at D;rw[<-d.cell (p:=⟨q,z+0*2,none⟩) (B q C)]at J;have n:=Zd (K5 (f:=Fa g a) (EE L));obtain⟨x,A⟩:=Qnm (BV a k);rw[<-A]at E D n;have Y:=Zd A;clear A;obtain⟨b,c⟩:=x;dsimp only at E D;rw[Nat.zero_mul,Nat.add_zero]at J;go_wp2_with (go_at_call 135;refine(adf _ _ _ _).mono ?_;rintro e w' ⟨rfl,rfl⟩)
  .have j:AD b 0 ((g:Int) - 1)=true:=by assumption
   have l:Fa g a k (b,c)=3:=by unfold Fa;rw[if_pos j]
   go_ret;exact⟨Bw (by rw[r.out, <-m.out,n.out,l];rfl),d⟩
  .have j:AD b 0 ((g:Int) - 1)=false:=by assumption
   have o:AD c (-4) 4=true:=a!
   have l:Fa g a k (b,c)=1:=by unfold Fa;rw[if_neg (by rw[j];decide),if_pos (.inr o)]
   go_ret;exact⟨Bw (by rw[r.out, <-m.out,n.out,l];rfl),d⟩
  .have j:AD b 0 ((g:Int) - 1)=false:=by assumption
   have o:(c==0)=true:=a!
   have l:Fa g a k (b,c)=1:=by unfold Fa;rw[if_neg (by rw[j];decide),if_pos (.inl (by simpa using o))]
   go_ret;exact⟨Bw (by rw[r.out, <-m.out,n.out,l];rfl),d⟩
  rename AD b 0 _=false=>j
  rename¬AD c _ _=true=>o
  rename (c==0)=false=>H
  have l:Fa g a k (b,c)=if 0<k/\b=(BV a 0).1 then 4 else 0:=by unfold Fa;rw[if_neg (by rw[j];decide),if_neg (λx=>x.elim (by simpa using H) o)]
  have G:=Zd l;clear l j o H;by_cases I:0<k
  .go_quiet (fail)
   go_wp2
   .have s:((BV a 0).1==b)=true:=by assumption
    go_ret;have u:Fa g a k (b,c)=4:=by rw[G.out,if_pos ⟨I,by simp at s;exact s.symm⟩]
    exact⟨Bw (by rw[r.out, <-m.out,n.out,u];rfl),Y5 d _⟩
   have s:((BV a 0).1==b)=false:=a!
   have u:Fa g a k (b,c)=0:=by rw[G.out,if_neg (λx=>by simp at s;exact s x.2.symm)]
   go_roundg (a.length - (k+1))
   case rel=>exact⟨k+1,o!,rfl,v!,by rw[<-m.out,n.out,u];rfl,Y5 d _⟩
   omega
  go_quiet (fail);go_wp2;have u:Fa g a k (b,c)=0:=by rw[G.out,if_neg (λx=>I x.1)]
  go_roundg (a.length - (k+1))
  case rel=>exact⟨k+1,o!,rfl,v!,by rw[<-m.out,n.out,u];rfl,Y5 d _⟩
  omega
 go_wp2;go_ret;exact⟨Bw (by rw[r.out, <-m.out];exact(MN o!).symm),d⟩
def aeU (a b c:Int):PM (PM a b) c=PM a (PM b c):=by
 unfold PM;by_cases h:a=0
 .rw[if_pos h,if_pos h]
 rw[if_neg h,if_neg h,if_neg h]
def ak5 (h:RC S w v1 v2 v3 v4 v5 c)(hn:n<c.Aa.length)(K:Ql6 S w):Calls Lp 117 #[.agg #[v1,v2,v3,v4,v5],.int .i64 n] w λe w'=>e=.returned (.int .i64 (EF c n))/\Qb6 w w':=by
 obtain⟨a1,c1,a2,c2,a3,c3,a4,c4,a5,c5,rfl,rfl,rfl,rfl,rfl,l1,m1,l2,m2,l3,m3,l4,m4,l5,m5⟩:=h.vs;have IX:=DJ;obtain⟨b,o,s2,s3,rfl,hb,ER,MM,LO,Z,V,P,J⟩:=h.Aa.at_ hn;obtain⟨a6,c6,rfl,l6,m6⟩:=P.val;obtain⟨a7,c7,rfl,l7,m7⟩:=J.val;have ig:=K b hb;obtain⟨s,O⟩:=Qnm (Aj c.Aa n);have D:EF c n=PM (CV (s.low,s.high) (-2) 2) (PM (aca c.base.length s.Ap) (PM (CY (Ed c.Aa.length n s.over) 0 s.over) (Fo 0 4 s.left))):=by rw[EF,O,aca,aeU]
 have C:=Zd D;rw[<-O]at ER MM LO Z V P J l6 l7;clear O D;obtain⟨a,j,BW,d,G⟩:=s;dsimp only at*;have Bg:YH w w (w.alloc (.cells (Qe6 c a1 c1 a2 c2 a3 c3 (some ⟨b,o,none⟩) c4 a5 c5) 26)):=bA (Zh _ _);have F:=Zd (λW (t:Qb6 w W)=>ak4 (w:=W) (g:=c.base.length) (P.later t) o! (A3 K t));go_enter Lp.func117,ajX;go_wp2_with (first|(go_at_call 135;refine(adf _ _ _ _).mono ?_;rintro e w' ⟨rfl,rfl⟩)|(go_at_call 160;refine(F.out _ (bA (bA (Zh _ _)))).mono ?_;rintro e w' ⟨rfl,Bv⟩;obtain⟨De,m,Q⟩:=kp Bv;have f0:=m 0 (.slice a1 c.base.length c1) rfl;have f3:=m 3 (.slice (some ⟨b,o,none⟩) c.Aa.length c4) rfl;have g3:=Q 3 (.slice a7 d.length c7) rfl;have Y:=Q 4 (.int .i64 G) rfl;clear m Q))
 .have r:AD a (-2) 2=true:=by assumption
  go_ret;exact⟨Bw (by rw[C.out,aeC (p:=(a,j)) r];rfl),bA (bA (Zh _ _))⟩
 .have r:AD j (-2) 2=true:=by assumption
  go_ret;exact⟨Bw (by rw[C.out,aeD (p:=(a,j)) r];rfl),bA (bA (Zh _ _))⟩
 .have r:¬AD a (-2) 2=true:=by assumption
  have A:AD j (-2) 2=false:=a!
  have l:j<a:=a!
  go_ret;exact⟨Bw (by rw[C.out,aeF (p:=(a,j)) (Bool.eq_false_iff.2 r) A l];rfl),bA (bA (Zh _ _))⟩
 .have r:¬AD a (-2) 2=true:=by assumption
  have A:AD j (-2) 2=false:=a!
  have l:a<=j:=a!
  have q:(aca c.base.length BW !=0)=true:=a!
  go_ret;exact⟨Bw (by rw[C.out,adr (p:=(a,j)) (Bool.eq_false_iff.2 r) A (by show¬j<a;omega),BR rfl,K4 (Gr q)]),De⟩
 rename¬AD a (-2) 2=true=>r
 rename AD j (-2) 2=false=>A
 rename a<=j=>l
 rename (aca _ _ !=0)=false=>q
 have I:=Zd (show EF c n=PM (CY (Ed c.Aa.length n d) 0 d) (Fo 0 4 G) by rw[C.out,adr (p:=(a,j)) (Bool.eq_false_iff.2 r) A (by show¬j<a;omega),BR rfl,BR (FE q)]);clear r A l C ER MM LO Z V F;have Q4:=Zd q;clear q;have D':=ZH w' _ Y;have Sb:w+1<w'.heap.size:=D';clear D';go_loopg [7] d.length (λg i wr=>∃k:Nat,k<=d.length/\g=d.length - k/\i=.int .i64 k/\CY (Ed c.Aa.length n d) k (d.drop k)=CY (Ed c.Aa.length n d) 0 d/\Qb6 w wr/\Qb6 w' wr)
 case atStart=>exact⟨0,Zp _,rfl,rfl,rfl,De,Zh _ _⟩
 obtain⟨k,hk,rfl,rfl,CP,u,t⟩:=hrel;have m:=Zd CP;clear CP;rw[<-t.cell (p:=w) j!]at f0;rw[<-t.cell (p:=⟨w,3,none⟩) j!]at f3;rw[<-t.cell (p:=⟨w+1,3,none⟩) j!]at g3;rw[<-t.cell (p:=⟨w+1,4,none⟩) j!]at Y;by_cases Az:k<d.length
 .obtain⟨E,L,rfl,U3,L6⟩:=J.at_ Az
  rw[<-u.cell (p:=⟨E,L+k,none⟩) (K E U3)]at L6;have R:0<k->wr.cell? ⟨E,L+(k - 1),none⟩=some (.int .i64 (nth d (k - 1))):=λh0=>by
   obtain⟨ai,ac,e,_,X⟩:=J.at_ (i:=k - 1) o!;cases e;rw[<-u.cell (p:=⟨E,L+(k - 1),none⟩) (K E U3)]at X;exact X
  have B:=Zd (K5 (f:=Ed c.Aa.length n d) (Bn Az));obtain⟨x,N⟩:=Qnm (nth d k);rw[<-N]at L6 B;have HX:=Zd N;have T:=Zd R;clear N R;cases l:AD x 0 ((c.Aa.length:Int) - 1) with
  |true=>
   go_wp2;go_quiet (first|(go_at_call 135;refine Zb5 (adf _ _ _ _)));go_wp2;go_ret;have v:Ed c.Aa.length n d k x=3:=by unfold Ed;rw[if_pos (.inl l)]
   exact⟨Bw (by rw[I.out, <-m.out,B.out,v];rfl),Y5 u _⟩
  |false=>
   go_wp2;go_quiet (first|(go_at_call 135;refine Zb5 (adf _ _ _ _)));go_wp2
   .have q:(x==(n:Int))=true:=by assumption
    go_ret;have v:Ed c.Aa.length n d k x=3:=by unfold Ed;rw[if_pos (.inr (by simpa using q))]
    exact⟨Bw (by rw[I.out, <-m.out,B.out,v];rfl),Y5 u _⟩
   rename (x==(n:Int))=false=>q
   have z:=Zd (show¬(AD x 0 ((c.Aa.length:Int) - 1)=true\/x=n) from λy=>y.elim (by rw[l];decide) (by simpa using q));clear l q;by_cases M:0<k
   .have R:=T.out M
    go_quiet (fail);go_wp2
    .have U:x<=nth d (k - 1):=by assumption
     have v:Ed c.Aa.length n d k x=5:=by unfold Ed;rw[if_neg z.out,if_pos ⟨M,U⟩]
     go_ret;exact⟨Bw (by rw[I.out, <-m.out,B.out,v];rfl),Y5 (Y5 u _) _⟩
    have U:nth d (k - 1)<x:=a!
    have v:Ed c.Aa.length n d k x=0:=by unfold Ed;rw[if_neg z.out,if_neg (λy=>by have:=y.2;omega)]
    go_roundg (d.length - (k+1))
    case rel=>exact⟨k+1,o!,rfl,v!,by rw[<-m.out,B.out,v];rfl,Y5 u _,Y5 t _⟩
    omega
   go_quiet (fail);go_wp2;have v:Ed c.Aa.length n d k x=0:=by unfold Ed;rw[if_neg z.out,if_neg (λy=>M y.1)]
   go_roundg (d.length - (k+1))
   case rel=>exact⟨k+1,o!,rfl,v!,by rw[<-m.out,B.out,v];rfl,Y5 u _,Y5 t _⟩
   omega
 have H:=Zd (show EF c n=Fo 0 4 G by rw[I.out,BR (by rw[<-m.out];exact MN o!)]);clear m;go_wp2_with (go_at_call 135;refine(adf _ _ _ _).mono ?_;rintro e w' ⟨rfl,rfl⟩)
 .have l:AD G 0 4=true:=by assumption
  go_ret;exact⟨Bw (by rw[H.out,Ws l]),u⟩
 have l:AD G 0 4=false:=a!
 go_ret;exact⟨Bw (by rw[H.out,SK l]),u⟩
def c93 (h:RC S w v1 v2 v3 v4 v5 c)(hl:SI S w v6 l)(r:Ql6 S w):Calls Lp 93 #[.agg #[v1,v2,v3,v4,v5],v6] w λe w'=>e=.returned (.int .i64 (Ct c l))/\Qb6 w w':=by
 obtain⟨Q,M,P,L,O,K,z,y,N,J,rfl,rfl,rfl,rfl,rfl,l1,m1,l2,m2,l3,m3,l4,m4,l5,m5⟩:=h.vs;obtain⟨a6,c6,rfl,l6,Z⟩:=hl.val;have IX:=DJ;have s:YH w w (w.alloc (.cells (Qe6 c Q M P L O K z y N J) 26)):=(Zh _ _).alloc (Zj _) _;by_cases t:l.length<c.Aa.length
 .go_enter Lp.func93,n93
  go_wp2;go_ret;exact⟨Bw (by rw[Ct,if_pos t]),s⟩
 by_cases A:c.Aa.length<l.length
 .go_enter Lp.func93,n93
  go_wp2;go_ret;exact⟨Bw (by rw[Ct,if_neg t,if_pos A]),s⟩
 have a:l.length=c.Aa.length:=o!
 have x:Ct c l=Bc (λp:Int×Ay=>Fo p.2.low p.2.high p.1) (l.zip c.Aa):=by rw[Ct,if_neg t,if_neg A]
 have j:(l.zip c.Aa).length=l.length:=by simp[a]
 have B:=Zd x;have V:=Zd j;have W:=Zd a;clear x j a;go_enter Lp.func93,n93;go_wp2;go_loopg [5] l.length (λg i wr=>∃k:Nat,k<=l.length/\g=l.length - k/\i=.int .i64 k/\Bc (λp:Int×Ay=>Fo p.2.low p.2.high p.1) ((l.zip c.Aa).drop k)=Bc (λp:Int×Ay=>Fo p.2.low p.2.high p.1) (l.zip c.Aa)/\Qb6 w wr/\wr.cell? ⟨w,3,none⟩=some (.slice z c.Aa.length y))
 case atStart=>exact⟨0,Zp _,rfl,rfl,rfl,s,i!⟩
 obtain⟨k,hk,rfl,rfl,E,d,G⟩:=hrel;have m:=Zd E;clear E;by_cases F:k<l.length
 .have C:k<c.Aa.length:=by have:=W.out;omega
  obtain⟨b,o,rfl,I,H⟩:=hl.at_ F;obtain⟨n,u,Y,X,rfl,D,T,U,_⟩:=h.Aa.at_ C;rw[<-d.cell (p:=⟨b,o+k,none⟩) (r b I)]at H;rw[<-d.cell (p:=⟨n,u+k*5,none⟩) (r n D)]at T;rw[<-d.cell (p:=⟨n,u+k*5+1,none⟩) (r n D)]at U;have v:=Zd (E_ (f:=λp:Int×Ay=>Fo p.2.low p.2.high p.1) (Ra F C));go_wp2;go_quiet (first|(go_at_call 135;refine Zb5 (adf _ _ _ _)))
  all_goals go_wp2
  .have q:AD (nth l k) (Aj c.Aa k).low (Aj c.Aa k).high=true:=by assumption
   go_ret;exact⟨Bw (by rw[B.out, <-m.out,v.out,Ws q];rfl),Y5 d _⟩
  have q:AD (nth l k) (Aj c.Aa k).low (Aj c.Aa k).high=false:=a!
  go_roundg (l.length - (k+1))
  case rel=>exact⟨k+1,o!,rfl,v!,by rw[<-m.out,v.out,SK q];rfl,Y5 d _,by simpa using G⟩
  omega
 have R:=Zd (show Ct c l=0 by rw[B.out, <-m.out];exact FZ (by have:=V.out;omega));clear m;go_wp2;go_ret;exact⟨Bw R.out.symm,d⟩
def aif:(Tryz.prog.info? 4).map (λi=>(i.zero,i.size,i.bytes))=some (some (.bool false),1,1):=k!
def adk (st:List Bool):Array Zf:=(st.map Value.bool).toArray
def afh (n:Nat)(e:n<=1000)(w:Zb):(Zdp 153 (.int .i64 n) (.int .i64 n)).run Lp w=.ok (.slice w n n) (w.alloc (.cells (adk (List.replicate n false)) 4)):=by
 obtain⟨a,hi,b,d,c⟩:=zp aif;have h:=run_make (P:=Lp) w 153 4 a (.bool false) (Cz Tryz.underlying153) (Dz hi) b .i64 .i64 n n o! (Int.le_refl _) (by rw[c];omega) o!;rw[h,d];simp only[Int.toNat_natCast]
 congr 3
 unfold adk;apply Array.ext
 .simp[madeCells]
 intro i g f;simp[madeCells,Value.cells,Nat.mod_one]
def afi (st:List Bool)(k:Nat):(adk st).setIfInBounds k (.bool true)=adk (st.set k true):=by
 unfold adk;simp
variable {st:List Bool}
def adg (h:k<st.length):(adk st)[k]?=some (.bool (st.getD k false)):=by
 unfold adk;simp[Y6,h]
def adV (h:k<l.length):aiJ (l.drop k) st=aiJ (l.drop (k+1)) (st.set (nth l k).toNat true):=by
 unfold aiJ;rw[ZO h,List.foldl_cons]
 congr 2
 simp[nth,h]
def adY {o:List (List Int)}(h:i<o.length):yn n i (o.drop i) st=yn n (i+1) (o.drop (i+1)) (if i=n\/st.getD i false=true then aiJ (o.getD i []) st else st):=by
 rw[ZO h];show yn n (i+1) (o.drop (i+1)) (if i=n\/st.getD i false=true then aiJ o[i] st else st)=_;rw[show o.getD i []=o[i] by simp[Y6,h]]
structure AbW (w:Zb)(x:Array Zf)(n:Nat)(st:List Bool)(wr:Zb):Prop where
 below:Qb6 w wr
 box:wr.heap[w.heap.size]?=some (.cells x 26 (0,0))
 row:wr.heap[w.heap.size+1]?=some (.cells (adk st) 4 (0,0))
 len:st.length=n
def AbW.set {wr:Zb}{x:Array Zf}(h:AbW w x n st wr)(k:Nat):AbW w x n (st.set k true) (wr.setCell ⟨w+1,k,none⟩ (.bool true)):=
 ⟨bS h.below o!,(AZ o! _).trans h.box,by rw[Ba h.row _,afi],by rw[ZcC];exact h.len⟩
def ak6 (h:RC S w v1 v2 v3 v4 v5 c)(Jw:JO c.Aa)(R:Ql6 S w):
  Calls Lp 118 #[.agg #[v1,v2,v3,v4,v5],.int .i64 n] w λe w'=>e=.returned (.slice (w+1:Nat) c.Aa.length c.Aa.length)/\Qb6 w w'/\w'.heap[w.heap.size+1]?=some (.cells (adk (ac3 c.Aa n)) 4 (0,0))/\(ac3 c.Aa n).length=c.Aa.length:=by
 obtain⟨M,I,L,H,K,G,T,F,J,E,rfl,rfl,rfl,rfl,rfl,l1,m1,l2,m2,l3,m3,l4,m4,l5,m5⟩:=h.vs;have IX:=DJ;have Jm:=Jw.few;have ai:=λW=>afh c.Aa.length o! W;have m:(aaZ c.Aa).length=c.Aa.length:=by simp[aaZ]
 have A:iV n (aaZ c.Aa) c.Aa.length (List.replicate c.Aa.length false)=ac3 c.Aa n:=by unfold ac3 aiK;rw[m]
 have HF:=Zd A;have HO:=Zd m;clear A m;go_enter Lp.func118,ajY;go_wp2;go_loopg [6] c.Aa.length (λg i wr=>∃(r:Nat) (st:List Bool),r<=c.Aa.length/\g=c.Aa.length - r/\i=.int .i64 r/\iV n (aaZ c.Aa) (c.Aa.length - r) st=ac3 c.Aa n/\AbW w #[.slice M c.base.length I,.slice L c.Af.length H,.slice K c.hooks.length G,.slice T c.Aa.length F,.slice J c.now.length E] c.Aa.length st wr)
 case atStart=>exact⟨0,_,Zp _,rfl,rfl,HF.out,⟨bA (bA (Zh _ _)),Bf (Bp _ _) _,by have:=Bp (w.alloc (.cells (Qe6 c M I L H K G T F J E) 26)) (.cells (adk (List.replicate c.Aa.length false)) 4);rwa[ZB]at this,i!⟩⟩
 obtain⟨r,st,hr,rfl,rfl,z,v⟩:=hrel;have B_:=Zd z;clear z;have Y:=ch (i:=3) v.box rfl;by_cases Az:r<c.Aa.length
 .go_wp2
  go_loopg [7] c.Aa.length (λg i wx=>∃(j:Nat) (a:List Bool),j<=c.Aa.length/\g=c.Aa.length - j/\i=.int .i64 j/\yn n j ((aaZ c.Aa).drop j) a=yn n 0 (aaZ c.Aa) st/\AbW w #[.slice M c.base.length I,.slice L c.Af.length H,.slice K c.hooks.length G,.slice T c.Aa.length F,.slice J c.now.length E] c.Aa.length a wx)
  case atStart=>exact⟨0,st,Zp _,rfl,rfl,rfl,v⟩
  obtain⟨j,a,hj,rfl,rfl,B,s⟩:=hrel;have V:=Zd B;clear B;have Y:=ch (i:=3) s.box rfl;by_cases O:j<c.Aa.length
  .have t:=ch s.row (adg (k:=j) (by have:=s.len;omega))
   have lY:(aaZ c.Aa).getD j []=(Aj c.Aa j).over:=by simp[aaZ,Aj,Y6,O]
   have Z:=Zd (adY (n:=n) (i:=j) (o:=aaZ c.Aa) (st:=a) (by have:=HO.out;omega));rcases(show j=n\/(¬j=n/\a.getD j false=true)\/¬j=n/\a.getD j false=false by
    by_cases e:j=n
    .exact .inl e
    cases e2:a.getD j false
    .exact .inr (.inr ⟨e,rfl⟩)
    exact .inr (.inl ⟨e,rfl⟩)) with hj1|⟨hj1,xK⟩|⟨hj1,xK⟩
   rotate_left 2
   .have BL:¬(j:Int)=n:=by omega
    rw[xK]at t;go_wp2;go_roundg (c.Aa.length - (j+1))
    case rel=>exact⟨j+1,a,o!,rfl,v!,by rw[<-V.out,Z.out,if_neg (λx=>x.elim hj1 (by rw[xK];decide))],s⟩
    omega
   case' inl=>
    subst hj1;go_wp2;have HC:=Zd (show j=j\/a.getD j false=true from .inl rfl)
   case' inr.inl=>
    have BL:¬(j:Int)=n:=o!
    have HC:=Zd (show j=n\/a.getD j false=true from .inr xK);rw[xK]at t;clear hj1 xK;go_wp2;clear BL
   all_goals
    obtain⟨b,o,v2,v3,ea,hb,_,_,_,U,_,_,Q⟩:=h.Aa.at_ O;subst ea;obtain⟨a7,c7,rfl,l7,m7⟩:=Q.val;obtain⟨d,C⟩:=Qnm ((Aj c.Aa j).over);have rU:∀k,k<d.length->0<=nth d k/\nth d k<c.Aa.length:=by rw[C];exact Jw.over j O
    have HV:=Zd C;rw[<-C]at U Q l7;clear C;rw[<-s.below.cell (p:=⟨b,o+j*5+3,none⟩) (R b hb)]at U;go_loopg [8] d.length (λg i X=>∃(k:Nat) (l:List Bool),k<=d.length/\g=d.length - k/\i=.int .i64 k/\aiJ (d.drop k) l=aiJ d a/\YH w wr X/\AbW w #[.slice M c.base.length I,.slice L c.Af.length H,.slice K c.hooks.length G,.slice (some ⟨b,o,none⟩) c.Aa.length F,.slice J c.now.length E] c.Aa.length l X)
    case atStart=>exact⟨0,a,Zp _,rfl,rfl,rfl,Zh _ _,s⟩
    obtain⟨k,l,hk,rfl,rfl,B,U5,f⟩:=hrel;have et:=Zd B;clear B;have Y:=ch (i:=3) f.box rfl;rw[<-U5.cell (p:=⟨b,o+j*5+3,none⟩) (R b hb)]at U;by_cases q:k<d.length
    .obtain⟨b7,o7,rfl,U3,u⟩:=Q.at_ q
     have y:=rU k q;obtain⟨x,P⟩:∃x:Nat,nth d k=x:=⟨_,(Int.toNat_of_nonneg y.1).symm⟩;have D:=adV (st:=l) q;rw[P]at u y D;rw[Int.toNat_natCast]at D;have HD:=Zd D;have HX:=Zd P;clear D P;have ac:x<c.Aa.length:=o!
     rw[<-f.below.cell (p:=⟨b7,o7+k,none⟩) (R b7 U3)]at u;have kx:=ch f.row (adg (k:=x) (by have:=f.len;omega));have fx:=cf (i:=x) f.row;go_wp2;go_roundg (d.length - (k+1))
     case rel=>exact⟨k+1,l.set x true,o!,rfl,v!,by rw[<-et.out,HD.out],U5.setCell (p:=⟨w+1,x,none⟩) (Nat.le_succ _) _,f.set x⟩
     omega
    go_wp2;have N:=et.out;rw[Z7.2 (show d.length<=k by omega)]at N;have N:l=aiJ d a:=N;go_roundg (c.Aa.length - (j+1))
    case rel=>exact⟨j+1,l,o!,rfl,v!,by rw[<-V.out,Z.out,if_pos HC.out,lY, <-HV.out,N],f⟩
    omega
  go_wp2;go_roundg (c.Aa.length - (r+1))
  case rel=>exact⟨r+1,a,o!,rfl,v!,by rw[<-B_.out,show c.Aa.length - r=(c.Aa.length - (r+1))+1 by omega];show _=iV n _ _ (yn n 0 _ st);rw[<-V.out,Z7.2 (by have:=HO.out;omega)];rfl,s⟩
  omega
 go_wp2;go_ret;have hz:c.Aa.length - r=0:=o!
 have e:=B_.out;rw[hz]at e;have e':st=ac3 c.Aa n:=e;exact⟨rfl,v.below,by rw[<-e'];exact v.row,by rw[<-e'];exact v.len⟩
def adD (f:JP c=0):∀s∈c.Aa,s.over.Pairwise (· < ·)/\∀x∈s.over,0<=x/\x<c.Aa.length:=λs d=>by
 obtain⟨k,a,e⟩:=Zas d;have h:=Gs f k s (by rw[zf a,e]);rw[zN]at h;unfold EF at h;have b:=(Bj (Bj (Bj (Bj h).2).2).2).1;have g:Aj c.Aa k=s:=by
  have:=Db a;rw[zf a,e]at this;exact(ZW this).symm
 rw[g]at b;exact aff b
def afj (d:Di c.Aa.length 3=0)(b:JP c=0)(hi:i<c.Aa.length)(a:k<c.Aa.length):(ac3 c.Aa i).getD k false=hasB (Ax c.Aa i) k:=
 aeR (by have:=(JQ d).2;omega) (adD b) hi a
def ag8 {l:List Ay}(a:k<l.length)(h:hasB (Ax l k) k=true):H0 l=false:=ks a (by rw[h];rfl)
def ag9 {l:List Ay}(h:∀k,k<l.length->hasB (Ax l k) k=false):H0 l=true:=by
 unfold H0;rw[Zdm];intro k a;rw[h k (List.mem_range.1 a)]
 rfl
def c50 (h:RC S w v1 v2 v3 v4 v5 c)(z:Ql6 S w):Calls Lp 50 #[.agg #[v1,v2,v3,v4,v5]] w λe w'=>e=.returned (.int .i64 (BN c))/\Qb6 w w':=by
 obtain⟨J,E,I,D,H,C,G,B,F,A,rfl,rfl,rfl,rfl,rfl,l1,m1,l2,m2,l3,m3,l4,m4,l5,m5⟩:=h.vs;have IX:=DJ;obtain⟨xs,am⟩:∃xs:Array Zf,xs= #[.slice J c.base.length E,.slice I c.Af.length D,.slice H c.hooks.length C,.slice G c.Aa.length B,.slice F c.now.length A]:=⟨_,rfl⟩;have L:=Zd (show BN c=PM (Dq c) (PM (Di c.Aa.length 3) (PM (JP c) (if H0 c.Aa=true then Ct c c.now else 9))) from rfl);have U:=Zd (λW (b:Qb6 w W)=>ak3 (h.later b) (A3 z b));have T:=Zd (λW (b:Qb6 w W) n (hn:n<c.Aa.length)=>ak5 (h.later b) hn (A3 z b));have R:=Zd (λW (b:Qb6 w W) n (K:JO c.Aa)=>ak6 (n:=n) (h.later b) K (A3 z b));have ac:=Zd (λW (b:Qb6 w W)=>c93 (h.later b) (h.later b).now (A3 z b));go_enter Lp.func50,n50;go_wp2_with (first|(go_at_call 116;refine(U.out _ (bA (Zh _ _))).mono ?_;rintro e W1 ⟨rfl,Bg⟩;(have N:=(Bg.block _ (by rw[ZB];exact Nat.lt_succ_self _)).trans (Bp w (.cells (Qe6 c J E I D H C G B F A) 26)));(have V:Qb6 w W1:=(bA (Zh _ _)).trans (Bg.mono (by rw[ZB];omega)));(have x:=ch (i:=3) N rfl);(have v:=ch (i:=4) N rfl))|(go_at_call 107;refine(ah1 _ _ _).mono ?_;rintro e w' ⟨rfl,M⟩;have M:=M.symm;subst M))
 .have p:(Dq c !=0)=true:=by assumption
  go_ret;exact⟨Bw (by rw[L.out,K4 (Gr p)]),V⟩
 .have p:(Dq c !=0)=false:=by assumption
  have o:(Di c.Aa.length 3 !=0)=true:=a!
  go_ret;exact⟨Bw (by rw[L.out,BR (FE p),K4 (Gr o)]),V⟩
 rename (Dq c !=0)=false=>p
 rename (Di _ _ !=0)=false=>o
 have X:=Zd (SQ (FE o));have mG:=Zd (fun(h2:JP c=0) i k=>afj (c:=c) (i:=i) (k:=k) (FE o) h2);have um:=Zd (show BN c=PM (JP c) (if H0 c.Aa=true then Ct c c.now else 9) by rw[L.out,BR (FE p),BR (FE o)]);have Q1:=Zd p;have Q2:=Zd o;clear p o Bg x v L;go_loopg [5] c.Aa.length (λg i wr=>∃k:Nat,k<=c.Aa.length/\g=c.Aa.length - k/\i=.int .i64 k/\CY (λi _=>EF c i) k (c.Aa.drop k)=JP c/\Qb6 w wr/\wr.heap[w.heap.size]?=some (.cells (Qe6 c J E I D H C G B F A) 26 (0,0)))
 case atStart=>exact⟨0,Zp _,rfl,rfl,rfl,V,N⟩
 obtain⟨k,hk,rfl,rfl,CP,a,m⟩:=hrel;have y:=Zd CP;clear CP;obtain⟨k0,k1,k2,x,v⟩:=Qc5 m;have O:=(Za.1 m).1;by_cases t:k<c.Aa.length
 .have hd:=Zd (K5 (f:=λi _=>EF c i) (Db t))
  go_wp2_with (go_at_call 117;refine(T.out _ a _ t).mono ?_;rintro e w2 ⟨rfl,d⟩)
  .have l:(EF c k !=0)=true:=by assumption
   have s:JP c=EF c k:=by rw[<-y.out,hd.out,if_neg (Gr l)]
   go_ret;exact⟨Bw (by rw[um.out,s,K4 (Gr l)]),a.trans (d.mono a.size)⟩
  have l:(EF c k !=0)=false:=a!
  go_roundg (c.Aa.length - (k+1))
  case rel=>exact⟨k+1,o!,rfl,v!,by rw[<-y.out,hd.out,if_pos (FE l)],a.trans (d.mono a.size),(d.block _ O).trans m⟩
  omega
 have s:JP c=0:=by rw[<-y.out];exact MN o!
 have K:=X.out s;have HA:=Zd (mG.out s);have xq:=Zd (show BN c=(if H0 c.Aa=true then Ct c c.now else 9) by rw[um.out,BR s]);have HK:=Zd K;clear y s K;go_wp2;go_loopg [7] c.Aa.length (λg i wx=>∃k:Nat,k<=c.Aa.length/\g=c.Aa.length - k/\i=.int .i64 k/\(∀j,j<k->hasB (Ax c.Aa j) j=false)/\Qb6 w wx/\wx.heap[w.heap.size]?=some (.cells (Qe6 c J E I D H C G B F A) 26 (0,0)))
 case atStart=>exact⟨0,Zp _,rfl,rfl,λj Q=>absurd Q (ZbY _),a,m⟩
 obtain⟨k,hk,rfl,rfl,tE,a,m⟩:=hrel;have P:=Zd tE;clear tE k0 k1 k2 x v;obtain⟨k0,k1,k2,x,v⟩:=Qc5 m;have O:=(Za.1 m).1;by_cases t:k<c.Aa.length
 .have q:=HA.out k k t t
  obtain⟨bb,r⟩:=Qnm (hasB (Ax c.Aa k) k);rw[<-r]at q;have u:=Zd r;have Y:=Zd q;clear r q;go_wp2_with (go_at_call 118;refine(R.out _ a k HK.out).mono ?_;rintro e w2 ⟨rfl,d,Ci,ai⟩;have kx:=ch Ci (adg (k:=k) o!);rw[Y.out]at kx)
  .have l:bb=true:=by assumption
   go_ret;exact⟨Bw (by rw[xq.out,if_neg (by rw[ag8 t (u.out.symm.trans l)];decide)]),a.trans (d.mono a.size)⟩
  have l:bb=false:=a!
  go_roundg (c.Aa.length - (k+1))
  case rel=>exact⟨k+1,o!,rfl,v!,λj Q=>by
   by_cases e:j=k
   .rw[e];exact u.out.symm.trans l
   exact P.out j o!,a.trans (d.mono a.size),(d.block _ O).trans m⟩
  omega
 have Z:=Zd (show BN c=Ct c c.now by rw[xq.out,if_pos (ag9 λj Q=>P.out j o!)]);clear P;go_wp2_with (go_at_call 93;refine(ac.out _ a).mono ?_;rintro e w2 ⟨rfl,d⟩);go_ret;exact⟨Bw Z.out.symm,a.trans (d.mono a.size)⟩
def akb (h:RC S w v1 v2 v3 v4 v5 c)(hl:SI S w v6 l)(k:Ql6 S w):Calls Lp 114 #[.agg #[v1,v2,v3,v4,v5],v6] w λe w'=>e=.returned (.int .i64 (Ca c l))/\Qb6 w w':=by
 obtain⟨y,s,x,r,v,q,u,p,t,o,rfl,rfl,rfl,rfl,rfl,L,F,K,E,J,D,I,C,H,B⟩:=h.vs;obtain⟨R,Q,rfl,G,A⟩:=hl.val;have T:=DJ;have m:=Zd (show Ca c l=PM (BN c) (Ct c l) from rfl);have j:=Zd (λW (a:Qb6 w W)=>c50 (h.later a) (A3 k a));have g:=Zd (λW (a:Qb6 w W)=>c93 (h.later a) (hl.later a) (A3 k a));go_enter Lp.func114,ajV;go_wp2_with (first|(go_at_call 50;refine(j.out _ (bA (Zh _ _))).mono ?_;rintro e W1 ⟨rfl,n⟩;(have b:=(n.block _ (by rw[ZB];exact Nat.lt_succ_self _)).trans (Bp w (.cells (Qe6 c y s x r v q u p t o) 26)));(have d:Qb6 w W1:=(bA (Zh _ _)).trans (n.mono (by rw[ZB];omega)));(have P:=ch (i:=0) b rfl);(have k1:=ch (i:=1) b rfl);(have O:=ch (i:=2) b rfl);(have N:=ch (i:=3) b rfl);(have M:=ch (i:=4) b rfl))|(go_at_call 93;refine(g.out _ d).mono ?_;rintro e w' ⟨rfl,z⟩))
 .have f:(BN c !=0)=true:=by assumption
  go_ret;exact⟨Bw (by rw[m.out,K4 (Gr f)]),d⟩
 have f:(BN c !=0)=false:=a!
 go_ret;exact⟨Bw (by rw[m.out,BR (FE f)]),d.trans (z.mono d.size)⟩
structure ac4 (c:A_):Prop where
 base:c.base.length<=20
 Af:c.Af.length<=20
 hooks:c.hooks.length<=20
 Aa:c.Aa.length<=20
 now:c.now.length<=20
 part:∀i,i<c.Aa.length->(Aj c.Aa i).Ap.length<=20/\(Aj c.Aa i).over.length<=20
def adE (w:Zb)(c:A_)(e:Ending)(w':Zb):Prop:=∃b,e=.returned (.bool b)/\(b=false->ac4 c)/\Qb6 w w'
def adE.yes (h:Qb6 w w'):adE w c (.returned (.bool true)) w':=⟨true,rfl,(λx=>x!),h⟩
def c25 (h:RC S w v1 v2 v3 v4 v5 c)(n:Ql6 S w):
  Calls Lp 25 #[.agg #[v1,v2,v3,v4,v5]] w (adE w c):=by
 obtain⟨B,v,A,u,z,t,y,s,x,r,rfl,rfl,rfl,rfl,rfl,l1,W,l2,V,l3,U,l4,T,Z,R⟩:=h.vs;have IX:=DJ;obtain⟨W1,a⟩:=Qnm (w.alloc (.cells (Qe6 c B v A u z t y s x r) 26));have f:Qb6 w W1:=by rw[a];exact bA (Zh _ _)
 have D:W1.heap[w.heap.size]?=some (.cells (Qe6 c B v A u z t y s x r) 26 (0,0)):=by rw[a];exact Bp _ _
 obtain⟨H,k1,G,F,E⟩:=Qc5 D;by_cases q:20<c.base.length\/20<c.Af.length\/20<c.hooks.length\/20<c.Aa.length\/20<c.now.length
 .go_enter Lp.func25,n25
  clear H k1 G F E;go_wp2
  all_goals first
   |(exfalso;omega)
   |skip
  all_goals
   go_ret;exact adE.yes (bA (Zh _ _))
 have g1:¬20<(c.base.length:Int):=o!
 have g2:¬20<(c.Af.length:Int):=o!
 have g3:¬20<(c.hooks.length:Int):=o!
 have g4:¬20<(c.Aa.length:Int):=o!
 have g5:¬20<(c.now.length:Int):=o!
 have N:=Zd q;clear q;go_enter Lp.func25,n25;have L:=f;rw[a]at L;go_wp2;go_loopg [3] c.Aa.length (λg i wr=>∃k:Nat,k<=c.Aa.length/\g=c.Aa.length - k/\i=.int .i64 k/\(∀j,j<k->(Aj c.Aa j).Ap.length<=20/\(Aj c.Aa j).over.length<=20)/\wr=W1)
 case atStart=>exact⟨0,Zp _,rfl,rfl,λj l=>absurd l (ZbY _),a.symm⟩
 obtain⟨k,hk,rfl,rfl,d,rfl⟩:=hrel;have C:=Zd d;clear d;by_cases O:k<c.Aa.length
 .obtain⟨b,o,v2,v3,rfl,m,_,_,K,M,_,I,J⟩:=h.Aa.at_ O
  obtain⟨a6,c6,rfl,Y,Q⟩:=I.val;obtain⟨a7,c7,rfl,X,P⟩:=J.val;rw[<-f.cell (p:=⟨b,o+k*5+2,none⟩) (n b m)]at K;rw[<-f.cell (p:=⟨b,o+k*5+3,none⟩) (n b m)]at M;clear a;by_cases h6:20<(Aj c.Aa k).Ap.length\/20<(Aj c.Aa k).over.length
  .go_wp2
   all_goals first
    |(exfalso;omega)
    |skip
   all_goals
    go_ret;exact adE.yes f
  have g6:¬20<((Aj c.Aa k).Ap.length:Int):=o!
  have g7:¬20<((Aj c.Aa k).over.length:Int):=o!
  go_wp2;go_roundg (c.Aa.length - (k+1))
  case rel=>exact⟨k+1,o!,rfl,v!,λj l=>by
   by_cases e:j=k
   .rw[e];omega
   exact C.out j o!,rfl⟩
  omega
 clear a;go_wp2;go_ret;have:=N.out;exact⟨false,rfl,λ_=>⟨o!,o!,o!,o!,o!,λi hi=>C.out i o!⟩,f⟩
def acj (a b:List UInt8)(h:a.length+b.length<=1000)(W:Zb):(ZcJ .add ⟨a.toArray⟩ ⟨b.toArray⟩).run Lp W=.ok (.string ⟨(a++b).toArray⟩) W:=
 run_string_add_lists W a b o! o!
def aio (w:Zb)(v:List UInt8)(x:Int)(e:Ending)(w':Zb):Prop:=e=.returned (.tuple #[.string ⟨v.toArray⟩,.int .i64 x])/\Qb6 w w'
def aeG {v u:List UInt8}(h:v=u)(a:Qb6 w w'):aio w v x (.returned (.tuple #[.string ⟨u.toArray⟩,.int .i64 x])) w':=by rw[h];exact⟨rfl,a⟩
def c70 (h:RC S w v1 v2 v3 v4 v5 c)(hl:SI S w v6 l)(hS:Ql6 S w):
  Calls Lp 70 #[.agg #[v1,v2,v3,v4,v5],v6] w (aio w (M3 c l) (Ca c l)):=by
 obtain⟨a1,c1,a2,c2,a3,c3,a4,c4,a5,c5,rfl,rfl,rfl,rfl,rfl,l1,m1,l2,m2,l3,m3,l4,m4,l5,m5⟩:=h.vs;obtain⟨a6,c6,rfl,l6,m6⟩:=hl.val;have IX:=DJ;have N:YH w w (w.alloc (.cells (Qe6 c a1 c1 a2 c2 a3 c3 a4 c4 a5 c5) 26)):=bA (Zh _ _);have E:=Zd (akb (h.later N) (hl.later N) (A3 hS N));obtain⟨x,C⟩:=Qnm (Ca c l);obtain⟨y,r⟩:∃v,v=M3 c l:=⟨_,rfl⟩;have G:=Zd (show y=if x=0 then F3 l l.length else [] by rw[r,C];rfl);have HX:=Zd C;rw[<-C]at E;rw[<-C, <-r];clear C r;go_enter Lp.func70,n70;go_wp2;refine E.out.mono ?_;rintro e W1 ⟨rfl,Bb⟩;have Lc:=bU N Bb;by_cases O:x=0
 case neg=>
  have hq:(x !=0)=true:=by simpa using O
  have Y:=Zd (show y=[] by rw[G.out,if_neg O]);go_wp2;go_ret2;exact aeG (u:=[]) Y.out Lc
 subst O;obtain⟨Jz,ER⟩:=Bj HX.out.symm;have hv:=EG Jz;have Q:=S0 hv ER;have UO:l.length<=3:=by have:=(Fb ER).1;have:=hv.few;omega
 have Y:=Zd (show y=F3 l l.length by rw[G.out];exact if_pos rfl);clear ER Jz;go_wp2;go_loopg [7,8] l.length (λgg v i wr=>∃k:Nat,k<=l.length/\gg=l.length - k/\i=.int .i64 k/\v=.string ⟨(F3 l k).toArray⟩/\Qb6 W1 wr)
 case atStart=>exact⟨0,Zp _,rfl,rfl,rfl,Zh _ _⟩
 obtain⟨k,hk,rfl,rfl,rfl,M⟩:=hrel;obtain⟨V,hV⟩:=Qnm wr;subst hV;have Ui:=bU Lc M;have I:=Zd (PV l k);by_cases Az:k<l.length
 .obtain⟨b,o,rfl,hb,hc⟩:=hl.at_ Az
  rw[<-Ui.cell (p:=⟨b,o+k,none⟩) (hS b hb)]at hc;obtain⟨Vl,Xo⟩:=Q k Az;obtain⟨n,hn⟩:=Qnm (nth l k);rw[<-hn]at hc Vl Xo I;clear hn;obtain⟨st,B_⟩:=Qnm (F3 l k);rw[<-B_]at I⊢;have qO:=Zd B_;clear B_;have M8:k<3:=o!
  have ac:st.length<=9:=by have:=Vj l k;rw[qO.out];omega
  obtain⟨L,Z⟩:∃b,b=Zcn (97+k):=⟨_,rfl⟩;have T:∀W,(ZbI 9 (.string ⟨#[97,98,99]⟩) (some (.int .i64 (k:Int))) (some (.int .i64 ((k:Int)+1))) none).run Lp W=.ok (.string ⟨#[L]⟩) W:=λW=>by
   have:=run_slice_string (P:=Lp) W 9 ⟨#[97,98,99]⟩ .i64 .i64 (k:Int) ((k:Int)+1) (Cz Tryz.underlying9) o! o! (by show((k:Int)+1)<=((3:Nat):Int);omega);rw[this,Z];have F:k=0\/k=1\/k=2:=o!
   rcases F with rfl|rfl|rfl<;>rfl
  have K:=Zd Z;clear Z;obtain⟨m,g⟩:∃t,t=st++ [L]:=⟨_,rfl⟩;have X:∀W,(ZcJ .add ⟨st.toArray⟩ ⟨#[L]⟩).run Lp W=.ok (.string ⟨m.toArray⟩) W:=λW=>by rw[g];exact acj st [L] j! W
  have T2:m.length<=10:=by rw[g,ZA,List.length_singleton];omega
  have H:=Zd g;clear g;by_cases hp:0<n
  .obtain⟨j,z⟩:∃b,b=Zcn (48+n).toNat:=⟨_,rfl⟩
   have U:∀W,(ZbI 9 (.string ⟨#[48,49,50]⟩) (some (.int .i64 n)) (some (.int .i64 (n+1))) none).run Lp W=.ok (.string ⟨#[j]⟩) W:=λW=>by
    have:=run_slice_string (P:=Lp) W 9 ⟨#[48,49,50]⟩ .i64 .i64 n (n+1) (Cz Tryz.underlying9) o! o! (by show n+1<=((3:Nat):Int);omega);rw[this,z];have F:n=1\/n=2:=o!
    rcases F with rfl|rfl<;>rfl
   obtain⟨f,a⟩:∃t,t=m++ [43]:=⟨_,rfl⟩;have R:∀W,(ZcJ .add ⟨m.toArray⟩ ⟨#[43]⟩).run Lp W=.ok (.string ⟨f.toArray⟩) W:=λW=>by rw[a];exact acj m [43] j! W
   have Oq:f.length<=11:=by rw[a,ZA,List.length_singleton];omega
   obtain⟨B,d⟩:∃t,t=f++ [j]:=⟨_,rfl⟩;have q:∀W,(ZcJ .add ⟨f.toArray⟩ ⟨#[j]⟩).run Lp W=.ok (.string ⟨B.toArray⟩) W:=λW=>by rw[d];exact acj f [j] j! W
   have J:=Zd (show B=F3 l (k+1) from by
    rw[I.out,show Od k n=[Zcn (97+k),43,Zcn (48+n).toNat] from if_pos hp,d,a,H.out,K.out,z,Zae,Zae]
    rfl)
   have lX:IntKind.i64.wrap (n+1)=n+1:=by rw[zE];omega
   clear a d z;go_wp2;refine Av k! k! ?_
   repeat (first|go_big_quiet_step (fail)|quiet_step (fail))
   refine Z4 ?_;rintro _ ⟨p,rfl⟩;have A:=AE V p;obtain⟨V2,D⟩:=Qnm (calm V p);rw[<-D]at A⊢;have s:=bU M A;clear D T U X R q;go_wp2;go_roundg (l.length - (k+1))
   case rel=>exact⟨k+1,o!,rfl,v!,by rw[<-J.out],s⟩
   omega
  by_cases hz:n=0
  .subst hz
   have J:=Zd (show st=F3 l (k+1) from by rw[I.out,kS,ZaA]);clear T X;go_wp2;go_roundg (l.length - (k+1))
   case rel=>exact⟨k+1,o!,rfl,v!,by rw[<-J.out],M⟩
   omega
  have hm:n<0:=o!
  obtain⟨j,z⟩:∃b,b=Zcn (48 - n).toNat:=⟨_,rfl⟩;have U:∀W,(ZbI 9 (.string ⟨#[48,49,50]⟩) (some (.int .i64 (-n))) (some (.int .i64 (1 - n))) none).run Lp W=.ok (.string ⟨#[j]⟩) W:=λW=>by
   have:=run_slice_string (P:=Lp) W 9 ⟨#[48,49,50]⟩ .i64 .i64 (-n) (1 - n) (Cz Tryz.underlying9) o! o! (by show 1 - n<=((3:Nat):Int);omega);rw[this,z];have F:n= -1\/n= -2:=o!
   rcases F with rfl|rfl<;>rfl
  obtain⟨f,a⟩:∃t,t=m++ [45]:=⟨_,rfl⟩;have R:∀W,(ZcJ .add ⟨m.toArray⟩ ⟨#[45]⟩).run Lp W=.ok (.string ⟨f.toArray⟩) W:=λW=>by rw[a];exact acj m [45] j! W
  have Oq:f.length<=11:=by rw[a,ZA,List.length_singleton];omega
  obtain⟨B,d⟩:∃t,t=f++ [j]:=⟨_,rfl⟩;have q:∀W,(ZcJ .add ⟨f.toArray⟩ ⟨#[j]⟩).run Lp W=.ok (.string ⟨B.toArray⟩) W:=λW=>by rw[d];exact acj f [j] j! W
  have J:=Zd (show B=F3 l (k+1) from by
   rw[I.out,show Od k n=[Zcn (97+k),45,Zcn (48 - n).toNat] from(if_neg hp).trans (if_pos hm),d,a,H.out,K.out,z,Zae,Zae]
   rfl)
  have lX:IntKind.i64.wrap (1 - n)=1 - n:=by rw[zE];omega
  have nj:IntKind.i64.wrap (-n)= -n:=by rw[zE];omega
  clear a d z;go_wp2;refine Av k! k! ?_
  repeat (first|go_big_quiet_step (fail)|quiet_step (fail))
  refine Z4 ?_;rintro _ ⟨p,rfl⟩;have A:=AE V p;obtain⟨V2,D⟩:=Qnm (calm V p);rw[<-D]at A⊢;have s:=bU M A;clear D T U X R q;go_wp2;go_roundg (l.length - (k+1))
  case rel=>exact⟨k+1,o!,rfl,v!,by rw[<-J.out],s⟩
  omega
 have lQ:k=l.length:=o!
 subst lQ;go_wp2;go_ret2;exact aeG Y.out Ui
def aiP (m:Int)(w:Zb)(e:Ending)(w':Zb):Prop:=∃r,e=.returned (.int .i64 r)/\0<=r/\r<m/\w'=w
def aiR (n m:Int)(w:Zb)(a:0<m)(i:m<=1000):Calls Lp 141 #[.int .i64 n,.int .i64 m] w (aiP m w):=by
 have g: -m<n.tmod m/\n.tmod m<m:=⟨by have:=Int.lt_tmod_of_pos n a;omega,Int.tmod_lt_of_pos n a⟩;have f:0<=(n.tmod m+m).tmod m/\(n.tmod m+m).tmod m<m:=⟨Int.tmod_nonneg _ o!,Int.tmod_lt_of_pos _ a⟩;have e:IntKind.i64.wrap (n.tmod m+m)=n.tmod m+m:=by rw[zE];omega
 have d:IntKind.i64.wrap (n.tmod m)=n.tmod m:=by rw[zE];omega
 have c:IntKind.i64.wrap ((n.tmod m+m).tmod m)=(n.tmod m+m).tmod m:=by rw[zE];omega
 have b:m≠0:=o!
 go_enter Lp.func141,ak0;go_wp2;go_ret;exact⟨_,rfl,Int.emod_nonneg _ b,Int.emod_lt_of_pos _ a,rfl⟩
def ah2 (n:Nat)(w:Zb)(e:Ending)(w':Zb):Prop:=Qb6 w w'/\∃t:ByteArray,e=.returned (.string t)/\t.size<=n+1
def adh (h:W.heap[g]?=some (.cells #[.int .u8 (b.toNat:Int)] 5 (0,0))):(convert 166 9 (.slice g 1 1)).run Lp W=.ok (.string ⟨#[b]⟩) W:=
 run_convert_bytes_back W 166 9 5 g 1 [b] (Cz Zb2) (Cz Tryz.underlying5) (Cz Tryz.underlying9) (Lib.bytes_of_row h rfl)
def c80 (s:ByteArray)(p q:Int)(b:UInt8)(w:Zb)(hs:s.size<=900):Calls Lp 80 #[.string s,.int .i64 p,.int .i64 q,.int .u8 (b.toNat:Int)] w (ah2 s.size w):=by
 obtain⟨bv,R⟩:∃v:Int,v=(b.toNat:Int):=⟨_,rfl⟩;by_cases h0:s.size=0
 .have O:((s.size:Int)==0)=true:=beq_iff_eq.2 o!
  have I:=Bp w (.cells #[.int .u8 (b.toNat:Int)] 5);have M:=adh I;have m:YH w w (w.alloc (.cells #[.int .u8 (b.toNat:Int)] 5)):=bA (Zh _ _);clear I;go_enter Lp.func80,n80;go_wp2;go_ret;exact⟨m,_,rfl,by show 1<=_;omega⟩
 have O:((s.size:Int)==0)=false:=beq_eq_false_iff_ne.2 o!;have H1:=Zd (aiR p s.size w o! o!);have E:=Zd (aiR q 3 w o! o!);go_enter Lp.func80,n80;go_wp2;refine H1.out.mono ?_;rintro e w1 ⟨k,rfl,kq,Q,y⟩;have y:=y.symm;subst y;obtain⟨a,rfl⟩:∃a:Nat,k=(a:Int):=⟨k.toNat,o!⟩;go_wp2;refine E.out.mono ?_;rintro e w2 ⟨r,rfl,tE,Xg,u⟩;have u:=u.symm;subst u;have hw:IntKind.i64.wrap ((a:Int)+1)=(a:Int)+1:=by rw[zE];omega
 obtain⟨A,C⟩:=Qnm (s.extract 0 a);have Y:A.size=a:=by rw[C,ByteArray.size_extract];omega
 have ha:∀W,(ZbI 9 (.string s) none (some (.int .i64 (a:Int))) none).run Lp W=.ok (.string A) W:=λW=>by
  have:=run_slice_string_h (P:=Lp) W 9 s (Cz Tryz.underlying9) .i64 (a:Int) o! o!;rw[C];simpa using this
 obtain⟨B,x⟩:=Qnm (s.extract (a+1) s.size);have X:B.size=s.size - (a+1):=by rw[x,ByteArray.size_extract];omega
 have hb:∀W,(ZbI 9 (.string s) (some (.int .i64 ((a:Int)+1))) none none).run Lp W=.ok (.string B) W:=λW=>by
  have:=run_slice_string_l (P:=Lp) W 9 s (Cz Tryz.underlying9) .i64 ((a:Int)+1) o! o!;rw[x,this,show((a:Int)+1).toNat=a+1 by omega]
 obtain⟨D,z⟩:=Qnm (s.extract a s.size);have U:D.size=s.size - a:=by rw[z,ByteArray.size_extract];omega
 have hd:∀W,(ZbI 9 (.string s) (some (.int .i64 (a:Int))) none none).run Lp W=.ok (.string D) W:=λW=>by
  have:=run_slice_string_l (P:=Lp) W 9 s (Cz Tryz.underlying9) .i64 (a:Int) o! o!;rw[z,this,show((a:Int)).toNat=a by omega]
 clear C x z;by_cases L:r=0
 .subst L
  go_wp2;refine abl (S:=λW=>∃p,W=calm w p) 13 [] (.free 2 (.free 9 (.free 10 (.one 4 (.one 5 (.free 6 (.free 11 (.one 12 .leaf)))))))) [0,1,3,7,8] k! (λ_ _ d _ _ h=>by cases d<;>exact h) k! (AL (Zh _ _).drew) ?_;refine A4 _ _ k! ?_;simp only[Z6,zd,ZG,ZD,ZC]
  repeat (first|go_big_quiet_step (fail)|quiet_step (fail))
  refine Z4 ?_;change abv _ _ _ _ _ _ _ _;have o:YH w w w.drew:=(Zh _ _).drew;obtain⟨V,l⟩:=Qnm (w.drew.alloc (.cells #[.int .u8 (b.toNat:Int)] 5));have F:YH w.drew w.drew V:=by rw[l];exact bA (Zh _ _)
  have m:=bU o F;have M:(convert 166 9 (.slice w 1 1)).run Lp V=.ok (.string ⟨#[b]⟩) V:=adh (W:=V) (g:=w.drew) (b:=b) (by rw[l];exact Bp _ _);have i:∃p,V=calm w p:=AL m;have f:∃p,w.drew=calm w p:=AL o;refine abg (v:=.string A) f rfl rfl (λw _=>g!) ?_;refine abg (v:=.int .i64 ((a:Int)+1)) f rfl rfl (λw _=>g!) ?_;refine abg (v:=.string B) f rfl rfl (λw _=>g!) ?_;refine abx (v:=.slice w 1 1) (w':=V) rfl rfl (by rw[l];go_simp) (.inr i) ?_;clear l;refine abx (v:=.string ⟨#[b]⟩) (w':=V) rfl rfl g! (.inr i) ?_;have G:∀W,(ZcJ .add A ⟨#[b]⟩).run Lp W=.ok (.string (A++⟨#[b]⟩)) W:=λW=>run_string_add W _ _ o! (by show(1:Int)<=_;omega);obtain⟨T1,n⟩:∃T,T=A++(⟨#[b]⟩:ByteArray):=⟨_,rfl⟩;rw[<-n]at G;have DR:T1.size=A.size+1:=by rw[n,ByteArray.size_append];rfl
  have t:∀W,(ZcJ .add T1 B).run Lp W=.ok (.string (T1++B)) W:=λW=>run_string_add W _ _ o! o!;obtain⟨c,j⟩:∃T,T=T1++B:=⟨_,rfl⟩;rw[<-j]at t;have N:c.size=T1.size+B.size:=by rw[j,ByteArray.size_append]
  clear n j;refine abg (v:=.string T1) i rfl rfl (λw _=>g!) ?_;refine abg (v:=.string c) i rfl rfl (λw _=>g!) ?_;refine abx (v:=.string c) (w':=V) rfl rfl g! (.inr i) ?_;unfold abv
  go_simp
  go_wp2;go_ret;exact⟨m,_,rfl,o!⟩
 have ac:(r==0)=false:=by simpa using L
 by_cases K:r=1
 .subst K
  have t:∀W,(ZcJ .add A B).run Lp W=.ok (.string (A++B)) W:=λW=>run_string_add W _ _ o! o!;obtain⟨c,j⟩:∃T,T=A++B:=⟨_,rfl⟩;rw[<-j]at t;have N:c.size=A.size+B.size:=by rw[j,ByteArray.size_append]
  clear j;go_wp2;refine Av k! k! ?_
  repeat (first|go_big_quiet_step (fail)|quiet_step (fail))
  refine Z4 ?_;rintro _ ⟨p,rfl⟩;have H:=AE w p;obtain⟨V2,J⟩:=Qnm (calm w p);rw[<-J]at H⊢;clear J;go_wp2;go_ret;exact⟨H,_,rfl,o!⟩
 have Z:(r==1)=false:=by simpa using K
 go_wp2;refine abl (S:=λW=>∃p,W=calm w p) 12 [] (.free 2 (.free 9 (.one 4 (.one 5 (.free 6 (.free 10 (.one 11 .leaf))))))) [0,1,3,7,8] k! (λ_ _ d _ _ h=>by cases d<;>exact h) k! (AL (Zh _ _).drew) ?_;refine A4 _ _ k! ?_;simp only[Z6,zd,ZG,ZD,ZC]
 repeat (first|go_big_quiet_step (fail)|quiet_step (fail))
 refine Z4 ?_;change abv _ _ _ _ _ _ _ _;have o:YH w w w.drew:=(Zh _ _).drew;obtain⟨V,l⟩:=Qnm (w.drew.alloc (.cells #[.int .u8 (b.toNat:Int)] 5));have F:YH w.drew w.drew V:=by rw[l];exact bA (Zh _ _)
 have m:=bU o F;have M:(convert 166 9 (.slice w 1 1)).run Lp V=.ok (.string ⟨#[b]⟩) V:=adh (W:=V) (g:=w.drew) (b:=b) (by rw[l];exact Bp _ _);have i:∃p,V=calm w p:=AL m;have f:∃p,w.drew=calm w p:=AL o;refine abg (v:=.string A) f rfl rfl (λw _=>g!) ?_;refine abg (v:=.string D) f rfl rfl (λw _=>g!) ?_;refine abx (v:=.slice w 1 1) (w':=V) rfl rfl (by rw[l];go_simp) (.inr i) ?_;clear l;refine abx (v:=.string ⟨#[b]⟩) (w':=V) rfl rfl g! (.inr i) ?_;have G:∀W,(ZcJ .add A ⟨#[b]⟩).run Lp W=.ok (.string (A++⟨#[b]⟩)) W:=λW=>run_string_add W _ _ o! (by show(1:Int)<=_;omega);obtain⟨T1,n⟩:∃T,T=A++(⟨#[b]⟩:ByteArray):=⟨_,rfl⟩;rw[<-n]at G;have DR:T1.size=A.size+1:=by rw[n,ByteArray.size_append];rfl
 have t:∀W,(ZcJ .add T1 D).run Lp W=.ok (.string (T1++D)) W:=λW=>run_string_add W _ _ o! o!;obtain⟨c,j⟩:∃T,T=T1++D:=⟨_,rfl⟩;rw[<-j]at t;have N:c.size=T1.size+D.size:=by rw[j,ByteArray.size_append]
 clear n j;refine abg (v:=.string T1) i rfl rfl (λw _=>g!) ?_;refine abg (v:=.string c) i rfl rfl (λw _=>g!) ?_;refine abx (v:=.string c) (w':=V) rfl rfl g! (.inr i) ?_;unfold abv
 go_simp
 go_wp2;go_ret;exact⟨m,_,rfl,o!⟩
def aeH {b:Nat}(h:Qb6 w A)(a:B3 b A B)(d:w<=b):Qb6 w B:=
 ⟨a.os.trans h.os,a.tape.trans h.tape,a.output.trans h.output,Zr h.size a.size,λk c=>(a.block k (Zl c h.size) o!).trans (h.block k c)⟩
def ad1 (l:List Int):Array Zf:=(l.map (ZL .i64)).toArray
def acm (l:List Int)(i:Nat)(h:i<l.length):(ad1 l)[i]?=some (.int .i64 (nth l i)):=by
 unfold ad1;rw[ZG,YL,Bn h]
 rfl
def adF (l:List Int)(i:Nat)(n:Int):(ad1 l).setIfInBounds i (.int .i64 n)=ad1 (l.set i n):=by
 unfold ad1;rw[List.setIfInBounds_toArray,List.map_set]
def ado (n:Nat):ad1 (List.replicate n 0)=Yu n (.int .i64 0):=by
 unfold ad1;rw[List.map_replicate]
 rfl
def afl:∀s,s<8->∀i,i<3->∀j,j<3->hasB (Iv s i) j=(hasB s j||decide (i=j)):=d!
def afm (l:List Int)(i j:Nat)(y:Int)(hi:i<l.length):nth (l.set i y) j=if i=j then y else nth l j:=by
 unfold nth;rw[Y6,Y6,List.getElem?_set];split
 .rfl
 rfl
def aeI {out:List Int}(h:W.heap[q]?=some (.cells (ad1 out) 3 (0,0)))(c:S q)(hl:out.length<=maxLen):SI S W (.slice q out.length out.length) out:=by
 refine⟨_,_,rfl,Zj _,hl,λi x a=>⟨q,0,[.int .i64 x],rfl,c,rfl,λj u b=>?_,rfl⟩⟩;have hi:=(Zm.1 a).1;cases j with
 |zero=>
  cases b;have:=ch h (acm out i hi);rw[show nth out i=x by have:=Bn hi;rw[a]at this;exact(ZW this).symm]at this;simpa using this
 |succ j=>cases b
def aeJ (w:Zb)(x:Int)(L:List Int)(e:Ending)(w':Zb):Prop:=Qb6 w w'/\∃a k,e=.returned (.tuple #[.slice a L.length k,.int .i64 x])/\SI (Cb w w') w' (.slice a L.length k) L
def adG {L M:List Int}{a:Option Addr}(e:x=y)(d:L=M)(c:Qb6 w w')(b:SI (Cb w w') w' (.slice a M.length k) M):aeJ w x L (.returned (.tuple #[.slice a M.length k,.int .i64 y])) w':=by
 rw[e,d];exact⟨c,a,k,rfl,b⟩
def aaH {R:Int×List Int}(h:R=(y,[]))(b:Qb6 w w'):aeJ w R.1 R.2 (.returned (.tuple #[(),.int .i64 y])) w':=by
 rw[h];exact⟨b,none,0,rfl,⟨none,0,rfl,Zj _,Zp _,λi x a=>by cases a⟩⟩
def c81 (s:ByteArray)(h:RC S w v1 v2 v3 v4 v5 c)(hS:Ql6 S w)(i9:s.size<=1000):
  Calls Lp 81 #[.agg #[v1,v2,v3,v4,v5],.string s] w (aeJ w (abS c s.data.toList).1 (abS c s.data.toList).2):=by
 obtain⟨a1,c1,a2,c2,a3,c3,a4,c4,a5,c5,rfl,rfl,rfl,rfl,rfl,l1,m1,l2,m2,l3,m3,l4,m4,l5,m5⟩:=h.vs;have IX:=DJ;obtain⟨l,hl⟩:=Qnm s.data.toList;have Xc:l.length=s.size:=by rw[hl,Zd2];rfl
 rw[<-hl];obtain⟨X,hX⟩:=Qnm (w.alloc (.cells (Qe6 c a1 c1 a2 c2 a3 c3 a4 c4 a5 c5) 26));have Ov:Qb6 w X:=by rw[hX];exact bA (Zh _ _)
 by_cases Jz:BN c=0
 .have ez:=Zd (Wt (h.later Ov) (A3 hS Ov) Jz)
  have hv:=EG Jz;have Jm:=hv.few;obtain⟨R,hR⟩:=Qnm (abS c l);have HR:=Zd (show abI c.Aa (l.drop 0) (List.replicate c.Aa.length 0) (-1)=R from by rw[hR];unfold abS;rw[if_pos Jz];rfl);rw[<-hR];have HL:=Zd hl;clear hR Jz hl;go_enter Lp.func81,n81;go_wp2;rw[<-hX];refine ez.out.mono ?_;rintro e W1 ⟨rfl,Bg⟩;clear hX;have O:=bU Ov Bg;have fK:=λW=>uL c.Aa.length o! W;obtain⟨Z,MX⟩:=Qnm (W1.alloc (.cells (AW (.slice a1 c.base.length c1) (.slice a2 c.Af.length c2) (.slice a3 c.hooks.length c3) (.slice a4 c.Aa.length c4) (.slice a5 c.now.length c5) (Ax c.Aa)) 112));have Bb:Qb6 W1 Z:=by rw[MX];exact bA (Zh _ _)
  have T3:Z.heap[W1.heap.size]?=some (.cells (AW (.slice a1 c.base.length c1) (.slice a2 c.Af.length c2) (.slice a3 c.hooks.length c3) (.slice a4 c.Aa.length c4) (.slice a5 c.now.length c5) (Ax c.Aa)) 112 (0,0)):=by rw[MX];exact Bp _ _
  have EB:Z=W1.heap.size+1:=by rw[MX,ZB]
  obtain⟨g,hg⟩:=Qnm W1.heap.size;obtain⟨Y,Hv⟩:=Qnm (Z.alloc (.cells (Yu c.Aa.length (ZL .i64 0)) 3));have Bv:Qb6 Z Y:=by rw[Hv];exact bA (Zh _ _)
  obtain⟨q,hq⟩:=Qnm Z.heap.size;have f8:Y.heap[q]?=some (.cells (ad1 (List.replicate c.Aa.length 0)) 3 (0,0)):=by
   rw[Hv,hq,ado];exact Bp _ _
  have Rb:Y=Z.heap.size+1:=by rw[Hv,ZB]
  have mB:=(Bv.block g o!).trans (show Z.heap[g]?=some (.cells (AW (.slice a1 c.base.length c1) (.slice a2 c.Af.length c2) (.slice a3 c.hooks.length c3) (.slice a4 c.Aa.length c4) (.slice a5 c.now.length c5) (Ax c.Aa)) 112 (0,0)) by rw[hg];exact T3);go_wp2;change Code.wp _ _ _ _ ((W1.alloc (.cells (AW (.slice a1 c.base.length c1) (.slice a2 c.Af.length c2) (.slice a3 c.hooks.length c3) (.slice a4 c.Aa.length c4) (.slice a5 c.now.length c5) (Ax c.Aa)) 112)).alloc (.cells (Yu c.Aa.length (ZL .i64 0)) 3));have P_:q=W1+1:=o!
  rw[<-MX, <-Hv, <-P_, <-hg];have J:q<Y.heap.size/\w<=q/\g≠q/\g<Y:=by have:=O.size;omega
  have rp:Qb6 w Y:=bU O (bU Bb Bv);clear MX Hv hq P_ hg fK T3 ez;obtain⟨n,hn⟩:=Qnm c.Aa.length;have lm:=Zd hn;go_loopg [9,10,11] l.length (λgg sv lv kv wr=>∃(k t:Nat) (la:Int) (f:List Int),gg=l.length - k/\sv=.int .u8 t/\lv=.int .i64 la/\kv=.int .i64 k/\k<=l.length/\abI c.Aa (l.drop k) f la=R/\f.length=c.Aa.length/\t<8/\(∀i,i<3->hasB t i=decide (nth f i≠0))/\-1<=la/\la<=25/\wr.heap[q]?=some (.cells (ad1 f) 3 (0,0))/\B3 q Y wr)
  case atStart=>exact⟨0,0,-1,List.replicate c.Aa.length 0,rfl,rfl,rfl,rfl,Zp _,HR.out,List.length_replicate,d!,λi hi=>by
   have:nth (List.replicate c.Aa.length 0) i=0:=by simp[nth,Y6,List.getElem?_replicate];split<;>rfl
   rw[this];obtain rfl|rfl|rfl:i=0\/i=1\/i=2:=o!
   all_goals rfl,o!,o!,f8,B3.refl _ _⟩
  obtain⟨k,t,la,f,rfl,rfl,rfl,rfl,hk,hr,ed,I,fw,li,ky,Ci,hU⟩:=hrel;obtain⟨V,hV⟩:=Qnm wr;subst hV;have T:=Zd (ZY hr (ZY ed fw));clear hr ed fw;have f9:=(hU.block g J.2.2.2 J.2.2.1).trans mB;have bc:=aeH rp hU J.2.1;have k0:=ch (i:=0) f9 (v:=.slice a1 c.base.length c1) rfl;have k1:=ch (i:=1) f9 (v:=.slice a2 c.Af.length c2) rfl;have k2:=ch (i:=2) f9 (v:=.slice a3 c.hooks.length c3) rfl;have k3:=ch (i:=3) f9 (v:=.slice a4 c.Aa.length c4) rfl;have k4:=ch (i:=4) f9 (v:=.slice a5 c.now.length c5) rfl;by_cases Az:k<s.size
  .have TB:(k:Int)<(s.size:Int):=by omega
   have hw:IntKind.i64.wrap ((k:Int)+3)=(k:Int)+3:=by rw[zE];omega
   obtain⟨m,hm⟩:=Qnm (min (k+3) s.size);have gn:min ((k:Int)+3) (s.size:Int)=(m:Int):=o!
   have jp:k<=m/\m<=s.size:=o!
   have NK:∀W,(ZbI 9 (.string s) (some (.int .i64 (k:Int))) (some (.int .i64 ((min (k+3) s.size:Nat):Int))) none).run Lp W=.ok (.string (s.extract k m)) W:=λW=>by
    have:=run_slice_string (P:=Lp) W 9 s .i64 .i64 (k:Int) ((min (k+3) s.size:Nat):Int) (Cz Tryz.underlying9) o! o! o!;rw[hm];simpa using this
   obtain⟨pt,Xb⟩:∃p,p=s.extract k m:=⟨_,rfl⟩;have i6:=Zd (show pt.data.toList=(l.drop k).take 3 from by
    rw[Xb,aeS, <-HL.out,List.take_eq_take_iff,List.length_drop];omega)
   rw[<-Xb]at NK;clear Xb;have fu:=Zd (λW=>ak2 pt W);go_wp2;refine(fu.out _).mono ?_;rintro e V1 ⟨Bg,x,y,b,rfl,FD,EC⟩;rw[i6.out]at FD EC;clear fu NK gn;have F:=bU bc Bg;cases b with
   |false=>
    have B:=Zd (show R=(2,[]) from T.out.1.symm.trans (ad9 o! FD.symm));clear FD EC;go_wp2;go_ret2;exact aaH B.out F
   |true=>
    have H:=EC rfl;obtain⟨pa,pb,pd,h1,h2,h3,h4,h5,h6⟩:=adn FD.symm;have am:=adB h4 h5 h6;have bi:=Zd (T.out.1.symm.trans (aev FD.symm H));have fH:0<=x/\x<=25/\y≠0/\-9<=y/\y<=9:=by
     rw[h2]at H;rw[<-H]at am;exact am
    clear H h1 h2 am EC FD;obtain⟨o,rfl⟩:∃o:Nat,x=(o:Int):=⟨x.toNat,o!⟩;have a:∀ {p:Addr} {v:Zf},V.cell? p=some v->V1.cell? p=some v:=λh=>(Bg.cell (ZH _ _ h)).trans h;replace k0:=a k0;replace k1:=a k1;replace k2:=a k2;replace k3:=a k3;replace k4:=a k4;by_cases kw:c.Aa.length<=o
    .have M:(c.Aa.length:Int)<=(o:Int):=by omega
     have B:=Zd (show R=(3,[]) from bi.out.trans (if_pos M));go_wp2;go_ret2;exact aaH B.out F
    have M:¬(c.Aa.length:Int)<=(o:Int):=o!
    by_cases fd:(o:Int)<=la
    .have B:=Zd (show R=(5,[]) from bi.out.trans ((if_neg M).trans (if_pos fd)))
     go_wp2;go_ret2;exact aaH B.out F
    have ci:o<c.Aa.length:=o!
    obtain⟨L,o4,s2,s3,ea,UQ,U,Q,_⟩:=h.Aa.at_ (i:=o) ci;subst ea;have U:=(F.cell (p:=⟨L,o4+o*5,none⟩) (hS L UQ)).trans U;have Q:=(F.cell (p:=⟨L,o4+o*5+1,none⟩) (hS L UQ)).trans Q;obtain⟨lo,mK⟩:=Qnm ((Aj c.Aa o).low);obtain⟨hi,D⟩:=Qnm ((Aj c.Aa o).high);rw[<-mK]at U;rw[<-D]at Q;have bV:=Zd (show R=if AD y lo hi=true then(1,[]) else abI c.Aa (l.drop (k+3)) (f.set o y) o from by
     rw[mK,D];exact bi.out.trans ((if_neg M).trans (if_neg fd)))
    clear mK D;obtain⟨C,r⟩:=Qnm (AD y lo hi);have E:=Zd (show∀W,Calls Lp 134 #[.int .i64 y,.int .i64 lo,.int .i64 hi] W λe w'=>e=.returned (.bool C)/\Qb6 W w' from λW=>(bp y lo hi W).mono λe w' h=>⟨by rw[r];exact h.1,by rw[h.2];exact Zh _ _⟩);rw[<-r]at bV;clear r;have jn:(0:Int)<=(o:Int):=o!
    have xy:(o:Int)<(c.Aa.length:Int):=o!
    have z3:=λu=>Al u k3;have z5:=λu=>Al u U;have z6:=λu=>Al u Q;go_wp2;refine Av k! k! ?_
    repeat (first|go_big_quiet_step ((go_at_call 134;with_reducible exact AV (E.out _)))|quiet_step ((go_at_call 134;with_reducible exact AV (E.out _))))
    refine Z4 ?_;rintro _ ⟨p,rfl⟩;have yw:=AE V1 p;obtain⟨V2,gF⟩:=Qnm (calm V1 p);rw[<-gF]at yw⊢;clear gF z3 z5 z6 E k0 k1 k2 k3 k4 U Q a;have ap:=bU Bg yw;have ii:=bU bc ap;by_cases r:C=true
    .subst r
     have B:=Zd (show R=(1,[]) from bV.out.trans (if_pos rfl));go_wp2;go_ret2;exact aaH B.out ii
    have g9:C=false:=by cases C;rfl;exact absurd rfl r
    subst g9;clear r;have iS:=Zd (show abI c.Aa (l.drop (k+3)) (f.set o y) o=R from(bV.out.trans (if_neg d!)).symm);have N:=(ap.block q (by have:=(Za.1 Ci).1;exact this)).trans Ci;have du:o<f.length:=by rw[T.out.2.1];exact ci
    have r0:=ch N (acm f o du);have f0:=cf (i:=o) N;have i7:=Zd (show∀i,i<3->hasB (Iv t o) i=decide (nth (f.set o y) i≠0) from λi hi=>by
     rw[afl t I o o! i hi,T.out.2.2 i hi,afm f o i y du];by_cases e:o=i
     .rw[if_pos e,decide_eq_true e,decide_eq_true fH.2.2.1,Bool.or_true]
     rw[if_neg e,decide_eq_false e,Bool.or_false])
    have an:=Ba (i:=o) N (.int .i64 y);rw[adF]at an;have pY:B3 q Y (V2.setCell ⟨q,o,none⟩ (.int .i64 y)):=(hU.below ap).set;have HX:=Zd (ZY an pY);have ip:=Zd (Jl I (show o<3 by omega));have gj:=Zd (ab9 t o I o!);have M8:k+3<=l.length:=h3;clear an pY N Ci;go_wp2;refine(gj.out _).mono ?_;rintro e lC ⟨rfl,G⟩;have G:=G.symm;subst G;go_wp2;go_roundg (l.length - (k+3))
    case rel=>exact⟨k+3,Iv t o,o,f.set o y,rfl,rfl,rfl,v!,M8,iS.out,by rw[ZcC];exact T.out.2.1,ip.out,i7.out,o!,o!,HX.out.1,HX.out.2⟩
    omega
  have lQ:k=l.length:=o!
  have Qs:=Zd (T.out.1.symm.trans (adC o!));clear lQ;go_wp2;have lE:=Zd hU;have iX:=Zd Ci;have fI:q<V:=(Za.1 Ci).1;clear k0 k1 k2 k4 Ci hU;go_loopg [92] c.Aa.length (λgg iv wr=>∃i:Nat,gg=c.Aa.length - i/\iv=.int .i64 i/\i<=c.Aa.length/\(∀j,j<i->ad8 c.Aa f j=false)/\Qb6 V wr)
  case atStart=>exact⟨0,rfl,rfl,Zp _,λj hj=>absurd hj o!,Zh _ _⟩
  obtain⟨i,rfl,rfl,hi,fi,Jp⟩:=hrel;have b9:=Zd fi;clear fi;obtain⟨A,hA⟩:=Qnm wr;subst hA;have ba:=bU bc Jp;by_cases fm:i<c.Aa.length
  .obtain⟨L,o4,s2,s3,ea,UQ,U,Q,LO,et,mi,VK,dl⟩:=h.Aa.at_ (i:=i) fm
   subst ea;obtain⟨pa,pc,rfl,_⟩:=VK.val;obtain⟨ra,rc,rfl,_⟩:=dl.val;have a:∀ {d:Nat} {v:Zf},w.cell? ⟨L,d,none⟩=some v->A.cell? ⟨L,d,none⟩=some v:=λ{d v} h=>(ba.cell (p:=⟨L,d,none⟩) (hS L UQ)).trans h;have U:=a U;have Q:=a Q;have LO:=a LO;have et:=a et;have mi:=a mi;have jt:(i:Int)<(c.Aa.length:Int):=o!
   have ka:(0:Int)<=(i:Int):=o!
   obtain⟨lo,mK⟩:=Qnm ((Aj c.Aa i).low);obtain⟨hh,D⟩:∃hi,hi=(Aj c.Aa i).high:=⟨_,rfl⟩;obtain⟨pn,ct⟩:∃n,n=(Aj c.Aa i).Ap.length:=⟨_,rfl⟩;obtain⟨rn,ck⟩:∃n,n=(Aj c.Aa i).over.length:=⟨_,rfl⟩;obtain⟨lf,xD⟩:∃n,n=(Aj c.Aa i).left:=⟨_,rfl⟩;rw[<-mK]at U;rw[<-D]at Q;rw[<-ct]at LO;rw[<-ck]at et;rw[<-xD]at mi;obtain⟨hb,ai⟩:∃b,b=hasB t i:=⟨_,rfl⟩;have be:=Zd (show∀W,Calls Lp 122 #[.int .u8 t,.int .i64 i] W λe w'=>e=.returned (.bool hb)/\w'=W from λW=>by rw[ai];exact ab8 t i I o! W);have i8:=Zd (show hb=decide (nth f i≠0) from ai.trans (T.out.2.2 i o!));obtain⟨C,r⟩:=Qnm (AD 0 lo hh);have E:=Zd (show∀W,Calls Lp 134 #[.int .i64 0,.int .i64 lo,.int .i64 hh] W λe w'=>e=.returned (.bool C)/\w'=W from λW=>by rw[r];exact bp 0 lo hh W);have b8:=Zd (show ad8 c.Aa f i=(!hb&&C) from by
    unfold ad8;rw[i8.out,r,mK,D];by_cases e:nth f i=0<;>simp[e])
   clear ai r mK D ct ck xD VK dl a;cases hb with
   |true=>
    have B:=Zd (show∀j,j<i+1->ad8 c.Aa f j=false from λj hj=>by
     by_cases e:j=i
     .rw[e,b8.out];rfl
     exact b9.out j o!)
    go_wp2_with (first|(go_at_call 122;refine(be.out _).mono ?_;rintro e A2 ⟨rfl,G⟩;obtain rfl:=G.symm));go_roundg (c.Aa.length - (i+1))
    case rel=>exact⟨i+1,rfl,v!,o!,B.out,bA Jp⟩
    case measure=>omega
   |false=>
    cases C with
    |true=>
     have B:=Zd (show R=(1,[]) from Qs.out.trans (if_pos (List.any_eq_true.2 ⟨i,List.mem_range.2 fm,b8.out⟩)));go_wp2_with (first|(go_at_call 122;refine(be.out _).mono ?_;rintro e A2 ⟨rfl,G⟩;obtain rfl:=G.symm)|(go_at_call 134;refine(E.out _).mono ?_;rintro e im ⟨rfl,ac⟩;obtain rfl:=ac.symm));go_ret2;exact aaH B.out (bA ba)
    |false=>
     have B:=Zd (show∀j,j<i+1->ad8 c.Aa f j=false from λj hj=>by
      by_cases e:j=i
      .rw[e,b8.out];rfl
      exact b9.out j o!)
     go_wp2_with (first|(go_at_call 122;refine(be.out _).mono ?_;rintro e A2 ⟨rfl,G⟩;obtain rfl:=G.symm)|(go_at_call 134;refine(E.out _).mono ?_;rintro e im ⟨rfl,ac⟩;obtain rfl:=ac.symm));go_roundg (c.Aa.length - (i+1))
     case rel=>exact⟨i+1,rfl,v!,o!,B.out,bA Jp⟩
     omega
  have rU:i=c.Aa.length:=o!
  have B:=Zd (show R=(0,f) from Qs.out.trans (if_neg (λha=>by
   obtain⟨j,hj,hb⟩:=List.any_eq_true.1 ha;rw[b9.out j (by have:=List.mem_range.1 hj;omega)]at hb;cases hb)))
  have fy:=(Jp.block q fI).trans iX.out;have io:=Zd (aeI (S:=Cb w A) fy ⟨J.2.1,by have:=Jp.size;omega⟩ (by rw[T.out.2.1];omega));have gt:=Zd T.out.2.1;clear fy;go_wp2;go_ret2;rw[<-gt.out];exact adG (by rw[B.out]) (by rw[B.out]) ba io.out
 obtain⟨z,hz⟩:=Qnm (BN c);have B:=Zd (show abS c l=(z,[]) from by unfold abS;rw[if_neg Jz,hz]);have K:=c88 (h.later Ov) (A3 hS Ov);unfold agX at K;rw[<-hz]at K;rw[<-hz]at Jz;have ez:=Zd K;clear K hz;go_enter Lp.func81,n81;go_wp2;rw[<-hX];refine ez.out.mono ?_;rintro e W1 ⟨q1,q2,q3,q4,q5,x1,x2,x3,x4,x5,d1,d2,d3,d4,d5,y0,y1,y2,rfl,Bg,_⟩;have O:=bU Ov Bg;have hq:(z !=0)=true:=by simpa using Jz
 clear hX;go_wp2;go_ret2;exact aaH B.out (bA O)
variable {H α:Type}
def adZ (l:List α)(k:Nat)(h:k+3<=l.length):(l.drop k).take 3=[l[k]' o!,l[k+1]' o!,l[k+2]' o!]:=by
 rw[ZO (show k<l.length by omega),ZO (show k+1<l.length by omega),ZO (show k+1+1<l.length by omega)]
 rfl
def c82 (s:ByteArray)(h:RC S w v1 v2 v3 v4 v5 c)(hS:Ql6 S w)(g9:s.size<=1000):
  Calls Lp 82 #[.agg #[v1,v2,v3,v4,v5],.string s] w (aeJ w (abS c s.data.toList).1 (abS c s.data.toList).2):=by
 obtain⟨a1,c1,a2,c2,a3,c3,a4,c4,a5,c5,rfl,rfl,rfl,rfl,rfl,l1,m1,l2,m2,l3,m3,l4,m4,l5,m5⟩:=h.vs;have IX:=DJ;obtain⟨l,hl⟩:=Qnm s.data.toList;have Xc:l.length=s.size:=by rw[hl,Zd2];rfl
 rw[<-hl];obtain⟨X,hX⟩:=Qnm (w.alloc (.cells (Qe6 c a1 c1 a2 c2 a3 c3 a4 c4 a5 c5) 26));have Ov:Qb6 w X:=by rw[hX];exact bA (Zh _ _)
 have be:=Zd (c50 (h.later Ov) (A3 hS Ov));have hK:X.heap[w.heap.size]?=some (.cells (Qe6 c a1 c1 a2 c2 a3 c3 a4 c4 a5 c5) 26 (0,0)):=by rw[hX];exact Bp _ _
 have ii:X=w.heap.size+1:=by rw[hX,ZB]
 obtain⟨R,hR⟩:=Qnm (abS c l);rw[<-hR];obtain⟨z0,Fl⟩:∃z,z=BN c:=⟨_,rfl⟩;rw[<-Fl]at be;go_enter Lp.func82,n82;go_wp2;rw[<-hX];clear hX;refine be.out.mono ?_;rintro e W1 ⟨rfl,Bg⟩;have ba:=bU Ov Bg;by_cases h0:z0=0
 case neg=>
  have hq:(z0 !=0)=true:=by simpa using h0
  have d:=Zd (show R=(z0,[]) from by rw[hR,Fl];unfold abS;rw[if_neg (by rw[<-Fl];exact h0)]);clear Fl hR;go_wp2;go_ret2;exact aaH d.out ba
 have hv:=EG (Fl.symm.trans h0);have Jm:=hv.few;have HR:=Zd (show abI c.Aa (l.drop 0) (List.replicate c.Aa.length 0) (-1)=R from by rw[hR];unfold abS;rw[if_pos (Fl.symm.trans h0)];rfl);have HL:=Zd hl;have fi:=λW=>uL c.Aa.length o! W;subst h0;clear hR Fl hl;obtain⟨g,hg⟩:=Qnm w.heap.size;have l_:=(Bg.block _ o!).trans hK;rw[<-hg]at l_;obtain⟨k0,k1,k2,Z,k4⟩:=Qc5 l_;rw[<-hg];have fw:g<W1:=(Za.1 l_).1;clear hg;obtain⟨U,Hv⟩:=Qnm (W1.alloc (.cells (Yu c.Aa.length (ZL .i64 0)) 3));have Bv:Qb6 W1 U:=by rw[Hv];exact bA (Zh _ _)
 obtain⟨q,hq⟩:=Qnm W1.heap.size;have fH:U.heap[q]?=some (.cells (ad1 (List.replicate c.Aa.length 0)) 3 (0,0)):=by
  rw[Hv,hq,ado];exact Bp _ _
 have Rb:U=W1.heap.size+1:=by rw[Hv,ZB]
 have mB:=(Bv.block g fw).trans l_;go_wp2;rw[<-Hv, <-hq];have I:q<U.heap.size/\w<=q/\g≠q/\g<U:=by have:=ba.size;omega
 have rp:Qb6 w U:=bU ba Bv;clear Hv hq fi k0 k1 k2 Z k4 be;go_loopg [8,9] l.length (λgg lv kv wr=>∃(k:Nat) (Q:Int) (out:List Int),gg=l.length - k/\lv=.int .i64 Q/\kv=.int .i64 k/\k<=l.length/\abI c.Aa (l.drop k) out Q=R/\out.length=c.Aa.length/\-1<=Q/\Q<=25/\wr.heap[q]?=some (.cells (ad1 out) 3 (0,0))/\B3 q U wr)
 case atStart=>exact⟨0,-1,List.replicate c.Aa.length 0,rfl,rfl,rfl,Zp _,HR.out,List.length_replicate,o!,o!,fH,B3.refl _ _⟩
 obtain⟨k,Q,out,rfl,rfl,rfl,hk,hr,b8,lC,lm,Ci,hU⟩:=hrel;obtain⟨V,hV⟩:=Qnm wr;subst hV;have P:=Zd (ZY hr b8);clear hr b8;have am:=(hU.block g I.2.2.2 I.2.2.1).trans mB;have b:=aeH rp hU I.2.1;obtain⟨k0,k1,k2,Z,k4⟩:=Qc5 am;by_cases Az:k<s.size
 .have TB:(k:Int)<(s.size:Int):=by omega
  have hw:IntKind.i64.wrap ((k:Int)+3)=(k:Int)+3:=by rw[zE];omega
  have lX:IntKind.i64.wrap ((k:Int)+1)=(k:Int)+1:=by rw[zE];omega
  have nj:IntKind.i64.wrap ((k:Int)+2)=(k:Int)+2:=by rw[zE];omega
  by_cases h3:k+3<=s.size
  .have fI:¬(s.size:Int)<(k:Int)+3:=by omega
   have kq:k<s.size:=o!
   have fu:k+1<s.size:=o!
   have fm:k+2<s.size:=o!
   have bc:=Zd (show(l.drop k).take 3=[s[k],s[k+1],s[k+2]] from by
    have:=adZ l k o!;rw[this];have e:∀(i:Nat) (h1:i<l.length) (h2:i<s.size),l[i]'h1=s[i]'h2:=λi h1 h2=>by
     have h:=HL.out;subst h
     rfl
    rw[e k _ kq,e (k+1) _ fu,e (k+2) _ fm])
   have C:=Zd (show(abN s[k]&&decide (sgB s[k+1] ≠0)&&abR s[k+2])=false->R=(2,[]) from λhf=>P.out.1.symm.trans (ad9 o! (by rw[bc.out];exact hf)));have li:(k:Int)+1<(s.size:Int):=o!
   have kw:(k:Int)+2<(s.size:Int):=o!
   by_cases ka:(s[k].toNat:Int)<97
   .have d:=Zd (C.out (by
     have:abN s[k]=false:=by unfold abN;rw[decide_eq_false o!];rfl
     rw[this];rfl))
    go_wp2;go_ret2;exact aaH d.out b
   by_cases jt:122<(s[k].toNat:Int)
   .have d:=Zd (C.out (by
     have:abN s[k]=false:=by unfold abN;rw[decide_eq_false (show¬s[k].toNat<=122 by omega),Bool.and_false]
     rw[this];rfl))
    go_wp2;go_ret2;exact aaH d.out b
   by_cases B:(s[k+1].toNat:Int)=43\/(s[k+1].toNat:Int)=45
   case neg=>
    have F:((s[k+1].toNat:Int) !=43)=true:=j!
    have M9:((s[k+1].toNat:Int) !=45)=true:=j!
    have d:=Zd (C.out (by
     have:sgB s[k+1]=0:=by unfold sgB;rw[if_neg o!,if_neg o!]
     rw[this];simp))
    go_wp2;go_ret2;exact aaH d.out b
   by_cases jp:(s[k+2].toNat:Int)<49
   .have d:=Zd (C.out (by
     have:abR s[k+2]=false:=by unfold abR;rw[decide_eq_false (show¬49<=s[k+2].toNat by omega)];rfl
     rw[this,Bool.and_false]))
    rcases B with B|B
    .have F:((s[k+1].toNat:Int) !=43)=false:=by simp;omega
     go_wp2;go_ret2;exact aaH d.out b
    have F:((s[k+1].toNat:Int) !=43)=true:=j!
    have M9:((s[k+1].toNat:Int) !=45)=false:=j!
    go_wp2;go_ret2;exact aaH d.out b
   by_cases jn:57<(s[k+2].toNat:Int)
   .have d:=Zd (C.out (by
     have:abR s[k+2]=false:=by unfold abR;rw[decide_eq_false (show¬s[k+2].toNat<=57 by omega),Bool.and_false]
     rw[this,Bool.and_false]))
    rcases B with B|B
    .have F:((s[k+1].toNat:Int) !=43)=false:=by simp;omega
     go_wp2;go_ret2;exact aaH d.out b
    have F:((s[k+1].toNat:Int) !=43)=true:=j!
    have M9:((s[k+1].toNat:Int) !=45)=false:=j!
    go_wp2;go_ret2;exact aaH d.out b
   obtain⟨a,Oo⟩:∃a:Nat,(s[k].toNat:Int) - 97=(a:Int):=⟨s[k].toNat - 97,o!⟩;obtain⟨K,pM⟩:∃K:Int,(s[k+2].toNat:Int) - 48=K:=⟨_,rfl⟩;have ky:a<=25:=o!
   have i9:1<=K/\K<=9:=o!
   have io:IntKind.u8.wrap (a:Int)=(a:Int):=by rw[IntKind.wrap_u8];omega
   have iS:IntKind.u8.wrap K=K:=by rw[IntKind.wrap_u8];omega
   have Jc:abN s[k]=true:=by unfold abN;rw[decide_eq_true (show 97<=s[k].toNat by omega),decide_eq_true (show s[k].toNat<=122 by omega)];rfl
   have ci:abR s[k+2]=true:=by unfold abR;rw[decide_eq_true (show 49<=s[k+2].toNat by omega),decide_eq_true (show s[k+2].toNat<=57 by omega)];rfl
   have x:=Zd (show∀y:Int,sgB s[k+1] ≠0->y=sgB s[k+1]*K->R=if(c.Aa.length:Int)<=(a:Int) then(3,[]) else if(a:Int)<=Q then(5,[]) else if AD y (Aj c.Aa a).low (Aj c.Aa a).high=true then(1,[]) else abI c.Aa (l.drop (k+3)) (out.set a y) a from λy hs hy=>by
    have hp:abj ((l.drop k).take 3)=true:=by
     rw[bc.out];show(abN s[k]&&decide (sgB s[k+1] ≠0)&&abR s[k+2])=true;rw[Jc,ci,decide_eq_true hs]
     rfl
    have:=aev (ss:=c.Aa) (out:=out) (last:=Q) (i:=(a:Int)) (n:=y) hp (by
     rw[bc.out];show((a:Int),y)=((s[k].toNat:Int) - 97,sgB s[k+1]*((s[k+2].toNat:Int) - 48));rw[Oo,pM,hy])
    rw[<-P.out.1,this,Int.toNat_natCast])
   clear Jc ci;by_cases i8:c.Aa.length<=a
   .have t:(c.Aa.length:Int)<=(a:Int):=by omega
    rcases B with B|B
    .have F:((s[k+1].toNat:Int) !=43)=false:=by simp;omega
     have d:=Zd (show R=(3,[]) from(x.out _ (by unfold sgB;rw[if_neg o!,if_pos o!];decide) rfl).trans (if_pos t));go_wp2;go_ret2;exact aaH d.out b
    have F:((s[k+1].toNat:Int) !=43)=true:=j!
    have M9:((s[k+1].toNat:Int) !=45)=false:=j!
    have d:=Zd (show R=(3,[]) from(x.out _ (by unfold sgB;rw[if_pos o!];decide) rfl).trans (if_pos t));go_wp2;go_ret2;exact aaH d.out b
   have t:¬(c.Aa.length:Int)<=(a:Int):=o!
   by_cases J:(a:Int)<=Q
   .rcases B with B|B
    .have F:((s[k+1].toNat:Int) !=43)=false:=by simp;omega
     have d:=Zd (show R=(5,[]) from(x.out _ (by unfold sgB;rw[if_neg o!,if_pos o!];decide) rfl).trans ((if_neg t).trans (if_pos J)));go_wp2;go_ret2;exact aaH d.out b
    have F:((s[k+1].toNat:Int) !=43)=true:=j!
    have M9:((s[k+1].toNat:Int) !=45)=false:=j!
    have d:=Zd (show R=(5,[]) from(x.out _ (by unfold sgB;rw[if_pos o!];decide) rfl).trans ((if_neg t).trans (if_pos J)));go_wp2;go_ret2;exact aaH d.out b
   have bi:a<c.Aa.length:=o!
   have im:(0:Int)<=(a:Int):=o!
   have xy:(a:Int)<(c.Aa.length:Int):=o!
   obtain⟨E,o4,s2,s3,ea,UQ,H,G,_⟩:=h.Aa.at_ (i:=a) bi;subst ea;have H:=(b.cell (p:=⟨E,o4+a*5,none⟩) (hS E UQ)).trans H;have G:=(b.cell (p:=⟨E,o4+a*5+1,none⟩) (hS E UQ)).trans G;obtain⟨lo,Y⟩:=Qnm ((Aj c.Aa a).low);obtain⟨hh,r⟩:∃hi,hi=(Aj c.Aa a).high:=⟨_,rfl⟩;rw[<-Y]at H;rw[<-r]at G;rw[<-Y, <-r]at x;clear Y r;have z3:=λu=>Al u Z;have z5:=λu=>Al u H;have z6:=λu=>Al u G;rcases B with B|B
   case' inl=>
    have F:((s[k+1].toNat:Int) !=43)=false:=j!
    have JA:((s[k+1].toNat:Int)==45)=false:=j!
    obtain⟨y,hy⟩:∃y:Int,K=y:=⟨_,rfl⟩;have O:=Zd ((x.out y (by unfold sgB;rw[if_neg o!,if_pos o!];decide) (by unfold sgB;rw[if_neg o!,if_pos o!];omega)).trans ((if_neg t).trans (if_neg J)));have mC:y≠0:=o!
   case' inr=>
    have F:((s[k+1].toNat:Int) !=43)=true:=j!
    have M9:((s[k+1].toNat:Int) !=45)=false:=j!
    have JA:((s[k+1].toNat:Int)==45)=true:=j!
    obtain⟨y,hy⟩:∃y:Int,-K=y:=⟨_,rfl⟩;have O:=Zd ((x.out y (by unfold sgB;rw[if_pos o!];decide) (by unfold sgB;rw[if_pos o!];omega)).trans ((if_neg t).trans (if_neg J)));have mC:y≠0:=o!
    have ip:IntKind.i64.wrap y=y:=by rw[zE];omega
   all_goals
    obtain⟨f,m⟩:=Qnm (AD y lo hh);have o:=Zd (show∀W,Calls Lp 135 #[.int .i64 y,.int .i64 lo,.int .i64 hh] W λe w'=>e=.returned (.bool (!f))/\Qb6 W w' from λW=>(adf y lo hh W).mono λe w' h=>⟨by rw[m];exact h.1,by rw[h.2];exact Zh _ _⟩);rw[<-m]at O;clear m;go_wp2;refine Av k! k! ?_
    repeat (first|go_big_quiet_step ((go_at_call 135;with_reducible exact AV (o.out _)))|quiet_step ((go_at_call 135;with_reducible exact AV (o.out _))))
    refine Z4 ?_;rintro _ ⟨p,rfl⟩;have D:=AE V p;obtain⟨V2,T⟩:=Qnm (calm V p);rw[<-T]at D⊢;clear T z3 z5 z6 o k0 k1 k2 Z k4 H G;have ap:=bU b D;by_cases m:f=true
    .subst m
     have d:=Zd (show R=(1,[]) from O.out.trans (if_pos rfl));go_wp2;go_ret2;exact aaH d.out ap
    have f9:f=false:=by cases f;rfl;exact absurd rfl m
    subst f9;clear m;have gt:=Zd (show abI c.Aa (l.drop (k+3)) (out.set a y) a=R from(O.out.trans (if_neg d!)).symm);have N:=(D.block q (Za.1 Ci).1).trans Ci;have ed:a<out.length:=by rw[P.out.2];exact bi
    have r0:=ch N (acm out a ed);have f0:=cf (i:=a) N;have ai:=Ba (i:=a) N (.int .i64 y);rw[adF]at ai;have pY:B3 q U (V2.setCell ⟨q,a,none⟩ (.int .i64 y)):=(hU.below D).set;have HX:=Zd (ZY ai pY);have M8:k+3<=l.length:=o!
    clear ai pY N Ci;go_wp2;go_roundg (l.length - (k+3))
    case rel=>exact⟨k+3,a,out.set a y,rfl,rfl,v!,M8,gt.out,by rw[ZcC];exact P.out.2,o!,o!,HX.out.1,HX.out.2⟩
    omega
  have fI:(s.size:Int)<(k:Int)+3:=o!
  have d:=Zd (show R=(2,[]) from P.out.1.symm.trans (ad9 o! (by
   have fK:((l.drop k).take 3).length≠3:=by rw[ZcV,List.length_drop];omega
   match hm:(l.drop k).take 3,fK with
   | [],_=>rfl
   | [_],_=>rfl
   | [_,_],_=>rfl
   | [_,_,_],h=>exact absurd rfl h
   |_::_::_::_::_,_=>rfl)))
  go_wp2;go_ret2;exact aaH d.out b
 have lQ:k=l.length:=o!
 have Qs:=Zd (P.out.1.symm.trans (adC o!));clear lQ;have lE:=Zd hU;have ct:=Zd Ci;have bV:q<V:=(Za.1 Ci).1;have fy:g<V:=(Za.1 am).1;clear k0 k1 k2 Z k4 Ci hU;go_wp2;go_loopg [12] c.Aa.length (λgg iv wr=>∃i:Nat,gg=c.Aa.length - i/\iv=.int .i64 i/\i<=c.Aa.length/\(∀j,j<i->ad8 c.Aa out j=false)/\Qb6 V wr)
 case atStart=>exact⟨0,rfl,rfl,Zp _,λj hj=>absurd hj o!,Zh _ _⟩
 obtain⟨i,rfl,rfl,hi,b9,Jp⟩:=hrel;have du:=Zd b9;clear b9;obtain⟨A,hA⟩:=Qnm wr;subst hA;have M:=bU b Jp;by_cases an:i<c.Aa.length
 .obtain⟨E,o4,s2,s3,ea,UQ,H,G,_⟩:=h.Aa.at_ (i:=i) an
  subst ea;have H:=(M.cell (p:=⟨E,o4+i*5,none⟩) (hS E UQ)).trans H;have G:=(M.cell (p:=⟨E,o4+i*5+1,none⟩) (hS E UQ)).trans G;have i6:(i:Int)<(c.Aa.length:Int):=o!
  have i7:(0:Int)<=(i:Int):=o!
  have r0:=ch ((Jp.block q bV).trans ct.out) (acm out i (by rw[P.out.2];exact an));have Z:=ch (i:=3) ((Jp.block g fy).trans am) (v:=.slice (some ⟨E,o4,none⟩) c.Aa.length c4) rfl;obtain⟨lo,Y⟩:=Qnm ((Aj c.Aa i).low);obtain⟨hh,r⟩:∃hi,hi=(Aj c.Aa i).high:=⟨_,rfl⟩;obtain⟨on,ac⟩:=Qnm (nth out i);rw[<-Y]at H;rw[<-r]at G;rw[<-ac]at r0;obtain⟨f,m⟩:=Qnm (AD 0 lo hh);have o:=Zd (show∀W,Calls Lp 135 #[.int .i64 0,.int .i64 lo,.int .i64 hh] W λe w'=>e=.returned (.bool (!f))/\Qb6 W w' from λW=>(adf 0 lo hh W).mono λe w' h=>⟨by rw[m];exact h.1,by rw[h.2];exact Zh _ _⟩);have dl:=Zd (show ad8 c.Aa out i=(decide (on=0)&&f) from by unfold ad8;rw[m,Y,r,ac]);clear m Y r ac;have z3:=λu=>Al u Z;have z5:=λu=>Al u H;have z6:=λu=>Al u G;have z7:=λu=>Al u r0;by_cases L:on=0/\f=true
  .obtain⟨rfl,rfl⟩:=L
   have d:=Zd (show R=(1,[]) from Qs.out.trans (if_pos (List.any_eq_true.2 ⟨i,List.mem_range.2 an,dl.out⟩)));go_wp2;refine Av k! k! ?_
   repeat (first|go_big_quiet_step ((go_at_call 135;with_reducible exact AV (o.out _)))|quiet_step ((go_at_call 135;with_reducible exact AV (o.out _))))
   refine Z4 ?_;rintro _ ⟨p,rfl⟩;have D:=AE A p;obtain⟨V2,T⟩:=Qnm (calm A p);rw[<-T]at D⊢;have ap:=bU M D;clear T z3 z5 z6 z7 o;go_wp2;go_ret2;exact aaH d.out ap
  have d:=Zd (show∀j,j<i+1->ad8 c.Aa out j=false from λj hj=>by
   by_cases e:j=i
   .rw[e,dl.out]
    by_cases e0:on=0
    .have:f=false:=by cases f;rfl;exact absurd ⟨e0,rfl⟩ L
     rw[this,Bool.and_false]
    rw[decide_eq_false e0];rfl
   exact du.out j o!)
  by_cases e0:on=0
  case' pos=>
   have fd:f=false:=by cases f;rfl;exact absurd ⟨e0,rfl⟩ L
   subst e0 fd
  case' neg=>
   have iX:(on==0)=false:=by simpa using e0
  all_goals
   clear L;go_wp2;refine Av k! k! ?_
   repeat (first|go_big_quiet_step ((go_at_call 135;with_reducible exact AV (o.out _)))|quiet_step ((go_at_call 135;with_reducible exact AV (o.out _))))
   refine Z4 ?_;rintro _ ⟨p,rfl⟩;have D:=AE A p;obtain⟨V2,T⟩:=Qnm (calm A p);rw[<-T]at D⊢;have gj:=bU Jp D;clear T z3 z5 z6 z7 o;go_wp2;go_roundg (c.Aa.length - (i+1))
   case rel=>exact⟨i+1,rfl,v!,o!,d.out,gj⟩
   omega
 have rU:i=c.Aa.length:=o!
 have d:=Zd (show R=(0,out) from Qs.out.trans (if_neg (λha=>by
  obtain⟨j,hj,hb⟩:=List.any_eq_true.1 ha;rw[du.out j (by have:=List.mem_range.1 hj;omega)]at hb;cases hb)))
 have ck:=(Jp.block q bV).trans ct.out;have gn:=Zd (aeI (S:=Cb w A) ck ⟨I.2.1,by have:=Jp.size;omega⟩ (by rw[P.out.2];omega));have f8:=Zd P.out.2;clear ck rU;go_wp2;go_ret2;rw[<-f8.out];exact adG (by rw[d.out]) (by rw[d.out]) M gn.out
def Dis (u v:Zf):Prop:=∀g,u.ownBlock=some g->v.ownBlock=some g->False
variable {xs:List Zf}
def adi {base:Nat}(h:A.ownsRow base e k v n xs):∀g,v.ownBlock=some g->g<A.heap.size:=λg a=>by
 obtain⟨_,b,h⟩:=J3 h g a;exact(Za.1 h).1
def ads {base n' k':Nat}{e':Zs}{v':Zf}{a:List Zf}(h:A.ownsRow base e k v n xs)(c:B.ownsRow A e' k' v' n' a):Dis v v':=λg b d=>by
 have i:=adi h g b;have f:=(J3 c g d).1;omega
variable {args cs:Array Zf}
def abh {base:Nat}(h:A.ownsRow base e k v n xs)(d:Ak (λx=>x=q) A B)(b:A.heap[q]?=some (.cells cs t (0,0)))(c:e≠t):B.ownsRow base e k v n xs:=
 Fc h d λx g a f=>by
  subst f;rw[b]at a;cases a;exact c rfl
def ad5 {base:Nat}{u:Zf}(h:A.ownsRow base e k v n xs)(d:Ak (λx=>u.ownBlock=some x) A B)(a:∀g,u.ownBlock=some g->∃cs,A.heap[g]?=some (.cells cs 62 (0,0)))(c:e≠62):B.ownsRow base e k v n xs:=
 Fc h d λx i b f=>by
  obtain⟨cs,a⟩:=a x f;rw[a]at b;cases b;exact c rfl
def abo {base a:Nat}(h:A.ownsRow base e k v n xs)(f:a<=base):A.ownsRow a e k v n xs:=by
 refine⟨h.1,?_⟩;rcases h.2 with b|⟨g,d,c,b,j,i⟩
 .exact .inl b
 exact .inr ⟨g,d,c,b,Zr f j,i⟩
structure CSp (n M:Nat)(w:Zb)(u1 u2 u3 u4 u5:Zf)(c:A_):Prop where
 base:Own w n u1 c.base
 Af:Ih w n u2 c.Af 80
 hooks:Own w n u3 c.hooks
 now:Own w n u5 c.now
 row:En M w M u4 c.Aa
 le:n<=M
 l1:∀g,u1.ownBlock=some g->g<M
 l2:∀g,u2.ownBlock=some g->g<M
 l3:∀g,u3.ownBlock=some g->g<M
 l5:∀g,u5.ownBlock=some g->g<M
 d13:Dis u1 u3
 d15:Dis u1 u5
 d35:Dis u3 u5
def aeM (w:Zb)(c:A_)(e:Ending)(w':Zb):Prop:=∃u1 u2 u3 u4 u5 M,e=.returned (.agg #[u1,u2,u3,u4,u5])/\Qb6 w w'/\CSp w M w' u1 u2 u3 u4 u5 c
def ae3 {l:List (Int×Int)}{news:List Zf}(a:news.length=l.length*2)(h:∀i x,l[i]?=some x->(news.drop (i*2)).take 2=[.int .i64 x.1,.int .i64 x.2]):news=l.flatMap λp=> [ZL .i64 p.1,.int .i64 p.2]:=by
 induction l generalizing news with
 |nil=>exact YM (by simpa using a)
 |cons p l c=>
  have b:=h 0 p rfl;rw[Nat.zero_mul,List.drop_zero]at b;rw[List.flatMap_cons, <-b, <-c (news:=news.drop 2) (by rw[List.length_drop,a,zb];omega) λi x d=>by
   rw[List.drop_drop,show 2+i*2=(i+1)*2 by omega];exact h (i+1) x (by simpa using d)]
  exact(List.take_append_drop 2 news).symm
def akn {l:List (Int×Int)}(h:Sl S Rp 2 w v l)(n:l.length<=1000):Calls Lp 40 #[v] w λe w'=>∃u,e=.returned u/\Qb6 w w'/\Ih w' w u l 80:=by
 obtain⟨a,c,rfl,N,M⟩:=h.val;obtain⟨t,hi,I,K,J⟩:=zp Wu;have y:=Cz Zdg;cases a with
 |none=>
  have z:l=[]:=by
   cases l with
   |nil=>rfl
   |cons x r=>
    obtain⟨P,O,m,_,_,D⟩:=h;cases m;obtain⟨b,o,cs,e,_⟩:=D 0 x rfl;cases e
  subst z;go_enter Lp.func40,n40;go_wp2;go_ret;exact⟨_,rfl,bA (Zh _ _),YC w #[] 0 (Zj _) (Zp _) rfl⟩
 |some q=>
  obtain⟨d,g,i,p⟩:=Sl.row h d! q rfl;have m:=row_one d! g i bC;have G:=Zd p;have E:=Zd i;clear p i;go_enter Lp.func40,n40;go_wp2_with (at_builtin;refine Yc _ rfl _ _ 23 rfl w 80 t (.agg #[.int .i64 0,.int .i64 0]) 2 16 y (Dz hi) I K J rfl d! _ 0 [] rfl (YC w #[] 0 (Zj _) (Zp _) rfl) q l.length c d rfl g (λj u B=>ca (G.out j u B) _) m u! o! i! ?_;intro L w1 f s H);have C:Qb6 w w1:=Bm (bA (Zh _ _)) s (λk A=>by cases A;exact Zj _) i!;rw[zN,zP]at f;rw[ae3 g E.out]at f;have F:=Zd f;clear f s H;go_ret;exact⟨_,rfl,C,F.out⟩
structure CRs (w:Zb)(n0 M q:Nat)(xs:Array Zf)(s1 s2 s3 s5:Zf)(c:A_)(k:Nat)(v4:Zf)(wr:Zb):Prop where
 below:Qb6 w wr
 box:wr.heap[w.heap.size]?=some (.cells xs 26 (0,0))
 res:wr.heap[w.heap.size+1]?=some (.cells Qz6 26 (0,0))
 qx:wr.heap[q]?=some (.cells #[s1,s2,s3,v4,s5] 26 (0,0))
 base:Own wr n0 s1 c.base
 Af:Ih wr n0 s2 c.Af 80
 hooks:Own wr n0 s3 c.hooks
 now:Own wr n0 s5 c.now
 row:En M wr M v4 (c.Aa.take k)
 z:M<=wr.heap.size
def akp (h:RC S w v1 v2 v3 v4 v5 c)(hS:Ql6 S w)(ig:c.base.length<=1000)(bV:c.Af.length<=1000)(bi:c.hooks.length<=1000)(Xm:c.Aa.length<=1000)(UO:c.now.length<=1000)(xB:∀i,i<c.Aa.length->(Aj c.Aa i).Ap.length<=1000/\(Aj c.Aa i).over.length<=1000):
  Calls Lp 33 #[.agg #[v1,v2,v3,v4,v5]] w (aeM w c):=by
 obtain⟨a1,c1,a2,c2,a3,c3,a4,c4,a5,c5,rfl,rfl,rfl,rfl,rfl,l1,m1,l2,m2,l3,m3,l4,m4,l5,m5⟩:=h.vs;have IX:=DJ;go_enter Lp.func33,n33;go_wp2;obtain⟨z,Hv⟩:=Qnm ((w.alloc (.cells (Qe6 c a1 c1 a2 c2 a3 c3 a4 c4 a5 c5) 26)).alloc (.cells Qz6 26));have U:Qb6 w z:=by rw[Hv];exact bA (bA (Zh _ _))
 have F1:z.heap[w.heap.size]?=some (.cells (Qe6 c a1 c1 a2 c2 a3 c3 a4 c4 a5 c5) 26 (0,0)):=by rw[Hv];exact Bf (Bp _ _) _
 have O9:z.heap[w.heap.size+1]?=some (.cells Qz6 26 (0,0)):=by rw[Hv];exact Jq _ _ _
 rw[<-Hv];clear Hv;have be:w+1<z.heap.size:=(Za.1 O9).1;refine Code.wp_mono (Q:=λe a' V=>e=.normal/\∃(q:Nat) (F H E D:Option Addr) (d1 d2 d3 G:Nat) (x5 x6 x7 x8 x9 jX Qj ai MH Lx Ly K0 K1:Zf),a'= {tmps:= #[.agg #[.slice a1 c.base.length c1,.slice a2 c.Af.length c2,.slice a3 c.hooks.length c3,.slice a4 c.Aa.length c4,.slice a5 c.now.length c5],.pointer w,.pointer (w+1:Nat),.pointer q,Ze,x5,x6,x7,x8,x9,jX,Qj,ai,MH,Lx,Ly,K0,K1,Ze,Ze,Ze,Ze,Ze,Ze,Ze,Ze,Ze,Ze,Ze,Ze,Ze,Ze,Ze,Ze,Ze,Ze,Ze],defers:=[]}/\w+1<q/\Qb6 z V/\V.heap[q]?=some (.cells #[.slice F c.base.length d1,.slice H c.Af.length d2,.slice E c.hooks.length d3,(),.slice D c.now.length G] 26 (0,0))/\Own V z (.slice F c.base.length d1) c.base/\Ih V z (.slice H c.Af.length d2) c.Af 80/\Own V z (.slice E c.hooks.length d3) c.hooks/\Own V z (.slice D c.now.length G) c.now/\Dis (.slice F c.base.length d1) (.slice E c.hooks.length d3)/\Dis (.slice F c.base.length d1) (.slice D c.now.length G)/\Dis (.slice E c.hooks.length d3) (.slice D c.now.length G)) ?rest ?first
 case first=>
  have z0:=λp=>Al p (ch (i:=0) F1 (v:=.slice a1 c.base.length c1) rfl);have z1:=λp=>Al p (ch (i:=1) F1 (v:=.slice a2 c.Af.length c2) rfl);have z2:=λp=>Al p (ch (i:=2) F1 (v:=.slice a3 c.hooks.length c3) rfl);have z4:=λp=>Al p (ch (i:=4) F1 (v:=.slice a5 c.now.length c5) rfl);refine G6 (S:=λW=>∃p,W=calm z p) [0,1,3,4,6,7,9,10] 7 #[true,true,false,true,true,false,true,true,false,true,true,false,false,false,false] k! (λ_ _ _ _ _ h=>nomatch h.1) k! (AL (Zh _ _).drew) ?_;refine A4 _ _ k! ?_;simp only[Z6,zd,ZG,ZD,ZC]
  repeat (first|go_big_quiet_step (fail)|quiet_step (fail))
  refine Z4 ?_;clear z0 z1 z2 z4;change Cy _ _ _ _ _ _ _ _ _;obtain⟨V,hV⟩:=Qnm z.drew;have b:Qb6 z V:=by rw[hV];exact(Zh _ _).drew
  rw[<-hV];clear hV;have l:=Yz;have r:=Yz;have s:=Yz;have n3:=Yz;have n5:=Yz;refine AK [2,13] k! i! (Ix ?gA2 ?gB2)
  case' gB2=>
   refine EX (v:=.pointer V) (w':=V.alloc (.cells Qz6 26)) rfl rfl g! ?_;obtain⟨o,m⟩:=Qnm (V.alloc (.cells Qz6 26));have a:Qb6 V o:=by rw[m];exact bA (Zh _ _)
   have l:o.heap[V.heap.size]?=some (.cells Qz6 26 (0,0)):=by rw[m];exact Bp _ _
   have C:=b.size;obtain⟨q,y⟩:=Qnm V.heap.size;rw[<-y]at l C
   try (have r:=Fu r a)
   try (have s:=Fu s a)
   try (have n3:=Fu n3 a)
   try (have n5:=Fu n5 a)
   have b:=b.trans (a.mono b.size);rw[<-m, <-y];refine⟨AL b,?_⟩;clear a y m;obtain⟨V,O⟩:∃T,T=o:=⟨_,rfl⟩;subst O;refine AK [2] k! i! (BF ?_)
  all_goals
   refine DK (f:=32) (args:= #[.slice a1 c.base.length c1]) rfl rfl g! ((WO (h.later (U.trans (b.mono U.size))).base ig).mono ?_);rintro e V ⟨u,rfl,a,t⟩;have r:=abo t b.size;obtain⟨F,d1,rfl,_,_⟩:=JS t;clear t
   try (have l:=(a.block _ (Za.1 l).1).trans l)
   try (have s:=Fu s a)
   try (have n3:=Fu n3 a)
   try (have n5:=Fu n5 a)
   have b:=b.trans (a.mono b.size);refine .inl ⟨_,rfl,AL b,?_⟩;clear a
  all_goals first
   |(have kL:=Za.1 l;clear kL;refine AK [5] k! i! (BF ?_))
   |(refine AK [5,13] k! i! (Ix ?gA5 ?gB5)
     case' gB5=>
      refine EX (v:=.pointer V) (w':=V.alloc (.cells Qz6 26)) rfl rfl g! ?_;obtain⟨o,m⟩:=Qnm (V.alloc (.cells Qz6 26));have a:Qb6 V o:=by rw[m];exact bA (Zh _ _)
      have l:o.heap[V.heap.size]?=some (.cells Qz6 26 (0,0)):=by rw[m];exact Bp _ _
      have C:=b.size;obtain⟨q,y⟩:=Qnm V.heap.size;rw[<-y]at l C
      try (have r:=Fu r a)
      try (have s:=Fu s a)
      try (have n3:=Fu n3 a)
      try (have n5:=Fu n5 a)
      have b:=b.trans (a.mono b.size);rw[<-m, <-y];refine⟨AL b,?_⟩;clear a y m;obtain⟨V,O⟩:∃T,T=o:=⟨_,rfl⟩;subst O;refine AK [5] k! i! (BF ?_))
  all_goals
   refine DK (f:=40) (args:= #[.slice a2 c.Af.length c2]) rfl rfl g! ((akn (h.later (U.trans (b.mono U.size))).Af bV).mono ?_);rintro e V ⟨u,rfl,a,t⟩;have s:=abo t b.size;obtain⟨H,d2,rfl,_,_⟩:=JS t;clear t
   try (have l:=(a.block _ (Za.1 l).1).trans l)
   try (have r:=Fu r a)
   try (have n3:=Fu n3 a)
   try (have n5:=Fu n5 a)
   have b:=b.trans (a.mono b.size);refine .inl ⟨_,rfl,AL b,?_⟩;clear a
  all_goals first
   |(have kL:=Za.1 l;clear kL;refine AK [8] k! i! (BF ?_))
   |(refine AK [8,13] k! i! (Ix ?gA8 ?gB8)
     case' gB8=>
      refine EX (v:=.pointer V) (w':=V.alloc (.cells Qz6 26)) rfl rfl g! ?_;obtain⟨o,m⟩:=Qnm (V.alloc (.cells Qz6 26));have a:Qb6 V o:=by rw[m];exact bA (Zh _ _)
      have l:o.heap[V.heap.size]?=some (.cells Qz6 26 (0,0)):=by rw[m];exact Bp _ _
      have C:=b.size;obtain⟨q,y⟩:=Qnm V.heap.size;rw[<-y]at l C
      try (have r:=Fu r a)
      try (have s:=Fu s a)
      try (have n3:=Fu n3 a)
      try (have n5:=Fu n5 a)
      have b:=b.trans (a.mono b.size);rw[<-m, <-y];refine⟨AL b,?_⟩;clear a y m;obtain⟨V,O⟩:∃T,T=o:=⟨_,rfl⟩;subst O;refine AK [8] k! i! (BF ?_))
  all_goals
   refine DK (f:=32) (args:= #[.slice a3 c.hooks.length c3]) rfl rfl g! ((WO (h.later (U.trans (b.mono U.size))).hooks bi).mono ?_);rintro e V ⟨u,rfl,a,t⟩;have n3:=abo t b.size;obtain⟨E,d3,rfl,_,_⟩:=JS t;have N:=ads r t;clear t
   try (have l:=(a.block _ (Za.1 l).1).trans l)
   try (have r:=Fu r a)
   try (have s:=Fu s a)
   try (have n5:=Fu n5 a)
   have b:=b.trans (a.mono b.size);refine .inl ⟨_,rfl,AL b,?_⟩;clear a
  all_goals first
   |(have kL:=Za.1 l;clear kL;refine AK [11] k! i! (BF ?_))
   |(refine AK [11,13] k! i! (Ix ?gA11 ?gB11)
     case' gB11=>
      refine EX (v:=.pointer V) (w':=V.alloc (.cells Qz6 26)) rfl rfl g! ?_;obtain⟨o,m⟩:=Qnm (V.alloc (.cells Qz6 26));have a:Qb6 V o:=by rw[m];exact bA (Zh _ _)
      have l:o.heap[V.heap.size]?=some (.cells Qz6 26 (0,0)):=by rw[m];exact Bp _ _
      have C:=b.size;obtain⟨q,y⟩:=Qnm V.heap.size;rw[<-y]at l C
      try (have r:=Fu r a)
      try (have s:=Fu s a)
      try (have n3:=Fu n3 a)
      try (have n5:=Fu n5 a)
      have b:=b.trans (a.mono b.size);rw[<-m, <-y];refine⟨AL b,?_⟩;clear a y m;obtain⟨V,O⟩:∃T,T=o:=⟨_,rfl⟩;subst O;refine AK [11] k! i! (BF ?_))
  all_goals
   refine DK (f:=32) (args:= #[.slice a5 c.now.length c5]) rfl rfl g! ((WO (h.later (U.trans (b.mono U.size))).now UO).mono ?_);rintro e V ⟨u,rfl,a,t⟩;have n5:=abo t b.size;obtain⟨D,G,rfl,_,_⟩:=JS t;have L:=ads r t;have J:=ads n3 t;clear t
   try (have l:=(a.block _ (Za.1 l).1).trans l)
   try (have r:=Fu r a)
   try (have s:=Fu s a)
   try (have n3:=Fu n3 a)
   have b:=b.trans (a.mono b.size);refine .inl ⟨_,rfl,AL b,?_⟩;clear a
  all_goals first
   |(have kL:=Za.1 l;clear kL;refine AK [12] k! i! (BF ?_)
     refine EX (v:=.agg #[.slice F c.base.length d1,.slice H c.Af.length d2,.slice E c.hooks.length d3,(),.slice D c.now.length G]) (w':=V) rfl rfl g! ?_;refine⟨AL b,?_⟩)
   |(refine AK [12,13] k! i! (Ix ?gA12 ?gB12)
     case' gB12=>
      refine EX (v:=.pointer V) (w':=V.alloc (.cells Qz6 26)) rfl rfl g! ?_;obtain⟨o,m⟩:=Qnm (V.alloc (.cells Qz6 26));have a:Qb6 V o:=by rw[m];exact bA (Zh _ _)
      have l:o.heap[V.heap.size]?=some (.cells Qz6 26 (0,0)):=by rw[m];exact Bp _ _
      have C:=b.size;obtain⟨q,y⟩:=Qnm V.heap.size;rw[<-y]at l C
      try (have r:=Fu r a)
      try (have s:=Fu s a)
      try (have n3:=Fu n3 a)
      try (have n5:=Fu n5 a)
      have b:=b.trans (a.mono b.size);rw[<-m, <-y];refine⟨AL b,?_⟩;clear a y m;obtain⟨V,O⟩:∃T,T=o:=⟨_,rfl⟩;subst O;refine AK [12] k! i! (BF ?_);refine EX (v:=.agg #[.slice F c.base.length d1,.slice H c.Af.length d2,.slice E c.hooks.length d3,(),.slice D c.now.length G]) (w':=V) rfl rfl g! ?_;refine⟨AL b,?_⟩
     case' gA12=>
      refine EX (v:=.agg #[.slice F c.base.length d1,.slice H c.Af.length d2,.slice E c.hooks.length d3,(),.slice D c.now.length G]) (w':=V) rfl rfl g! ?_;refine⟨AL b,?_⟩;refine AK [13] k! i! (BF ?_);refine EX (v:=.pointer V) (w':=V.alloc (.cells Qz6 26)) rfl rfl g! ?_;obtain⟨o,m⟩:=Qnm (V.alloc (.cells Qz6 26));have a:Qb6 V o:=by rw[m];exact bA (Zh _ _)
      have l:o.heap[V.heap.size]?=some (.cells Qz6 26 (0,0)):=by rw[m];exact Bp _ _
      have C:=b.size;obtain⟨q,y⟩:=Qnm V.heap.size;rw[<-y]at l C
      try (have r:=Fu r a)
      try (have s:=Fu s a)
      try (have n3:=Fu n3 a)
      try (have n5:=Fu n5 a)
      have b:=b.trans (a.mono b.size);rw[<-m, <-y];refine⟨AL b,?_⟩;clear a y m;obtain⟨V,O⟩:∃T,T=o:=⟨_,rfl⟩;subst O)
  all_goals
   refine AK [14] k! i! (BF ?_);obtain⟨g0,g1,g2,g3,g4⟩:=Qc5 l;obtain⟨f0,f1,f2,f3,f4⟩:=Qf5 l;obtain⟨o,m⟩:=Qnm (((((V.setCell q (.slice F c.base.length d1)).setCell ⟨q,1,none⟩ (.slice H c.Af.length d2)).setCell ⟨q,2,none⟩ (.slice E c.hooks.length d3)).setCell ⟨q,3,none⟩ ()).setCell ⟨q,4,none⟩ (.slice D c.now.length G));refine Rj (w':=o) rfl rfl (by rw[m];go_simp) ?_;have an:Qb6 z o:=by rw[m];exact bS (bS (bS (bS (bS b C) C) C) C) C
   have hT:Ak (λx=>x=q) V o:=by rw[m];exact(Ak.refl (λx=>x=q) V).DT.DT.DT.DT.DT
   refine⟨AL an,rfl,?_⟩;exact⟨rfl,q,F,H,E,D,d1,d2,d3,G,_,_,_,_,_,_,_,_,_,_,_,_,_,rfl,o!,an,by rw[m];exact Ba (Ba (Ba (Ba (Ba l _) _) _) _) _,abh r hT l d!,abh s hT l d!,abh n3 hT l d!,abh n5 hT l d!,N,L,J⟩
 rintro e a' V ⟨rfl,q,F,H,E,D,d1,d2,d3,G,x5,x6,x7,x8,x9,jX,Qj,ai,MH,Lx,Ly,K0,K1,rfl,C,b,l,r,s,n3,n5,N,L,J⟩;obtain⟨M,hM⟩:=Qnm V.heap.size;have dl:z<=M:=by rw[hM];exact b.size
 have L1:=adi r;have L2:=adi s;have L3:=adi n3;have R:=adi n5;rw[<-hM]at L1 L2 L3 R;have HD:=Zd (ZY L1 (ZY L2 (ZY L3 (ZY R (ZY N (ZY L J))))));clear L1 L2 L3 R N L J;have b8:CRs w z M q #[.slice a1 c.base.length c1,.slice a2 c.Af.length c2,.slice a3 c.hooks.length c3,.slice a4 c.Aa.length c4,.slice a5 c.now.length c5] (.slice F c.base.length d1) (.slice H c.Af.length d2) (.slice E c.hooks.length d3) (.slice D c.now.length G) c 0 () V:=
  ⟨U.trans (b.mono U.size),(b.block _ (Za.1 F1).1).trans F1,(b.block _ be).trans O9,l,r,s,n3,n5,⟨[],zq _ _ _ _,λi x hx=>by cases hx⟩,ZcS hM⟩
 clear hM b l r s n3 n5 F1 O9 U;dsimp only;go_wp2;go_loopg [4] c.Aa.length (λg i wr=>∃(k:Nat) (v4:Zf),k<=c.Aa.length/\g=c.Aa.length - k/\i=.int .i64 k/\CRs w z M q #[.slice a1 c.base.length c1,.slice a2 c.Af.length c2,.slice a3 c.hooks.length c3,.slice a4 c.Aa.length c4,.slice a5 c.now.length c5] (.slice F c.base.length d1) (.slice H c.Af.length d2) (.slice E c.hooks.length d3) (.slice D c.now.length G) c k v4 wr)
 case atStart=>exact⟨0,_,Zp _,rfl,rfl,b8⟩
 obtain⟨k,v4,hk,rfl,rfl,n⟩:=hrel;obtain⟨sl,NK⟩:=Qnm (c.Aa.take k);have ac:sl.length=k:=by rw[NK];simp;omega
 have Ci:=n.row;rw[<-NK]at Ci;obtain⟨Z,Y,rfl,_⟩:=Ci.val;rw[ac]at n Ci;by_cases Az:k<c.Aa.length
 .obtain⟨b4,o4,s2,s3,rfl,UQ,x0,x1,x2,x3,x4,hp,ho⟩:=h.Aa.at_ (i:=k) Az
  have Ga:∀j u,w.cell? ⟨b4,j,none⟩=some u->wr.cell? ⟨b4,j,none⟩=some u:=λj u t=>(n.below.cell (p:=⟨b4,j,none⟩) (hS b4 UQ)).trans t;replace x0:=Ga _ _ x0;replace x1:=Ga _ _ x1;replace x2:=Ga _ _ x2;replace x3:=Ga _ _ x3;replace x4:=Ga _ _ x4;clear Ga;replace hp:=hp.later n.below;replace ho:=ho.later n.below;obtain⟨Oq,Qm⟩:=xB k Az;obtain⟨sm,Qh⟩:=Qnm (Aj c.Aa k);have ck:=Zd (show c.Aa.take (k+1)=sl++ [sm] by rw[NK,Qh,ZbH,Db Az];rfl);rw[<-Qh]at x0 x1 x4 hp ho Oq Qm;clear Qh NK;obtain⟨low,B,Ap,over,left⟩:=sm;dsimp only at x0 x1 x4 hp ho Oq Qm;obtain⟨a6,c6,rfl,l6,m6⟩:=hp.val;obtain⟨a7,c7,rfl,l7,m7⟩:=ho.val;obtain⟨K,Ig⟩:∃K:Nat->Prop,K=λx=>x≠q/\w+1<x:=⟨_,rfl⟩;have LP:∀x,w.heap.size+1<x->x≠q->K x:=λx hx l=>by rw[Ig];exact⟨l,hx⟩
  have qF:¬K w:=by rw[Ig];intro x;omega
  have l_:¬K (w+1):=by rw[Ig];intro x;omega
  have Tg:¬K q:=by rw[Ig];exact λx=>x.1 rfl
  have Qn:¬K b4:=by rw[Ig];intro x;have:=hS b4 UQ;omega
  clear Ig;have z0:=λp:Tw K wr=>p.cell (ch (i:=3) n.box (v:=.slice (some ⟨b4,o4,none⟩) c.Aa.length c4) rfl) qF;have z1:=λp:Tw K wr=>p.cell (ch (i:=3) n.qx (v:=.slice Z k Y) rfl) Tg;have y0:=λp:Tw K wr=>p.cell x0 Qn;have y1:=λp:Tw K wr=>p.cell x1 Qn;have y2:=λp:Tw K wr=>p.cell x2 Qn;have y3:=λp:Tw K wr=>p.cell x3 Qn;have y4:=λp:Tw K wr=>p.cell x4 Qn;have TB:(k:Int)<(c.Aa.length:Int):=o!
  have fd:(0:Int)<=(k:Int):=o!
  have kD:q<wr:=(Za.1 n.qx).1;have kx:=ch (i:=3) n.box (v:=.slice (some ⟨b4,o4,none⟩) c.Aa.length c4) rfl;have bG:=n.below.size;have DR:w+1<wr.heap.size:=(Za.1 n.res).1;have Rb:M<=wr.heap.size:=n.z;go_wp2;clear kx;refine B0 (S:=λW=>∃p:Tw K wr,W=p.v) [11] [(false,7),(false,8),(false,9),(false,10),(false,11)] [0,1,2,3,4,5,6] k! (λ_ _ d _ _ h=>by cases d<;>exact h) k! (A5 (Ak.later (Zh _ _).drew)) ?_;refine A4 _ _ k! ?_;simp only[Z6,zd,ZG,ZD,ZC]
  repeat (first|go_big_quiet_step (fail)|quiet_step (fail))
  refine Z4 ?_;clear z0 z1 y0 y1 y2 y3 y4 x0 x1 x2 x3 x4;change Dl _ _ _ _ _ _ _;have Uh:YH wr wr wr.drew:=(Zh _ _).drew;refine Dd (f:=86) (args:= #[.agg #[.int .i64 low,.int .i64 B,.slice a6 Ap.length c6,.slice a7 over.length c7,.int .i64 left]]) rfl rfl g! ((aoP (hp.later Uh) (ho.later Uh) Oq Qm).mono ?_);rintro e w1 ⟨u2,u3,rfl,Bg,Hb,Lb⟩;have cu:Qb6 wr w1:=Uh.trans (Bg.mono (Zj _));have Kd:Ak K wr w1:=Ak.later cu;refine⟨_,rfl,.inr (A5 Kd),?_⟩;have Hb:SP (TT wr w1) w1 u2 Ap:=Hb;have Lb:SI (TT wr w1) w1 u3 over:=Own.tt Lb;obtain⟨p6,t6,rfl,_⟩:=Hb.val;obtain⟨p7,t7,rfl,_⟩:=Lb.val;obtain⟨uT,uU⟩:=Qnm (w1.alloc (.cells #[.int .i64 low,.int .i64 B,.slice p6 Ap.length t6,.slice p7 over.length t7,.int .i64 left] 62));have Vn:Qb6 w1 uT:=by rw[uU];exact bA (Zh _ _)
  have Jp:=cu.trans (Vn.mono cu.size);have WQ:Ak K wr uT:=Ak.later Jp;refine JZ (v:=.slice w1 1 1) (w':=uT) rfl rfl (by rw[uU];go_simp) (.inr (A5 WQ)) ?_;obtain⟨am,AX,DF⟩:=Ci.later Jp;rw[ac]at AX;obtain⟨i0,hi,eL,k9,ci⟩:=zp eI;have b9:=Cz Tryz.underlying24;refine PW rfl rfl ?_;refine Zak _ _ _ 24 rfl M 62 i0 (.agg #[.int .i64 0,.int .i64 0,(),(),.int .i64 0]) 5 72 b9 (Dz hi) eL k9 ci rfl d! _ k am rfl AX w1 1 1 [.int .i64 low,.int .i64 B,.slice p6 Ap.length t6,.slice p7 over.length t7,.int .i64 left] rfl rfl (by rw[uU];exact Hc _ _ _) (by intro u t;simp at t;rcases t with rfl|rfl|rfl|rfl|rfl<;>rfl) u! o! (by have:=Jp.size;omega) ?_;intro v' w2 Cm AG Gc;have Em:∀g,(Zy Z k Y).ownBlock=some g->M<=g/\∃cs,wr.heap[g]?=some (.cells cs 62 (0,0)):=Ci.own;have Js:Ak (λx=>(Zy Z k Y).ownBlock=some x) uT w2:=Ak.grown AG λg I=>I;have D3:Ak K wr w2:=WQ.trans (Ak.grown AG λg I=>by
   obtain⟨h1,cs,h2⟩:=Em g I;exact LP g o! (λe=>by subst e;rw[n.qx]at h2;cases h2))
  refine⟨.inr (A5 D3),?_⟩;obtain⟨g',Ey,rfl⟩:=Zay Cm;have M9:=(D3.block q kD Tg).trans n.qx;have f3:=cf (i:=3) M9;have e3:=ch (i:=3) M9 (v:=.slice Z k Y) rfl;refine Dw (v:=.pointer (some ⟨q,3,none⟩)) rfl rfl g! (.inr (A5 D3)) ?_;refine K8 (w':=w2.setCell ⟨q,3,none⟩ (.slice g' (k+1) Ey)) rfl rfl g! (.inl rfl) ?_;have bM:CRs w z M q #[.slice a1 c.base.length c1,.slice a2 c.Af.length c2,.slice a3 c.hooks.length c3,.slice (some ⟨b4,o4,none⟩) c.Aa.length c4,.slice a5 c.now.length c5] (.slice F c.base.length d1) (.slice H c.Af.length d2) (.slice E c.hooks.length d3) (.slice D c.now.length G) c (k+1) (.slice g' (k+1) Ey) (w2.setCell ⟨q,3,none⟩ (.slice g' (k+1) Ey)):=by
   have Th:Ak (λx=>x=q) w2 (w2.setCell ⟨q,3,none⟩ (.slice g' (k+1) Ey)):=(Ak.refl (λx=>x=q) w2).DT;have ba:∀x,TT M w2 x->¬x=q:=λx hx e=>TT.not (e▸hx) M9 ⟨d!,d!,d!⟩;have bc:∀ {A:Zb} (hA:∀g cs,wr.heap[g]?=some (Zbi cs 62 (0,0))->A.heap[g]?=some (Zbi cs 62 (0,0))) x,TT M A x->¬(Zy Z k Y).ownBlock=some x:=λhA x hx e=>by
    obtain⟨_,cs,h2⟩:=Em x e;exact TT.not hx (hA x cs h2) ⟨d!,d!,d!⟩
   have P:Ak (λx=>(Zy Z k Y).ownBlock=some x) wr w2:=((Ak.later Jp).mono λ_ x=>x).trans Js;have mW:∀g,(Zy Z k Y).ownBlock=some g->∃cs,wr.heap[g]?=some (.cells cs 62 (0,0)):=λg I=>(Em g I).2;have rK:=bc (A:=uT) (λg cs h=>(Jp.block g (Za.1 h).1).trans h);refine⟨?_,?_,?_,Ba M9 _,abh (ad5 n.base P mW d!) Th M9 d!,abh (ad5 n.Af P mW d!) Th M9 d!,abh (ad5 n.hooks P mW d!) Th M9 d!,abh (ad5 n.now P mW d!) Th M9 d!,?_,by have:=P.size;simp;omega⟩
   .exact bS ((n.below.trans (Jp.mono n.below.size)).trans (Js.below (λg I=>by have:=(Em g I).1;omega) (by have:=Jp.size;omega))) o!
   .exact(AZ o! _).trans ((D3.block _ o! qF).trans n.box)
   .exact(AZ o! _).trans ((D3.block _ DR l_).trans n.res)
   rw[ck.out];refine En.CN (A:=w2) ?_ Th ba (λg I e=>by
    cases I;subst e;rcases Cm.2 with⟨e,_⟩|⟨g,ed,du,e,_,h3,_⟩
    .cases e
    cases e;rw[M9]at h3;cases h3)
   rw[show k+1=sl.length+1 by rw[ac]]at*;have xG:Rs (TT M uT) uT [.int .i64 low,.int .i64 B,.slice p6 Ap.length t6,.slice p7 over.length t7,.int .i64 left] ⟨low,B,Ap,over,left⟩:=⟨_,_,rfl,Ug (M6 Hb Vn) Rb,LQ (Ei Lb Vn) Rb⟩;exact En.snoc (λi x hi=>xR (DF i x hi) Js rK) (by have:=AX.1;rw[this,ac]) rfl (xR xG Js rK) Cm
  have ct:=Zd bM;clear bM n D3 Js WQ Kd Jp Vn uU Bg cu Hb Lb AX Cm DF AG Gc Em Ci f3 e3 M9 hp ho;unfold Dl
  go_simp
  go_wp2;go_roundg (c.Aa.length - (k+1))
  case rel=>exact⟨k+1,_,Az,rfl,v!,ct.out⟩
  omega
 have T5:k=c.Aa.length:=o!
 rw[T5,ZcU]at NK;subst NK;subst T5;have kx:=ch (i:=3) n.box (v:=.slice a4 c.Aa.length c4) rfl;obtain⟨s0,s1,s2,s3,s4⟩:=Qc5 n.qx;obtain⟨f0,f1,f2,f3,f4⟩:=Qf5 n.res;obtain⟨r0,r1,r2,r3,r4⟩:=Qc5 n.res;have kD:q<wr:=(Za.1 n.qx).1;have bG:=n.below.size;have DR:w+1<wr.heap.size:=(Za.1 n.res).1;have HC:=Zd n;have HR:=Zd Ci;clear n Ci;go_wp2;refine ZN (v:=.agg #[.slice F c.base.length d1,.slice H c.Af.length d2,.slice E c.hooks.length d3,.slice Z c.Aa.length Y,.slice D c.now.length G]) (by rw[A8 rfl];go_simp) rfl ?_;have ap:∀X,Qb6 w X->Ak (λx=>x=w.heap.size+1) wr X->aeM w c (.returned (.agg #[.slice F c.base.length d1,.slice H c.Af.length d2,.slice E c.hooks.length d3,.slice Z c.Aa.length Y,.slice D c.now.length G])) X:=λX Ov Pc=>by
  have hn:∀x,TT M wr x->¬x=w+1:=λx hx e=>by have:=hx.1;omega
  have mM:w<=z.heap.size:=o!
  have I:∀g,(Zy Z c.Aa.length Y).ownBlock=some g->¬g=w+1:=λg I e=>by have:=(HR.out.own g I).1;omega
  obtain⟨L1,L2,L3,R,N,L,J⟩:=HD.out;exact⟨_,_,_,_,_,M,rfl,Ov,abo (abh HC.out.base Pc HC.out.res d!) mM,abo (abh HC.out.Af Pc HC.out.res d!) mM,abo (abh HC.out.hooks Pc HC.out.res d!) mM,abo (abh HC.out.now Pc HC.out.res d!) mM,HR.out.CN Pc hn I,o!,L1,L2,L3,R,N,L,J⟩
 have Lc:=HC.out.below;refine ap _ ?_ ?_
 .repeat (with_reducible first|exact Lc|(refine bS ?_ o!))
 repeat (with_reducible first|exact Ak.refl _ _|(refine Ak.DT ?_))
def CSp.rc {u3:Zf}(h:CSp n M w u1 u2 u3 u4 u5 c):RC (Cb n w) w u1 u2 u3 u4 u5 c:=
 ⟨h.base.si,Sl.imp (h.Af.tt (.inr (.inr rfl))) (λb a=>a.new) λ_ _ x=>x,h.hooks.si,(h.row.ss (Zj _)).imp (λb a=>⟨Zr h.le a.1,a.2⟩) λ_ _ ⟨v2,v3,e,f,d⟩=>⟨v2,v3,e,Sl.imp f (λb a=>⟨Zr h.le a.1,a.2⟩) λ_ _ x=>x,Sl.imp d (λb a=>⟨Zr h.le a.1,a.2⟩) λ_ _ x=>x⟩,h.now.si⟩
def af4 (S:Nat->Prop)(w:Zb)(cs:List Zf)(x:A_):Prop:=∃v1 v2 v3 v4 v5,cs=[v1,v2,v3,v4,v5]/\RC S w v1 v2 v3 v4 v5 x
def agk (S:Nat->Prop)(w:Zb)(b:Nat)(lv:Zf)(d:Nat)(c:A_)(e:Ending)(w':Zb):Prop:=
 ∃(f a:A_) (q g:Nat),e=.returned (.slice q 4 4)/\B3 b w w'/\BK w' b lv g/\g<=d+2000/\H6 f/\ac4 a/\w<=q/\Sl (λx=>S x\/Cb w w' x) (af4 λx=>S x\/Cb w w' x) 5 w' (.slice q 4 4) [c,f,a,f]
def ae5 (b:l.Pairwise (· < ·))(a:∀x∈l,0<=x/\x<3):l.length<=3:=(show∀l∈Lj,l.length<=3 by decide) l (EM b a)
def adL (h:BN c=0):∀i,i<c.Aa.length->(Aj c.Aa i).over.length<=3:=λi hi=>by
 have d:=(Bj (Bj h).2).2;have e:=(JQ (Bj (Bj h).2).1).2;have a:=adD (Bj d).1 (Aj c.Aa i) (Z3 (Db hi));exact ae5 a.1 λx b=>by have:=a.2 x b;omega
def H6.small (h:H6 c):ac4 c:=
 ⟨by have:=h.Fp;omega,by have:=h.PN;have:=h.Fp;omega,by have:=h.hooks;have:=h.Fp;omega,by have:=h.few;omega,by have:=h.now.1;have:=h.few;omega,λi hi=>⟨by have:=(h.seam i hi).few;omega,by have:=adL h.begin i hi;omega⟩⟩
def afo {l:List Ay}{j:Nat}{s:Ay}:Aj (l.set k s) j=if j=k/\k<l.length then s else Aj l j:=by
 unfold Aj;by_cases e:j=k
 .subst e
  by_cases a:j<l.length
  .simp[Y6,a]
  simp[Y6,a]
 rw[if_neg (λx=>e x.1),Y6,ZS (λx=>e x.symm),Y6]
def ac4.put {s:Ay}(h:ac4 c)(b:s.Ap.length<=20/\s.over.length<=20):ac4 {c with Aa:=c.Aa.set i s}:=
 ⟨h.base,h.Af,h.hooks,by rw[ZcC];exact h.Aa,h.now,λj a=>by
  rw[ZcC]at a;rw[afo];split
  .exact b
  exact h.part j a⟩
def CSp.CN {u3:Zf}{T:Nat->Prop}(h:CSp n M A u1 u2 u3 u4 u5 c)(b:Ak T A B)(a:∀x,n<=x->¬T x):CSp n M B u1 u2 u3 u4 u5 c:=
 ⟨CO b a h.base,CO b a h.Af,CO b a h.hooks,CO b a h.now,h.row.CN b (λx d=>a x (Zr h.le d.1)) (λg e=>a g (Zr h.le (h.row.own g e).1)),h.le,h.l1,h.l2,h.l3,h.l5,h.d13,h.d15,h.d35⟩
def CSp.later {u3:Zf}(h:CSp n M A u1 u2 u3 u4 u5 c)(a:Qb6 A B):CSp n M B u1 u2 u3 u4 u5 c:=h.CN (T:=λ_=>False) (Ak.later a) λ_ _ x=>x
def CSp.box {u3:Zf}(h:CSp n M A u1 u2 u3 u4 u5 c)(b:Ak (λx=>x=q) A B)(a:A.heap[q]?=some (.cells cs 26 (0,0))):CSp n M B u1 u2 u3 u4 u5 c:=
 ⟨abh h.base b a d!,abh h.Af b a d!,abh h.hooks b a d!,abh h.now b a d!,h.row.CN b (λx f e=>TT.not (e▸f) a ⟨d!,d!,d!⟩) (λg i e=>by
  obtain⟨_,j,d⟩:=h.row.own g i;subst e;rw[a]at d;cases d),h.le,h.l1,h.l2,h.l3,h.l5,h.d13,h.d15,h.d35⟩
def ac6 {V:Zb}{b d A:Nat}{F E D C B p n m l k z y v t s:Zf}{f co:A_}(H:B3 b w V)(I:BK V b lv A)(M:A<=d+2000)(N:H6 f)(L:ac4 co)
 (K:RC S V F E D C B c) (G:RC (Cb w V) V p n m l k f) (J:RC (Cb w V) V z y v t s co):
  agk S w b lv d c (.returned (.slice V 4 4)) (V.alloc (.cells #[F,E,D,C,B,p,n,m,l,k,z,y,v,t,s,p,n,m,l,k] 26)):=by
 have g:∀o,YH V V (V.alloc o):=λo=>bA (Zh _ _);have q:=H.size;have r:∀o x,Cb w V x->Cb w (V.alloc o) x:=λo x e=>⟨e.1,by rw[ZB];have:=e.2;omega⟩;refine⟨f,co,V,A,rfl,H.below (g _),I.later (g _),M,N,L,q,_,_,rfl,Zj _,d!,λi x e=>?_⟩
 match i,e with
 |0,e=>
  cases e;exact⟨V,0,[F,E,D,C,B],rfl,.inr ⟨q,by rw[ZB];omega⟩,rfl,(λj u a=>by
   match j,a with
   |0,a=>cases a;exact cn _ _ _ rfl
   |1,a=>cases a;exact cn _ _ _ rfl
   |2,a=>cases a;exact cn _ _ _ rfl
   |3,a=>cases a;exact cn _ _ _ rfl
   |4,a=>cases a;exact cn _ _ _ rfl),_,_,_,_,_,rfl,(K.later (g _)).imp λx e=>.inl e⟩
 |1,e=>
  cases e;exact⟨V,0,[p,n,m,l,k],rfl,.inr ⟨q,by rw[ZB];omega⟩,rfl,(λj u a=>by
   match j,a with
   |0,a=>cases a;exact cn _ _ _ rfl
   |1,a=>cases a;exact cn _ _ _ rfl
   |2,a=>cases a;exact cn _ _ _ rfl
   |3,a=>cases a;exact cn _ _ _ rfl
   |4,a=>cases a;exact cn _ _ _ rfl),_,_,_,_,_,rfl,(G.later (g _)).imp λx e=>.inr (r _ x e)⟩
 |2,e=>
  cases e;exact⟨V,0,[z,y,v,t,s],rfl,.inr ⟨q,by rw[ZB];omega⟩,rfl,(λj u a=>by
   match j,a with
   |0,a=>cases a;exact cn _ _ _ rfl
   |1,a=>cases a;exact cn _ _ _ rfl
   |2,a=>cases a;exact cn _ _ _ rfl
   |3,a=>cases a;exact cn _ _ _ rfl
   |4,a=>cases a;exact cn _ _ _ rfl),_,_,_,_,_,rfl,(J.later (g _)).imp λx e=>.inr (r _ x e)⟩
 |3,e=>
  cases e;exact⟨V,0,[p,n,m,l,k],rfl,.inr ⟨q,by rw[ZB];omega⟩,rfl,(λj u a=>by
   match j,a with
   |0,a=>cases a;exact cn _ _ _ rfl
   |1,a=>cases a;exact cn _ _ _ rfl
   |2,a=>cases a;exact cn _ _ _ rfl
   |3,a=>cases a;exact cn _ _ _ rfl
   |4,a=>cases a;exact cn _ _ _ rfl),_,_,_,_,_,rfl,(G.later (g _)).imp λx e=>.inr (r _ x e)⟩
def c28 {Sn:Nat->Prop}{b d:Nat}(h:RC S w v1 v2 v3 v4 v5 c)(hS:∀x,S x->x<w.heap.size/\x≠b)(hn:SI Sn w lv nums)(E8:∀x,Sn x->x<w.heap.size/\x≠b)(hL:BK w b lv d)(hd:d+5000<4611686018427387904)(Qh:ac4 c):
  Calls Lp 28 #[.agg #[v1,v2,v3,v4,v5],.pointer b] w (agk S w b lv d c):=by
 obtain⟨a1,c1,a2,c2,a3,c3,a4,c4,a5,c5,rfl,rfl,rfl,rfl,rfl,l1,m1,l2,m2,l3,m3,l4,m4,l5,m5⟩:=h.vs;have IX:=DJ;have GK:b<w:=hL.lt;obtain⟨W1,NL⟩:=Qnm (w.alloc (.cells (Qe6 c a1 c1 a2 c2 a3 c3 a4 c4 a5 c5) 26));have Bg:Qb6 w W1:=by rw[NL];exact bA (Zh _ _)
 have lD:W1.heap[w.heap.size]?=some (.cells (Qe6 c a1 c1 a2 c2 a3 c3 a4 c4 a5 c5) 26 (0,0)):=by rw[NL];exact Bp _ _
 have DR:W1=w.heap.size+1:=by rw[NL,ZB]
 have mz:=Zd (c44 (s:=3) (hn.later Bg) (λx a=>⟨by have:=(E8 x a).1;omega,(E8 x a).2⟩) (hL.later Bg) o! d!);go_enter Lp.func28,n28;go_wp2;rw[<-NL];clear NL;refine mz.out.mono ?_;rintro e W2 ⟨j,u1,u2,u3,u4,u5,d2,rfl,M7,rx,yv,hM,_⟩;obtain⟨p1,e1,p2,e2,p3,e3,p4,e4,p5,e5,rfl,rfl,rfl,rfl,rfl,_⟩:=yv.vs;obtain⟨X2,Ia⟩:=Qnm (W2.alloc (.cells (Qe6 j p1 e1 p2 e2 p3 e3 p4 e4 p5 e5) 26));have lm:Qb6 W2 X2:=by rw[Ia];exact bA (Zh _ _)
 have rE:X2=W2.heap.size+1:=by rw[Ia,ZB]
 have jn:X2.heap[W2.heap.size]?=some (.cells (Qe6 j p1 e1 p2 e2 p3 e3 p4 e4 p5 e5) 26 (0,0)):=by rw[Ia];exact Bp _ _
 have Ot:=M7.Cn;have EB:=Ot.size;have i9:=yv.later lm;have my:=Ot.below lm;have mx:=my.at_ lD o!;have t:=hM.small;have ne:=Zd (akp i9 (λx a=>by have:=a.2;omega) (by have:=t.base;omega) (by have:=t.Af;omega) (by have:=t.hooks;omega) (by have:=t.Aa;omega) (by have:=t.now;omega) λi hi=>⟨by have:=(t.part i hi).1;omega,by have:=(t.part i hi).2;omega⟩);obtain⟨m,hm⟩:=Qnm W2.heap.size;rw[<-hm]at jn;have rj:W2<=m/\m<=W2.heap.size:=o!
 go_wp2;rw[<-Ia, <-hm];clear Ia hm;refine ne.out.mono ?_;rintro e W3 ⟨q1,q2,q3,q4,q5,M,rfl,Bv,ac⟩;obtain⟨r1,f1,rfl,_⟩:=JS ac.base;obtain⟨r2,f2,rfl,_⟩:=JS ac.Af;obtain⟨r3,f3,rfl,_⟩:=JS ac.hooks;obtain⟨r4,f4,rfl,_⟩:=ac.row.val;obtain⟨r5,f5,rfl,_⟩:=JS ac.now;obtain⟨X3,iz⟩:=Qnm (W3.alloc (.cells (Qe6 j r1 f1 r2 f2 r3 f3 r4 f4 r5 f5) 26));have mw:Qb6 W3 X3:=by rw[iz];exact bA (Zh _ _)
 have rD:X3=W3.heap.size+1:=by rw[iz,ZB]
 have q9:X3.heap[W3.heap.size]?=some (.cells (Qe6 j r1 f1 r2 f2 r3 f3 r4 f4 r5 f5) 26 (0,0)):=by rw[iz];exact Bp _ _
 have pm:=Bv.size;have fd:=Bv.trans (mw.mono pm);have mv:=my.below fd;have hC:=ac.later mw;have mt:=(fd.block _ o!).trans jn;have mp:=(fd.block _ o!).trans mx;have ml:=i9.later fd;have i7:=((hn.later Bg).Cn mv (λx a=>⟨by have:=(E8 x a).1;omega,(E8 x a).2⟩));have o8:=(M7.E4.later lm).later fd;obtain⟨o,ho⟩:=Qnm W3.heap.size;rw[<-ho]at q9;have iG:=Zd (c29 (n:=2) i7 (λx a=>⟨by have:=(E8 x a).1;omega,(E8 x a).2⟩) o8 o! d!);have nF:W3<=o/\o<=W3.heap.size:=o!
 go_wp2;rw[<-iz, <-ho];clear iz ho;refine iG.out.mono ?_;rintro e y ⟨r,d4,rfl,hr,S5,dl,ru⟩;have Ox:r<=2:=hr;have fC:Ak (λx=>x=b) X3 y:=S5.CN rfl;have R:=hC.CN fC (λx a e=>o!);have fI:=S5.at_ q9 o!;have fH:=S5.at_ mt o!;have ap:=S5.at_ mp o!;have ed:=ml.Ar (S5.same λx a=>by have:=a.1;omega);have Z:B3 b w y:=by
  have hh:B3 b W1 y:=mv.trans S5;exact⟨hh.os.trans Bg.os,hh.tape.trans Bg.tape,hh.output.trans Bg.output,Zr Bg.size hh.size,λk hk G=>(hh.block k o! G).trans (Bg.block k hk)⟩
 have rg:=Z.size;have V:=h.Ar (Z.same λx a=>(hS x a).2);have rC:=S5.size;have x1:w<m:=o!
 have x2:m<o:=o!
 have x3:o<y:=o!
 clear mz ne iG lD mx jn mt mp q9 i9 ml ac hC yv M7;obtain rfl|rfl|rfl:r=0\/r=1\/r=2:=o!
 .have re:=Zd (WO V.now (by have:=Qh.now;omega))
  have oa:=ch (i:=4) ap rfl;go_wp2;refine re.out.mono ?_;rintro e W5 ⟨u,rfl,Cj,mj⟩;obtain⟨t5,s5,rfl,_⟩:=JS mj;have p9:=Cj.size;have fi:=(Cj.block _ x3).trans fI;obtain⟨B,ci⟩:=Qnm (W5.setCell ⟨o,4,none⟩ (.slice t5 c.now.length s5));have A:Ak (λx=>x=o) W5 B:=by rw[ci];exact(Ak.refl (λx=>x=o) W5).DT
  have an:B.heap[o]?=some (.cells #[.slice r1 j.base.length f1,.slice r2 j.Af.length f2,.slice r3 j.hooks.length f3,.slice r4 j.Aa.length f4,.slice t5 c.now.length s5] 26 (0,0)):=by rw[ci];exact Ba fi _
  have pu:=(Cj.block _ o!).trans ap;have pp:=(Cj.block _ o!).trans fH;obtain⟨ip,bi,io,be,im⟩:=Qc5 pu;obtain⟨ii,g9,gt,gn,gj⟩:=Qc5 pp;obtain⟨f9,bc,f8,ba,fK⟩:=Qc5 fi;have ry:=cf (i:=4) fi;have n1:¬w.heap.size=o:=o!
  have n2:¬m=o:=o!
  clear oa;have X:B3 b w B:=by
   have P:=Z.below Cj;exact⟨A.os.trans P.os,A.tape.trans P.tape,A.output.trans P.output,Zr P.size A.size,λk hk G=>(A.block k (by have:=P.size;omega) o!).trans (P.block k hk G)⟩
  have lH:=A.size;have ai:BK B b lv d4:=by
   obtain⟨st,B_⟩:=dl.later Cj;exact⟨st,(A.block b o! o!).trans B_⟩
  have g1:=(V.later Cj).Ar (A.same λx a=>show¬x=o by have:=hS x a;omega);have g2:=((ed.later Cj).Ar (A.same λx a=>show¬x=o by have:=a.2;omega)).imp (T:=Cb w B) λx a=>⟨by have:=a.1;omega,by have:=a.2;omega⟩;have g3:=(((R.later Cj).box A fi).rc).imp (T:=Cb w B) λx a=>⟨by have:=a.1;omega,a.2⟩;have g4:SI (Cb w B) B (.slice t5 c.now.length s5) c.now:=Sl.imp (Own.si (abh mj A fi d!)) (λx a=>⟨by have:=a.1;omega,a.2⟩) λ_ _ x=>x;have I:=ac6 (d:=d) X ai o! hM (co:= {j with now:=c.now}) ⟨t.base,t.Af,t.hooks,t.Aa,Qh.now,t.part⟩ g1 g2 ⟨g3.base,g3.Af,g3.hooks,g3.Aa,g4⟩;clear g1 g2 g3 g4 X ai;have lK:B=W5.heap.size:=by rw[ci];simp
  rw[lK]at I;clear lK;go_wp2;rw[<-ci];clear ci;go_ret;exact I
 .have lC:=ac6 (d:=d) Z dl o! hM t V (ed.imp (T:=Cb w y) λx a=>⟨by have:=a.1;omega,by have:=a.2;omega⟩) (R.rc.imp (T:=Cb w y) λx a=>⟨by have:=a.1;omega,a.2⟩)
  obtain⟨ip,bi,io,be,im⟩:=Qc5 ap;obtain⟨ii,g9,gt,gn,gj⟩:=Qc5 fH;obtain⟨f9,bc,f8,ba,fK⟩:=Qc5 fI;by_cases h0:c.Aa.length=0
  .have hh:¬0<(c.Aa.length:Int):=by omega
   clear h0;go_wp2;go_ret;exact lC
  have hh:0<(c.Aa.length:Int):=o!
  go_wp2;obtain⟨g,eg⟩:∃g,r4=some ⟨g,0,none⟩:=by
   obtain⟨lG,h1,_⟩:=R.row;rcases h1.2 with⟨e,h2⟩|⟨g,jp,D,e,_⟩
   .have:=hM.few
    omega
   cases e;exact⟨g,rfl⟩
  subst eg;obtain⟨U,o4,v2,v3,ea,UQ,x0,x1,iX,iS,x4,hp,rH⟩:=V.Aa.at_ (i:=0) o!;subst ea;obtain⟨a6,c6,rfl,l6,m6⟩:=hp.val;obtain⟨a7,c7,rfl,l7,m7⟩:=rH.val;have fm:=Qh.part 0 o!;obtain⟨sm,am⟩:=Qnm (Aj c.Aa 0);have se:=Zd am;rw[<-am]at x0 x1 iX iS x4 hp rH fm l6 l7;rw[Nat.zero_mul,Nat.add_zero]at x0 x1 iX iS x4;clear am;obtain⟨low,z,Ap,F,left⟩:=sm;dsimp only at x0 x1 iX iS x4 hp rH fm l6 l7;obtain⟨K,Ig⟩:∃K:Nat->Prop,K=λx=>x=b\/y<=x:=⟨_,rfl⟩;have fh:K b:=by rw[Ig];exact .inl rfl
  have LP:∀x,y.heap.size<=x->K x:=λx a=>by rw[Ig];exact .inr a
  have qF:∀x,x<y.heap.size->x≠b->¬K x:=λx h1 h2=>by rw[Ig];exact λe=>e.elim h2 o!
  clear Ig;have mi:=hS U UQ;have z0:=λp:Tw K y=>p.cell ba (qF _ (by show o<_;omega) (by show o≠b;omega));have z1:=λp:Tw K y=>p.cell be (qF _ (by show w.heap.size<_;omega) (by show w≠b;omega));have z2:=λp:Tw K y=>p.cell x0 (qF _ (by show U<_;omega) (by show U≠b;omega));have z3:=λp:Tw K y=>p.cell x1 (qF _ (by show U<_;omega) (by show U≠b;omega));have z4:=λp:Tw K y=>p.cell iX (qF _ (by show U<_;omega) (by show U≠b;omega));have z5:=λp:Tw K y=>p.cell iS (qF _ (by show U<_;omega) (by show U≠b;omega));have z6:=λp:Tw K y=>p.cell x4 (qF _ (by show U<_;omega) (by show U≠b;omega));have Qu:IntKind.i64.wrap ((j.Aa.length:Int) - 1)=(j.Aa.length:Int) - 1:=by rw[zE];have:=hM.few;omega
  refine B0 (S:=λW=>∃p:Tw K y,W=p.v) [14] [(false,5),(false,6),(false,7),(false,12),(false,13),(false,14)] [0,1,2,3,4,8,9,10,11] k! (λ_ _ d _ _ h=>by cases d<;>exact h) k! (A5 (Ak.later (Zh _ _).drew)) ?_;refine A4 _ _ k! ?_;simp only[Z6,zd,ZG,ZD,ZC]
  repeat (first|go_big_quiet_step (fail)|quiet_step (fail))
  refine Z4 ?_;clear z0 z1 z2 z3 z4 z5 z6;change Dl _ _ _ _ _ _ _;have Uh:YH y y y.drew:=(Zh _ _).drew;have ck:Ak K y y.drew:=Ak.later Uh;refine Dw (v:=.int .i64 j.Aa.length) rfl rfl g! (.inr (A5 ck)) ?_;refine Dw (v:=.int .i64 ((j.Aa.length:Int) - 1)) rfl rfl g! (.inr (A5 ck)) ?_;refine Dd (f:=29) (args:= #[.pointer b,.int .i64 ((j.Aa.length:Int) - 1)]) rfl rfl g! ((c29 ((i7.Cn S5 (λx a=>⟨by have:=(E8 x a).1;omega,(E8 x a).2⟩)).later Uh) (λx a=>⟨by have:=(E8 x a).1;simp;omega,(E8 x a).2⟩) (dl.later Uh) o! (by have:=hM.few;omega)).mono ?_);rintro e W5 ⟨C,d5,rfl,oc,P,xZ,ow⟩;have L:B3 b y W5:=by
   exact⟨P.os,P.tape,P.output,P.size,λk hk G=>P.block k hk G⟩
  have ma:Ak K y W5:=L.CN fh;refine⟨_,rfl,.inr (A5 ma),?_⟩;have li:C<j.Aa.length:=by have:=hM.few;omega
  have p9:=L.size;refine Dd (f:=86) (args:= #[.agg #[.int .i64 low,.int .i64 z,.slice a6 Ap.length c6,.slice a7 F.length c7,.int .i64 left]]) rfl rfl g! ((aoP (hp.Ar (L.same λx a=>(hS x a).2)) (rH.Ar (L.same λx a=>(hS x a).2)) (by have:=fm.1;omega) (by have:=fm.2;omega)).mono ?_);rintro e B ⟨u2,u3,rfl,DM,Hb,Lb⟩;have A:Ak K y B:=ma.trans (Ak.later DM);refine⟨_,rfl,.inr (A5 A),?_⟩;have Lb:SI (TT W5 B) B u3 F:=Own.tt Lb;obtain⟨p6,t6,rfl,_⟩:=Hb.val;obtain⟨p7,t7,rfl,_⟩:=Lb.val;have lH:=DM.size;have J:=(R.CN (L.CN (K:=λx=>x=b) rfl) (λx a e=>o!)).later DM;have an:=(DM.block _ o!).trans (L.at_ fI o!);have ky:=(DM.block _ o!).trans (L.at_ fH o!);have kw:=(DM.block _ o!).trans (L.at_ ap o!);have X:=L.below DM;have ka:=ed.Ar (X.same λx a=>by have:=a.1;omega);have jt:=V.Ar (X.same λx a=>(hS x a).2);have ai:=xZ.later DM;have E:B3 b w B:=Z.trans X;obtain⟨D,q,Q⟩:∃D,B.heap[g]?=some (.cells D 62 (0,0))/\∀k,k<5->∃v,D[C*5+k]?=some v:=by
   obtain⟨lG,h1,_⟩:=J.row;rcases h1.2 with⟨e,_⟩|⟨g',jp,D,e,g3,g4,g5,g6,g7,_⟩
   .cases e
   cases e;exact⟨D,g4,λk hk=>⟨_,Zx (by rw[g7];omega)⟩⟩
  obtain⟨w0,b8⟩:=Q 0 d!;obtain⟨w1,lX⟩:=Q 1 d!;obtain⟨w2,nj⟩:=Q 2 d!;obtain⟨w3,lI⟩:=Q 3 d!;obtain⟨w4,xX⟩:=Q 4 d!;have q0:=ch q b8;have q1:=ch q lX;have q2:=ch q nj;have q3:=ch q lI;have q4:=ch q xX;have bV:=cf (i:=C*5+0) q;have i6:=cf (i:=C*5+1) q;have n7:=cf (i:=C*5+2) q;have no:=cf (i:=C*5+3) q;have nm:=cf (i:=C*5+4) q;rw[Nat.add_zero]at q0 bV;obtain⟨O,H⟩:=Qnm (((((B.setCell ⟨g,C*5,none⟩ (.int .i64 low)).setCell ⟨g,C*5+1,none⟩ (.int .i64 z)).setCell ⟨g,C*5+2,none⟩ (.slice p6 Ap.length t6)).setCell ⟨g,C*5+3,none⟩ (.slice p7 F.length t7)).setCell ⟨g,C*5+4,none⟩ (.int .i64 left));have pi:(C:Int)<(j.Aa.length:Int):=o!
  have o9:(0:Int)<=(C:Int):=o!
  refine Dw (v:=.pointer (some ⟨g,C*5,none⟩)) rfl rfl g! (.inr (A5 A)) ?_;refine K8 (w':=O) rfl rfl (by rw[H];go_simp) (.inl rfl) ?_;have l:Ak (λx=>x=g) B O:=by rw[H];exact(Ak.refl (λx=>x=g) B).DT.DT.DT.DT.DT
  have ol:=(J.row.own g rfl).1;have rB:=J.le;have b9:∀x,x<X2.heap.size->¬x=g:=λx a e=>o!
  have i8:¬o=g:=λe=>by subst e;rw[an]at q;cases q
  have rA:g<y:=by
   obtain⟨_,cs,h⟩:=R.row.own g rfl;exact(Za.1 h).1
  have mh:Rs (TT M B) B [.int .i64 low,.int .i64 z,.slice p6 Ap.length t6,.slice p7 F.length t7,.int .i64 left] ⟨low,z,Ap,F,left⟩:=⟨_,_,rfl,Sl.imp Hb (λx a=>⟨by have:=a.1;omega,a.2⟩) (λ_ _ x=>x),Sl.imp Lb (λx a=>⟨by have:=a.1;omega,a.2⟩) λ_ _ x=>x⟩;have N:=En.put (s:=⟨low,z,Ap,F,left⟩) J.row li mh;dsimp only at N;rw[<-H]at N;have Y:O=B.heap.size:=by rw[H];simp
  have du:B3 b w O:=by
   exact⟨l.os.trans E.os,l.tape.trans E.tape,l.output.trans E.output,Zr E.size l.size,λk hk G=>(l.block k (by have:=E.size;omega) o!).trans (E.block k hk G)⟩
  have ct:BK O b lv d5:=by
   obtain⟨st,B_⟩:=ai;exact⟨st,(l.block b o! o!).trans B_⟩
  have U3:∀ {v:Zf} {e:Zs} {k n:Nat} {xs:List Zf} {base:Nat},B.ownsRow base e k v n xs->e≠62->O.ownsRow base e k v n xs:=λh he=>abh h l q he;have g1:=jt.Ar (l.same λx a=>show¬x=g by have:=hS x a;omega);have g2:=(ka.Ar (l.same λx a=>show¬x=g by have:=a.2;omega)).imp (T:=Cb w O) λx a=>⟨by have:=a.1;omega,by have:=a.2;omega⟩;have g3:RC (Cb w O) O (.slice r1 j.base.length f1) (.slice r2 j.Af.length f2) (.slice r3 j.hooks.length f3) (.slice g j.Aa.length f4) (.slice r5 j.now.length f5) {j with Aa:=j.Aa.set C ⟨low,z,Ap,F,left⟩}:=
   ⟨Sl.imp (Own.si (U3 J.base d!)) (λx a=>⟨by have:=a.1;omega,a.2⟩) (λ_ _ x=>x),Sl.imp (Ih.tt (U3 J.Af d!) (.inr (.inr rfl))) (λx a=>⟨by have:=a.1;omega,a.lt⟩) (λ_ _ x=>x),Sl.imp (Own.si (U3 J.hooks d!)) (λx a=>⟨by have:=a.1;omega,a.2⟩) (λ_ _ x=>x),(N.ss (Zj _)).imp (λx a=>⟨by have:=a.1;omega,a.2⟩) (λ_ _ ⟨v2,v3,e,h2,h3⟩=>⟨v2,v3,e,Sl.imp h2 (λx a=>⟨by have:=a.1;omega,a.2⟩) λ_ _ x=>x,Sl.imp h3 (λx a=>⟨by have:=a.1;omega,a.2⟩) λ_ _ x=>x⟩),Sl.imp (Own.si (U3 J.now d!)) (λx a=>⟨by have:=a.1;omega,a.2⟩) (λ_ _ x=>x)⟩
  have I:=ac6 (d:=d) du ct o! hM (co:= {j with Aa:=j.Aa.set C ⟨low,z,Ap,F,left⟩}) (t.put fm) g1 g2 g3;rw[Y]at I;have fy:=(l.block o o! i8).trans an;have fw:=(l.block m o! (b9 m o!)).trans ky;have fu:=(l.block w o! (b9 _ o!)).trans kw;obtain⟨ip,bi,io,be,im⟩:=Qc5 fu;obtain⟨ii,g9,gt,gn,gj⟩:=Qc5 fw;obtain⟨f9,bc,f8,ba,fK⟩:=Qc5 fy;have lE:=Zd I;have lF:=Zd Y;clear H I g1 g2 g3 U3 N mh l fy fw fu q0 q1 q2 q3 q4 bV i6 n7 no nm b8 lX nj lI xX Y ct du;unfold Dl
  go_simp
  go_wp2;rw[lF.out];go_ret;exact lE.out
 have lC:=ac6 (d:=d) Z dl o! hM t V (ed.imp (T:=Cb w y) λx a=>⟨by have:=a.1;omega,by have:=a.2;omega⟩) (R.rc.imp (T:=Cb w y) λx a=>⟨by have:=a.1;omega,a.2⟩);obtain⟨ip,bi,io,be,im⟩:=Qc5 ap;obtain⟨ii,g9,gt,gn,gj⟩:=Qc5 fH;obtain⟨f9,bc,f8,ba,fK⟩:=Qc5 fI;by_cases h0:c.Af.length=0
 .have hh:¬0<(c.Af.length:Int):=by omega
  clear h0;go_wp2;go_ret;exact lC
 have hh:0<(c.Af.length:Int):=o!
 go_wp2;have lL:j.Af.length=j.base.length:=hM.PN;have so:=Zd lL;have rz:1<=j.Af.length/\j.Af.length<=3:=by have:=hM.Fp;omega
 clear lL;obtain⟨g,eg⟩:∃g,r2=some ⟨g,0,none⟩:=by
  rcases R.Af.2 with⟨e,h2⟩|⟨g,jp,D,e,_⟩
  .omega
  cases e;exact⟨g,rfl⟩
 subst eg;obtain⟨U,o4,ea,UQ,x0,x1⟩:=V.Af.at_ (i:=0) o!;subst ea;obtain⟨sm,am⟩:=Qnm (BV c.Af 0);rw[<-am]at x0 x1;rw[Nat.zero_mul,Nat.add_zero]at x0 x1;clear am;obtain⟨low,z⟩:=sm;dsimp only at x0 x1;obtain⟨K,Ig⟩:∃K:Nat->Prop,K=λx=>x=b\/y<=x:=⟨_,rfl⟩;have fh:K b:=by rw[Ig];exact .inl rfl
 have LP:∀x,y.heap.size<=x->K x:=λx a=>by rw[Ig];exact .inr a
 have qF:∀x,x<y.heap.size->x≠b->¬K x:=λx h1 h2=>by rw[Ig];exact λe=>e.elim h2 o!
 clear Ig;have mi:=hS U UQ;have z0:=λp:Tw K y=>p.cell bc (qF _ (by show o<_;omega) (by show o≠b;omega));have z1:=λp:Tw K y=>p.cell bi (qF _ (by show w.heap.size<_;omega) (by show w≠b;omega));have z2:=λp:Tw K y=>p.cell x0 (qF _ (by show U<_;omega) (by show U≠b;omega));have z3:=λp:Tw K y=>p.cell x1 (qF _ (by show U<_;omega) (by show U≠b;omega));have Qu:IntKind.i64.wrap ((j.Af.length:Int) - 1)=(j.Af.length:Int) - 1:=by rw[zE];omega
 refine B0 (S:=λW=>∃p:Tw K y,W=p.v) [13] [(false,5),(false,6),(false,7),(false,12),(false,13)] [0,1,2,3,4,8,9,10,11] k! (λ_ _ d _ _ h=>by cases d<;>exact h) k! (A5 (Ak.later (Zh _ _).drew)) ?_;refine A4 _ _ k! ?_;simp only[Z6,zd,ZG,ZD,ZC]
 repeat (first|go_big_quiet_step (fail)|quiet_step (fail))
 refine Z4 ?_;clear z0 z1 z2 z3;change Dl _ _ _ _ _ _ _;have Uh:YH y y y.drew:=(Zh _ _).drew;have ck:Ak K y y.drew:=Ak.later Uh;refine Dw (v:=.int .i64 j.Af.length) rfl rfl g! (.inr (A5 ck)) ?_;refine Dw (v:=.int .i64 ((j.Af.length:Int) - 1)) rfl rfl g! (.inr (A5 ck)) ?_;refine Dd (f:=29) (args:= #[.pointer b,.int .i64 ((j.Af.length:Int) - 1)]) rfl rfl g! ((c29 ((i7.Cn S5 (λx a=>⟨by have:=(E8 x a).1;omega,(E8 x a).2⟩)).later Uh) (λx a=>⟨by have:=(E8 x a).1;simp;omega,(E8 x a).2⟩) (dl.later Uh) o! o!).mono ?_);rintro e B ⟨C,d5,rfl,oc,P,ai,ow⟩;have X:B3 b y B:=by
  exact⟨P.os,P.tape,P.output,P.size,λk hk G=>P.block k hk G⟩
 have A:Ak K y B:=X.CN fh;refine⟨_,rfl,.inr (A5 A),?_⟩;have li:C<j.Af.length:=o!
 have lH:=X.size;have J:=R.CN (X.CN (K:=λx=>x=b) rfl) (λx a e=>o!);have an:=X.at_ fI o!;have ky:=X.at_ fH o!;have kw:=X.at_ ap o!;have ka:=ed.Ar (X.same λx a=>by have:=a.1;omega);have jt:=V.Ar (X.same λx a=>(hS x a).2);have E:B3 b w B:=Z.trans X;obtain⟨D,q,Q⟩:∃D,B.heap[g]?=some (.cells D 80 (0,0))/\∀k,k<2->∃v,D[C*2+k]?=some v:=by
  rcases J.Af.2 with⟨e,_⟩|⟨g',jp,D,e,g3,g4,g5,g6,g7,_⟩
  .cases e
  cases e;exact⟨D,g4,λk hk=>⟨_,Zx (by rw[g7];omega)⟩⟩
 obtain⟨w0,b8⟩:=Q 0 d!;obtain⟨w1,lX⟩:=Q 1 d!;have q0:=ch q b8;have q1:=ch q lX;have bV:=cf (i:=C*2+0) q;have i6:=cf (i:=C*2+1) q;rw[Nat.add_zero]at q0 bV;obtain⟨O,H⟩:=Qnm ((B.setCell ⟨g,C*2,none⟩ (.int .i64 low)).setCell ⟨g,C*2+1,none⟩ (.int .i64 z));have pi:(C:Int)<(j.Af.length:Int):=o!
 have o9:(0:Int)<=(C:Int):=o!
 refine Dw (v:=.pointer (some ⟨g,C*2,none⟩)) rfl rfl g! (.inr (A5 A)) ?_;refine K8 (w':=O) rfl rfl (by rw[H];go_simp) (.inl rfl) ?_;have l:Ak (λx=>x=g) B O:=by rw[H];exact(Ak.refl (λx=>x=g) B).DT.DT
 have ol:=(J3 J.Af g rfl).1;have rq:=J.l2 g rfl;have b9:∀x,x<X2.heap.size->¬x=g:=λx a e=>o!
 have i8:¬o=g:=λe=>by subst e;rw[an]at q;cases q
 have N:=Ih.set J.Af li (low,z);dsimp only at N;rw[<-H]at N;have Y:O=B.heap.size:=by rw[H];simp
 have du:B3 b w O:=by
  exact⟨l.os.trans E.os,l.tape.trans E.tape,l.output.trans E.output,Zr E.size l.size,λk hk G=>(l.block k (by have:=E.size;omega) o!).trans (E.block k hk G)⟩
 have ct:BK O b lv d5:=by
  obtain⟨st,B_⟩:=ai;exact⟨st,(l.block b o! o!).trans B_⟩
 have U3:∀ {v:Zf} {e:Zs} {k n:Nat} {xs:List Zf} {base:Nat},B.ownsRow base e k v n xs->e≠80->O.ownsRow base e k v n xs:=λh he=>abh h l q he;have lJ:=J.row.CN l (λx a e=>by have:=a.1;omega) (λx a e=>by have:=(J.row.own x a).1;omega);have rm:=J.le;have g1:=jt.Ar (l.same λx a=>show¬x=g by have:=hS x a;omega);have g2:=(ka.Ar (l.same λx a=>show¬x=g by have:=a.2;omega)).imp (T:=Cb w O) λx a=>⟨by have:=a.1;omega,by have:=a.2;omega⟩;have g3:RC (Cb w O) O (.slice r1 j.base.length f1) (.slice g j.Af.length f2) (.slice r3 j.hooks.length f3) (.slice r4 j.Aa.length f4) (.slice r5 j.now.length f5) {j with Af:=j.Af.set C (low,z)}:=
  ⟨Sl.imp (Own.si (U3 J.base d!)) (λx a=>⟨by have:=a.1;omega,a.2⟩) (λ_ _ x=>x),Sl.imp (Ih.tt N (.inr (.inr rfl))) (λx a=>⟨by have:=a.1;omega,a.lt⟩) (λ_ _ x=>x),Sl.imp (Own.si (U3 J.hooks d!)) (λx a=>⟨by have:=a.1;omega,a.2⟩) (λ_ _ x=>x),(lJ.ss (Zj _)).imp (λx a=>⟨by have:=a.1;omega,a.2⟩) (λ_ _ ⟨v2,v3,e,h2,h3⟩=>⟨v2,v3,e,Sl.imp h2 (λx a=>⟨by have:=a.1;omega,a.2⟩) λ_ _ x=>x,Sl.imp h3 (λx a=>⟨by have:=a.1;omega,a.2⟩) λ_ _ x=>x⟩),Sl.imp (Own.si (U3 J.now d!)) (λx a=>⟨by have:=a.1;omega,a.2⟩) (λ_ _ x=>x)⟩
 have I:=ac6 (d:=d) du ct o! hM (co:= {j with Af:=j.Af.set C (low,z)}) ⟨t.base,by rw[ZcC];exact t.Af,t.hooks,t.Aa,t.now,t.part⟩ g1 g2 g3;rw[Y]at I;have fy:=(l.block o o! i8).trans an;have fw:=(l.block m o! (b9 m o!)).trans ky;have fu:=(l.block w o! (b9 _ o!)).trans kw;obtain⟨ip,bi,io,be,im⟩:=Qc5 fu;obtain⟨ii,g9,gt,gn,gj⟩:=Qc5 fw;obtain⟨f9,bc,f8,ba,fK⟩:=Qc5 fy;have lE:=Zd I;have lF:=Zd Y;clear H I g1 g2 g3 U3 N lJ l fy fw fu q0 q1 bV i6 b8 lX Y ct du;unfold Dl
 go_simp
 go_wp2;rw[lF.out];go_ret;exact lE.out
def afv {i:Nat}{l:List A_}{x:A_}(h:Sl S (af4 S) 5 w (.slice q n i) l)(b:l[k]?=some x):
  S q/\∃v1 v2 v3 v4 v5,w.cell? ⟨q,k*5,none⟩=some v1/\w.cell? ⟨q,k*5+1,none⟩=some v2/\w.cell? ⟨q,k*5+2,none⟩=some v3/\w.cell? ⟨q,k*5+3,none⟩=some v4/\w.cell? ⟨q,k*5+4,none⟩=some v5/\RC S w v1 v2 v3 v4 v5 x:=by
 obtain⟨r,o,e,_,_,f⟩:=h;cases e;obtain⟨p,j,cs,g,c,m,a,v1,v2,v3,v4,v5,rfl,d⟩:=f k x b;cases g;rw[zN]at a;exact⟨c,v1,v2,v3,v4,v5,by simpa using a 0 v1 rfl,a 1 v2 rfl,a 2 v3 rfl,a 3 v4 rfl,a 4 v5 rfl,d⟩
def ajo {v7:Zf}{p mh:Int}{lG:UInt8}(h:RC (λx=>x<w.heap.size) w v1 v2 v3 v4 v5 c)(hn:SI (λx=>x<w.heap.size) w v7 nums)(hG:Jr w):Calls Lp 21 #[.agg #[v1,v2,v3,v4,v5],.string s,.int .i64 p,.int .i64 mh,.int .u8 (lG.toNat:Int),v7] w (Two w (.bool true)):=by
 obtain⟨a1,c1,a2,c2,a3,c3,a4,c4,a5,c5,rfl,rfl,rfl,rfl,rfl,l1,m1,l2,m2,l3,m3,l4,m4,l5,m5⟩:=h.vs;obtain⟨la,lc,rfl,_⟩:=hn.val;have IX:=DJ;obtain⟨X,hX⟩:=Qnm (w.alloc (.cells (Qe6 c a1 c1 a2 c2 a3 c3 a4 c4 a5 c5) 26));have Ov:Qb6 w X:=by rw[hX];exact bA (Zh _ _)
 have rj:X=w.heap.size+1:=by rw[hX,ZB]
 have lm:X.heap[w.heap.size]?=some (.cells (Qe6 c a1 c1 a2 c2 a3 c3 a4 c4 a5 c5) 26 (0,0)):=by rw[hX];exact Bp _ _
 have my:=Zd (c25 (h.later Ov) (λx (n:x<w)=>o!));go_enter Lp.func21,n21;go_wp2;rw[<-hX];clear hX;refine my.out.mono ?_;rintro e W1 ⟨ap,rfl,oX,Bg⟩;have D:=bU Ov Bg;have kG:=hG.later D;have DR:=Bg.size;have l_:=(Bg.block _ o!).trans lm;by_cases an:ap=true\/40<s.size
 .cases ap with
  |true=>
   go_wp2_with (go_at_call 26;refine(c26 _ kG).mono ?_;rintro e V ⟨F,rfl|⟨x,rfl,Ss⟩⟩)
   .go_ret
    exact⟨bU D F,.inl rfl⟩
   .exact⟨rfl,bU D F,.inr ⟨_,rfl,Ss⟩⟩
  |false=>
   have n7:40<(s.size:Int):=by
    rcases an with e|e
    .cases e
    omega
   go_wp2_with (go_at_call 26;refine(c26 _ kG).mono ?_;rintro e V ⟨F,rfl|⟨x,rfl,Ss⟩⟩)
   .go_ret
    exact⟨bU D F,.inl rfl⟩
   exact⟨rfl,bU D F,.inr ⟨_,rfl,Ss⟩⟩
 have ka:ap=false:=by cases ap;rfl;exact absurd (.inl rfl) an
 have n7:¬40<(s.size:Int):=λe=>an (.inr o!);have Qh:=oX ka;subst ka;clear an oX my lm;obtain⟨k0,k1,k2,k3,k4⟩:=Qc5 l_;obtain⟨W2,MX⟩:=Qnm (W1.alloc (.cells #[.slice la nums.length lc,.int .i64 0,.int .u64 1] 106));have Bb:Qb6 W1 W2:=by rw[MX];exact bA (Zh _ _)
 have EB:W2=W1.heap.size+1:=by rw[MX,ZB]
 have rV:BK W2 W1 (.slice la nums.length lc) 0:=⟨1,by rw[MX];exact Bp _ _⟩;obtain⟨b,hb⟩:=Qnm W1.heap.size;rw[<-hb]at rV;have EC:W1<=b/\b<=W1.heap.size:=o!
 go_wp2;refine(c27 _ ⟨_,_,_,rfl⟩ _).mono ?_;rintro e ym ⟨rfl,hw⟩;rw[<-MX]at hw;have hw:=hw.symm;subst hw;rw[<-hb];clear hb MX;have z:=bU D Bb;have mx:=Zd (c28 (h.later z) (λx (n:x<w)=>⟨by have:=z.size;omega,o!⟩) (hn.later z) (λx (n:x<w)=>⟨by have:=z.size;omega,o!⟩) rV d! Qh);have ne:=(Bb.block _ o!).trans l_;clear k0 k1 k2 k3 k4;obtain⟨k0,k1,k2,k3,k4⟩:=Qc5 ne;go_wp2;refine mx.out.mono ?_;rintro e l ⟨a,C,q,d3,rfl,H4,fm,rz,hM,mz,JA,lC⟩;have Rb:=H4.size;have BL:∀x,(x<w.heap.size\/Cb W2 l x)->x<l.heap.size/\x≠b:=λx n=>by
  rcases n with n|n
  .have:=z.size;exact⟨o!,o!⟩
  have:=n.1;have:=n.2;exact⟨o!,o!⟩
 have g9:=hM.small;have o9:=hM.small;have o8:∀x,(x<w.heap.size\/Cb W2 l x)->x<l:=λx n=>(BL x n).1;have im:=Zd (show∀W,B3 b l W->Sl (λx=>x<l.heap.size/\x≠b) (af4 λx=>x<l.heap.size/\x≠b) 5 W (.slice q 4 4) [c,a,C,a] from λW H=>by
  refine Sl.imp (Sl.Ar lC (H.same λx n=>(BL x n).2) (R:=af4 λx=>x<w.heap.size\/Cb W2 l x) ?_) BL ?_
  .rintro cs x ⟨y1,y2,y3,y4,y5,rfl,hR⟩
   exact⟨y1,y2,y3,y4,y5,rfl,hR.Ar (H.same λx n=>(BL x n).2)⟩
  rintro cs x ⟨y1,y2,y3,y4,y5,rfl,hR⟩;exact⟨y1,y2,y3,y4,y5,rfl,hR.imp BL⟩)
 have jp:=(hn.later z).Cn H4 (λx (n:x<w)=>⟨by have:=z.size;omega,o!⟩);have rq:w<=l.heap.size:=by have:=z.size;omega
 have GK:w<b:=o!
 have gn:∀x,x<w.heap.size->x<l.heap.size/\x≠b:=λx n=>⟨o!,o!⟩;have mj:=Zd (show∀W,B3 b l W->SI (λx=>x<w.heap.size) W (.slice la nums.length lc) nums from λW H=>jp.Cn H gn);have ma:∀W,B3 b l W->Qb6 w W:=λW H=>B3.aj4 z (H4.trans H) o!;have HB:=Zd ma;have so:b<l:=fm.lt;have ii:=Zd gn;clear k0 k1 k2 k3 k4 jp gn ma lC mx;have HM:=Zd hM;have rA:s.size<=40:=o!
 obtain⟨G,p1,p2,p3,p4,p5,x0,x1,x2,x3,x4,ai⟩:=afv (k:=1) (im.out _ (B3.refl _ _)) rfl;rw[Nat.one_mul]at x0 x1 x2 x3 x4;obtain⟨gj,ct,f9,ck,f8,ci,fK,b9,fI,b8,rfl,rfl,rfl,rfl,rfl,_⟩:=ai.vs;have mw:=Zd (λW (H:B3 b l W) (hL:BK W b (.slice la nums.length lc) d3)=>ajk (ai.Ar (H.same λy o=>o.2)) (λx n=>⟨by have:=n.1;have:=H.size;omega,n.2⟩) (mj.out _ H) (λx n=>⟨by have:=(ii.out x n).1;have:=H.size;omega,(ii.out x n).2⟩) hL (by have:=g9.Aa;omega) (by have:=g9.Aa;omega) λi hi=>by have:=(hM.valid.step i hi);omega);obtain⟨K,Ig⟩:∃K:Nat->Prop,K=λx=>x=b:=⟨_,rfl⟩;have fh:K b:=by rw[Ig]
 have LP:∀x,x≠b->¬K x:=by rw[Ig];exact λ_ x=>x
 clear Ig;have z0:=λu:Tw K l=>u.cell x0 (LP _ G.2);have z1:=λu:Tw K l=>u.cell x1 (LP _ G.2);have z2:=λu:Tw K l=>u.cell x2 (LP _ G.2);have z3:=λu:Tw K l=>u.cell x3 (LP _ G.2);have z4:=λu:Tw K l=>u.cell x4 (LP _ G.2);have jt:=hM.valid;have mp:=Zd ai;clear ai;go_wp2;refine abl (S:=λW=>∃p:Tw K l,W=p.v) 14 [] (.one 7 (.one 8 (.free 9 (.free 10 (.free 11 (.one 12 (.one 13 .leaf))))))) [0,1,2,3,4,5,6] k! (λ_ _ d _ _ h=>by cases d<;>exact h) k! (A5 (Ak.later (Zh _ _).drew)) ?_;refine A4 _ _ k! ?_;simp only[Z6,zd,ZG,ZD,ZC]
 repeat (first|go_big_quiet_step (fail)|quiet_step (fail))
 refine Z4 ?_;clear z0 z1 z2 z3 z4;change abv _ _ _ _ _ _ _ _;have M:YH l l l.drew:=(Zh _ _).drew;have ed:B3 b l l.drew:=(B3.refl b l).below M;refine ad4 (f:=30) (args:= #[.pointer b,.agg #[.slice gj a.base.length ct,.slice f9 a.Af.length ck,.slice f8 a.hooks.length ci,.slice fK a.Aa.length b9,.slice fI a.now.length b8]]) rfl rfl g! ((mw.out _ ed (fm.later M)).mono ?_);rintro e W5 ⟨v5,st,d5,rfl,cN,xZ,ry,fi,Xc,_⟩;obtain⟨ip,io,rfl,_⟩:=fi.si.val;have p9:=cN.size;have J:=ed.trans cN;have lE:∃p:Tw K l,W5=p.v:=A5 (J.CN fh);refine .inl ⟨_,rfl,.inr lE,?_⟩;have se:=J.size;have rE:st.length<=3:=by have:=jt.few;rw[Xc];omega
 have ky:RC (λx=>x<W5.heap.size) W5 (.slice gj a.base.length ct) (.slice f9 a.Af.length ck) (.slice f8 a.hooks.length ci) (.slice fK a.Aa.length b9) (.slice fI a.now.length b8) a:=(mp.out.Ar (J.same λy o=>o.2)).imp λy o=>by have:=o.1;show y<W5;omega
 have kw:SI (λx=>x<W5.heap.size) W5 (.slice ip st.length io) st:=Sl.imp fi.si (λy o=>o.2) λ_ _ x=>x;have mv:=Zd (c70 ky kw (λy o=>o));refine ad4 (f:=70) (args:= #[.agg (Qe6 a gj ct f9 ck f8 ci fK b9 fI b8),.slice ip st.length io]) rfl rfl g! (mv.out.mono ?_);rintro e W6 ⟨rfl,DM⟩;have I:=J.below DM;have rX:∃p:Tw K l,W6=p.v:=A5 (I.CN fh);refine .inl ⟨_,rfl,.inr rX,?_⟩;have iS:(M3 a st).length<=9:=by
  unfold M3;split
  .have:=Vj st st.length;omega
  exact Zp _
 obtain⟨B,dl⟩:∃v:ByteArray,v=⟨(M3 a st).toArray⟩:=⟨_,rfl⟩;obtain⟨we,iX⟩:∃x,x=Ca a st:=⟨_,rfl⟩;have rm:B.size<=9:=by rw[dl];exact iS
 rw[<-dl, <-iX];clear dl iX iS mv ky kw;refine abg (v:=.tuple #[.string B,.int .i64 we]) rX rfl rfl (λw _=>g!) ?_;refine abg (v:=.string B) rX rfl rfl (λw _=>g!) ?_;refine abg (v:=.int .i64 we) rX rfl rfl (λw _=>g!) ?_;refine abx (v:=.string B) (w':=W6) rfl rfl g! (.inr rX) ?_;refine abx (v:=.int .i64 we) (w':=W6) rfl rfl g! (.inr rX) ?_;unfold abv
 go_simp
 have mt:=Zd (λW=>c80 B p mh lG W o!);have pm:=Zd I;have ow:=Zd (HB.out W6 I);have lL:=Zd (im.out W6 I);clear lE rX cN J fi xZ M ed x0 x1 x2 x3 x4;go_wp2;refine(mt.out _).mono ?_;rintro e Z ⟨lF,tv,rfl,ru⟩;go_wp2;obtain⟨Y,hY⟩:=Qnm (Z.alloc (.cells #[.string s,.string B,.string tv,.string s] 9));have ol:Qb6 Z Y:=by rw[hY];exact bA (Zh _ _)
 have li:Y.heap[Z.heap.size]?=some (.cells #[.string s,.string B,.string tv,.string s] 9 (0,0)):=by rw[hY];exact Bp _ _
 obtain⟨qs,du⟩:=Qnm Z.heap.size;rw[<-du]at li;rw[<-hY, <-du];clear hY du;have fJ:Qb6 W6 Y:=bU lF ol;have lK:Qb6 w Y:=bU ow.out fJ;have no:Jr Y:=hG.later lK;have rD:=fJ.size;have rC:l<=Y.heap.size:=by have:=pm.out.size;omega
 have fu:Sl (λx=>x<Y.heap.size) (af4 λx=>x<Y.heap.size) 5 Y (.slice q 4 4) [c,a,C,a]:=by
  refine Sl.imp (Sl.Ar lL.out (CE.Ec fJ) (R:=af4 λx=>x<l.heap.size/\x≠b) ?_) (T:=λx=>x<Y.heap.size) (λx n=>by have:=n.1;show x<Y;omega) ?_
  .rintro cs x ⟨y1,y2,y3,y4,y5,rfl,hR⟩
   exact⟨y1,y2,y3,y4,y5,rfl,hR.Ar (CE.Ec fJ)⟩
  rintro cs x ⟨y1,y2,y3,y4,y5,rfl,hR⟩;exact⟨y1,y2,y3,y4,y5,rfl,hR.imp λx n=>by have:=n.1;show x<Y;omega⟩
 obtain⟨cl,dL⟩:=Qnm ([c,a,C,a]);have lJ:∀k,k<4->∃x,cl[k]?=some x:=by
  intro k hk;rw[dL];obtain rfl|rfl|rfl|rfl:k=0\/k=1\/k=2\/k=3:=o!
  all_goals exact⟨_,rfl⟩
 have ac:∀k,k<4->∃A:ByteArray,(#[.string s,.string B,.string tv,.string s]:Array Zf)[k]?=some (.string A)/\A.size<=1000:=by
  intro k hk;obtain rfl|rfl|rfl|rfl:k=0\/k=1\/k=2\/k=3:=o!
  .exact⟨_,rfl,o!⟩
  .exact⟨_,rfl,o!⟩
  .exact⟨_,rfl,o!⟩
  exact⟨_,rfl,o!⟩
 rw[<-dL]at fu;have pu:=Zd fu;have oc:=Zd lJ;have pp:=Zd ac;clear dL fu lJ ac lL im mj HB ii hM mz Qh BL o8 hn h g9 o9 fm H4 I DM lF HM mp mw mt jt;go_loopg [18] 4 (λgg i wr=>∃k:Nat,k<=4/\gg=4 - k/\i=.int .i64 k/\Qb6 Y wr)
 case atStart=>exact⟨0,d!,rfl,rfl,Zh _ _⟩
 obtain⟨k,hk,rfl,rfl,fw⟩:=hrel;obtain⟨V0,tY⟩:∃V,V=wr:=⟨_,rfl⟩;subst tY;by_cases Az:k<4
 .obtain⟨x,n⟩:=oc.out k Az
  obtain⟨_,p1,p2,p3,p4,p5,x0,x1,x2,x3,x4,fd⟩:=afv pu.out n;obtain⟨bV,e1,bi,e2,be,e3,bc,e4,ba,e5,rfl,rfl,rfl,rfl,rfl,_⟩:=fd.vs;have N:=Zd (ZY x0 (ZY x1 (ZY x2 (ZY x3 x4))));have ml:=Zd (show∀W,Qb6 Y W->RC (λy=>y<W.heap.size) W (.slice bV x.base.length e1) (.slice bi x.Af.length e2) (.slice be x.hooks.length e3) (.slice bc x.Aa.length e4) (.slice ba x.now.length e5) x from λW hW=>(fd.later hW).imp λy (o:y<Y)=>by have:=hW.size;show y<W;omega);have TB:(k:Int)<4:=o!
  have sq:(0:Int)<=(k:Int):=o!
  clear x0 x1 x2 x3 x4 fd;go_wp2;go_loopg [19] 4 (λgg i wr=>∃m:Nat,m<=4/\gg=4 - m/\i=.int .i64 m/\Qb6 Y wr)
  case atStart=>exact⟨0,d!,rfl,rfl,fw⟩
  obtain⟨m,hm,rfl,rfl,F⟩:=hrel;obtain⟨V,hV⟩:=Qnm wr;subst hV;by_cases lI:m<4
  .obtain⟨A,ac,i7⟩:=pp.out m lI
   have i8:=ch li ac;have rx:(m:Int)<4:=o!
   have rB:(0:Int)<=(m:Int):=o!
   have fH:=λW (hW:Qb6 Y W)=>c81 A (ml.out W hW) (λy o=>o) i7;have fy:=λW (hW:Qb6 Y W)=>c82 A (ml.out W hW) (λy o=>o) i7;obtain⟨t,i9⟩:∃r,r=(abS x A.data.toList).2:=⟨_,rfl⟩;obtain⟨E,jn⟩:∃r,r=(abS x A.data.toList).1:=⟨_,rfl⟩;rw[<-i9, <-jn]at fH fy;have rg:=Zd fH;have re:=Zd fy;clear fH fy i9 jn;have g:∀ {p:Addr} {v:Zf},Y.cell? p=some v->V.cell? p=some v:=λh=>(F.cell (ZH _ _ h)).trans h;have z0:=λp=>Al p (g N.out.1);have z1:=λp=>Al p (g N.out.2.1);have z2:=λp=>Al p (g N.out.2.2.1);have z3:=λp=>Al p (g N.out.2.2.2.1);have z4:=λp=>Al p (g N.out.2.2.2.2);have z5:=λp=>Al p (g i8);clear g;go_wp2;refine abl (S:=λW=>∃p,W=calm V p) 14 [] (.one 8 (.free 9 (.free 10 (.free 11 (.one 12 (.one 13 .leaf)))))) [0,1,2,3,4,5,6,7] k! (λ_ _ d _ _ h=>by cases d<;>exact h) k! (AL (Zh _ _).drew) ?_;refine A4 _ _ k! ?_;simp only[Z6,zd,ZG,ZD,ZC]
   repeat (first|go_big_quiet_step (fail)|quiet_step (fail))
   refine Z4 ?_;clear z0 z1 z2 z3 z4 z5;change abv _ _ _ _ _ _ _ _;have M:YH V V V.drew:=(Zh _ _).drew;refine ad4 (f:=81) (args:= #[.agg (Qe6 x bV e1 bi e2 be e3 bc e4 ba e5),.string A]) rfl rfl g! ((rg.out _ (bU F M)).mono ?_);rintro e L ⟨Bg,U,Q,rfl,xf⟩;have lH:Qb6 V L:=bU M Bg;have gt:=bU F lH;have j:∃p,L=calm V p:=AL lH;refine .inl ⟨_,rfl,.inr j,?_⟩;refine abg (v:=.tuple #[.slice U t.length Q,.int .i64 E]) j rfl rfl (λw _=>g!) ?_;refine abg (v:=.slice U t.length Q) j rfl rfl (λw _=>g!) ?_;refine abg (v:=.int .i64 E) j rfl rfl (λw _=>g!) ?_;refine abx (v:=.slice U t.length Q) (w':=L) rfl rfl g! (.inr j) ?_;refine abx (v:=.int .i64 E) (w':=L) rfl rfl g! (.inr j) ?_;unfold abv
   go_simp
   clear j M Bg;have g:∀ {p:Addr} {v:Zf},Y.cell? p=some v->L.cell? p=some v:=λh=>(gt.cell (ZH _ _ h)).trans h;have z0:=λp=>Al p (g N.out.1);have z1:=λp=>Al p (g N.out.2.1);have z2:=λp=>Al p (g N.out.2.2.1);have z3:=λp=>Al p (g N.out.2.2.2.1);have z4:=λp=>Al p (g N.out.2.2.2.2);have z5:=λp=>Al p (g i8);clear g;go_wp2;refine abl (S:=λW=>∃p,W=calm L p) 14 [] (.one 8 (.free 9 (.free 10 (.free 11 (.one 12 (.one 13 .leaf)))))) [0,1,2,3,4,5,6,7] k! (λ_ _ d _ _ h=>by cases d<;>exact h) k! (AL (Zh _ _).drew) ?_;refine A4 _ _ k! ?_;simp only[Z6,zd,ZG,ZD,ZC]
   repeat (first|go_big_quiet_step (fail)|quiet_step (fail))
   refine Z4 ?_;clear z0 z1 z2 z3 z4 z5;change abv _ _ _ _ _ _ _ _;have M:YH L L L.drew:=(Zh _ _).drew;refine ad4 (f:=82) (args:= #[.agg (Qe6 x bV e1 bi e2 be e3 bc e4 ba e5),.string A]) rfl rfl g! ((re.out _ (bU gt M)).mono ?_);rintro e V2 ⟨Bg,P,O,rfl,i6⟩;have am:Qb6 L V2:=bU M Bg;have pi:=bU gt am;have j:∃p,V2=calm L p:=AL am;refine .inl ⟨_,rfl,.inr j,?_⟩;refine abg (v:=.tuple #[.slice P t.length O,.int .i64 E]) j rfl rfl (λw _=>g!) ?_;refine abg (v:=.slice P t.length O) j rfl rfl (λw _=>g!) ?_;refine abg (v:=.int .i64 E) j rfl rfl (λw _=>g!) ?_;refine abx (v:=.slice P t.length O) (w':=V2) rfl rfl g! (.inr j) ?_;refine abx (v:=.int .i64 E) (w':=V2) rfl rfl g! (.inr j) ?_;unfold abv
   go_simp
   clear j M Bg;have oT:=Sl.imp (xf.later am) (T:=λy=>y<V2.heap.size) (λy o=>by have:=o.2;have:=am.size;show y<V2;omega) λ_ _ x=>x;have aT:=Sl.imp i6 (T:=λy=>y<V2.heap.size) (λy o=>o.2) λ_ _ x=>x;have cL:=Zd (show Calls Lp 46 #[.slice U t.length Q,.slice P t.length O] V2 λe w'=>e=.returned (.bool true)/\Qb6 V2 w' from by
    have:=c46 oT aT (λy o=>o) (λy o=>o);rwa[show Ke t t=true from decide_eq_true rfl]at this)
   clear oT aT xf i6;go_wp2;refine cL.out.mono ?_;rintro e V3 ⟨rfl,Bv⟩;have oa:=bU pi Bv;go_wp2;go_roundg (4 - (m+1))
   case rel=>exact⟨m+1,lI,rfl,v!,oa⟩
   omega
  go_wp2;go_roundg (4 - (k+1))
  case rel=>exact⟨k+1,Az,rfl,v!,F⟩
  omega
 have Lc:=bU lK fw;have nm:=no.later fw;go_wp2_with (go_at_call 26;refine(c26 _ nm).mono ?_;rintro e V ⟨F,rfl|⟨x,rfl,Ss⟩⟩)
 .go_ret
  exact⟨bU Lc F,.inl rfl⟩
 exact⟨rfl,bU Lc F,.inr ⟨_,rfl,Ss⟩⟩
end Go.Proofs.Fit
namespace Go.Proofs.YtkkjobdfheidkaaGreatDoor
open Go Go.Conc Go.RowKit Go.Proofs.Fit
set_option maxRecDepth 100000
def af7:(Rows.seamReadsRow.inPlace==Tryz.prog.inPlace 21)=true:=k!
def adv:(Rows.seamReadsRow.unfollowed==Tryz.prog.unfollowed 21)=true:=k!
def aej:(Rows.seamReadsRow.recurses==Tryz.prog.recurses 21)=true:=k!
def agc:(Rows.seamReadsRow.named==Tryz.prog.varsNamed 21)=true:=k!
def agd:joinedFacts Zc 21 Tryz.f21 Rows.seamReadsSpec Rows.seamReadsRow=true:=
 kQ k! k! k! k! k! af7 adv aej agc k! k! k! k! k! k! k! k! k! rfl rfl rfl rfl rfl rfl k! k! k!
def afz (os:Os)(a:os.Started)(H:Type)(enc:Zs×Zf->H):ReturnsInLeavingWide {} Tryz.checked os 21 .any (λw args=>(Rows.seamReadsSpec.pre enc Zc Tryz.f21 [] false w args/\laidMetH Zc PT w)/\sizedMet enc Zc Tryz.f21 (ZbV Rows.seamReadsSpec) false w args)
   (Rows.seamReadsSpec.post enc Zc Tryz.f21 false true false false):=
 eO (s:=Rows.seamReadsSpec) a rfl rfl Tryz.func21 rfl rfl k! k! rfl k! (λg h=>by
    match g,h with
    | [_,_,_,_,_,_],_=>rfl)
   (ChangeSpec.witness_shaped (enc:=enc) (C:=Tryz.checked) (os:=os) (X:=λw _=>laidMetH Zc PT w) false (Vg os) #[.agg #[(),(),(),(),()],.string ⟨#[]⟩,.int .i64 0,.int .i64 0,.int .u8 0,()] 8 rfl (World.shaped_of_RefB k! k!) k! k! k! (Ub os _))
   (λW base args g t d j _ e=>afd rfl d j e λw r o n m l k c s p q b f h i e=>ajo h i e)
def ajx:Rows.SeamReadsSaid:=
 OpenClaim.holds_of_wide_leaving 21 Tryz.f21 rfl rfl rfl rfl rfl rfl rfl ⟨rfl,rfl,rfl,rfl,rfl⟩ rfl rfl rfl rfl rfl k! Tryz.func21 agd
  (of_decide_eq_true k!) (by unfold Func.isWrapper;rw[if_neg (by decide+kernel)];exact⟨rfl,rfl⟩) (λc a H b _=>afz c a H b)
def ahS:true=Rows.seamReadsRow.goesBy Tryz.pinned.checked.prog:=k!
theorem reads_holds:Rows.SeamReadsCardSaid:=
 kM [.handle] (true,"d58ada5a772cea19d6c1f322b38be8e13f90afce78f95e9e644b853f050ce369") ajx k! (OpenClaim.laidByTextAt_later rfl rfl qd abD) rfl ⟨rfl,rfl⟩ uI
  (λf fn c d=>by
   obtain rfl:f=21:=ZW ((show Tryz.prog.funcNamed "galloon/galloonlaw02.SeamReads" =some 21 by kernel_rfl).symm.trans c)|>.symm;obtain rfl:fn=Tryz.f21:=(ZW (Tryz.func21.symm.trans d)).symm;exact⟨abE,λj t a=>by
    have b:t∈ [26,9,3,3,5,22]:=by simpa using zY a
    have e:([26,9,3,3,5,22].all λu=> !Tryz.prog.wantsStandIn u)=true:=k!
    exact(show Tryz.prog.wantsStandIn t=false by simpa using Zdm.1 e t b)⟩)
  ahS
#print axioms reads_holds
end Go.Proofs.YtkkjobdfheidkaaGreatDoor
