/- Part of a proof. -/
import Derived.Test.YtkkjobdfheidkaaGreatDoorQ05
import Derived.BigQuiet
import Derived.Deep.LoopGhost
import Derived.WalkSmall
import Derived.StillTailTactics
import Derived.Deep.RegionHeld3
import Derived.Laws.CopyOwn
import Derived.Lib.SliceRun
set_option maxRecDepth 100000
set_option maxHeartbeats 6400000
noncomputable section
set_option linter.all false
def g! {p:Prop}(h:p:=by go_simp):p:=h
def u! {p:Prop}(h:p:=by unfold Go.maxLen;omega):p:=h
open And renaming intro->ZY
open Array renaming getElem?_modify->Y7,getElem?_eq_some_iff->Za,ext_getElem?->Zec,getElem?_append_left->zr,getElem?_append_right->Zan,getElem?_extract->Zd4,getElem?_eq_none->YR,setIfInBounds_comm->Zdb,replicate->Yu,getElem?_setIfInBounds_self_of_lt->ZV,getElem?_eq_getElem->Zx,getElem?_setIfInBounds_ne->Zk
open Bool renaming and_eq_true->ZF,or_eq_true->ZaK
open Classical renaming byContradiction->YQ
open Go renaming World->Zb,Value->Zf,below_drewN->Y5,TypeId->Zs,bodyPost_ret->ZN,results_cell_tmp->YB,Program->Zo,undef->Ze,loadVar->Zdd,info_parts->zp,wpList_append_own->Yc,FuncId->ZaQ,wpQuiet_nil->Z4,wpOp_mono->Zcc,YieldsIf->ZbF,ready_mono->ZbO,mem_ready->ZcY,getD_set_ne->Zde,wp_region_any->Zd5,Operand->Zbv,execOp->Zby
open Go.Act renaming put->Zck
open Go.Addr renaming add->Zcu
open Go.Calls renaming quiet_of_same->Zb5
open Go.Code renaming region->zU
open Go.Ending renaming returned->Zbx
open Go.IntKind renaming u8->ZcE,i64->I
open Go.IntWalk renaming i64_in->ZcD
open Go.Lib renaming hid->Zd,run_eql_slice_nil->ZaO
open Go.Oper renaming wp->ZbA,upon_enter->Zdj,upon_value->Zdi,upon_skip->ZcQ
open Go.Proofs.Tryz renaming underlying22->YE,underlying23->Zdg,underlying60->Zcz
open Go.Question renaming appendCap->zJ
open Go.Region renaming Mode->YO,ready->zs,binds->Yk,noSelect->YF,free->Za3,noSelect_spec->Zdx,wanted->Yf
open Go.Result renaming andThen->zu
open Go.RowKit renaming Below->YH
open Go.RowKit.Below renaming refl->Zh,heap_setCell->Y4,heap_alloc->zD
open Go.Sem renaming run_bind->zg
open Go.Value renaming int->ZL,slice->Zy,slice->U,int->J
open Go.World renaming block_lt_of_cell?->ZH,cell?->zy,cell?_alloc_lt->ZbG,size_alloc->ZB,frozen?->Yo,setCell->Z8,ownsRow_nil->zq,ownsRow_made->YC
open List renaming getElem?_eq_some_iff->Zm,drop_eq_getElem_cons->ZO,drop_eq_nil_iff->Z7,range->Yr,all_eq_true->Zdm,getElem?_map->YL,eq_nil_of_length_eq_zero->YM,getElem?_take_of_lt->Z2,filter_append->ZcW,length_filter_le->Zac,ext_getElem?->YA,getElem?_drop->Yl,getElem?_eq_getElem->zf,getElem?_eq_none->ZP,getElem_of_mem->Zas,mem_of_getElem?->Z3,nil_append->zP,mem_cons_self->zC,mem_cons_of_mem->zm,all_cons->Zbs,filterMap_cons->Z6,mem_singleton->Yh,filterMap_nil->zd,getElem?_toArray->ZG,getElem?_cons_succ->ZD,getElem?_cons_zero->ZC,getD_eq_getElem?_getD->Y6,range'->Zcq
open Nat renaming le_refl->Zj,zero_le->Zp,or_lt_two_pow->Zba,not_lt_zero->ZbY,lt_of_lt_of_le->Zl,le_trans->Zr,mul_le_mul_right->Zd8,add_assoc->ZbZ,div_lt_of_lt_mul->Zd9,mul_comm->ZcR,zero_add->zN,lt_or_ge->Zar,le_of_not_lt->Zdl,two_pow_pos->Zdz,pow_le_pow_right->YX
open Ne renaming symm->Za0
open Option.some renaming inj->ZW
namespace Go.Proofs.Fit
open Go
def n3:Tryz.f3.ntmps=148:=rfl
def n4:Tryz.f4.ntmps=178:=rfl
def n5:Tryz.f5.ntmps=127:=rfl
def n26:Tryz.f26.ntmps=119:=rfl
def n27:Tryz.f27.ntmps=6:=rfl
def n29:Tryz.f29.ntmps=14:=rfl
def n30:Tryz.f30.ntmps=32:=rfl
def n32:Tryz.f32.ntmps=6:=rfl
def n33:Tryz.f33.ntmps=37:=rfl
def n34:Tryz.f34.ntmps=65:=rfl
def n37:Tryz.f37.ntmps=27:=rfl
def n40:Tryz.f40.ntmps=6:=rfl
def n41:Tryz.f41.ntmps=96:=rfl
def n44:Tryz.f44.ntmps=75:=rfl
def n45:Tryz.f45.ntmps=27:=rfl
def n46:Tryz.f46.ntmps=26:=rfl
def n54:Tryz.f54.ntmps=70:=rfl
def n61:Tryz.f61.ntmps=14:=rfl
def n62:Tryz.f62.ntmps=30:=rfl
def n69:Tryz.f69.ntmps=54:=rfl
def n84:Tryz.f84.ntmps=29:=rfl
def n85:Tryz.f85.ntmps=16:=rfl
def n86:Tryz.f86.ntmps=13:=rfl
def n87:Tryz.f87.ntmps=67:=rfl
def n88:Tryz.f88.ntmps=51:=rfl
def n89:Tryz.f89.ntmps=41:=rfl
def n90:Tryz.f90.ntmps=32:=rfl
def n92:Tryz.f92.ntmps=35:=rfl
def n98:Tryz.f98.ntmps=13:=rfl
def n99:Tryz.f99.ntmps=10:=rfl
def ana:Tryz.f100.ntmps=12:=rfl
def ab5:Tryz.f101.ntmps=34:=rfl
def anb:Tryz.f102.ntmps=5:=rfl
def anc:Tryz.f103.ntmps=4:=rfl
def agQ:Tryz.f105.ntmps=114:=rfl
def uj:Tryz.f106.ntmps=8:=rfl
def ane:Tryz.f110.ntmps=84:=rfl
def anf:Tryz.f111.ntmps=86:=rfl
def ang:Tryz.f112.ntmps=21:=rfl
def anh:Tryz.f113.ntmps=47:=rfl
def ab6:Tryz.f119.ntmps=32:=rfl
def ani:Tryz.f120.ntmps=17:=rfl
def anj:Tryz.f122.ntmps=10:=rfl
def ank:Tryz.f123.ntmps=9:=rfl
def anl:Tryz.f126.ntmps=76:=rfl
def anm:Tryz.f134.ntmps=15:=rfl
def ann:Tryz.f136.ntmps=5:=rfl
def ano:Tryz.f139.ntmps=33:=rfl
def anp:Tryz.f143.ntmps=65:=rfl
def anq:Tryz.f144.ntmps=107:=rfl
def anr:Tryz.f145.ntmps=66:=rfl
def ans:Tryz.f150.ntmps=54:=rfl
def ant:Tryz.f151.ntmps=24:=rfl
def anu:Tryz.f152.ntmps=13:=rfl
def anv:Tryz.f153.ntmps=13:=rfl
def agR:Tryz.f154.ntmps=43:=rfl
def anw:Tryz.f161.ntmps=15:=rfl
def anx:Tryz.f162.ntmps=6:=rfl
def agS:Tryz.f166.ntmps=8:=rfl
def anz:Tryz.f167.ntmps=8:=rfl
def agT:Tryz.f168.ntmps=8:=rfl
end Go.Proofs.Fit
namespace Go.Proofs.Fit
open Go Go.RowKit
abbrev Bl (A B:Zb):Prop:=Qb6 A B
def DJ:maxLen=9223372036854775807:=rfl
def CE (S:Nat->Prop)(w w':Zb):Prop:=∀b,S b->b<w.heap.size->w'.heap[b]?=w.heap[b]?
variable {S T:Nat->Prop}
variable {w w' W:Zb}
variable {v v1 v2 v3 v4 v5 v6 x1 x2 x3 x4 x5 v7 u1 u2 u5:Zf}
def CE.cell (h:CE S w w'){p:Addr}(b:S p.block)(a:w.cell? p=some v):w'.cell? p=some v:=by
 have:=h p.block b (ZH w _ a);unfold zy at*;rw[this];exact a
def CE.Ec (h:Bl w w'):CE S w w':=λb _ a=>h.block b a
def CE.refl (S:Nat->Prop)(w:Zb):CE S w w:=λ_ _ _=>rfl
def Sl {e:Type}(S:Nat->Prop)(R:Zb->List Zf->e->Prop)(k:Nat)(w:Zb)(v:Zf)(l:List e):Prop:=
 ∃a c,v=.slice a l.length c/\l.length<=c/\c<=maxLen/\∀i x,l[i]?=some x->∃b o d,a=some ⟨b,o,none⟩/\S b/\d.length=k/\(∀j u,d[j]?=some u->w.cell? ⟨b,o+i*k+j,none⟩=some u)/\R w d x
section
variable {α:Type}{S T:Nat->Prop}{R R':Zb->List Zf->α->Prop}{k:Nat}{w w':Zb}{v:Zf}{l:List α}
def Sl.imp (h:Sl S R k w v l)(e:∀b,S b->T b)(f:∀cs x,R w cs x->R' w cs x):Sl T R' k w v l:=by
 obtain⟨a,c,n,m,j,g⟩:=h;refine⟨a,c,n,m,j,λi x d=>?_⟩;obtain⟨b,o,cs,t,s,r,q,p⟩:=g i x d;exact⟨b,o,cs,t,e b s,r,q,f _ _ p⟩
def Sl.Ar (h:Sl S R k w v l)(f:CE S w w')(m:∀cs x,R w cs x->R w' cs x):Sl S R k w' v l:=by
 obtain⟨a,c,s,r,q,n⟩:=h;refine⟨a,c,s,r,q,λi x e=>?_⟩;obtain⟨b,o,cs,A,d,z,y,t⟩:=n i x e;exact⟨b,o,cs,A,d,z,λj u g=>f.cell (p:=⟨b,o+i*k+j,none⟩) d (y j u g),m _ _ t⟩
def Sl.val (h:Sl S R k w v l):∃a c,v=.slice a l.length c/\l.length<=c/\c<=maxLen:=by
 obtain⟨a,c,e,d,b,_⟩:=h;exact⟨a,c,e,d,b⟩
end
def Ri (_:Zb)(cs:List Zf)(x:Int):Prop:=cs=[J I x]
def Rp (_:Zb)(cs:List Zf)(x:Int×Int):Prop:=cs=[J I x.1,J I x.2]
abbrev SI (S:Nat->Prop):=Sl S Ri 1
abbrev SP (S:Nat->Prop):=Sl S Rp 2
variable {l L:List Int}
def SI.Ar (h:SI S w v l)(a:CE S w w'):SI S w' v l:=Sl.Ar h a λ_ _ h=>h
def SP.Ar {l:List (Int×Int)}(h:SP S w v l)(a:CE S w w'):SP S w' v l:=Sl.Ar h a λ_ _ h=>h
def nth (l:List Int)(i:Nat):Int:=l.getD i 0
def BV (l:List (Int×Int))(i:Nat):Int×Int:=l.getD i (0,0)
variable {i s k n b t j q d cap b7:Nat}
def Bn (h:i<l.length):l[i]?=some (nth l i):=by simp[nth,h]
def EE {l:List (Int×Int)}(h:i<l.length):l[i]?=some (BV l i):=by simp[BV,h]
def SI.at_ {a:Option Addr}{c:Nat}(h:SI S w (U a l.length c) l)(hi:i<l.length):∃b o,a=some ⟨b,o,none⟩/\S b/\w.cell? ⟨b,o+i,none⟩=some (J I (nth l i)):=by
 obtain⟨q,p,e,_,_,d⟩:=h;cases e;obtain⟨b,o,n,k,j,m,g,f⟩:=d i _ (Bn hi);subst f;exact⟨b,o,k,j,by simpa using g 0 _ rfl⟩
def SP.at_ {a:Option Addr}{c:Nat}{l:List (Int×Int)}(h:SP S w (U a l.length c) l)(hi:i<l.length):
  ∃b o,a=some ⟨b,o,none⟩/\S b/\w.cell? ⟨b,o+i*2,none⟩=some (J I (BV l i).1)/\w.cell? ⟨b,o+i*2+1,none⟩=some (J I (BV l i).2):=by
 obtain⟨q,p,g,_,_,f⟩:=h;cases g;obtain⟨b,o,n,k,j,m,e,d⟩:=f i _ (EE hi);unfold Rp at d;subst d;exact⟨b,o,k,j,by simpa using e 0 _ rfl,by simpa using e 1 _ rfl⟩
def AD (n lo hi:Int):Bool:=decide (n<lo)||decide (hi<n)
def Di (n a:Int):Int:=if n=0 then 7 else if a<n then 6 else 0
def CV (p:Int×Int)(lo hi:Int):Int:=if AD p.1 lo hi=true\/AD p.2 lo hi=true then 1 else if p.2<p.1 then 5 else 0
def Iu (n:Int)(p:Int×Int):Bool:=decide (p.1<=n)&&decide (n<=p.2)
def bp (n lo hi:Int)(w:Zb):Calls Lp 134 #[J I n,J I lo,J I hi] w λe w'=>e=.returned (.bool (AD n lo hi))/\w'=w:=by
 go_enter Lp.func134,anm;go_wp2
 all_goals go_ret
 .exact⟨rfl,rfl⟩
 exact⟨by simp[AD, *],rfl⟩
def uk (n a:Int)(w:Zb):Calls Lp 100 #[J I n,J I a] w λe w'=>e=.returned (J I (Di n a))/\w'=w:=by
 go_enter Lp.func100,ana;go_wp2
 all_goals go_ret
 all_goals simp_all[Di]
def agU (n a b:Int)(w:Zb):Calls Lp 161 #[J I n,.agg #[J I a,J I b]] w λe w'=>e=.returned (.bool (Iu n (a,b)))/\Bl w w':=by
 go_enter Lp.func161,anw;go_wp2
 all_goals go_ret
 all_goals refine⟨?_,(Zh _ _).alloc (Zj _) _⟩
 all_goals simp[Iu, *]
 all_goals omega
def ab7 (a b:Int)(lo hi:Int)(w:Zb):Calls Lp 151 #[.agg #[J I a,J I b],J I lo,J I hi] w λe w'=>e=.returned (J I (CV (a,b) lo hi))/\Bl w w':=by
 go_enter Lp.func151,ant;go_wp2_with (go_at_call 134;refine(bp _ _ _ _).mono ?_;rintro e w' ⟨rfl,rfl⟩)
 all_goals go_ret
 all_goals refine⟨?_,(Zh _ _).alloc (Zj _) _⟩
 all_goals simp_all[CV]
 all_goals omega
structure Ay where
 low:Int
 high:Int
 Ap:List (Int×Int)
 over:List Int
 left:Int
structure A_ where
 base:List Int
 Af:List (Int×Int)
 hooks:List Int
 Aa:List Ay
 now:List Int
def Rs (S:Nat->Prop)(w:Zb)(cs:List Zf)(s:Ay):Prop:=∃v2 v3,cs=[J I s.low,J I s.high,v2,v3,J I s.left]/\SP S w v2 s.Ap/\SI S w v3 s.over
abbrev SS (S:Nat->Prop):=Sl S (Rs S) 5
structure RC (S:Nat->Prop)(w:Zb)(v1 v2 v3 v4 v5:Zf)(c:A_):Prop where
 base:SI S w v1 c.base
 Af:SP S w v2 c.Af
 hooks:SI S w v3 c.hooks
 Aa:SS S w v4 c.Aa
 now:SI S w v5 c.now
def RC.vs {S:Nat->Prop}{w:Zb}{v1 v2 v3 v4 v5:Zf}{c:A_}(h:RC S w v1 v2 v3 v4 v5 c):∃l f k e j d i b g a,v1=.slice l c.base.length f/\v2=.slice k c.Af.length e/\v3=.slice j c.hooks.length d/\v4=.slice i c.Aa.length b/\v5=.slice g c.now.length a/\c.base.length<=f/\f<=maxLen/\c.Af.length<=e/\e<=maxLen/\c.hooks.length<=d/\d<=maxLen/\c.Aa.length<=b/\b<=maxLen/\c.now.length<=a/\a<=maxLen:=by
 obtain⟨l,f,B,v,q⟩:=h.base.val;obtain⟨k,e,A,u,p⟩:=h.Af.val;obtain⟨j,d,z,t,o⟩:=h.hooks.val;obtain⟨i,b,y,s,n⟩:=h.Aa.val;obtain⟨g,a,x,r,m⟩:=h.now.val;exact⟨l,f,k,e,j,d,i,b,g,a,B,A,z,y,x,v,q,u,p,t,o,s,n,r,m⟩
def Rs.Ar {cs:List Zf}{s:Ay}(h:Rs S w cs s)(a:CE S w w'):Rs S w' cs s:=by
 obtain⟨v2,v3,d,c,b⟩:=h;exact⟨v2,v3,d,c.Ar a,b.Ar a⟩
def SS.Ar {l:List Ay}(h:SS S w v l)(a:CE S w w'):SS S w' v l:=Sl.Ar h a λ_ _ h=>h.Ar a
variable {c:A_}
def RC.Ar (h:RC S w v1 v2 v3 v4 v5 c)(a:CE S w w'):RC S w' v1 v2 v3 v4 v5 c:=
 ⟨h.base.Ar a,h.Af.Ar a,h.hooks.Ar a,h.Aa.Ar a,h.now.Ar a⟩
section
variable {α:Type}
def Bc (f:α->Int):List α->Int
 | []=>0
 |x::r=>if f x=0 then Bc f r else f x
def E_ {f:α->Int}{l:List α}{x:α}(h:l[k]?=some x):Bc f (l.drop k)=if f x=0 then Bc f (l.drop (k+1)) else f x:=by
 obtain⟨a,rfl⟩:=Zm.1 h;rw[ZO a]
 rfl
def FZ {f:α->Int}{l:List α}(h:l.length<=k):Bc f (l.drop k)=0:=by
 rw[Z7.2 h];rfl
end
def Fo (lo hi:Int)(n:Int):Int:=if AD n lo hi=true then 1 else 0
variable {lo hi hook:Int}
def Ws {n:Int}(h:AD n lo hi=true):Fo lo hi n=1:=if_pos h
def SK {n:Int}(h:AD n lo hi=false):Fo lo hi n=0:=if_neg (by rw[h];decide)
def PM (a b:Int):Int:=if a=0 then b else a
def BR {a b:Int}(h:a=0):PM a b=b:=if_pos h
def K4 {a b:Int}(h:a≠0):PM a b=a:=if_neg h
def Bw {a b:Int}(h:a=b):Zbx (J I a)=.returned (J I b):=by rw[h]
def U2 {a:Nat}(h:((a:Int) !=b)=false):a=b:=by simp at h;omega
def xp {a:Nat}(h:((a:Int) !=b)=true):a≠b:=by simp at h;omega
def FE {a:Int}(h:(a !=0)=false):a=0:=by simpa using h
def Gr {a:Int}(h:(a !=0)=true):a≠0:=by simpa using h
def Dq (c:A_):Int:=
 PM (Di c.base.length 3) (PM (Bc (Fo 1 60) c.base) (if c.Af.length≠c.base.length then 9 else PM (Bc (λp=>CV p (-9) 9) c.Af) (if c.hooks.length≠c.base.length then 9 else Bc (Fo 0 5) c.hooks)))
abbrev Qe6 (c:A_)(k:Option Addr)(f:Nat)(j:Option Addr)(e:Nat)(i:Option Addr)(d:Nat)(h:Option Addr)(b:Nat)(g:Option Addr)(a:Nat):Array Zf:= #[.slice k c.base.length f,.slice j c.Af.length e,.slice i c.hooks.length d,.slice h c.Aa.length b,.slice g c.now.length a]
def anA (h:RC S w v1 v2 v3 v4 v5 c)(A:Ql6 S w):Calls Lp 143 #[.agg #[v1,v2,v3,v4,v5]] w λe w'=>e=.returned (J I (Dq c))/\Bl w w':=by
 obtain⟨N,H,Y,V,M,G,X,T,W,R,rfl,rfl,rfl,rfl,rfl,l1,m1,l2,m2,l3,m3,l4,m4,l5,m5⟩:=h.vs;have IX:=DJ;have s:Bl w (w.alloc (.cells (Qe6 c N H Y V M G X T W R) 26)):=(Zh _ _).alloc (Zj _) _;go_enter Lp.func143,anp;go_wp2_with (go_at_call 100;refine(uk _ _ _).mono ?_;rintro e w' ⟨rfl,rfl⟩)
 .have z:(Di c.base.length 3 !=0)=true:=by assumption
  go_ret;exact⟨Bw (by rw[Dq,K4 (Gr z)]),s⟩
 rename (Di _ _ !=0)=false=>z
 have r:=Zd z;clear z;go_loopg [21] c.base.length (λg i wr=>∃k:Nat,k<=c.base.length/\g=c.base.length - k/\i=.int I k/\Bc (Fo 1 60) (c.base.drop k)=Bc (Fo 1 60) c.base/\wr=(w.alloc (.cells (Qe6 c N H Y V M G X T W R) 26)))
 case atStart=>exact⟨0,Zp _,rfl,rfl,rfl,rfl⟩
 obtain⟨k,Q,rfl,rfl,l,rfl⟩:=hrel;have a:=Zd l;clear l;by_cases m:k<c.base.length
 .obtain⟨b,o,rfl,q,E⟩:=h.base.at_ m
  have OJ:=s.cell (p:=⟨b,o+k,none⟩) (A b q);rw[E]at OJ;have j:=Zd (E_ (f:=Fo 1 60) (Bn m));go_wp2_with (go_at_call 134;refine(bp _ _ _ _).mono ?_;rintro e w' ⟨rfl,rfl⟩)
  .have n:AD (nth c.base k) 1 60=true:=by assumption
   go_ret;have F:Bc (Fo 1 60) c.base=1:=by rw[<-a.out,j.out,Ws n];rfl
   exact⟨Bw (by rw[Dq,BR (FE r.out),F];rfl),s⟩
  have n:AD (nth c.base k) 1 60=false:=a!
  go_roundg (c.base.length - (k+1))
  case rel=>exact⟨k+1,o!,rfl,v!,by rw[<-a.out,j.out,SK n];rfl,rfl⟩
  omega
 have t:=Zd (show Bc (Fo 1 60) c.base=0 by rw[<-a.out];exact FZ o!);clear a;go_wp2
 .have y:((c.Af.length:Int) !=c.base.length)=true:=by assumption
  go_ret;exact⟨Bw (by rw[Dq,BR (FE r.out),BR t.out,if_pos (xp y)]),s⟩
 rename (_ !=_)=false=>y
 have B:=Zd y;clear y;go_loopg [38] c.Af.length (λg i wr=>∃k:Nat,k<=c.Af.length/\g=c.Af.length - k/\i=.int I k/\Bc (λp=>CV p (-9) 9) (c.Af.drop k)=Bc (λp=>CV p (-9) 9) c.Af/\Bl w wr/\wr.cell? w=some (U N c.base.length H)/\wr.cell? ⟨w,2,none⟩=some (U M c.hooks.length G))
 case atStart=>exact⟨0,Zp _,rfl,rfl,rfl,s,i!,i!⟩
 obtain⟨k,Q,rfl,rfl,l,d,Z,NP⟩:=hrel;have a:=Zd l;clear l;by_cases m:k<c.Af.length
 .obtain⟨b,o,rfl,q,D,lY⟩:=h.Af.at_ m
  rw[<-d.cell (p:=⟨b,o+k*2,none⟩) (A b q)]at D;rw[<-d.cell (p:=⟨b,o+k*2+1,none⟩) (A b q)]at lY;have j:=Zd (E_ (f:=λp=>CV p (-9) 9) (EE m));go_wp2_with (go_at_call 151;refine(ab7 _ _ _ _ _).mono ?_;rintro e w' ⟨rfl,C⟩)
  .have v:(CV (BV c.Af k) (-9) 9 !=0)=true:=by assumption
   go_ret;have e4:Bc (λp=>CV p (-9) 9) c.Af=CV (BV c.Af k) (-9) 9:=by rw[<-a.out,j.out,if_neg (Gr v)]
   exact⟨Bw (by rw[Dq,BR (FE r.out),BR t.out,if_neg (λx=>x (U2 B.out)),e4,K4 (Gr v)]),(d.alloc d.size _).trans (C.mono (by simp;have:=d.size;omega))⟩
  have v:(CV (BV c.Af k) (-9) 9 !=0)=false:=a!
  have De:Bl w w':=(d.alloc d.size _).trans (C.mono (by simp;have:=d.size;omega));have P:w<wr.heap.size:=ZH wr _ Z;have L:=(C.cell (p:=w) j!).trans ((ZbG _ _ _ P).trans Z);have K:=(C.cell (p:=⟨w,2,none⟩) j!).trans ((ZbG _ _ _ P).trans NP);go_roundg (c.Af.length - (k+1))
  case rel=>exact⟨k+1,o!,rfl,v!,by rw[<-a.out,j.out,if_pos (FE v)],De,L,K⟩
  omega
 have O:=Zd (show Bc (λp=>CV p (-9) 9) c.Af=0 by rw[<-a.out];exact FZ o!);clear a;go_wp2
 .have u:((c.hooks.length:Int) !=c.base.length)=true:=by assumption
  go_ret;exact⟨Bw (by rw[Dq,BR (FE r.out),BR t.out,if_neg (λx=>x (U2 B.out)),BR O.out,if_pos (xp u)]),d⟩
 rename (_ !=_)=false=>u
 have Q5:=Zd u;clear u;go_loopg [58] c.hooks.length (λg i wx=>∃k:Nat,k<=c.hooks.length/\g=c.hooks.length - k/\i=.int I k/\Bc (Fo 0 5) (c.hooks.drop k)=Bc (Fo 0 5) c.hooks/\wx=wr)
 case atStart=>exact⟨0,Zp _,rfl,rfl,rfl,rfl⟩
 obtain⟨k,Q,rfl,rfl,l,rfl⟩:=hrel;have a:=Zd l;clear l;by_cases m:k<c.hooks.length
 .obtain⟨b,o,rfl,q,E⟩:=h.hooks.at_ m
  rw[<-d.cell (p:=⟨b,o+k,none⟩) (A b q)]at E;have j:=Zd (E_ (f:=Fo 0 5) (Bn m));go_wp2_with (go_at_call 134;refine(bp _ _ _ _).mono ?_;rintro e w' ⟨rfl,rfl⟩)
  .have n:AD (nth c.hooks k) 0 5=true:=by assumption
   go_ret;have F:Bc (Fo 0 5) c.hooks=1:=by rw[<-a.out,j.out,Ws n];rfl
   exact⟨Bw (by rw[Dq,BR (FE r.out),BR t.out,if_neg (λx=>x (U2 B.out)),BR O.out,if_neg (λx=>x (U2 Q5.out)),F]),d⟩
  have n:AD (nth c.hooks k) 0 5=false:=a!
  go_roundg (c.hooks.length - (k+1))
  case rel=>exact⟨k+1,o!,rfl,v!,by rw[<-a.out,j.out,SK n];rfl,rfl⟩
  omega
 have Q6:=Zd (show Bc (Fo 0 5) c.hooks=0 by rw[<-a.out];exact FZ o!);clear a;go_wp2;go_ret;exact⟨Bw (by rw[Dq,BR (FE r.out),BR t.out,if_neg (λx=>x (U2 B.out)),BR O.out,if_neg (λx=>x (U2 Q5.out)),Q6.out]),d⟩
def pD:Ay:=⟨0,0,[],[],0⟩
def Aj (l:List Ay)(i:Nat):Ay:=l.getD i pD
def Db {l:List Ay}(h:i<l.length):l[i]?=some (Aj l i):=by simp[Aj,h]
def SS.at_ {a:Option Addr}{c:Nat}{l:List Ay}(h:SS S w (U a n c) l)(hi:i<l.length):
  ∃b o v2 v3,a=some ⟨b,o,none⟩/\S b/\w.cell? ⟨b,o+i*5,none⟩=some (J I (Aj l i).low)/\w.cell? ⟨b,o+i*5+1,none⟩=some (J I (Aj l i).high)/\
   w.cell? ⟨b,o+i*5+2,none⟩=some v2/\w.cell? ⟨b,o+i*5+3,none⟩=some v3/\w.cell? ⟨b,o+i*5+4,none⟩=some (J I (Aj l i).left)/\SP S w v2 (Aj l i).Ap/\SI S w v3 (Aj l i).over:=by
 obtain⟨s,r,f,_,_,e⟩:=h;cases f;obtain⟨b,o,q,m,k,p,d,v2,v3,rfl,j,g⟩:=e i _ (Db hi);exact⟨b,o,v2,v3,m,k,by simpa using d 0 _ rfl,d 1 _ rfl,d 2 _ rfl,d 3 _ rfl,d 4 _ rfl,j,g⟩
def Ct (c:A_)(l:List Int):Int:=if l.length<c.Aa.length then 7 else if c.Aa.length<l.length then 6 else Bc (λp:Int×Ay=>Fo p.2.low p.2.high p.1) (l.zip c.Aa)
def Ra {m:List Ay}(b:k<l.length)(a:k<m.length):(l.zip m)[k]?=some (nth l k,Aj m k):=by
 rw[List.getElem?_zip_eq_some];exact⟨Bn b,Db a⟩
def c89 (h:RC S w v1 v2 v3 v4 v5 c)(hl:SI S w v6 l)(r:Ql6 S w):Calls Lp 89 #[.agg #[v1,v2,v3,v4,v5],v6] w λe w'=>e=.returned (J I (Ct c l))/\Bl w w':=by
 obtain⟨T,O,R,N,Q,M,z,y,P,L,rfl,rfl,rfl,rfl,rfl,l1,m1,l2,m2,l3,m3,l4,m4,l5,m5⟩:=h.vs;obtain⟨a6,c6,rfl,l6,m6⟩:=hl.val;have IX:=DJ;have s:Bl w (w.alloc (.cells (Qe6 c T O R N Q M z y P L) 26)):=(Zh _ _).alloc (Zj _) _;by_cases t:l.length<c.Aa.length
 .go_enter Lp.func89,n89
  go_wp2;go_ret;exact⟨Bw (by rw[Ct,if_pos t]),s⟩
 by_cases A:c.Aa.length<l.length
 .go_enter Lp.func89,n89
  go_wp2;go_ret;exact⟨Bw (by rw[Ct,if_neg t,if_pos A]),s⟩
 have a:l.length=c.Aa.length:=o!
 have x:Ct c l=Bc (λp:Int×Ay=>Fo p.2.low p.2.high p.1) (l.zip c.Aa):=by rw[Ct,if_neg t,if_neg A]
 have j:(l.zip c.Aa).length=l.length:=by simp[a]
 have B:=Zd x;have Y:=Zd j;have Z:=Zd a;clear x j a;go_enter Lp.func89,n89;go_wp2;go_loopg [21] l.length (λg i wr=>∃k:Nat,k<=l.length/\g=l.length - k/\i=.int I k/\Bc (λp:Int×Ay=>Fo p.2.low p.2.high p.1) ((l.zip c.Aa).drop k)=Bc (λp:Int×Ay=>Fo p.2.low p.2.high p.1) (l.zip c.Aa)/\Bl w wr/\wr.cell? ⟨w,3,none⟩=some (U z c.Aa.length y))
 case atStart=>exact⟨0,Zp _,rfl,rfl,rfl,s,i!⟩
 obtain⟨k,hk,rfl,rfl,E,d,G⟩:=hrel;have m:=Zd E;clear E;by_cases F:k<l.length
 .have C:k<c.Aa.length:=by have:=Z.out;omega
  obtain⟨b,o,rfl,K,H⟩:=hl.at_ F;obtain⟨n,u,s2,s3,rfl,D,W,X,_⟩:=h.Aa.at_ C;rw[<-d.cell (p:=⟨b,o+k,none⟩) (r b K)]at H;rw[<-d.cell (p:=⟨n,u+k*5,none⟩) (r n D)]at W;rw[<-d.cell (p:=⟨n,u+k*5+1,none⟩) (r n D)]at X;have v:=Zd (E_ (f:=λp:Int×Ay=>Fo p.2.low p.2.high p.1) (Ra F C));go_wp2;go_quiet (first|(go_at_call 134;refine Zb5 (bp _ _ _ _)))
  all_goals go_wp2
  .have q:AD (nth l k) (Aj c.Aa k).low (Aj c.Aa k).high=true:=by assumption
   go_ret;exact⟨Bw (by rw[B.out, <-m.out,v.out,Ws q];rfl),Y5 d _⟩
  have q:AD (nth l k) (Aj c.Aa k).low (Aj c.Aa k).high=false:=a!
  go_roundg (l.length - (k+1))
  case rel=>exact⟨k+1,o!,rfl,v!,by rw[<-m.out,v.out,SK q];rfl,Y5 d _,by simpa using G⟩
  omega
 have V:=Zd (show Ct c l=0 by rw[B.out, <-m.out];exact FZ (by have:=Y.out;omega));clear m;go_wp2;go_ret;exact⟨Bw V.out.symm,d⟩
def hasB (s i:Nat):Bool:=s.testBit i
def Iv (s i:Nat):Nat:=s|||(1<<<i)
def ab8 (s i:Nat)(c:s<8)(hi:i<3)(w:Zb):Calls Lp 122 #[J .u8 s,J I i] w λe w'=>e=.returned (.bool (hasB s i))/\w'=w:=by
 have b:s=0\/s=1\/s=2\/s=3\/s=4\/s=5\/s=6\/s=7:=o!
 have a:i=0\/i=1\/i=2:=o!
 rcases b with rfl|rfl|rfl|rfl|rfl|rfl|rfl|rfl<;>rcases a with rfl|rfl|rfl
 all_goals
  go_enter Lp.func122,anj;go_wp2;go_ret;exact⟨rfl,rfl⟩
def ab9 (s i:Nat)(c:s<8)(hi:i<3)(w:Zb):Calls Lp 123 #[J .u8 s,J I i] w λe w'=>e=.returned (J .u8 (Iv s i))/\w'=w:=by
 have b:s=0\/s=1\/s=2\/s=3\/s=4\/s=5\/s=6\/s=7:=o!
 have a:i=0\/i=1\/i=2:=o!
 rcases b with rfl|rfl|rfl|rfl|rfl|rfl|rfl|rfl<;>rcases a with rfl|rfl|rfl
 all_goals
  go_enter Lp.func123,ank;go_wp2;go_ret;exact⟨rfl,rfl⟩
section
variable {α:Type}
def CY (f:Nat->α->Int):Nat->List α->Int
 |_,[]=>0
 |i,x::r=>if f i x=0 then CY f (i+1) r else f i x
def K5 {f:Nat->α->Int}{l:List α}{x:α}(h:l[k]?=some x):CY f k (l.drop k)=if f k x=0 then CY f (k+1) (l.drop (k+1)) else f k x:=by
 obtain⟨a,rfl⟩:=Zm.1 h;rw[ZO a]
 rfl
def MN {f:Nat->α->Int}{l:List α}(h:l.length<=k):CY f i (l.drop k)=0:=by
 rw[Z7.2 h];rfl
end
def Fa (Fp:Nat)(l:List (Int×Int))(i:Nat)(p:Int×Int):Int:=
 if AD p.1 0 ((Fp:Int) - 1)=true then 3 else if p.2=0\/AD p.2 (-4) 4=true then 1 else if 0<i/\p.1=(BV l 0).1 then 4 else 0
def Ed (Aa:Nat)(number:Nat)(l:List Int)(i:Nat)(o:Int):Int:=
 if AD o 0 ((Aa:Int) - 1)=true\/o=number then 3 else if 0<i/\o<=nth l (i - 1) then 5 else 0
def EF (c:A_)(n:Nat):Int:=
 PM (CV ((Aj c.Aa n).low,(Aj c.Aa n).high) (-2) 2) (PM (Di (Aj c.Aa n).Ap.length 2) (PM (CY (Fa c.base.length (Aj c.Aa n).Ap) 0 (Aj c.Aa n).Ap)
  (PM (CY (Ed c.Aa.length n (Aj c.Aa n).over) 0 (Aj c.Aa n).over) (Fo 0 4 (Aj c.Aa n).left))))
def ca {p:Addr}(h:w.cell? p=some v)(o:Obj):(w.alloc o).cell? p=some v:=(ZbG _ _ _ (ZH w _ h)).trans h
def cn (w:Zb)(xs:Array Zf)(t:Zs)(h:xs[i]?=some v):(w.alloc (.cells xs t)).cell? ⟨w,i,none⟩=some v:=(World.cell?_alloc_at _ _ _ _ rfl).trans h
variable {cs xs args cur g:Array Zf}
def kp {a:Array Zf}{s t:Zs}(h:YH ((w.alloc (.cells xs s)).alloc (.cells a t)).heap.size ((w.alloc (.cells xs s)).alloc (.cells a t)) w'):
  Bl w w'/\(∀i v,xs[i]?=some v->w'.cell? ⟨w,i,none⟩=some v)/\(∀i v,a[i]?=some v->w'.cell? ⟨w+1,i,none⟩=some v):=by
 refine⟨(((Zh _ _).alloc (Zj _) _).alloc i! _).trans (h.mono j!),λi v b=>?_,λi v b=>?_⟩
 .rw[h.cell (p:=⟨w,i,none⟩) j!]
  exact ca (cn w xs s b) _
 rw[h.cell (p:=⟨w+1,i,none⟩) i!];have:=cn (w.alloc (.cells xs s)) a t b;rwa[ZB]at this
def Qnm {b:Type}(a:b):∃x,x=a:=⟨a,rfl⟩
def anF (h:RC S w v1 v2 v3 v4 v5 c)(hn:n<c.Aa.length)(E:Ql6 S w):Calls Lp 144 #[.agg #[v1,v2,v3,v4,v5],J I n] w λe w'=>e=.returned (J I (EF c n))/\Bl w w':=by
 obtain⟨a1,c1,a2,c2,a3,c3,a4,c4,a5,c5,rfl,rfl,rfl,rfl,rfl,l1,m1,l2,m2,l3,m3,l4,m4,l5,m5⟩:=h.vs;have IX:=DJ;obtain⟨b,o,s2,s3,rfl,hb,ER,MM,LO,et,mi,Z,ho⟩:=h.Aa.at_ hn;obtain⟨a6,c6,rfl,l6,m6⟩:=Z.val;obtain⟨a7,c7,rfl,l7,m7⟩:=ho.val;have ig:=E b hb;obtain⟨s,hs⟩:=Qnm (Aj c.Aa n);have O:EF c n=PM (CV (s.low,s.high) (-2) 2) (PM (Di s.Ap.length 2) (PM (CY (Fa c.base.length s.Ap) 0 s.Ap) (PM (CY (Ed c.Aa.length n s.over) 0 s.over) (Fo 0 4 s.left)))):=by rw[EF,hs]
 have HE:=Zd O;rw[<-hs]at ER MM LO et mi Z ho l6 l7;clear hs O;obtain⟨R,pE,a,j,K⟩:=s;dsimp only at*;go_enter Lp.func144,anq;go_wp2_with (first|(go_at_call 100;refine(uk _ _ _).mono ?_;rintro e w' ⟨rfl,rfl⟩)|(go_at_call 151;refine(ab7 _ _ _ _ _).mono ?_;rintro e w' ⟨rfl,Bv⟩;obtain⟨De,l,hg⟩:=kp Bv;have f0:=l 0 (U a1 c.base.length c1) rfl;have f3:=l 3 (U (some ⟨b,o,none⟩) c.Aa.length c4) rfl;have g2:=hg 2 (U a6 a.length c6) rfl;have g3:=hg 3 (U a7 j.length c7) rfl;have g4:=hg 4 (J I K) rfl;clear l hg Bv))
 .have B:(CV (R,pE) (-2) 2 !=0)=true:=by assumption
  go_ret;exact⟨Bw (by rw[HE.out,K4 (Gr B)]),De⟩
 .have B:(CV (R,pE) (-2) 2 !=0)=false:=by assumption
  have N:(Di a.length 2 !=0)=true:=a!
  go_ret;exact⟨Bw (by rw[HE.out,BR (FE B),K4 (Gr N)]),De⟩
 rename (CV _ _ _ !=0)=false=>B
 rename (Di _ _ !=0)=false=>N
 have G:=Zd (show EF c n=PM (CY (Fa c.base.length a) 0 a) (PM (CY (Ed c.Aa.length n j) 0 j) (Fo 0 4 K)) by rw[HE.out,BR (FE B),BR (FE N)]);have Q1:=Zd B;have Q2:=Zd N;clear B N HE ER MM LO et mi;have D':=ZH w' _ g4;have Sb:w+1<w'.heap.size:=D';clear D';go_loopg [36] a.length (λg i wr=>∃k:Nat,k<=a.length/\g=a.length - k/\i=.int I k/\CY (Fa c.base.length a) k (a.drop k)=CY (Fa c.base.length a) 0 a/\Bl w wr/\Bl w' wr)
 case atStart=>exact⟨0,Zp _,rfl,rfl,rfl,De,Zh _ _⟩
 obtain⟨k,hk,rfl,rfl,V,q,z⟩:=hrel;have l:=Zd V;clear V;rw[<-z.cell (p:=w) j!]at f0;rw[<-z.cell (p:=⟨w,3,none⟩) j!]at f3;rw[<-z.cell (p:=⟨w+1,2,none⟩) j!]at g2;rw[<-z.cell (p:=⟨w+1,3,none⟩) j!]at g3;rw[<-z.cell (p:=⟨w+1,4,none⟩) j!]at g4;by_cases W:k<a.length
 .obtain⟨A,o6,rfl,Xj,M,NP⟩:=Z.at_ W
  obtain⟨ap,am,e,_,L,_⟩:=Z.at_ (i:=0) o!;cases e;rw[<-q.cell (p:=⟨A,o6+k*2,none⟩) (E A Xj)]at M;rw[<-q.cell (p:=⟨A,o6+k*2+1,none⟩) (E A Xj)]at NP;rw[<-q.cell (p:=⟨A,o6+0*2,none⟩) (E A Xj)]at L;have t:=Zd (K5 (f:=Fa c.base.length a) (EE W));have rM:=q.size;have D:=z.size;have Fl:w<wr.heap.size:=o!
  have DR:w+1<wr.heap.size:=o!
  have EB:A<wr:=by have:=E A Xj;omega
  obtain⟨x,C⟩:=Qnm (BV a k);rw[<-C]at M NP t;have HX:=Zd C;clear C;obtain⟨r,u⟩:=x;dsimp only at M NP;go_wp2_with (go_at_call 134;refine(bp _ _ _ _).mono ?_;rintro e w' ⟨rfl,rfl⟩)
  .have d:AD r 0 ((c.base.length:Int) - 1)=true:=by assumption
   have m:Fa c.base.length a k (r,u)=3:=by unfold Fa;rw[if_pos d]
   go_ret;exact⟨Bw (by rw[G.out, <-l.out,t.out,m];rfl),q.alloc o! _⟩
  .have d:AD r 0 ((c.base.length:Int) - 1)=false:=by assumption
   have v:u=0:=a!
   have m:Fa c.base.length a k (r,u)=1:=by unfold Fa;rw[if_neg (by rw[d];decide),if_pos (.inl v)]
   go_ret;exact⟨Bw (by rw[G.out, <-l.out,t.out,m];rfl),q.alloc o! _⟩
  .have d:AD r 0 ((c.base.length:Int) - 1)=false:=by assumption
   have v:(u==0)=true\/AD u (-4) 4=true:=a!
   have m:Fa c.base.length a k (r,u)=1:=by unfold Fa;rw[if_neg (by rw[d];decide),if_pos (by simpa using v)]
   go_ret;exact⟨Bw (by rw[G.out, <-l.out,t.out,m];rfl),q.alloc o! _⟩
  rename AD r 0 _=false=>d
  rename ((u==0)=false/\_)=>v
  have m:Fa c.base.length a k (r,u)=if 0<k/\r=(BV a 0).1 then 4 else 0:=by unfold Fa;rw[if_neg (by rw[d];decide),if_neg (by simpa using v)]
  have E3:=Zd m;have Q3:=Zd d;have Q4:=Zd v;clear m d v
  rename¬u=0=>Y
  clear Y;rw[Nat.zero_mul,Nat.add_zero]at L;have mr:∀nq,Bl w ((wr.alloc (.cells #[J I r,J I u] 64)).drewN nq):=λnq=>Y5 (q.alloc o! _) _;have P:∀nq,Bl w' ((wr.alloc (.cells #[J I r,J I u] 64)).drewN nq):=λnq=>Y5 (z.alloc D _) _;by_cases H:0<k
  .go_quiet (fail)
   go_wp2
   .have X:(r==(BV a 0).1)=true:=by assumption
    go_ret;have Q:Fa c.base.length a k (r,u)=4:=by rw[E3.out,if_pos ⟨H,by simpa using X⟩]
    exact⟨Bw (by rw[G.out, <-l.out,t.out,Q];rfl),mr _⟩
   have X:(r==(BV a 0).1)=false:=a!
   have Q:Fa c.base.length a k (r,u)=0:=by rw[E3.out,if_neg (λx=>by simp at X;exact X x.2)]
   go_roundg (a.length - (k+1))
   case rel=>exact⟨k+1,o!,rfl,v!,by rw[<-l.out,t.out,Q];rfl,mr _,P _⟩
   omega
  go_quiet (fail);go_wp2;have Q:Fa c.base.length a k (r,u)=0:=by rw[E3.out,if_neg (λx=>H x.1)]
  go_roundg (a.length - (k+1))
  case rel=>exact⟨k+1,o!,rfl,v!,by rw[<-l.out,t.out,Q];rfl,mr _,P _⟩
  omega
 have Q3:=Zd (show CY (Fa c.base.length a) 0 a=0 by rw[<-l.out];exact MN o!);have F:=Zd (show EF c n=PM (CY (Ed c.Aa.length n j) 0 j) (Fo 0 4 K) by rw[G.out,BR Q3.out]);have D:=z.size;have DR:w+1<wr.heap.size:=o!
 clear l G f0 g2 z D Sb;go_wp2;go_loopg [75] j.length (λg i wx=>∃k:Nat,k<=j.length/\g=j.length - k/\i=.int I k/\CY (Ed c.Aa.length n j) k (j.drop k)=CY (Ed c.Aa.length n j) 0 j/\wx=wr)
 case atStart=>exact⟨0,Zp _,rfl,rfl,rfl,rfl⟩
 obtain⟨k,hk,rfl,rfl,V,rfl⟩:=hrel;have l:=Zd V;clear V;by_cases W:k<j.length
 .obtain⟨b7,o7,rfl,U3,M⟩:=ho.at_ W
  rw[<-q.cell (p:=⟨b7,o7+k,none⟩) (E b7 U3)]at M;have L:0<k->wr.cell? ⟨b7,o7+(k - 1),none⟩=some (J I (nth j (k - 1))):=λh0=>by
   obtain⟨an,ai,e,_,hc⟩:=ho.at_ (i:=k - 1) o!;cases e;rw[<-q.cell (p:=⟨b7,o7+(k - 1),none⟩) (E b7 U3)]at hc;exact hc
  have t:=Zd (K5 (f:=Ed c.Aa.length n j) (Bn W));obtain⟨x,C⟩:=Qnm (nth j k);rw[<-C]at M t;have HX:=Zd C;clear C;by_cases H:0<k
  .have L:=L H
   go_wp2_with (go_at_call 134;refine(bp _ _ _ _).mono ?_;rintro e w' ⟨rfl,rfl⟩)
   .have d:AD x 0 ((c.Aa.length:Int) - 1)=true:=by assumption
    have m:Ed c.Aa.length n j k x=3:=by unfold Ed;rw[if_pos (.inl d)]
    go_ret;exact⟨Bw (by rw[F.out, <-l.out,t.out,m];rfl),q⟩
   .have d:(x==(n:Int))=true:=by assumption
    have m:Ed c.Aa.length n j k x=3:=by unfold Ed;rw[if_pos (.inr (by simpa using d))]
    go_ret;exact⟨Bw (by rw[F.out, <-l.out,t.out,m];rfl),q⟩
   .have d:¬AD x 0 ((c.Aa.length:Int) - 1)=true:=by assumption
    have v:(x==(n:Int))=false:=a!
    have Y:x<=nth j (k - 1):=a!
    have m:Ed c.Aa.length n j k x=5:=by unfold Ed;rw[if_neg (λy=>y.elim d (by simpa using v)),if_pos ⟨H,Y⟩]
    go_ret;exact⟨Bw (by rw[F.out, <-l.out,t.out,m];rfl),q⟩
   have d:¬AD x 0 ((c.Aa.length:Int) - 1)=true:=a!
   have v:(x==(n:Int))=false:=a!
   have Y:nth j (k - 1)<x:=a!
   have m:Ed c.Aa.length n j k x=0:=by unfold Ed;rw[if_neg (λy=>y.elim d (by simpa using v)),if_neg (λy=>by have:=y.2;omega)]
   go_roundg (j.length - (k+1))
   case rel=>exact⟨k+1,o!,rfl,v!,by rw[<-l.out,t.out,m];rfl,rfl⟩
   omega
  clear L;go_wp2_with (go_at_call 134;refine(bp _ _ _ _).mono ?_;rintro e w' ⟨rfl,rfl⟩)
  .have d:AD x 0 ((c.Aa.length:Int) - 1)=true:=by assumption
   have m:Ed c.Aa.length n j k x=3:=by unfold Ed;rw[if_pos (.inl d)]
   go_ret;exact⟨Bw (by rw[F.out, <-l.out,t.out,m];rfl),q⟩
  .have d:(x==(n:Int))=true:=by assumption
   have m:Ed c.Aa.length n j k x=3:=by unfold Ed;rw[if_pos (.inr (by simpa using d))]
   go_ret;exact⟨Bw (by rw[F.out, <-l.out,t.out,m];rfl),q⟩
  have d:¬AD x 0 ((c.Aa.length:Int) - 1)=true:=a!
  have v:(x==(n:Int))=false:=a!
  have m:Ed c.Aa.length n j k x=0:=by unfold Ed;rw[if_neg (λy=>y.elim d (by simpa using v)),if_neg (λy=>H y.1)]
  go_roundg (j.length - (k+1))
  case rel=>exact⟨k+1,o!,rfl,v!,by rw[<-l.out,t.out,m];rfl,rfl⟩
  omega
 have T:=Zd (show EF c n=Fo 0 4 K by rw[F.out,BR (by rw[<-l.out];exact MN o!)]);clear l;go_wp2_with (go_at_call 134;refine(bp _ _ _ _).mono ?_;rintro e w' ⟨rfl,rfl⟩)
 .have d:AD K 0 4=true:=by assumption
  go_ret;exact⟨Bw (by rw[T.out,Ws d]),q⟩
 have d:AD K 0 4=false:=a!
 go_ret;exact⟨Bw (by rw[T.out,SK d]),q⟩
def Ql (ab:Nat->Nat)(i o:Nat):Nat->Nat:=λj=>if j=i then ab i|||Iv (ab o) o else ab j
def HJ (ab:Nat->Nat)(i:Nat):List Int->Nat->Nat
 | []=>ab
 |o::r=>HJ (Ql ab i o.toNat) i r
def K6 (ab:Nat->Nat)(i:Nat):List Ay->Nat->Nat
 | []=>ab
 |s::r=>K6 (HJ ab i s.over) (i+1) r
def G5 (ab:Nat->Nat)(l:List Ay):Nat->Nat->Nat
 |0=>ab
 |n+1=>G5 (K6 ab 0 l) l n
def Ax (l:List Ay):Nat->Nat:=G5 (λ_=>0) l l.length
variable {ab:Nat->Nat}
def bq (h:k<l.length):HJ ab i (l.drop k)=HJ (Ql ab i (nth l k).toNat) i (l.drop (k+1)):=by
 have:=Bn h;obtain⟨a,e⟩:=Zm.1 this;rw[ZO a,e]
 rfl
def br {l:List Ay}(h:k<l.length):K6 ab i (l.drop k)=K6 (HJ ab i (Aj l k).over) (i+1) (l.drop (k+1)):=by
 have:=Db h;obtain⟨a,e⟩:=Zm.1 this;rw[ZO a,e]
 rfl
structure JO (l:List Ay):Prop where
 few:l.length<=3
 over:∀i,i<l.length->∀k,k<(Aj l i).over.length->0<=nth (Aj l i).over k/\nth (Aj l i).over k<l.length
def ch {t:Zs}{f:Nat×Nat}(h:w.heap[b]?=some (.cells cs t f))(a:cs[i]?=some v):w.cell? ⟨b,i,none⟩=some v:=by
 unfold zy;rw[h];exact a
def cf {t:Zs}(h:w.heap[b]?=some (.cells cs t (0,0))):w.frozen? ⟨b,i,none⟩=false:=by
 unfold Yo;rw[h];simp
def Qc5 {b:Nat}{w:Zb}{t:Zs}{f:Nat×Nat}{p q r s u:Zf}(h:w.heap[b]?=some (.cells #[p,q,r,s,u] t f)):w.cell? b=some p/\w.cell? ⟨b,1,none⟩=some q/\w.cell? ⟨b,2,none⟩=some r/\w.cell? ⟨b,3,none⟩=some s/\w.cell? ⟨b,4,none⟩=some u:=⟨ch h rfl,ch h rfl,ch h rfl,ch h rfl,ch h rfl⟩
def Qf5 {b:Nat}{w:Zb}{t:Zs}{cs:Array Zf}(h:w.heap[b]?=some (.cells cs t (0,0))):w.frozen? b=false/\w.frozen? ⟨b,1,none⟩=false/\w.frozen? ⟨b,2,none⟩=false/\w.frozen? ⟨b,3,none⟩=false/\w.frozen? ⟨b,4,none⟩=false:=⟨cf h,cf h,cf h,cf h,cf h⟩
def Ba {t:Zs}{f:Nat×Nat}(h:w.heap[b]?=some (.cells cs t f))(v:Zf):(w.setCell ⟨b,i,none⟩ v).heap[b]?=some (.cells (cs.setIfInBounds i v) t f):=by
 unfold Z8;simp only[Y7,if_pos];rw[h];rfl
def AZ {c:Nat}(h:c≠b)(v:Zf):(w.setCell ⟨b,i,none⟩ v).heap[c]?=w.heap[c]? :=Y4 _ _ _ _ h
def Bp (w:Zb)(o:Obj):(w.alloc o).heap[w.heap.size]?=some o:=by
 show(w.heap.push o)[w.heap.size]?=_;simp
def Bf {x:Obj}(h:w.heap[b]?=some x)(o:Obj):(w.alloc o).heap[b]?=some x:=(zD w o b (Za.1 h).1).trans h
def Jl (c:s<8)(hi:i<3):Iv s i<8:=by
 have b:s=0\/s=1\/s=2\/s=3\/s=4\/s=5\/s=6\/s=7:=o!
 have a:i=0\/i=1\/i=2:=o!
 rcases b with rfl|rfl|rfl|rfl|rfl|rfl|rfl|rfl<;>rcases a with rfl|rfl|rfl<;>decide
def eu {a:Nat}(d:a<8)(c:b<8):a|||b<8:=Zba (n:=3) d c
def uo {o:Nat}(h:∀j,j<3->ab j<8)(hi:i<3)(a:o<3):∀j,j<3->Ql ab i o j<8:=by
 intro j b;unfold Ql;split
 .exact eu (h i hi) (Jl (h o a) a)
 exact h j b
def bt {a:Nat}(f:a<8)(e:b<8):bits BinOp.or ZcE (a:Int) (b:Int)=((a|||b:Nat):Int):=by
 have d:a=0\/a=1\/a=2\/a=3\/a=4\/a=5\/a=6\/a=7:=o!
 have c:b=0\/b=1\/b=2\/b=3\/b=4\/b=5\/b=6\/b=7:=o!
 rcases d with rfl|rfl|rfl|rfl|rfl|rfl|rfl|rfl<;>rcases c with rfl|rfl|rfl|rfl|rfl|rfl|rfl|rfl<;>rfl
def AW (e d c b a:Zf)(ab:Nat->Nat):Array Zf:= #[e,d,c,b,a,J .u8 (ab 0),J .u8 (ab 1),J .u8 (ab 2)]
def HN (h:i<3):(AW x1 x2 x3 x4 x5 ab)[5+i]?=some (J .u8 (ab i)):=by
 have:i=0\/i=1\/i=2:=o!
 rcases this with rfl|rfl|rfl<;>rfl
def ew {o:Nat}(h:i<3):(AW x1 x2 x3 x4 x5 ab).setIfInBounds (5+i) (J .u8 ((ab i|||Iv (ab o) o:Nat):Int))=AW x1 x2 x3 x4 x5 (Ql ab i o):=by
 have:i=0\/i=1\/i=2:=o!
 rcases this with rfl|rfl|rfl<;>simp[AW,Ql]
def bu:Array Zf:= #[(),(),(),(),(),J .u8 0,J .u8 0,J .u8 0]
structure GW (w:Zb)(x1 x2 x3 x4 x5:Zf)(ab:Nat->Nat)(wr:Zb):Prop where
 below:Bl w wr
 res:wr.heap[w.heap.size+1]?=some (.cells bu 112 (0,0))
 Ee:wr.heap[w.heap.size+1+1]?=some (.cells (AW x1 x2 x3 x4 x5 ab) 112 (0,0))
 lt:∀j,j<3->ab j<8
def GW.set {wr:Zb}{o:Nat}(h:GW w x1 x2 x3 x4 x5 ab wr)(hi:i<3)(a:o<3):GW w x1 x2 x3 x4 x5 (Ql ab i o) (wr.setCell ⟨w+1+1,5+i,none⟩ (J .u8 ((ab i|||Iv (ab o) o:Nat):Int))):=
 ⟨h.below.setCell (p:=⟨w+1+1,5+i,none⟩) (by show w<=w.heap.size+1+1;omega) _,(AZ o! _).trans h.res,by rw[<-ew hi];exact Ba h.Ee _,uo h.lt hi a⟩
def GW.drew {wr:Zb}(h:GW w x1 x2 x3 x4 x5 ab wr):GW w x1 x2 x3 x4 x5 ab wr.drew:=⟨h.below.drew,h.res,h.Ee,h.lt⟩
def SN {wr:Zb}(h:Bl w wr)(j i g f e d c b:Zf):Bl w ((((((((wr.setCell (w+1:Nat) j).setCell ⟨w+1,1,none⟩ i).setCell ⟨w+1,2,none⟩ g).setCell ⟨w+1,3,none⟩ f).setCell ⟨w+1,4,none⟩ e).setCell ⟨w+1,5,none⟩ d).setCell ⟨w+1,6,none⟩ c).setCell ⟨w+1,7,none⟩ b):=by
 have a:w<=w.heap.size+1:=o!
 exact((((((((h.setCell (p:=⟨_,0,none⟩) a _).setCell (p:=⟨_,1,none⟩) a _).setCell (p:=⟨_,2,none⟩) a _).setCell (p:=⟨_,3,none⟩) a _).setCell (p:=⟨_,4,none⟩) a _).setCell (p:=⟨_,5,none⟩) a _).setCell (p:=⟨_,6,none⟩) a _).setCell (p:=⟨_,7,none⟩) a _)
def ks {p:Nat->Bool}(a:k<n)(h:p k=false):(Yr n).all p=false:=by
 rw[List.all_eq_false];exact⟨k,List.mem_range.2 a,by simp[h]⟩
def anH (h:RC S w v1 v2 v3 v4 v5 c)(Jw:JO c.Aa)(M:Ql6 S w):
  Calls Lp 145 #[.agg #[v1,v2,v3,v4,v5]] w λe w'=>e=.returned (.tuple #[.agg #[v1,v2,v3,v4,v5,J .u8 (Ax c.Aa 0),J .u8 (Ax c.Aa 1),J .u8 (Ax c.Aa 2)],.bool ((Yr c.Aa.length).all λi=> !hasB (Ax c.Aa i) i)])/\Bl w w':=by
 obtain⟨G,B,F,A,E,z,D,t,C,y,rfl,rfl,rfl,rfl,rfl,l1,m1,l2,m2,l3,m3,l4,m4,l5,m5⟩:=h.vs;have IX:=DJ;have Jm:=Jw.few;have HE:=Zd (show Ax c.Aa=G5 (λ_=>0) c.Aa c.Aa.length from rfl);go_enter Lp.func145,anr;go_wp2;go_loopg [16] c.Aa.length (λg i wr=>∃(r:Nat) (ab:Nat->Nat),r<=c.Aa.length/\g=c.Aa.length - r/\i=.int I r/\G5 ab c.Aa (c.Aa.length - r)=G5 (λ_=>0) c.Aa c.Aa.length/\GW w (U G c.base.length B) (U F c.Af.length A) (U E c.hooks.length z) (U D c.Aa.length t) (U C c.now.length y) ab wr)
 case atStart=>exact⟨0,λ_=>0,Zp _,rfl,rfl,rfl,(((Zh _ _).alloc (Zj _) _).alloc i! _).alloc j! _,Bf (by have:=Bp (w.alloc (.cells (Qe6 c G B F A E z D t C y) 26)) (.cells bu 112 (0,0));rwa[ZB]at this) _,by have:=Bp ((w.alloc (.cells (Qe6 c G B F A E z D t C y) 26)).alloc (.cells bu 112 (0,0))) (.cells (AW (U G c.base.length B) (U F c.Af.length A) (U E c.hooks.length z) (U D c.Aa.length t) (U C c.now.length y) (λ_=>0)) 112 (0,0));rwa[ZB,ZB]at this,λ_ _=>d!⟩
 obtain⟨r,ab,hr,rfl,rfl,q,a⟩:=hrel;have L:=Zd q;clear q;by_cases Az:r<c.Aa.length
 .have g3:=ch (i:=3) a.Ee (v:=.slice D c.Aa.length t) rfl
  go_wp2;go_loopg [22] c.Aa.length (λg i wr=>∃(k:Nat) (ab:Nat->Nat),k<=c.Aa.length/\g=c.Aa.length - k/\i=.int I k/\G5 (K6 ab k (c.Aa.drop k)) c.Aa (c.Aa.length - (r+1))=G5 (λ_=>0) c.Aa c.Aa.length/\GW w (U G c.base.length B) (U F c.Af.length A) (U E c.hooks.length z) (U D c.Aa.length t) (U C c.now.length y) ab wr)
  case atStart=>exact⟨0,ab,Zp _,rfl,rfl,by rw[<-L.out,show c.Aa.length - r=(c.Aa.length - (r+1))+1 by omega];rfl,a⟩
  obtain⟨k,d,hk,rfl,rfl,q,f⟩:=hrel;have MK:=Zd q;clear q;by_cases R:k<c.Aa.length
  .obtain⟨b,o,s2,s3,rfl,P,ER,MM,LO,et,W,hp,Z⟩:=h.Aa.at_ (i:=k) R
   obtain⟨a6,c6,rfl,l6,m6⟩:=hp.val;obtain⟨a7,c7,rfl,l7,m7⟩:=Z.val;have mA:=Jw.over k R;rw[<-f.below.cell (p:=⟨b,o+k*5,none⟩) (M b P)]at ER;rw[<-f.below.cell (p:=⟨b,o+k*5+1,none⟩) (M b P)]at MM;rw[<-f.below.cell (p:=⟨b,o+k*5+2,none⟩) (M b P)]at LO;rw[<-f.below.cell (p:=⟨b,o+k*5+3,none⟩) (M b P)]at et;rw[<-f.below.cell (p:=⟨b,o+k*5+4,none⟩) (M b P)]at W;obtain⟨s,hs⟩:=Qnm (Aj c.Aa k);have KB:=Zd (br (ab:=d) (i:=k) (l:=c.Aa) (k:=k) R);rw[<-hs]at ER MM LO et W hp Z mA l6 l7 KB;clear hs;obtain⟨an,pE,BW,u,SM⟩:=s;dsimp only at*;have Y:=f.below.size;have Fl:w+1<wr.heap.size:=(Za.1 f.res).1;have DR:w+1+1<wr.heap.size:=(Za.1 f.Ee).1;go_wp2;go_loopg [30] u.length (λg i T=>∃(m:Nat) (ab:Nat->Nat),m<=u.length/\g=u.length - m/\i=.int I m/\HJ ab k (u.drop m)=HJ d k u/\GW w (U G c.base.length B) (U F c.Af.length A) (U E c.hooks.length z) (U (some ⟨b,o,none⟩) c.Aa.length t) (U C c.now.length y) ab T)
   case atStart=>exact⟨0,d,Zp _,rfl,rfl,rfl,f.below.alloc Y _,Bf f.res _,Bf f.Ee _,f.lt⟩
   obtain⟨m,n,hm,rfl,rfl,q,H⟩:=hrel;have cK:=Zd q;clear q;by_cases ey:m<u.length
   .obtain⟨b7,o7,rfl,U3,L6⟩:=Z.at_ ey
    rw[<-H.below.cell (p:=⟨b7,o7+m,none⟩) (M b7 U3)]at L6;have N:=Zd (bq (ab:=n) (i:=k) ey);obtain⟨me,gI⟩:=mA m ey;obtain⟨x,X⟩:∃x:Nat,nth u m=x:=⟨(nth u m).toNat,o!⟩;rw[X]at L6 me gI N;have HX:=Zd X;clear X ER MM LO et W;have Q:x<3:=o!
    have K:k<3:=o!
    have gk:=ch H.Ee (HN K);have gx:=ch H.Ee (HN Q);have gf:=cf (i:=5+k) H.Ee;have O:=H.lt x Q;have ai:=H.lt k K;have Mc:=λw=>ab9 (n x) x O Q w;have TB:(k:Int)<3:=o!
    have am:(x:Int)<3:=o!
    go_wp2;go_still_tail 13,k!
    still_call (Mc _)
    repeat still_step
    refine wpStill_nil ?_;change wpList _ _ _ _ _ wr.drew;rw[bt ai (Jl O Q)];go_wp2;go_roundg (u.length - (m+1))
    case rel=>exact⟨m+1,Ql n k x,o!,rfl,v!,by rw[<-cK.out,N.out];rfl,(H.set K Q).drew⟩
    omega
   have e3:HJ d k u=n:=by rw[<-cK.out,Z7.2 o!];rfl
   go_wp2;go_roundg (c.Aa.length - (k+1))
   case rel=>exact⟨k+1,n,o!,rfl,v!,by rw[<-MK.out,KB.out,e3],H⟩
   omega
  have e2:K6 d k (c.Aa.drop k)=d:=by rw[Z7.2 o!];rfl
  have E2:=Zd e2;clear e2;go_wp2;go_roundg (c.Aa.length - (r+1))
  case rel=>exact⟨r+1,d,o!,rfl,v!,by rw[<-MK.out,E2.out],f⟩
  omega
 have e1:Ax c.Aa=ab:=by
  rw[HE.out, <-L.out,show c.Aa.length - r=0 by omega];rfl
 have E1:=Zd e1;clear e1 L;have g3:=ch (i:=3) a.Ee (v:=.slice D c.Aa.length t) rfl;go_wp2;go_loopg [54] c.Aa.length (λg i T=>∃k:Nat,k<=c.Aa.length/\g=c.Aa.length - k/\i=.int I k/\(∀j,j<k->hasB (ab j) j=false)/\T=wr)
 case atStart=>exact⟨0,Zp _,rfl,rfl,λ_ h=>absurd h (ZbY _),rfl⟩
 obtain⟨k,hk,rfl,rfl,q,rfl⟩:=hrel;have L:=Zd q;clear q;have g0:=ch (i:=0) a.Ee (v:=.slice G c.base.length B) rfl;have g1:=ch (i:=1) a.Ee (v:=.slice F c.Af.length A) rfl;have g2:=ch (i:=2) a.Ee (v:=.slice E c.hooks.length z) rfl;have g4:=ch (i:=4) a.Ee (v:=.slice C c.now.length y) rfl;have g5:=ch (i:=5) a.Ee (v:=.int .u8 (ab 0)) rfl;have g6:=ch (i:=6) a.Ee (v:=.int .u8 (ab 1)) rfl;have g7:=ch (i:=7) a.Ee (v:=.int .u8 (ab 2)) rfl;have r0:=cf (i:=0) a.res;have r1:=cf (i:=1) a.res;have r2:=cf (i:=2) a.res;have r3:=cf (i:=3) a.res;have r4:=cf (i:=4) a.res;have r5:=cf (i:=5) a.res;have r6:=cf (i:=6) a.res;have r7:=cf (i:=7) a.res;have s0:=ch (i:=0) a.res (v:=.slice none 0 0) rfl;have s1:=ch (i:=1) a.res (v:=.slice none 0 0) rfl;have s2:=ch (i:=2) a.res (v:=.slice none 0 0) rfl;have s3:=ch (i:=3) a.res (v:=.slice none 0 0) rfl;have s4:=ch (i:=4) a.res (v:=.slice none 0 0) rfl;have s5:=ch (i:=5) a.res (v:=.int .u8 0) rfl;have s6:=ch (i:=6) a.res (v:=.int .u8 0) rfl;have s7:=ch (i:=7) a.res (v:=.int .u8 0) rfl;by_cases R:k<c.Aa.length
 .have K:k<3:=by omega
  have gk:=ch a.Ee (HN K);have TB:(k:Int)<3:=o!
  have Mc:=λw=>ab8 (ab k) k (a.lt k K) K w;go_wp2_with (go_at_call 122;refine(Mc _).mono ?_;rintro e w' ⟨rfl,rfl⟩)
  .have V:hasB (ab k) k=true:=by assumption
   refine ZN (v:=.tuple #[.agg (AW (U G c.base.length B) (U F c.Af.length A) (U E c.hooks.length z) (U D c.Aa.length t) (U C c.now.length y) ab),.bool false]) ?_ rfl ?_
   .rw[YB rfl]
    go_simp
    rfl
   refine⟨?_,?_⟩
   .rw[E1.out,ks (k:=k) R (by rw[V];rfl)];rfl
   exact SN a.below _ _ _ _ _ _ _ _
  have V:hasB (ab k) k=false:=a!
  go_roundg (c.Aa.length - (k+1))
  case rel=>exact⟨k+1,o!,rfl,v!,λj hj=>by
   by_cases h:j=k
   .rw[h];exact V
   exact L.out j o!,rfl⟩
  omega
 have q2:((Yr c.Aa.length).all λi=> !hasB (ab i) i)=true:=by
  rw[Zdm];intro j hj;rw[L.out j (by have:=List.mem_range.1 hj;omega)];rfl
 have Q2:=Zd q2;clear q2;go_wp2;refine ZN (v:=.tuple #[.agg (AW (U G c.base.length B) (U F c.Af.length A) (U E c.hooks.length z) (U D c.Aa.length t) (U C c.now.length y) ab),.bool true]) ?_ rfl ?_
 .rw[YB rfl]
  go_simp
  rfl
 refine⟨?_,?_⟩
 .rw[E1.out,Q2.out];rfl
 exact SN a.below _ _ _ _ _ _ _ _
def JP (c:A_):Int:=CY (λi _=>EF c i) 0 c.Aa
def H0 (l:List Ay):Bool:=(Yr l.length).all λi=> !hasB (Ax l i) i
def BN (c:A_):Int:=PM (Dq c) (PM (Di c.Aa.length 3) (PM (JP c) (if H0 c.Aa=true then Ct c c.now else 9)))
def Gs {c:Type}{f:Nat->c->Int}:∀ {l:List c} {i:Nat},CY f i l=0->∀k x,l[k]?=some x->f (i+k) x=0
 | [],_,_,k,x,h=>by simp at h
 |y::r,i,a,k,x,h=>by
  unfold CY at a;split at a
  .next b=>
   cases k with
   |zero=>simp at h;subst h;exact b
   |succ k=>
    have:=Gs a k x (by simpa using h);rwa[show i+1+k=i+(k+1) by omega]at this
  next b=>exact absurd a b
def JQ {n a:Int}(h:Di n a=0):n≠0/\n<=a:=by
 unfold Di at h;split at h
 .cases h
 next b=>
 split at h
 .cases h
 next c=>exact⟨b,o!⟩
def G' {n:Int}(h:AD n lo hi=false):lo<=n/\n<=hi:=by
 unfold AD at h;simp at h;exact h
def Bj {a b:Int}(h:PM a b=0):a=0/\b=0:=by
 unfold PM at h;split at h
 .next c=>exact⟨c,h⟩
 next c=>exact absurd h c
def uq (h:EF c n=0)(b:k<(Aj c.Aa n).over.length):0<=nth (Aj c.Aa n).over k/\nth (Aj c.Aa n).over k<c.Aa.length:=by
 have g:=(Bj (Bj (Bj (Bj h).2).2).2).1;have a:=Gs g k _ (Bn b);unfold Ed at a;split at a
 .cases a
 next f=>
 have d:AD (nth (Aj c.Aa n).over k) 0 ((c.Aa.length:Int) - 1)=false:=by
  cases e:AD (nth (Aj c.Aa n).over k) 0 ((c.Aa.length:Int) - 1)
  .rfl
  exact absurd (.inl e) f
 have:=G' d;omega
def SQ (d:Di c.Aa.length 3=0)(b:JP c=0):JO c.Aa:=
 ⟨by have:=(JQ d).2;omega,λi hi k a=>uq (Gs b i _ (Db hi)|>λh=>by simpa using h) a⟩
def bw {b a:Obj}(h:YH ((w.alloc b).alloc a).heap.size ((w.alloc b).alloc a) w'):w<w'.heap.size/\w+1<w'.heap.size:=by
 have:=h.size;rw[ZB,ZB]at this;omega
def bA {o:Obj}(h:Bl w w'):Bl w (w'.alloc o):=h.alloc h.size _
def bS (h:Bl w w')(a:w<=b):Bl w (w'.setCell ⟨b,i,none⟩ v):=h.setCell (p:=⟨b,i,none⟩) a _
def bD (h:Bl w w'):Bl w w'.drew:=h.drew
def bN (h:Bl w w'):Bl w (w'.drewN n):=Y5 h n
def agX (w:Zb)(v1 v2 v3 v4 v5:Zf)(c:A_)(e:Ending)(w':Zb):Prop:=
 ∃(g f d b a:Option Addr) (i h n3 n4 n5 d1 d2 d3 d4 l k k1 j:Nat),e=.returned (.tuple #[.agg #[U g i d1,U f h d2,U d n3 d3,U b n4 d4,U a n5 l,J .u8 (k:Nat),J .u8 (k1:Nat),J .u8 (j:Nat)],J I (BN c)])/\Bl w w'/\(BN c=0->#[U g i d1,U f h d2,U d n3 d3,U b n4 d4,U a n5 l,J .u8 (k:Nat),J .u8 (k1:Nat),J .u8 (j:Nat)]=AW v1 v2 v3 v4 v5 (Ax c.Aa))
def c88 (h:RC S w v1 v2 v3 v4 v5 c)(V:Ql6 S w):Calls Lp 88 #[.agg #[v1,v2,v3,v4,v5]] w (agX w v1 v2 v3 v4 v5 c):=by
 obtain⟨u,q,t,p,s,o,r,m,d,a,rfl,rfl,rfl,rfl,rfl,l1,m1,l2,m2,l3,m3,l4,m4,l5,m5⟩:=h.vs;have IX:=DJ;have Q:∀W,Bl w W->Calls Lp 143 #[.agg #[U u c.base.length q,U t c.Af.length p,U s c.hooks.length o,U r c.Aa.length m,U d c.now.length a]] W λe w'=>e=.returned (J I (Dq c))/\Bl W w':=λW y=>anA (h.Ar (CE.Ec y)) (λb G=>by have:=V b G;have:=y.size;omega);have P:∀W n,n<c.Aa.length->Bl w W->Calls Lp 144 #[.agg #[U u c.base.length q,U t c.Af.length p,U s c.hooks.length o,U r c.Aa.length m,U d c.now.length a],J I n] W λe w'=>e=.returned (J I (EF c n))/\Bl W w':=λW n hn y=>anF (h.Ar (CE.Ec y)) hn (λb G=>by have:=V b G;have:=y.size;omega);have O:∀W,JO c.Aa->Bl w W->Calls Lp 145 #[.agg #[U u c.base.length q,U t c.Af.length p,U s c.hooks.length o,U r c.Aa.length m,U d c.now.length a]] W λe w'=>e=.returned (.tuple #[.agg #[U u c.base.length q,U t c.Af.length p,U s c.hooks.length o,U r c.Aa.length m,U d c.now.length a,J .u8 (Ax c.Aa 0),J .u8 (Ax c.Aa 1),J .u8 (Ax c.Aa 2)],.bool (H0 c.Aa)])/\Bl W w':=λW K y=>anH (h.Ar (CE.Ec y)) K (λb G=>by have:=V b G;have:=y.size;omega);have M:∀W,Bl w W->Calls Lp 89 #[.agg #[U u c.base.length q,U t c.Af.length p,U s c.hooks.length o,U r c.Aa.length m,U d c.now.length a],U d c.now.length a] W λe w'=>e=.returned (J I (Ct c c.now))/\Bl W w':=λW y=>c89 (h.Ar (CE.Ec y)) (h.now.Ar (CE.Ec y)) (λb G=>by have:=V b G;have:=y.size;omega);have D:Bl w ((w.alloc (.cells (Qe6 c u q t p s o r m d a) 26)).alloc (.cells bu 112)):=((Zh _ _).alloc (Zj _) _).alloc i! _;unfold bu at D;have be:=Zd Q;have ap:=Zd P;have an:=Zd O;have bv:=Zd M;clear Q P O M;go_enter Lp.func88,n88;go_wp2_with (first|(go_at_call 143;refine(be.out _ D).mono ?_;rintro e w1 ⟨rfl,Z⟩;obtain⟨L6,xr⟩:=E7 Z)|(go_at_call 100;refine(uk _ _ _).mono ?_;rintro e w' ⟨rfl,rfl⟩))
 .have E:(Dq c !=0)=true:=by assumption
  have z:BN c=Dq c:=by rw[BN,K4 (Gr E)]
  refine ZN (v:=.tuple #[.agg #[(),(),(),(),(),J .u8 0,J .u8 0,J .u8 0],J I (Dq c)]) (by rw[YB rfl];go_simp) rfl ?_;exact⟨none,none,none,none,none,0,0,0,0,0,0,0,0,0,0,0,0,0,by rw[z];rfl,SN (D.trans (Z.mono j!)) _ _ _ _ _ _ _ _,λx=>absurd (z▸x) (Gr E)⟩
 .have E:(Dq c !=0)=false:=by assumption
  have F:(Di c.Aa.length 3 !=0)=true:=a!
  have z:BN c=Di c.Aa.length 3:=by rw[BN,BR (FE E),K4 (Gr F)]
  refine ZN (v:=.tuple #[.agg #[(),(),(),(),(),J .u8 0,J .u8 0,J .u8 0],J I (Di c.Aa.length 3)]) (by rw[YB rfl];go_simp) rfl ?_;exact⟨none,none,none,none,none,0,0,0,0,0,0,0,0,0,0,0,0,0,by rw[z];rfl,SN (D.trans (Z.mono j!)) _ _ _ _ _ _ _ _,λx=>absurd (z▸x) (Gr F)⟩
 rename (Dq c !=0)=false=>E
 rename (Di _ _ !=0)=false=>F
 have K:JP c=0->JO c.Aa:=SQ (FE F);have bi:=Zd K;have HE:=Zd (show BN c=PM (JP c) (if H0 c.Aa=true then Ct c c.now else 9) by rw[BN,BR (FE E),BR (FE F)]);have Q1:=Zd E;have Q2:=Zd F;clear E F L6 xr K;go_loopg [27] c.Aa.length (λg i wr=>∃k:Nat,k<=c.Aa.length/\g=c.Aa.length - k/\i=.int I k/\CY (λi _=>EF c i) k (c.Aa.drop k)=JP c/\YH ((w.alloc (.cells (Qe6 c u q t p s o r m d a) 26)).alloc (.cells #[(),(),(),(),(),J .u8 0,J .u8 0,J .u8 0] 112)).heap.size ((w.alloc (.cells (Qe6 c u q t p s o r m d a) 26)).alloc (.cells #[(),(),(),(),(),J .u8 0,J .u8 0,J .u8 0] 112)) wr)
 case atStart=>exact⟨0,Zp _,rfl,rfl,rfl,Z⟩
 obtain⟨k,hk,rfl,rfl,CP,H⟩:=hrel;have T:=Zd CP;clear CP;obtain⟨am,ai⟩:=E7 H;have U5:Bl w wr:=D.trans (H.mono j!);by_cases Az:k<c.Aa.length
 .have hd:=Zd (K5 (f:=λi _=>EF c i) (Db Az))
  go_wp2_with (go_at_call 144;refine(ap.out _ _ Az U5).mono ?_;rintro e w2 ⟨rfl,Y⟩;have C:=H.trans (Y.mono H.size);obtain⟨NP,MK⟩:=E7 C)
  .have A:(EF c k !=0)=true:=by assumption
   have N:JP c=EF c k:=by rw[<-T.out,hd.out,if_neg (Gr A)]
   have z:BN c=EF c k:=by rw[HE.out,N,K4 (Gr A)]
   refine ZN (v:=.tuple #[.agg #[(),(),(),(),(),J .u8 0,J .u8 0,J .u8 0],J I (EF c k)]) (by rw[YB rfl];go_simp) rfl ?_;exact⟨none,none,none,none,none,0,0,0,0,0,0,0,0,0,0,0,0,0,by rw[z];rfl,SN (D.trans (C.mono j!)) _ _ _ _ _ _ _ _,λx=>absurd (z▸x) (Gr A)⟩
  have A:(EF c k !=0)=false:=a!
  go_roundg (c.Aa.length - (k+1))
  case rel=>exact⟨k+1,o!,rfl,v!,by rw[<-T.out,hd.out,if_pos (FE A)],C⟩
  omega
 have N:JP c=0:=by rw[<-T.out];exact MN o!
 have K:=bi.out N;have um:=Zd (show BN c=(if H0 c.Aa=true then Ct c c.now else 9) by rw[HE.out,BR N]);clear T N;go_wp2_with (go_at_call 145;refine(an.out _ K U5).mono ?_;rintro e w2 ⟨rfl,Y⟩;have C:=H.trans (Y.mono H.size);obtain⟨NP,MK⟩:=E7 C;clear am ai;obtain⟨Fl,DR⟩:=bw C)
 .have A:(!H0 c.Aa)=true:=by assumption
  have z:BN c=9:=by rw[um.out,if_neg (by simpa using A)]
  refine ZN (v:=.tuple #[.agg #[(),(),(),(),(),J .u8 0,J .u8 0,J .u8 0],J I (9)]) (by rw[YB rfl];go_simp) rfl ?_;have X:=D.trans (C.mono j!);refine⟨none,none,none,none,none,0,0,0,0,0,0,0,0,0,0,0,0,0,by rw[z];rfl,?_,λx=>by rw[z]at x;cases x⟩
  repeat (with_reducible first|exact X|refine bA ?_|(refine bS ?_ o!)|refine bD ?_|refine bN ?_)
 have A:(!H0 c.Aa)=false:=a!
 have xq:=Zd (show BN c=Ct c c.now by rw[um.out,if_pos (by simpa using A)]);clear A
 rename (!H0 c.Aa)=false=>q4
 clear q4;have R:=C.alloc C.size (.cells #[U u c.base.length q,U t c.Af.length p,U s c.hooks.length o,U r c.Aa.length m,U d c.now.length a,J .u8 (Ax c.Aa 0),J .u8 (Ax c.Aa 1),J .u8 (Ax c.Aa 2)] 112);have X:=D.trans (R.mono j!);obtain⟨l,L⟩:=Qnm ((w2.alloc (.cells #[U u c.base.length q,U t c.Af.length p,U s c.hooks.length o,U r c.Aa.length m,U d c.now.length a,J .u8 (Ax c.Aa 0),J .u8 (Ax c.Aa 1),J .u8 (Ax c.Aa 2)] 112)));have y0:=cn w2 #[U u c.base.length q,U t c.Af.length p,U s c.hooks.length o,U r c.Aa.length m,U d c.now.length a,J .u8 (Ax c.Aa 0),J .u8 (Ax c.Aa 1),J .u8 (Ax c.Aa 2)] 112 (i:=0) rfl;rw[<-L]at R X y0⊢;obtain⟨ck,b9⟩:=E7 R;have EB:w<l.heap.size:=by rw[L,ZB];omega
 have Rb:w+1<l.heap.size:=by rw[L,ZB];omega
 have bV:w2<l.heap.size:=by rw[L,ZB];omega
 have B:∀j v,#[U u c.base.length q,U t c.Af.length p,U s c.hooks.length o,U r c.Aa.length m,U d c.now.length a,J .u8 (Ax c.Aa 0),J .u8 (Ax c.Aa 1),J .u8 (Ax c.Aa 2)][j]?=some v->l.cell? ⟨w2,j,none⟩=some v:=λj v hv=>by rw[L];exact cn _ _ _ hv
 have t0:l.cell? w2=some (U u c.base.length q):=B 0 _ rfl;have t1:l.cell? ⟨w2,1,none⟩=some (U t c.Af.length p):=B 1 _ rfl;have t2:l.cell? ⟨w2,2,none⟩=some (U s c.hooks.length o):=B 2 _ rfl;have t3:l.cell? ⟨w2,3,none⟩=some (U r c.Aa.length m):=B 3 _ rfl;have t4:l.cell? ⟨w2,4,none⟩=some (U d c.now.length a):=B 4 _ rfl;have t5:l.cell? ⟨w2,5,none⟩=some (J .u8 (Ax c.Aa 0)):=B 5 _ rfl;have t6:l.cell? ⟨w2,6,none⟩=some (J .u8 (Ax c.Aa 1)):=B 6 _ rfl;have t7:l.cell? ⟨w2,7,none⟩=some (J .u8 (Ax c.Aa 2)):=B 7 _ rfl;clear L y0 B NP MK Y
 go_region_with (first|(go_at_call 89;refine(bv.out _ X.drew).mono ?_;rintro e w5 ⟨rfl,Jn⟩;have Jx:=R.drew.trans (Jn.mono R.drew.size);obtain⟨ci,b8⟩:=E7 (show Bl l w5 from(Zh l l).drew.trans Jn)))
 all_goals
  go_wp2;refine ZN (v:=.tuple #[.agg #[U u c.base.length q,U t c.Af.length p,U s c.hooks.length o,U r c.Aa.length m,U d c.now.length a,J .u8 (Ax c.Aa 0),J .u8 (Ax c.Aa 1),J .u8 (Ax c.Aa 2)],J I (Ct c c.now)]) (by rw[YB rfl];go_simp) rfl ?_;have O5:=D.trans (Jx.mono j!);refine⟨_,_,_,_,_,_,_,_,_,_,_,_,_,_,_,_,_,_,by rw[xq.out],?_,λ_=>rfl⟩
  repeat (with_reducible first|exact O5|refine bA ?_|(refine bS ?_ o!)|refine bD ?_|refine bN ?_)
def Wt (h:RC S w v1 v2 v3 v4 v5 c)(f:Ql6 S w)(a:BN c=0):
  Calls Lp 88 #[.agg #[v1,v2,v3,v4,v5]] w λe w'=>e=.returned (.tuple #[.agg #[v1,v2,v3,v4,v5,J .u8 (Ax c.Aa 0),J .u8 (Ax c.Aa 1),J .u8 (Ax c.Aa 2)],J I 0])/\Bl w w':=
 (c88 h f).mono λe w' ⟨m,l,k,j,i,o,n,n3,n4,n5,d1,d2,d3,d4,r,q,k1,p,d,g,b⟩=>⟨by rw[d,b a,a];rfl,g⟩
def Ca (c:A_)(l:List Int):Int:=PM (BN c) (Ct c l)
def RC.later (h:RC S w v1 v2 v3 v4 v5 c)(a:Bl w W):RC S W v1 v2 v3 v4 v5 c:=h.Ar (CE.Ec a)
def A3 (c:Ql6 S w)(d:Bl w W):∀b,S b->b<W.heap.size:=λb a=>Zl (c b a) d.size
def SI.later (h:SI S w v l)(a:Bl w W):SI S W v l:=h.Ar (CE.Ec a)
def SP.later {l:List (Int×Int)}(h:SP S w v l)(a:Bl w W):SP S W v l:=h.Ar (CE.Ec a)
def ah3 (w:Zb)(v1 v2 v3 v4 v5:Zf)(c:A_)(l:List Int)(e:Ending)(w':Zb):Prop:=
 ∃(g f d b a:Option Addr) (i h n3 n4 n5 d1 d2 d3 d4 m k k1 j:Nat),e=.returned (.tuple #[.agg #[U g i d1,U f h d2,U d n3 d3,U b n4 d4,U a n5 m,J .u8 (k:Nat),J .u8 (k1:Nat),J .u8 (j:Nat)],J I (Ca c l)])/\Bl w w'/\(BN c=0->#[U g i d1,U f h d2,U d n3 d3,U b n4 d4,U a n5 m,J .u8 (k:Nat),J .u8 (k1:Nat),J .u8 (j:Nat)]=AW v1 v2 v3 v4 v5 (Ax c.Aa))
def pF (h:RC S w v1 v2 v3 v4 v5 c)(hl:SI S w v6 l)(C:Ql6 S w):Calls Lp 112 #[.agg #[v1,v2,v3,v4,v5],v6] w (ah3 w v1 v2 v3 v4 v5 c l):=by
 obtain⟨a1,V,a2,T,Z,R,Y,Q,X,P,rfl,rfl,rfl,rfl,rfl,l1,m1,l2,m2,l3,m3,l4,m4,l5,m5⟩:=h.vs;have IX:=DJ;obtain⟨a6,c6,rfl,l6,m6⟩:=hl.val;have f:Bl w ((w.alloc (.cells (Qe6 c a1 V a2 T Z R Y Q X P) 26)).alloc (.cells #[(),(),(),(),(),J .u8 0,J .u8 0,J .u8 0] 112)):=((Zh _ _).alloc (Zj _) _).alloc i! _;have N:=Zd (λW r=>c88 (w:=W) (h.later r) (A3 C r));have A:=Zd (λW r=>c89 (w:=W) (h.later r) (hl.later r) (A3 C r));go_enter Lp.func112,ang;go_wp2_with (go_at_call 88;refine(N.out _ f).mono ?_;rintro e w2 ⟨b,m,k,i,g,o,n,n3,n4,n5,d1,d2,d3,d4,s,q,k1,p,rfl,y,B⟩;obtain⟨NP,MK⟩:=E7 y;obtain⟨Fl,DR⟩:=bw y;have HX:=Zd B;clear B)
 .have b:(BN c !=0)=true:=by assumption
  have O:Ca c l=BN c:=by rw[Ca,K4 (Gr b)]
  refine ZN (v:=.tuple #[.agg #[(),(),(),(),(),J .u8 0,J .u8 0,J .u8 0],J I (BN c)]) (by rw[YB rfl];go_simp) rfl ?_;have z:=f.trans (y.mono f.size);refine⟨none,none,none,none,none,0,0,0,0,0,0,0,0,0,0,0,0,0,by rw[O];rfl,?_,λx=>absurd x (Gr b)⟩
  repeat (with_reducible first|exact z|refine bA ?_|(refine bS ?_ o!)|refine bD ?_|refine bN ?_)
 rename (BN c !=0)=false=>b
 have HE:=Zd (show Ca c l=Ct c l by rw[Ca,BR (FE b)]);clear b;have u:=y.alloc y.size (.cells #[U b o d1,U m n d2,U k n3 d3,U i n4 d4,U g n5 s,J .u8 (q:Nat),J .u8 (k1:Nat),J .u8 (p:Nat)] 112);have z:=f.trans (u.mono f.size);obtain⟨a,t⟩:=Qnm ((w2.alloc (.cells #[U b o d1,U m n d2,U k n3 d3,U i n4 d4,U g n5 s,J .u8 (q:Nat),J .u8 (k1:Nat),J .u8 (p:Nat)] 112)));have d:∀j v,#[U b o d1,U m n d2,U k n3 d3,U i n4 d4,U g n5 s,J .u8 (q:Nat),J .u8 (k1:Nat),J .u8 (p:Nat)][j]?=some v->(w2.alloc (.cells #[U b o d1,U m n d2,U k n3 d3,U i n4 d4,U g n5 s,J .u8 (q:Nat),J .u8 (k1:Nat),J .u8 (p:Nat)] 112)).cell? ⟨w2,j,none⟩=some v:=λj v G=>cn _ _ _ G;rw[<-t]at u z d⊢;obtain⟨M,K⟩:=E7 u;have EB:w<a.heap.size:=by rw[t,ZB];omega
 have Rb:w+1<a.heap.size:=by rw[t,ZB];omega
 have F:w2<a.heap.size:=by rw[t,ZB];omega
 have t0:a.cell? w2=some (U b o d1):=d 0 _ rfl;have t1:a.cell? ⟨w2,1,none⟩=some (U m n d2):=d 1 _ rfl;have t2:a.cell? ⟨w2,2,none⟩=some (U k n3 d3):=d 2 _ rfl;have t3:a.cell? ⟨w2,3,none⟩=some (U i n4 d4):=d 3 _ rfl;have t4:a.cell? ⟨w2,4,none⟩=some (U g n5 s):=d 4 _ rfl;have t5:a.cell? ⟨w2,5,none⟩=some (J .u8 (q:Nat)):=d 5 _ rfl;have t6:a.cell? ⟨w2,6,none⟩=some (J .u8 (k1:Nat)):=d 6 _ rfl;have t7:a.cell? ⟨w2,7,none⟩=some (J .u8 (p:Nat)):=d 7 _ rfl;clear t d NP MK
 go_region_with (first|(go_at_call 89;refine(A.out _ z.drew).mono ?_;rintro e E ⟨rfl,D⟩;have Jx:=u.drew.trans (D.mono u.drew.size);obtain⟨L,H⟩:=E7 (show Bl a E from(Zh a a).drew.trans D)))
 all_goals
  go_wp2;refine ZN (v:=.tuple #[.agg #[U b o d1,U m n d2,U k n3 d3,U i n4 d4,U g n5 s,J .u8 (q:Nat),J .u8 (k1:Nat),J .u8 (p:Nat)],J I (Ct c l)]) (by rw[YB rfl];go_simp) rfl ?_;have O5:=f.trans (Jx.mono f.size);refine⟨_,_,_,_,_,_,_,_,_,_,_,_,_,_,_,_,_,_,by rw[HE.out],?_,HX.out⟩
  repeat (with_reducible first|exact O5|refine bA ?_|(refine bS ?_ o!)|refine bD ?_|refine bN ?_)
def Rc (h:RC S w v1 v2 v3 v4 v5 c)(hl:SI S w v6 l)(f:Ql6 S w)(a:BN c=0):
  Calls Lp 112 #[.agg #[v1,v2,v3,v4,v5],v6] w λe w'=>e=.returned (.tuple #[.agg #[v1,v2,v3,v4,v5,J .u8 (Ax c.Aa 0),J .u8 (Ax c.Aa 1),J .u8 (Ax c.Aa 2)],J I (Ct c l)])/\Bl w w':=
 (pF h hl f).mono λe w' ⟨n,m,k,j,i,p,o,n3,n4,n5,d1,d2,d3,d4,s,r,k1,q,d,g,b⟩=>⟨by rw[d,b a,Ca,BR a];rfl,g⟩
def K7 (m:Nat->Int)(n:Int)(p:Int×Int):Nat->Int:=λj=>if(j:Int)=p.1 then m j+p.2*n else m j
def CZ (m:Nat->Int)(n:Int):List (Int×Int)->Nat->Int
 | []=>m
 |p::r=>CZ (K7 m n p) n r
def Iw (m:Nat->Int):List (Int×Ay)->Nat->Int
 | []=>m
 |x::r=>Iw (CZ m x.1 x.2.Ap) r
def measure (c:A_)(l:List Int):Nat->Int:=Iw (λj=>nth c.base j) (l.zip c.Aa)
structure Fq (c:A_):Prop where
 Fp:1<=c.base.length/\c.base.length<=3
 base:∀i,i<c.base.length->1<=nth c.base i/\nth c.base i<=60
 PN:c.Af.length=c.base.length
 Af:∀i,i<c.Af.length->-9<=(BV c.Af i).1/\(BV c.Af i).2<=9/\(BV c.Af i).1<=(BV c.Af i).2
 hooks:c.hooks.length=c.base.length
 hook:∀i,i<c.hooks.length->0<=nth c.hooks i/\nth c.hooks i<=5
 few:1<=c.Aa.length/\c.Aa.length<=3
 step:∀i,i<c.Aa.length->-2<=(Aj c.Aa i).low/\(Aj c.Aa i).high<=2/\(Aj c.Aa i).low<=(Aj c.Aa i).high
 Ap:∀i,i<c.Aa.length->1<=(Aj c.Aa i).Ap.length/\(Aj c.Aa i).Ap.length<=2
 pull:∀i,i<c.Aa.length->∀k,k<(Aj c.Aa i).Ap.length->0<=(BV (Aj c.Aa i).Ap k).1/\(BV (Aj c.Aa i).Ap k).1<c.base.length/\-4<=(BV (Aj c.Aa i).Ap k).2/\(BV (Aj c.Aa i).Ap k).2<=4
 over:JO c.Aa
 left:∀i,i<c.Aa.length->0<=(Aj c.Aa i).left/\(Aj c.Aa i).left<=4
 ring:H0 c.Aa=true
 now:Ct c c.now=0
def T4 (m:Nat->Int):Array Zf:= #[J I (m 0),J I (m 1),J I (m 2)]
variable {m:Nat->Int}
def Gt (h:i<3):(T4 m)[i]?=some (J I (m i)):=by
 have:i=0\/i=1\/i=2:=o!
 rcases this with rfl|rfl|rfl<;>rfl
def pG (h:i<3)(n b:Int):(T4 m).setIfInBounds i (J I (m i+b*n))=T4 (K7 m n ((i:Int),b)):=by
 have:i=0\/i=1\/i=2:=o!
 rcases this with rfl|rfl|rfl<;>simp[T4,K7]
def pH (b:List Int)(c:1<=b.length)(a:b.length<=3):(([J I 0,J I 0,J I 0]:List Zf).take 0++(b.map (ZL I)++([J I 0,J I 0,J I 0]:List Zf).drop (0+(b.map (ZL I)).length))).toArray=T4 (λj=>nth b j):=by
 match b,c,a with
 | [x],_,_=>rfl
 | [x,y],_,_=>rfl
 | [x,y,z],_,_=>rfl
structure MW (w:Zb)(xs:Array Zf)(m:Nat->Int)(wr:Zb):Prop where
 below:Bl w wr
 box:wr.heap[w.heap.size]?=some (.cells xs 112 (0,0))
 res:wr.heap[w.heap.size+1]?=some (.cells #[J I 0,J I 0,J I 0] 150 (0,0))
 row:wr.heap[w.heap.size+1+1]?=some (.cells (T4 m) 150 (0,0))
def MW.alloc {wr:Zb}(h:MW w xs m wr)(o:Obj):MW w xs m (wr.alloc o):=⟨bA h.below,Bf h.box _,Bf h.res _,Bf h.row _⟩
def MW.drew {wr:Zb}(h:MW w xs m wr):MW w xs m wr.drew:=⟨h.below.drew,h.box,h.res,h.row⟩
def MW.set {wr:Zb}(h:MW w xs m wr)(hi:i<3)(n b:Int):MW w xs (K7 m n ((i:Int),b)) (wr.setCell ⟨w+1+1,i,none⟩ (J I (m i+b*n))):=
 ⟨bS h.below o!,(AZ o! _).trans h.box,(AZ o! _).trans h.res,by rw[<-pG hi];exact Ba h.row _⟩
def MW.ur {wr:Zb}(h:MW w xs m wr)(m':Nat->Int):MW w xs m' (wr.setRow (w+1+1) (T4 m')):=
 ⟨below_setRow h.below o! _,(setRow_other _ _ _ _ o!).trans h.box,(setRow_other _ _ _ _ o!).trans h.res,setRow_heap _ _ _ _ _ _ h.row⟩
def PO {n:Int}{l:List (Int×Int)}(h:k<l.length):CZ m n (l.drop k)=CZ (K7 m n (BV l k)) n (l.drop (k+1)):=by
 obtain⟨a,e⟩:=Zm.1 (EE h);rw[ZO a,e]
 rfl
def SR {s:List Ay}(c:k<l.length)(b:k<s.length):Iw m ((l.zip s).drop k)=Iw (CZ m (nth l k) (Aj s k).Ap) ((l.zip s).drop (k+1)):=by
 obtain⟨a,e⟩:=Zm.1 (Ra c b);rw[ZO a,e]
 rfl
variable {p:Int×Int}
def MO {n N:Int}(h:∀j,-N<=m j/\m j<=N)(hp: -4<=p.2/\p.2<=4)(a: -2<=n/\n<=2):∀j,-(N+8)<=K7 m n p j/\K7 m n p j<=N+8:=by
 intro j;have b:=h j;have: -8<=p.2*n/\p.2*n<=8:=by
  have:n= -2\/n= -1\/n=0\/n=1\/n=2:=o!
  rcases this with h|h|h|h|h<;>rw[h]<;>omega
 unfold K7;split<;>omega
def prod_bound {a n:Int}(hp: -4<=a/\a<=4)(b: -2<=n/\n<=2): -8<=a*n/\a*n<=8:=by
 have:n= -2\/n= -1\/n=0\/n=1\/n=2:=o!
 rcases this with h|h|h|h|h<;>rw[h]<;>omega
def uu (h:l.length<=i):nth l i=0:=by simp[nth,h]
def MP (a:Fq c):∀j,-60<=nth c.base j/\nth c.base j<=60:=by
 intro j;by_cases h:j<c.base.length
 .have:=a.base j h;omega
 rw[uu o!];omega
variable {ty e:Zs}
def A8 {fn:Func}{p:Tmp}(h:fn.results= #[.cell p ty])(tmps:Array Zf)(P:Zo)(w:Zb):
  (results fn tmps).run P w=((asAddr (tmps.getD p Ze)).run P w).andThen λa w₁=>(Zdd ty a).run P w₁:=by
 simp only[results,h];simp[zg,zu]
def ah4 (h:RC S w v1 v2 v3 v4 v5 c)(D:Fq c)(hl:SI S w v6 l)(hn:l.length<=c.Aa.length)(hb:∀i,i<l.length->-2<=nth l i/\nth l i<=2)(T:Ql6 S w)(C B z:Nat):
  Calls Lp 113 #[.agg #[v1,v2,v3,v4,v5,J .u8 C,J .u8 B,J .u8 z],v6] w λe w'=>e=.returned (.agg #[J I (measure c l 0),J I (measure c l 1),J I (measure c l 2)])/\Bl w w':=by
 obtain⟨a1,A,O,K,M,H,X,E,L,G,rfl,rfl,rfl,rfl,rfl,l1,m1,l2,m2,l3,m3,l4,m4,l5,m5⟩:=h.vs;obtain⟨a6,c6,rfl,l6,m6⟩:=hl.val;have IX:=DJ;obtain⟨tN,lZ⟩:=D.Fp;obtain⟨d,f,rfl,FD,kq⟩:=h.base.at_ (i:=0) o!;have ig:=T d FD;have HB:=Zd (fun(W:Zb) (hB:Bl w W) (j:Nat) (u:Zf) (F:(c.base.map (ZL I))[j]?=some u)=>show W.cell? ((⟨d,f,none⟩:Addr).add j)=some u by
  rw[YL]at F;cases hx:c.base[j]? with
  |none=>rw[hx]at F;cases F
  |some x=>
   rw[hx]at F;cases F;have Q:j<c.base.length:=(Zm.1 hx).1;obtain⟨b',o',e,_,hc⟩:=h.base.at_ Q;cases e;rw[show(⟨d,f,none⟩:Addr).add j=⟨d,f+j,none⟩ by unfold Zcu;split<;>simp_all,hB.cell (p:=⟨d,f+j,none⟩) ig,hc];have:=Bn Q;rw[hx]at this;cases this
   rfl)
 have HM:=Zd (show measure c l=Iw (λj=>nth c.base j) (l.zip c.Aa) from rfl);go_enter Lp.func113,anh;go_wp2;obtain⟨W3,Hv⟩:=Qnm ((((w.alloc (.cells #[U (some ⟨d,f,none⟩) c.base.length A,U O c.Af.length K,U M c.hooks.length H,U X c.Aa.length E,U L c.now.length G,J .u8 C,J .u8 B,J .u8 z] 112)).alloc (.cells #[J I 0,J I 0,J I 0] 150)).alloc (.cells #[J I 0,J I 0,J I 0] 150)));have r:MW w #[U (some ⟨d,f,none⟩) c.base.length A,U O c.Af.length K,U M c.hooks.length H,U X c.Aa.length E,U L c.now.length G,J .u8 C,J .u8 B,J .u8 z] (λ_=>0) W3:=by
  rw[Hv];refine⟨bA (bA (bA (Zh _ _))),Bf (Bf (Bp _ _) _) _,Bf (by have:=Bp (w.alloc (.cells #[U (some ⟨d,f,none⟩) c.base.length A,U O c.Af.length K,U M c.hooks.length H,U X c.Aa.length E,U L c.now.length G,J .u8 C,J .u8 B,J .u8 z] 112)) (.cells #[J I 0,J I 0,J I 0] 150);rwa[ZB]at this) _,by have:=Bp ((w.alloc (.cells #[U (some ⟨d,f,none⟩) c.base.length A,U O c.Af.length K,U M c.hooks.length H,U X c.Aa.length E,U L c.now.length G,J .u8 C,J .u8 B,J .u8 z] 112)).alloc (.cells #[J I 0,J I 0,J I 0] 150)) (.cells #[J I 0,J I 0,J I 0] 150);rwa[ZB,ZB]at this⟩
 have Qi:W3.cell? w=some (U (some ⟨d,f,none⟩) c.base.length A):=by
  exact ch r.box rfl
 rw[<-Hv];clear Hv;go_still_tail 4,k!;change wpList _ _ _ _ _ W3.drew;refine wpList_copy_own (P:=Lp) rfl (.tmp 10) (.tmp 13) 22 22 rfl 3 (Cz YE) k! (w+1+1) 0 3 3 ⟨d,f,none⟩ c.base.length A rfl rfl #[J I 0,J I 0,J I 0] 150 r.row (c.base.map (ZL I)) (by rw[List.length_map];exact(Nat.min_eq_left lZ).symm) (HB.out _ r.below.drew) j! (by intro v D;obtain⟨x,_,rfl⟩:=List.mem_map.1 D;rfl) ?_;rw[show(#[J I 0,J I 0,J I 0]:Array Zf).toList=[J I 0,J I 0,J I 0] from rfl,pH _ tN lZ];obtain⟨W4,ED⟩:=Qnm (W3.drew.setRow (w+1+1) (T4 λj=>nth c.base j));have V:=r.drew.ur (λj=>nth c.base j);rw[<-ED]at V⊢;clear ED r Qi HB;have an:=MP D;go_wp2;go_loopg [17] l.length (λg i wr=>∃(k:Nat) (m:Nat->Int),k<=l.length/\g=l.length - k/\i=.int I k/\Iw m ((l.zip c.Aa).drop k)=measure c l/\(∀j,-(60+16*k)<=m j/\m j<=60+16*k)/\MW w #[U (some ⟨d,f,none⟩) c.base.length A,U O c.Af.length K,U M c.hooks.length H,U X c.Aa.length E,U L c.now.length G,J .u8 C,J .u8 B,J .u8 z] m wr)
 case atStart=>exact⟨0,_,Zp _,rfl,rfl,rfl,λj=>by have:=an j;omega,V⟩
 obtain⟨k,m,hk,rfl,rfl,CP,am,a⟩:=hrel;have hf:=Zd CP;clear CP;by_cases Q:k<l.length
 .have Xm:k<c.Aa.length:=by omega
  have mr:=hb k Q;have hd:=Zd (SR (m:=m) Q Xm);obtain⟨b6,o6,rfl,Xj,xu⟩:=hl.at_ Q;rw[<-a.below.cell (p:=⟨b6,o6+k,none⟩) (T b6 Xj)]at xu;obtain⟨b,o,z,s3,rfl,UQ,ER,MM,LO,et,mi,hp,ho⟩:=h.Aa.at_ (i:=k) Xm;obtain⟨a7,c7,rfl,l7,m7⟩:=hp.val;rw[<-a.below.cell (p:=⟨b,o+k*5+2,none⟩) (T b UQ)]at LO;clear ER MM et mi;have Xa:=D.pull k Xm;have ai:=D.Ap k Xm;have Jm:=D.few;have g3:=ch (i:=3) a.box (v:=.slice (some ⟨b,o,none⟩) c.Aa.length E) rfl;have bi:=a.below.size;have Fl:w+1<wr.heap.size:=(Za.1 a.res).1;have DR:w+1+1<wr.heap.size:=(Za.1 a.row).1;obtain⟨n,Gc⟩:=Qnm (nth l k);rw[<-Gc]at xu mr hd;clear Gc;obtain⟨s,lP⟩:=Qnm ((Aj c.Aa k).Ap);rw[<-lP]at LO hp l7 Xa ai hd;clear lP;go_wp2;go_loopg [30] s.length (λg i wx=>∃(j:Nat) (t:Nat->Int),j<=s.length/\g=s.length - j/\i=.int I j/\CZ t n (s.drop j)=CZ m n s/\(∀i,-(60+16*(k:Int)+8*j)<=t i/\t i<=60+16*(k:Int)+8*j)/\MW w #[U (some ⟨d,f,none⟩) c.base.length A,U O c.Af.length K,U M c.hooks.length H,U (some ⟨b,o,none⟩) c.Aa.length E,U L c.now.length G,J .u8 C,J .u8 B,J .u8 z] t wx)
  case atStart=>exact⟨0,m,Zp _,rfl,rfl,rfl,λi=>by have:=am i;omega,a⟩
  obtain⟨j,t,F,rfl,rfl,CP,eA,Y⟩:=hrel;have MK:=Zd CP;clear CP;by_cases G4:j<s.length
  .obtain⟨b7,o7,rfl,U3,p1,p2⟩:=hp.at_ G4
   rw[<-Y.below.cell (p:=⟨b7,o7+j*2,none⟩) (T b7 U3)]at p1;rw[<-Y.below.cell (p:=⟨b7,o7+j*2+1,none⟩) (T b7 U3)]at p2;have R:=Zd (PO (m:=t) (n:=n) G4);obtain⟨Oo,MF,mC,mD⟩:=Xa j G4;obtain⟨q,hq⟩:=Qnm (BV s j);rw[<-hq]at p1 p2 R Oo MF mC mD;clear hq;obtain⟨x',y⟩:=q;obtain⟨x,rfl⟩:∃x:Nat,x'=x:=⟨x'.toNat,by simp only at Oo;omega⟩;dsimp only at p1 p2 Oo MF mC mD;have U4:x<3:=o!
   have be:(x:Int)<3:=o!
   have bv:=prod_bound ⟨mC,mD⟩ mr;have bV:=eA x;have eB:=Y.alloc (.cells #[J I x,J I y] 64);have EB:w+1+1<wr.heap.size:=(Za.1 Y.row).1;obtain⟨W5,Z⟩:=Qnm (wr.alloc (.cells #[J I x,J I y] 64));have e0:W5.cell? wr=some (J I x):=by rw[Z];exact cn _ _ _ rfl
   have e1:W5.cell? ⟨wr,1,none⟩=some (J I y):=by rw[Z];exact cn _ _ _ rfl
   rw[<-Z]at eB;have r0:W5.cell? ⟨w+1+1,x,none⟩=some (J I (t x)):=ch eB.row (Gt U4);have rf:=cf (i:=x) eB.row;go_wp2;rw[<-Z];clear Z;go_still_tail 10,k!;change wpList _ _ _ _ _ W5.drew;have ap:=eB.drew.set (i:=x) U4 n y;go_wp2;go_roundg (s.length - (j+1))
   case rel=>exact⟨j+1,K7 t n ((x:Int),y),o!,rfl,v!,by rw[<-MK.out,R.out],λi=>by have:=MO (N:=60+16*(k:Int)+8*j) (p:=((x:Int),y)) eA ⟨mC,mD⟩ mr i;omega,ap⟩
   omega
  have e2:t=CZ m n s:=by rw[<-MK.out,Z7.2 o!];rfl
  subst e2;go_wp2;go_roundg (l.length - (k+1))
  case rel=>exact⟨k+1,_,o!,rfl,v!,by rw[<-hf.out,hd.out],λi=>by have:=eA i;have:(j:Int)<=2:=o!;omega,Y⟩
  omega
 have e1:m=measure c l:=by rw[<-hf.out,Z7.2 j!];rfl
 subst e1;have g0:=ch (i:=0) a.row (v:=.int I (measure c l 0)) rfl;have g1:=ch (i:=1) a.row (v:=.int I (measure c l 1)) rfl;have g2:=ch (i:=2) a.row (v:=.int I (measure c l 2)) rfl;have f0:=cf (i:=0) a.res;have f1:=cf (i:=1) a.res;have f2:=cf (i:=2) a.res;have t0:=ch (i:=0) a.res (v:=.int I 0) rfl;have t1:=ch (i:=1) a.res (v:=.int I 0) rfl;have t2:=ch (i:=2) a.res (v:=.int I 0) rfl;have hB:=a.below;go_wp2;refine ZN (v:=.agg #[J I (measure c l 0),J I (measure c l 1),J I (measure c l 2)]) (by rw[A8 rfl];go_simp) rfl ?_;refine⟨rfl,?_⟩
 repeat (with_reducible first|exact hB|refine bA ?_|(refine bS ?_ o!)|refine bD ?_|refine bN ?_)
def Cb (n:Nat)(w:Zb)(b:Nat):Prop:=n<=b/\b<w
def U7 {base:Nat}{xs:List Zf}(h:w.ownsRow base e 1 v n xs):
  ∃a c,v=.slice a n c/\n<=c/\c<=maxLen/\∀i u,xs[i]?=some u->∃b,a=some ⟨b,0,none⟩/\Cb base w b/\w.cell? ⟨b,0+i*1+0,none⟩=some u:=by
 rcases h.2 with⟨rfl,rfl⟩|⟨g,cap,cur,rfl,j,f,m,l,o,k⟩
 .refine⟨none,0,rfl,Zj _,Zp _,λi u d=>?_⟩
  have:=h.1;have:xs=[]:=YM (by simpa using this);subst this;cases d
 refine⟨_,_,rfl,m,l,λi u d=>⟨g,rfl,⟨j,(Za.1 f).1⟩,?_⟩⟩;have hi:i<n:=by
  have:=(Zm.1 d).1;rw[h.1]at this;omega
 rw[<-k,Z2 o!]at d;rw[show 0+i*1+0=i by omega];exact ch f (by simpa using d)
def eC {base:Nat}(h:w.ownsRow base e 1 v l.length (l.map (ZL I))):SI (Cb base w) w v l:=by
 obtain⟨a,c,q,p,o,n⟩:=U7 h;refine⟨a,c,q,p,o,λi x f=>?_⟩;obtain⟨b,m,g,k⟩:=n i (J I x) (by rw[YL,f];rfl);refine⟨b,0,[J I x],m,g,rfl,λj u d=>?_,rfl⟩;cases j with
 |zero=>cases d;exact k
 |succ j=>cases d
def Cb.mono {m:Nat}(h:w<=w'.heap.size)(c:m<=n)(a:Cb n w b):Cb m w' b:=⟨Zr c a.1,Zl a.2 h⟩
def Bm {B:Nat}{b:Zb}{row:Option Nat}(h:YH B b w)(a:w.grownBy w' row)(c:∀k,row=some k->B<=k)(f:B<=w.heap.size):YH B b w':=
 h.trans ⟨a.os,a.tape,a.output,a.size,λk d=>a.block k (Zl d f) (λe=>absurd (c k e.symm) o!)⟩
def Fs (n:Nat)(s:List (Int×Int)):Int:=if s.length<n then 7 else if n<s.length then 6 else Bc (λp=>CV p 0 99) s
def abe {s:List (Int×Int)}(h:RC S w v1 v2 v3 v4 v5 c)(u:SP S w v6 s)(y:Ql6 S w)(t r q:Nat):Calls Lp 101 #[.agg #[v1,v2,v3,v4,v5,J .u8 t,J .u8 r,J .u8 q],v6] w λe w'=>e=.returned (J I (Fs c.base.length s))/\Bl w w':=by
 obtain⟨R,M,Q,L,P,K,O,H,N,G,rfl,rfl,rfl,rfl,rfl,l1,m1,l2,m2,l3,Z,l4,Y,l5,X⟩:=h.vs;obtain⟨a6,c6,rfl,l6,W⟩:=u.val;have IX:=DJ;have m:Bl w (w.alloc (.cells #[U R c.base.length M,U Q c.Af.length L,U P c.hooks.length K,U O c.Aa.length H,U N c.now.length G,J .u8 t,J .u8 r,J .u8 q] 112)):=(Zh _ _).alloc (Zj _) _;by_cases n:s.length<c.base.length
 .go_enter Lp.func101,ab5
  go_wp2;go_ret;exact⟨Bw (by rw[Fs,if_pos n]),m⟩
 by_cases z:c.base.length<s.length
 .go_enter Lp.func101,ab5
  go_wp2;go_ret;exact⟨Bw (by rw[Fs,if_neg n,if_pos z]),m⟩
 have A:=Zd (show Fs c.base.length s=Bc (λp=>CV p 0 99) s by rw[Fs,if_neg n,if_neg z]);go_enter Lp.func101,ab5;go_wp2;go_loopg [24] s.length (λg i wr=>∃k:Nat,k<=s.length/\g=s.length - k/\i=.int I k/\Bc (λp=>CV p 0 99) (s.drop k)=Bc (λp=>CV p 0 99) s/\Bl w wr)
 case atStart=>exact⟨0,Zp _,rfl,rfl,rfl,m⟩
 obtain⟨k,hk,rfl,rfl,B,a⟩:=hrel;have d:=Zd B;clear B;by_cases D:k<s.length
 .obtain⟨b,o,rfl,x,l,E⟩:=u.at_ D
  rw[<-a.cell (p:=⟨b,o+k*2,none⟩) (y b x)]at l;rw[<-a.cell (p:=⟨b,o+k*2+1,none⟩) (y b x)]at E;have v:=Zd (E_ (f:=λp=>CV p 0 99) (EE D));go_wp2_with (go_at_call 151;refine(ab7 _ _ _ _ _).mono ?_;rintro e w' ⟨rfl,C⟩)
  .have j:(CV (BV s k) 0 99 !=0)=true:=by assumption
   go_ret;have F:Bc (λp=>CV p 0 99) s=CV (BV s k) 0 99:=by rw[<-d.out,v.out,if_neg (Gr j)]
   exact⟨Bw (by rw[A.out,F]),(a.alloc a.size _).trans (C.mono (by simp;have:=a.size;omega))⟩
  have j:(CV (BV s k) 0 99 !=0)=false:=a!
  have V:Bl w w':=(a.alloc a.size _).trans (C.mono (by simp;have:=a.size;omega));go_roundg (s.length - (k+1))
  case rel=>exact⟨k+1,o!,rfl,v!,by rw[<-d.out,v.out,if_pos (FE j)],V⟩
  omega
 have T:=Zd (show Fs c.base.length s=0 by rw[A.out, <-d.out];exact FZ o!);clear d;go_wp2;go_ret;exact⟨Bw T.out.symm,a⟩
def JR (ab:Nat->Nat)(now:List Int):Nat->List Int->Nat->Nat
 |_,[],s=>s
 |i,n::r,s=>JR ab now (i+1) r (if n=nth now i then s else s|||Iv (ab i) i)
def Cx (ab:Nat->Nat)(now l:List Int):Nat:=JR ab now 0 l 0
def bz {now:List Int}(h:k<l.length):JR ab now k (l.drop k) s=JR ab now (k+1) (l.drop (k+1)) (if nth l k=nth now k then s else s|||Iv (ab k) k):=by
 obtain⟨a,e⟩:=Zm.1 (Bn h);rw[ZO a,e]
 rfl
def eD {now:List Int}(h:l.length<=k):JR ab now k (l.drop k) s=s:=by
 rw[Z7.2 h];rfl
def U8 {ab:Nat->Nat}{now:List Int}(a:∀i,i<3->ab i<8):∀(l:List Int) (k s:Nat),k+l.length<=3->s<8->JR ab now k l s<8
 | [],_,_,_,h=>h
 |n::r,k,s,b,h=>by
  have c:k+(r.length+1)<=3:=b;refine U8 a r (k+1) _ o! ?_;split
  .exact h
  exact eu h (Jl (a k o!) o!)
def U9 {now:List Int}(a:∀i,i<3->ab i<8)(hl:l.length<=3):Cx ab now l<8:=U8 a l 0 0 o! o!
def xv {a b:Int}(h:(a !=b)=false):a=b:=by simpa using h
def xw {a b:Int}(h:(a !=b)=true):a≠b:=by simpa using h
def anP (h:RC S w v1 v2 v3 v4 v5 c)(hl:SI S w v6 l)(hn:l.length<=c.now.length)(O:c.now.length<=3)(T:∀i,i<3->ab i<8)(K:Ql6 S w):
  Calls Lp 139 #[.agg #[v1,v2,v3,v4,v5,J .u8 (ab 0),J .u8 (ab 1),J .u8 (ab 2)],v6] w λe w'=>e=.returned (J .u8 (Cx ab c.now l))/\Bl w w':=by
 obtain⟨B,u,A,t,z,r,y,n,x,d,rfl,rfl,rfl,rfl,rfl,l1,m1,l2,m2,l3,m3,l4,m4,l5,m5⟩:=h.vs;obtain⟨a6,c6,rfl,l6,m6⟩:=hl.val;have IX:=DJ;have m:Bl w (w.alloc (.cells (AW (U B c.base.length u) (U A c.Af.length t) (U z c.hooks.length r) (U y c.Aa.length n) (U x c.now.length d) ab) 112)):=(Zh _ _).alloc (Zj _) _;have E:=Bp w (.cells (AW (U B c.base.length u) (U A c.Af.length t) (U z c.hooks.length r) (U y c.Aa.length n) (U x c.now.length d) ab) 112);have HE:=Zd (show Cx ab c.now l=JR ab c.now 0 (l.drop 0) 0 from rfl);obtain⟨W,D⟩:=Qnm ((w.alloc (.cells (AW (U B c.base.length u) (U A c.Af.length t) (U z c.hooks.length r) (U y c.Aa.length n) (U x c.now.length d) ab) 112)));rw[<-D]at m E;have X:=Zd D;clear D;go_enter Lp.func139,ano;go_wp2;rw[show(w.alloc (.cells #[U B c.base.length u,U A c.Af.length t,U z c.hooks.length r,U y c.Aa.length n,U x c.now.length d,J .u8 (ab 0),J .u8 (ab 1),J .u8 (ab 2)] 112))=W from X.out.symm];go_loopg [5,10] l.length (λg v i wr=>∃k s:Nat,k<=l.length/\g=l.length - k/\i=.int I k/\v=.int .u8 s/\s<8/\JR ab c.now k (l.drop k) s=Cx ab c.now l/\wr=W)
 case atStart=>exact⟨0,0,Zp _,rfl,rfl,rfl,o!,rfl,rfl⟩
 obtain⟨k,s,hk,rfl,rfl,rfl,C,M,rfl⟩:=hrel;have j:=Zd M;clear M;by_cases N:k<l.length
 .obtain⟨b,o,rfl,R,Q⟩:=hl.at_ N
  obtain⟨F,G,rfl,Y,V⟩:=h.now.at_ (i:=k) o!;rw[<-m.cell (p:=⟨b,o+k,none⟩) (K b R)]at Q;rw[<-m.cell (p:=⟨F,G+k,none⟩) (K F Y)]at V;have H:=Zd (bz (ab:=ab) (now:=c.now) (l:=l) (s:=s) N);have f:k<3:=o!
  have TB:(k:Int)<3:=o!
  have P:k<c.now.length:=o!
  have g4:=ch (i:=4) E (v:=.slice (some ⟨F,G,none⟩) c.now.length d) rfl;have gk:=ch E (HN f);have a:=T k f;go_wp2_with (go_at_call 123;refine(ab9 (ab k) k a f _).mono ?_;rintro e w' ⟨rfl,rfl⟩)
  .have q:(nth l k !=nth c.now k)=true:=by assumption
   rw[bt C (Jl a f)];go_roundg (l.length - (k+1))
   case rel=>exact⟨k+1,_,o!,rfl,v!,rfl,eu C (Jl a f),by rw[<-j.out,H.out,if_neg (xw q)],rfl⟩
   omega
  have q:(nth l k !=nth c.now k)=false:=a!
  go_roundg (l.length - (k+1))
  case rel=>exact⟨k+1,_,o!,rfl,v!,rfl,C,by rw[<-j.out,H.out,if_pos (xv q)],rfl⟩
  omega
 have L:s=Cx ab c.now l:=by rw[<-j.out,eD o!]
 have Z:=Zd L;clear j L;go_wp2;go_ret;exact⟨by rw[Z.out];rfl,m⟩
def FF (s n:Nat):List Int:=((Yr n).filter (hasB s)).map λi:Nat=>(i:Int)
def AB (s:Nat):List Int:=FF s 3
def eF (s n:Nat):FF s (n+1)=if hasB s n=true then FF s n++ [(n:Int)] else FF s n:=by
 unfold FF;rw[List.range_succ,ZcW];split
 .rename_i h;simp[h]
 rename_i h;simp[h]
def Jo (s n:Nat):(FF s n).length<=n:=by
 unfold FF;rw[List.length_map];exact Zr (Zac _ _) i!
def abf (t:s<8):Calls Lp 120 #[J .u8 s] w λe w'=>∃v,e=.returned v/\Bl w w'/\SI (Cb w w') w' v (AB s)/\(AB s=[]->v=.slice none 0 0):=by
 obtain⟨r,hi,B,D,C⟩:=zp KY;have c:=Cz YE;have z:=Zd (λk (d:k<3) w=>ab8 s k t d w);go_enter Lp.func120,ani;go_wp2;go_loopg [3,5] 3 (λg v i wr=>∃k:Nat,k<=3/\g=3 - k/\i=.int I k/\wr.ownsRow w 3 1 v (FF s k).length ((FF s k).map (ZL I))/\Bl w wr/\(FF s k=[]->v=.slice none 0 0))
 case atStart=>exact⟨0,Zp _,rfl,rfl,zq _ _ _ _,Zh _ _,λ_=>rfl⟩
 obtain⟨k,d,rfl,rfl,m,l,b⟩:=hrel;have x:=Jo s k;have N:=l.size;by_cases H:k<3
 .have L:(k:Int)<3:=by omega
  have o:=Zd (eF s k);go_wp2_with (first|(go_at_call 122;refine(z.out _ H _).mono ?_;rintro e w' ⟨rfl,rfl⟩)|(at_builtin;refine Yc _ rfl _ _ 22 rfl w 3 r (J I 0) 1 8 c (Dz hi) B D C rfl d! _ _ _ rfl (m.alloc _) ⟨_,0,none⟩ 1 1 [J I k] rfl rfl (by intro j u f;match j,f with|0,f=>(simp at f;subst f;simp[Zcu])) (by intro u c;simp at c;subst c;rfl) u! o! j! ?_;intro p w1 F K M))
  .have q:hasB s k=true:=by assumption
   have a:FF s (k+1)=FF s k++ [(k:Int)]:=by rw[o.out,if_pos q]
   have y:(w'.alloc (.cells #[J I k] 3)).grownBy w1 u3.ownBlock:=K;have G:Bl w w1:=Bm (bA l) y (λk d=>(m.lt k d).1) j!;have E:w1.ownsRow w 3 1 p (FF s (k+1)).length ((FF s (k+1)).map (ZL I)):=by
    rw[a];simpa using F
   go_roundg (3 - (k+1))
   case rel=>exact⟨k+1,o!,rfl,v!,E,G,λh=>absurd h (by rw[a];simp)⟩
   omega
  have q:hasB s k=false:=a!
  have a:FF s (k+1)=FF s k:=by rw[o.out,if_neg (by rw[q];decide)]
  go_roundg (3 - (k+1))
  case rel=>exact⟨k+1,o!,rfl,v!,by rw[a];exact m,l,by rw[a];exact b⟩
  omega
 have A:k=3:=o!
 subst A;have n:=eC m;go_wp2;go_ret;exact⟨_,rfl,l,n,b⟩
def anR (s:Nat)(b:s<8)(w:Zb):Calls Lp 162 #[J .u8 s] w λe w'=>e=.returned (J I (AB s).length)/\w'=w:=by
 have a:s=0\/s=1\/s=2\/s=3\/s=4\/s=5\/s=6\/s=7:=o!
 rcases a with rfl|rfl|rfl|rfl|rfl|rfl|rfl|rfl
 all_goals
  go_enter Lp.func162,anx;go_wp2;go_ret;exact⟨k!,rfl⟩
def anS (s:Nat)(a:s<8)(w:Zb):Calls Lp 136 #[J .u8 s] w λe w'=>e=.returned (J I (AB s).length)/\w'=w:=by
 go_enter Lp.func136,ann;go_wp2_with (go_at_call 162;refine(anR s a _).mono ?_;rintro e w' ⟨rfl,rfl⟩);go_ret;exact⟨rfl,rfl⟩
def JS {base:Nat}{size:Nat}{xs:List Zf}(h:w.ownsRow base e size v n xs):
  ∃a c,v=.slice a n c/\n<=c/\c<=maxLen/\∀j u,xs[j]?=some u->∃b,a=some ⟨b,0,none⟩/\Cb base w b/\w.cell? ⟨b,j,none⟩=some u:=by
 rcases h.2 with⟨rfl,rfl⟩|⟨g,cap,cur,rfl,k,f,o,m,p,l⟩
 .refine⟨none,0,rfl,Zj _,Zp _,λi u d=>?_⟩
  have:=h.1;have:xs=[]:=YM (by simpa using this);subst this;cases d
 refine⟨_,_,rfl,o,m,λi u d=>⟨g,rfl,⟨k,(Za.1 f).1⟩,?_⟩⟩;have hi:i<n*size:=by
  have:=(Zm.1 d).1;rw[h.1]at this;omega
 rw[<-l,Z2 o!]at d;exact ch f (by simpa using d)
section
variable {α:Type}{S:Nat->Prop}{R R':Zb->List Zf->α->Prop}{k:Nat}{w w':Zb}{v:Zf}{l:List α}
def ij {k:Nat}(hi:i<n)(a:j<k):i*k+j<n*k:=by
 have:(i+1)*k<=n*k:=Zd8 k hi;rw[Nat.add_mul]at this;omega
def Sl.row {a:Option Addr}{c:Nat}(h:Sl S R k w (U a l.length c) l)(t:0<k)(g:Addr)(v:a=some g):
  ∃news:List Zf,news.length=l.length*k/\(∀i x,l[i]?=some x->R w ((news.drop (i*k)).take k) x)/\∀j u,news[j]?=some u->w.cell? (g.add j)=some u:=by
 obtain⟨E,D,z,C,B,p⟩:=h;cases z;subst v;refine⟨(Yr (l.length*k)).map λj=>(w.cell? (g.add j)).getD Ze,i!,λi x m=>?_,λj u r=>?_⟩
 .obtain⟨b,o,cs,e,_,s,f,n⟩:=p i x m
  cases e;have hi:=(Zm.1 m).1;refine Eq.mpr (congrArg (λy=>R w y x) (?_:_=cs)) n;apply YA;intro j;by_cases d:j<k
  .rw[Z2 d,Yl,YL,List.getElem?_range (ij hi d)]
   have:cs[j]?=some (cs[j]' o!):=zf _;rw[this];have:=f j _ this;show some ((w.cell? ((⟨b,o,none⟩:Addr).add (i*k+j))).getD Ze)=_;rw[show(⟨b,o,none⟩:Addr).add (i*k+j)=⟨b,o+i*k+j,none⟩ by rw[ZbZ];unfold Zcu;split<;>simp_all,this]
   rfl
  rw[ZP j!,ZP o!]
 obtain⟨d,rfl⟩:=Zm.1 r;simp only[List.length_map,List.length_range]at d;have hi:j / k<l.length:=Zd9 (by rwa[ZcR]);obtain⟨b,o,cs,e,_,s,f,n⟩:=p (j / k) _ (zf hi);cases e;have A:=Nat.mod_lt j t;have:=f (j % k) _ (zf o!);have q:j / k*k+j % k=j:=by rw[ZcR];exact Nat.div_add_mod j k
 rw[ZbZ,q]at this;simp only[List.getElem_map,List.getElem_range];rw[show(⟨b,o,none⟩:Addr).add j=⟨b,o+j,none⟩ by unfold Zcu;split<;>simp_all,this]
 rfl
def O6 {base:Nat}{xs:List Zf}(C:0<k)(h:w.ownsRow base e k v l.length xs)(s:∀i x,l[i]?=some x->R w ((xs.drop (i*k)).take k) x):Sl (Cb base w) R k w v l:=by
 obtain⟨a,c,z,y,t,n⟩:=JS h;refine⟨a,c,z,y,t,λi x f=>?_⟩;have hi:=(Zm.1 f).1;have B:=h.1;have d:((xs.drop (i*k)).take k).length=k:=by
  have:(i+1)*k<=l.length*k:=Zd8 k hi;rw[Nat.add_mul]at this;simp;omega
 have o:∀j u,((xs.drop (i*k)).take k)[j]?=some u->xs[i*k+j]?=some u:=λj u g=>by
  have A:j<k:=by have:=(Zm.1 g).1;omega
  rwa[Z2 A,Yl]at g
 obtain⟨b,m,r,_⟩:=n (i*k+0) _ (o 0 _ (zf o!));refine⟨b,0,_,m,r,d,λj u q=>?_,s i x f⟩;obtain⟨E,p,_,D⟩:=n _ _ (o j u q);rw[m]at p;cases p;rwa[zN]
def pI (R:Zb->List Zf->α->Prop):Prop:=∀w cs x,R w cs x->∀u∈cs,u.oneCell'=true
def row_one {news:List Zf}(f:0<k)(d:news.length=l.length*k)(h:∀i x,l[i]?=some x->R w ((news.drop (i*k)).take k) x)(g:pI R):∀u∈news,u.oneCell'=true:=by
 intro u c;obtain⟨j,a,rfl⟩:=Zas c;have hi:j / k<l.length:=Zd9 (by rw[ZcR, <-d];exact a);refine g _ _ _ (h (j / k) _ (zf hi)) _ ?_;have e:=Nat.mod_lt j f;have b:j / k*k+j % k=j:=by rw[ZcR];exact Nat.div_add_mod j k
 refine Z3 (i:=j % k) ?_;rw[Z2 e,Yl,b];exact zf a
end
def pJ:pI Ri:=λ_ _ _ h u a=>by unfold Ri at h;subst h;simp at a;subst a;rfl
def bC:pI Rp:=λ_ _ _ h u a=>by unfold Rp at h;subst h;simp at a;rcases a with rfl|rfl<;>rfl
def ah8:pI (Rs S):=λ_ _ _ h u a=>by
 obtain⟨v2,v3,rfl,c,b⟩:=h;obtain⟨g,e,rfl,_⟩:=c.val;obtain⟨f,d,rfl,_⟩:=b.val;simp at a;rcases a with rfl|rfl|rfl|rfl|rfl<;>rfl
def eH {a:Type}(R:Zb->List Zf->a->Prop)(k:Nat)(w:Zb)(l:List a)(e:Ending)(w':Zb):Prop:=∃b,e=.returned b/\Bl w w'/\Sl (Cb w w') R k w' b l
def Wu:(Tryz.prog.info? 80).map (λi=>(i.zero,i.size,i.bytes))=some (some (.agg #[J I 0,J I 0]),2,16):=k!
def Wv:(Tryz.prog.info? 64).map (λi=>(i.zero,i.size,i.bytes))=some (some (.agg #[J I 0,J I 0]),2,16):=k!
def eI:(Tryz.prog.info? 62).map (λi=>(i.zero,i.size,i.bytes))=some (some (.agg #[J I 0,J I 0,(),(),J I 0]),5,72):=k!
def kt (h:Sl S Ri 1 w v l)(z:l.length<=1000):Calls Lp 106 #[v] w (eH Ri 1 w l):=by
 obtain⟨a,c,rfl,X,W⟩:=h.val;obtain⟨F,hi,R,V,T⟩:=zp KY;have t:=Cz YE;have E:∀(w:Zb) (a:Option Addr) (n c g f:Nat),(binOp .eql 22 (U a n c) (U none g f)).run Lp w=.ok (.bool a.isNone) w:=λw a n c g f=>ZaO w _ _ a n c g f t;cases a with
 |none=>
  have G:l=[]:=by
   cases l with
   |nil=>rfl
   |cons x r=>
    obtain⟨Y,f,q,_,_,M⟩:=h;cases q;obtain⟨b,o,cs,e,_⟩:=M 0 x rfl;cases e
  subst G;go_enter Lp.func106,uj;go_wp2;go_ret;exact⟨_,rfl,Zh _ _,none,0,rfl,Zj _,Zp _,λi x m=>by cases m⟩
 |some B=>
  obtain⟨d,y,p,A⟩:=Sl.row h d! B rfl;have q:=row_one d! y p pJ;have P:=Zd A;have O:=Zd p;clear A p;go_enter Lp.func106,uj;go_wp2_with (at_builtin;refine Yc _ rfl _ _ 22 rfl w 3 F (J I 0) 1 8 t (Dz hi) R V T rfl d! _ 0 [] rfl (YC w #[] 0 (Zj _) (Zp _) rfl) B l.length c d rfl y (λj u K=>ca (P.out j u K) _) q u! o! i! ?_;intro D w1 s C Q);have L:Bl w w1:=Bm (bA (Zh _ _)) C (λk H=>by cases H;exact Zj _) i!;have N:Sl (Cb w w1) Ri 1 w1 D l:=O6 d! (by rw[zN,zP]at s;exact s) (λi x m=>O.out i x m);clear s C Q;go_ret;exact⟨_,rfl,L,N⟩
def anT {l:List (Int×Int)}(h:Sl S Rp 2 w v l)(z:l.length<=1000):Calls Lp 166 #[v] w (eH Rp 2 w l):=by
 obtain⟨a,c,rfl,X,W⟩:=h.val;obtain⟨F,hi,R,V,T⟩:=zp Wu;have t:=Cz Zdg;have E:∀(w:Zb) (a:Option Addr) (n c g f:Nat),(binOp .eql 23 (U a n c) (U none g f)).run Lp w=.ok (.bool a.isNone) w:=λw a n c g f=>ZaO w _ _ a n c g f t;cases a with
 |none=>
  have G:l=[]:=by
   cases l with
   |nil=>rfl
   |cons x r=>
    obtain⟨Y,f,q,_,_,M⟩:=h;cases q;obtain⟨b,o,cs,e,_⟩:=M 0 x rfl;cases e
  subst G;go_enter Lp.func166,agS;go_wp2;go_ret;exact⟨_,rfl,Zh _ _,none,0,rfl,Zj _,Zp _,λi x m=>by cases m⟩
 |some B=>
  obtain⟨d,y,p,A⟩:=Sl.row h d! B rfl;have q:=row_one d! y p bC;have P:=Zd A;have O:=Zd p;clear A p;go_enter Lp.func166,agS;go_wp2_with (at_builtin;refine Yc _ rfl _ _ 23 rfl w 80 F (.agg #[J I 0,J I 0]) 2 16 t (Dz hi) R V T rfl d! _ 0 [] rfl (YC w #[] 0 (Zj _) (Zp _) rfl) B l.length c d rfl y (λj u K=>ca (P.out j u K) _) q u! o! i! ?_;intro D w1 s C Q);have L:Bl w w1:=Bm (bA (Zh _ _)) C (λk H=>by cases H;exact Zj _) i!;have N:Sl (Cb w w1) Rp 2 w1 D l:=O6 d! (by rw[zN,zP]at s;exact s) (λi x m=>O.out i x m);clear s C Q;go_ret;exact⟨_,rfl,L,N⟩
def anU {l:List (Int×Int)}(h:Sl S Rp 2 w v l)(z:l.length<=1000):Calls Lp 168 #[v] w (eH Rp 2 w l):=by
 obtain⟨a,c,rfl,X,W⟩:=h.val;obtain⟨F,hi,R,V,T⟩:=zp Wv;have t:=Cz Zcz;have E:∀(w:Zb) (a:Option Addr) (n c g f:Nat),(binOp .eql 60 (U a n c) (U none g f)).run Lp w=.ok (.bool a.isNone) w:=λw a n c g f=>ZaO w _ _ a n c g f t;cases a with
 |none=>
  have G:l=[]:=by
   cases l with
   |nil=>rfl
   |cons x r=>
    obtain⟨Y,f,q,_,_,M⟩:=h;cases q;obtain⟨b,o,cs,e,_⟩:=M 0 x rfl;cases e
  subst G;go_enter Lp.func168,agT;go_wp2;go_ret;exact⟨_,rfl,Zh _ _,none,0,rfl,Zj _,Zp _,λi x m=>by cases m⟩
 |some B=>
  obtain⟨d,y,p,A⟩:=Sl.row h d! B rfl;have q:=row_one d! y p bC;have P:=Zd A;have O:=Zd p;clear A p;go_enter Lp.func168,agT;go_wp2_with (at_builtin;refine Yc _ rfl _ _ 60 rfl w 64 F (.agg #[J I 0,J I 0]) 2 16 t (Dz hi) R V T rfl d! _ 0 [] rfl (YC w #[] 0 (Zj _) (Zp _) rfl) B l.length c d rfl y (λj u K=>ca (P.out j u K) _) q u! o! i! ?_;intro D w1 s C Q);have L:Bl w w1:=Bm (bA (Zh _ _)) C (λk H=>by cases H;exact Zj _) i!;have N:Sl (Cb w w1) Rp 2 w1 D l:=O6 d! (by rw[zN,zP]at s;exact s) (λi x m=>O.out i x m);clear s C Q;go_ret;exact⟨_,rfl,L,N⟩
def ku (S:Nat->Prop)(w:Zb)(l:List Ay)(c:Ending)(w':Zb):Prop:=∃b a,c=.returned b/\Bl w w'/\w'.ownsRow w 62 5 b l.length a/\∀(i:Nat) (x:Ay),l[i]?=some x->Rs S w ((a.drop (i*5)).take 5) x
def ah9 {l:List Ay}(h:Sl S (Rs S) 5 w v l)(y:l.length<=1000)(O:0<l.length):Calls Lp 167 #[v] w (ku S w l):=by
 obtain⟨a,c,rfl,W,V⟩:=h.val;obtain⟨C,hi,P,R,Q⟩:=zp eI;have s:=Cz Tryz.underlying24;have B:∀(w:Zb) (a:Option Addr) (n c m f:Nat),(binOp .eql 24 (U a n c) (U none m f)).run Lp w=.ok (.bool a.isNone) w:=λw a n c m f=>ZaO w _ _ a n c m f s;obtain⟨g,rfl⟩:∃g,a=some g:=by
  obtain⟨X,f,q,_,_,K⟩:=h;cases q;obtain⟨b,o,cs,e,_⟩:=K 0 _ (zf O);exact⟨_,e⟩
 obtain⟨d,t,p,z⟩:=Sl.row h d! g rfl;have q:=row_one d! t p ah8;have M:=Zd z;have L:=Zd p;clear z p;go_enter Lp.func167,anz;go_wp2_with (at_builtin;refine Yc _ rfl _ _ 24 rfl w 62 C (.agg #[J I 0,J I 0,(),(),J I 0]) 5 72 s (Dz hi) P R Q rfl d! _ 0 [] rfl (YC w #[] 0 (Zj _) (Zp _) rfl) g l.length c d rfl t (λj u F=>ca (M.out j u F) _) q u! o! i! ?_;intro T w1 r A N);have H:Bl w w1:=Bm (bA (Zh _ _)) A (λk E=>by cases E;exact Zj _) i!;rw[zN,zP]at r;have G:=Zd r;clear r A N;go_ret;exact⟨_,d,rfl,H,G.out,λi x D=>L.out i x D⟩
def SU (c:A_)(i:Int):Bool:=decide ((Aj c.Aa i.toNat).left<1)
def JU (c:A_)(t:Nat):Option Int:=(AB t).find? (SU c)
def uv (t:Nat):Option Int->Zf
 |some i=>.tuple #[J .u8 0,.iface 121 (.agg #[J I i])]
 |none=>.tuple #[J .u8 t,.nilIface]
def U_ {f:Int->Bool}(h:k<l.length):(l.drop k).find? f=if f (nth l k)=true then some (nth l k) else(l.drop (k+1)).find? f:=by
 obtain⟨a,e⟩:=Zm.1 (Bn h);rw[ZO a,e,List.find?_cons];cases f (nth l k)<;>simp
def Rd (h:k<l.length):nth l k∈l:=Z3 (Bn h)
def c90 (h:RC S w v1 v2 v3 v4 v5 c)(hl:SI S w v6 l)(V:l.length<=c.now.length)(n:c.now.length<=3)(F:∀i,i<3->ab i<8)(D:∀x,x∈AB (Cx ab c.now l)->0<=x/\x<c.Aa.length)(G:Ql6 S w):
  Calls Lp 90 #[.agg #[v1,v2,v3,v4,v5,J .u8 (ab 0),J .u8 (ab 1),J .u8 (ab 2)],v6] w λe w'=>e=.returned (uv (Cx ab c.now l) (JU c (Cx ab c.now l)))/\Bl w w':=by
 obtain⟨a1,c1,a2,c2,a3,c3,L,H,a5,c5,rfl,rfl,rfl,rfl,rfl,l1,m1,l2,m2,l3,m3,l4,m4,l5,m5⟩:=h.vs;obtain⟨a6,c6,rfl,l6,m6⟩:=hl.val;have IX:=DJ;have z:Bl w (w.alloc (.cells #[U a1 c.base.length c1,U a2 c.Af.length c2,U a3 c.hooks.length c3,U L c.Aa.length H,U a5 c.now.length c5,J .u8 (ab 0),J .u8 (ab 1),J .u8 (ab 2)] 112)):=(Zh _ _).alloc (Zj _) _;have B:=U9 (now:=c.now) (l:=l) F o!;have u:=Zd (λW s=>anP (w:=W) (h.later s) (hl.later s) V n F (A3 G s));obtain⟨t,m⟩:=Qnm (Cx ab c.now l);rw[<-m]at D B⊢;have HT:=Zd m;clear m;have HE:=Zd (show JU c t=((AB t).drop 0).find? (SU c) from rfl);have X:(AB t).length<=3:=Jo t 3;go_enter Lp.func90,n90;go_wp2_with (first|(go_at_call 139;refine(u.out _ z).mono ?_;rintro e w1 ⟨rfl,P⟩;rw[<-HT.out])|(go_at_call 120;refine(abf B).mono ?_;rintro e w2 ⟨v,rfl,Bv,E,j⟩;have N:=P.trans (Bv.mono P.size);obtain⟨M,MK⟩:=E7 N;clear j;obtain⟨a7,c7,rfl,l7,m7⟩:=E.val));have y:=z.trans (N.mono z.size);have Y:w2.cell? ⟨w,3,none⟩=some (U L c.Aa.length H):=by rw[M _ _ i!];exact cn _ _ _ rfl
 clear M MK;go_loopg [15] (AB t).length (λg i wr=>∃k:Nat,k<=(AB t).length/\g=(AB t).length - k/\i=.int I k/\((AB t).drop k).find? (SU c)=JU c t/\wr=w2)
 case atStart=>exact⟨0,Zp _,rfl,rfl,rfl,rfl⟩
 obtain⟨k,hk,rfl,rfl,O,rfl⟩:=hrel;have a:=Zd O;clear O;by_cases A:k<(AB t).length
 .obtain⟨b,o,rfl,hb,Z⟩:=E.at_ A
  have r:=Zd (U_ (f:=SU c) A);obtain⟨Oo,MF⟩:=D _ (Rd A);obtain⟨x,C⟩:∃x:Nat,nth (AB t) k=x:=⟨(nth (AB t) k).toNat,o!⟩;rw[C]at Z r MF Oo;clear C;have Q:x<c.Aa.length:=o!
  obtain⟨K,R,s2,s3,rfl,G1,_,_,_,_,T,_,_⟩:=h.Aa.at_ (i:=x) Q;rw[<-y.cell (p:=⟨K,R+x*5+4,none⟩) (G K G1)]at T;go_wp2
  .have q:(Aj c.Aa x).left<1:=by assumption
   have d:JU c t=some (x:Int):=by rw[<-a.out,r.out,if_pos (by simpa[SU]using q)]
   go_ret2;exact⟨by rw[d];rfl,y⟩
  have q:1<=(Aj c.Aa x).left:=a!
  go_roundg ((AB t).length - (k+1))
  case rel=>exact⟨k+1,o!,rfl,v!,by rw[<-a.out,r.out,if_neg (by simp[SU];omega)],rfl⟩
  omega
 have d:JU c t=none:=by rw[<-a.out,Z7.2 o!];rfl
 have E1:=Zd d;clear a d;go_wp2;go_ret2;exact⟨by rw[E1.out];rfl,y⟩
structure Cp where
 obs:Array Obj
 dr:Nat
instance:Nonempty Cp:=⟨⟨#[],0⟩⟩
def calm (w:Zb)(p:Cp):Zb:= {w with heap:=w.heap++p.obs,drawn:=p.dr}
def AL (h:Bl w W):∃p,W=calm w p:=by
 refine⟨⟨W.heap.extract w W,W.drawn⟩,?_⟩;obtain⟨g,f,e,j,d⟩:=h;cases W with
 |mk a c b k output=>
  simp only at g f e j d;subst g f e;have:a=w.heap++a.extract w a.size:=by
   apply Zec;intro i;by_cases hi:i<w
   .rw[zr hi,d i hi]
   rw[Zan o!,Zd4];split
   .rw[show w.heap.size+(i - w.heap.size)=i by omega]
   rw[YR o!]
  unfold calm;simp only;rw[<-this]
def AE (w:Zb)(p:Cp):Bl w (calm w p):=
 ⟨rfl,rfl,rfl,by simp[calm],λk a=>by simp[calm,zr a]⟩
def Al (p:Cp){a:Addr}(h:w.cell? a=some v):(calm w p).cell? a=some v:=
 ((AE w p).cell (ZH w _ h)).trans h
def Qz5 {b:Nat}{w:Zb}{t:Zs}{f:Nat×Nat}{p q r s u:Zf}(h:w.heap[b]?=some (.cells #[p,q,r,s,u] t f)):(∀z,(calm w z).cell? b=some p)/\(∀z,(calm w z).cell? ⟨b,1,none⟩=some q)/\(∀z,(calm w z).cell? ⟨b,2,none⟩=some r)/\(∀z,(calm w z).cell? ⟨b,3,none⟩=some s)/\(∀z,(calm w z).cell? ⟨b,4,none⟩=some u):=⟨λz=>Al z (ch h rfl),λz=>Al z (ch h rfl),λz=>Al z (ch h rfl),λz=>Al z (ch h rfl),λz=>Al z (ch h rfl)⟩
def Qy5 {V Y:Zb}{e d c b a:Addr}{p q r s u:Zf}(h:∀ {p:Addr} {v:Zf},V.cell? p=some v->Y.cell? p=some v)(k:V.cell? e=some p)(j:V.cell? d=some q)(i:V.cell? c=some r)(g:V.cell? b=some s)(f:V.cell? a=some u):(∀z,(calm Y z).cell? e=some p)/\(∀z,(calm Y z).cell? d=some q)/\(∀z,(calm Y z).cell? c=some r)/\(∀z,(calm Y z).cell? b=some s)/\(∀z,(calm Y z).cell? a=some u):=⟨λz=>Al z (h k),λz=>Al z (h j),λz=>Al z (h i),λz=>Al z (h g),λz=>Al z (h f)⟩
variable {P:Zo}
variable {a:Act}
def Av {id:Nat}{Q:Exit->Act->Zb->Prop}{l:List Oper}(b:P.follows .mixedOrders=true)(c:Region.lexB .any l.toArray=true)
 (h:wpQuiet P l.toArray (λw'=>∃p,w'=calm w p) (λa'=>∀w',(∃p,w'=calm w p)->Q .normal a' w') l a):(zU id l.toArray true).wp P Q a w:=
 wp_region_quiet (C:=λw'=>∃p,w'=calm w p) b c ⟨⟨#[],w.drawn+1⟩,by simp[calm]⟩ (by simpa using h)
variable {f:ZaQ}
def AV {p:Cp}(h:Calls P f args (calm w p) λe w'=>e=.returned v/\YH (calm w p).heap.size (calm w p) w'):
  Calls P f args (calm w p) λe c=>e=.returned v/\∃q,c=calm w q:=
 h.mono λ_ _ ⟨a,b⟩=>⟨a,AL ((AE w p).trans (b.mono (AE w p).size))⟩
structure FW (w:Zb)(n1:Nat)(xs:Array Zf)(m:Nat->Int)(wr:Zb):Prop where
 below:Bl w wr
 box:wr.heap[w.heap.size]?=some (.cells xs 112 (0,0))
 row:wr.heap[n1]?=some (.cells (T4 m) 150 (0,0))
def FW.later {wr:Zb}{b:Nat}(h:FW w b xs m wr)(a:Bl wr W):FW w b xs m W:=
 ⟨h.below.trans (a.mono h.below.size),(a.block _ (Za.1 h.box).1).trans h.box,(a.block _ (Za.1 h.row).1).trans h.row⟩
def Gu (hook m b:Int)(p:Int×Int):Bool:=(decide (0<hook)&&Iu (m - hook - b) p)||Iu (m - b) p
def NV (hook m:Int)(p:Int×Int):Nat->Int->Bool
 |0,_=>true
 |n+1,b=>Gu hook m b p&&NV hook m p n (b+1)
def F0 (hook m:Int)(p r:Int×Int):Bool:=NV hook m p (r.2+1 - r.1).toNat r.1
def SV (c:A_)(m:Nat->Int):Nat->List (Int×Int)->Bool
 |_,[]=>true
 |i,r::s=>F0 (nth c.hooks i) (m i) (BV c.Af i) r&&SV c m (i+1) s
def BZ (c:A_)(l:List Int)(s:List (Int×Int)):Bool:=SV c (measure c l) 0 s
def SW {s:List (Int×Int)}(h:k<s.length):SV c m k (s.drop k)=(F0 (nth c.hooks k) (m k) (BV c.Af k) (BV s k)&&SV c m (k+1) (s.drop (k+1))):=by
 obtain⟨a,e⟩:=Zm.1 (EE h);rw[ZO a,e]
 rfl
def SX {m:Int}{b e:Int}(h:b<=e):NV hook m p (e+1 - b).toNat b=(Gu hook m b p&&NV hook m p (e+1 - (b+1)).toNat (b+1)):=by
 rw[show(e+1 - b).toNat=(e+1 - (b+1)).toNat+1 by omega]
 rfl
def U' {m:Int}{b e:Int}(h:e<b):NV hook m p (e+1 - b).toNat b=true:=by
 rw[show(e+1 - b).toNat=0 by omega]
 rfl
def NW {n:Int}(b: -2<=n/\n<=2):∀(l:List (Int×Int)) (m:Nat->Int) (N:Int),(∀p∈l,-4<=p.2/\p.2<=4)->(∀j,-N<=m j/\m j<=N)->∀j,-(N+8*l.length)<=CZ m n l j/\CZ m n l j<=N+8*l.length
 | [],m,N,_,h=>λj=>by have:=h j;simpa[CZ,Iw]using this
 |p::r,m,N,a,h=>λj=>by
  have d:=MO (p:=p) h (a p (zC ..)) b;have f:=NW b r (K7 m n p) (N+8) (λq c=>a q (zm _ c)) d j;have e:((p::r).length:Int)=r.length+1:=i!
  rw[e];show -_<=CZ (K7 m n p) n r j/\CZ (K7 m n p) n r j<=_;omega
def PQ:∀(l:List (Int×Ay)) (m:Nat->Int) (N:Int),(∀x∈l,(-2<=x.1/\x.1<=2)/\x.2.Ap.length<=2/\∀p∈x.2.Ap,-4<=p.2/\p.2<=4)->(∀j,-N<=m j/\m j<=N)->∀j,-(N+16*l.length)<=Iw m l j/\Iw m l j<=N+16*l.length
 | [],m,N,_,h=>λj=>by have:=h j;simpa[CZ,Iw]using this
 |x::r,m,N,a,h=>λj=>by
  obtain⟨g,k,f⟩:=a x (zC ..);have d:=NW g x.2.Ap m N f h;have c:∀j,-(N+16)<=CZ m x.1 x.2.Ap j/\CZ m x.1 x.2.Ap j<=N+16:=λj=>by have:=d j;omega
  have i:=PQ r (CZ m x.1 x.2.Ap) (N+16) (λq b=>a q (zm _ b)) c j;have e:((x::r).length:Int)=r.length+1:=i!
  rw[e];show -_<=Iw (CZ m x.1 x.2.Ap) r j/\Iw (CZ m x.1 x.2.Ap) r j<=_;omega
def pL {l:List (Int×Int)}(h:p∈l):∃k,k<l.length/\BV l k=p:=by
 obtain⟨k,a,e⟩:=Zas h;exact⟨k,a,by simp[BV,a,e]⟩
def ik {p:Int}(h:p∈l):∃k,k<l.length/\nth l k=p:=by
 obtain⟨k,a,e⟩:=Zas h;exact⟨k,a,by simp[nth,a,e]⟩
def bE {l:List Ay}{p:Ay}(h:p∈l):∃k,k<l.length/\Aj l k=p:=by
 obtain⟨k,a,e⟩:=Zas h;exact⟨k,a,by simp[Aj,a,e]⟩
def Md (d:Fq c)(u:l.length<=c.Aa.length)(r:∀i,i<l.length->-2<=nth l i/\nth l i<=2):∀j,-108<=measure c l j/\measure c l j<=108:=by
 intro j;have v:=PQ (l.zip c.Aa) (λj=>nth c.base j) 60 (λx m=>by
  obtain⟨g,s⟩:=List.of_mem_zip (a:=x.1) (b:=x.2) m;obtain⟨k,o,e⟩:=ik g;obtain⟨i,hi,h⟩:=bE s;refine⟨by rw[<-e];exact r k o,by rw[<-h];exact(d.Ap i hi).2,λp f=>?_⟩;rw[<-h]at f;obtain⟨q,n,t⟩:=pL f;have:=d.pull i hi q n;rw[t]at this;omega) (MP d) j
 have g:(l.zip c.Aa).length<=3:=by
  have:=d.few;simp only[List.length_zip];omega
 unfold measure;omega
def aha {s:List (Int×Int)}(h:RC S w v1 v2 v3 v4 v5 c)(Y:Fq c)(hl:SI S w v6 l)(hs:SP S w v7 s)(hn:l.length<=c.Aa.length)(hb:∀i,i<l.length->-2<=nth l i/\nth l i<=2)
 (fd:s.length<=c.base.length) (il:∀i,i<s.length->0<=(BV s i).1/\(BV s i).1<=99/\0<=(BV s i).2/\(BV s i).2<=99) (t:Ql6 S w) (s0 s1 s2:Nat):
  Calls Lp 126 #[.agg #[v1,v2,v3,v4,v5,J .u8 s0,J .u8 s1,J .u8 s2],v6,v7] w λe w'=>e=.returned (.bool (BZ c l s))/\Bl w w':=by
 have Gv:∀j,-108<=measure c l j/\measure c l j<=108:=Md Y hn hb;obtain⟨a1,c1,a2,M,a3,c3,a4,c4,a5,c5,rfl,rfl,rfl,rfl,rfl,l1,m1,l2,m2,l3,m3,l4,m4,l5,m5⟩:=h.vs;obtain⟨a6,c6,rfl,l6,m6⟩:=hl.val;obtain⟨a7,c7,rfl,l7,m7⟩:=hs.val;have IX:=DJ;have Bg:Bl w (w.alloc (.cells #[U a1 c.base.length c1,U a2 c.Af.length M,U a3 c.hooks.length c3,U a4 c.Aa.length c4,U a5 c.now.length c5,J .u8 s0,J .u8 s1,J .u8 s2] 112)):=(Zh _ _).alloc (Zj _) _;have kz:=Zd (λW hB=>ah4 (w:=W) (h.later hB) Y (hl.later hB) hn hb (A3 t hB) s0 s1 s2);obtain⟨m,hm⟩:=Qnm (measure c l);have HE:=Zd (show BZ c l s=SV c m 0 (s.drop 0) by rw[hm];rfl);rw[<-hm]at kz Gv;clear hm;have hg:=Y.Fp;have ci:=Zd Y.PN;have b9:=Zd Y.hooks;go_enter Lp.func126,anl;go_wp2_with (go_at_call 113;refine(kz.out _ Bg).mono ?_;rintro e w1 ⟨rfl,Bb⟩;obtain⟨NP,MK⟩:=E7 Bb);obtain⟨W3,Hv⟩:=Qnm (w1.alloc (.cells #[J I (m 0),J I (m 1),J I (m 2)] 150));have b8:FW w w1 #[U a1 c.base.length c1,U a2 c.Af.length M,U a3 c.hooks.length c3,U a4 c.Aa.length c4,U a5 c.now.length c5,J .u8 s0,J .u8 s1,J .u8 s2] m W3:=by
  rw[Hv];refine⟨bA (Bg.trans (Bb.mono Bg.size)),Bf ?_ _,Bp _ _⟩;rw[Bb.block _ i!];exact Bp _ _
 rw[<-Hv];clear Hv NP MK kz;go_loopg [17] s.length (λg i wr=>∃k:Nat,k<=s.length/\g=s.length - k/\i=.int I k/\SV c m k (s.drop k)=BZ c l s/\FW w w1 #[U a1 c.base.length c1,U a2 c.Af.length M,U a3 c.hooks.length c3,U a4 c.Aa.length c4,U a5 c.now.length c5,J .u8 s0,J .u8 s1,J .u8 s2] m wr)
 case atStart=>exact⟨0,Zp _,rfl,rfl,HE.out.symm,b8⟩
 obtain⟨k,hk,rfl,rfl,CP,hF⟩:=hrel;have hf:=Zd CP;clear CP;by_cases Az:k<s.length
 .have hd:=Zd (SW (c:=c) (m:=m) Az)
  have be:k<c.base.length:=o!
  have T5:k<c.Af.length:=by rw[ci.out];exact be
  have ap:k<c.hooks.length:=by rw[b9.out];exact be
  have M8:k<3:=o!
  have TB:(k:Int)<3:=o!
  obtain⟨b7,o7,rfl,U3,p1,q⟩:=hs.at_ Az;rw[<-hF.below.cell (p:=⟨b7,o7+k*2,none⟩) (t b7 U3)]at p1;rw[<-hF.below.cell (p:=⟨b7,o7+k*2+1,none⟩) (t b7 U3)]at q;have hE:=Y.Af k T5;have hH:=Y.hook k ap;obtain⟨Xg,Ox,an,am⟩:=il k Az;obtain⟨a,d,rfl,G,d1,d2⟩:=h.Af.at_ T5;obtain⟨b3,o3,rfl,Xi,d3⟩:=h.hooks.at_ ap;obtain⟨r,ai⟩:=Qnm (BV s k);obtain⟨ep,bi⟩:∃r,r=BV c.Af k:=⟨_,rfl⟩;obtain⟨hook,bF⟩:∃r,r=nth c.hooks k:=⟨_,rfl⟩;rw[<-ai]at p1 q Xg Ox an am hd;rw[<-bi]at d1 d2 hE hd;rw[<-bF]at d3 hH hd;clear ai bi bF;obtain⟨lo,hi⟩:=r;obtain⟨f,u⟩:=ep;dsimp only at p1 q Xg Ox an am d1 d2 hE;have ed:=hF.below.size;have Xn:=hF.later ((Zh wr wr).alloc (Zj _) (.cells #[J I lo,J I hi] 80));obtain⟨W5,Jy⟩:=Qnm (wr.alloc (.cells #[J I lo,J I hi] 80));have bv:W5.heap[wr.heap.size]?=some (.cells #[J I lo,J I hi] 80 (0,0)):=by rw[Jy];exact Bp _ _
  rw[<-Jy]at Xn;have e0:W5.cell? wr=some (J I lo):=ch bv rfl;have HW:=Zd Jy;clear Jy;go_wp2;rw[<-HW.out];go_loopg [10] ((hi+1 - lo).toNat) (λg i wx=>∃x:Int,0<=x/\x<=100/\g=(hi+1 - x).toNat/\i=.int I x/\NV hook (m k) (f,u) (hi+1 - x).toNat x=F0 hook (m k) (f,u) (lo,hi)/\FW w w1 #[U a1 c.base.length c1,U (some ⟨a,d,none⟩) c.Af.length M,U (some ⟨b3,o3,none⟩) c.hooks.length c3,U a4 c.Aa.length c4,U a5 c.now.length c5,J .u8 s0,J .u8 s1,J .u8 s2] m wx/\wx.heap[wr.heap.size]?=some (.cells #[J I lo,J I hi] 80 (0,0)))
  case atStart=>exact⟨lo,Xg,o!,rfl,rfl,rfl,Xn,bv⟩
  obtain⟨x,Oo,MF,rfl,rfl,xr,E,L⟩:=hrel;have Z:=Zd xr;clear xr;have ck:=ch (i:=1) L (v:=.int I hi) rfl;by_cases bV:x<=hi
  .have K:=Zd (SX (hook:=hook) (m:=m k) (p:=(f,u)) bV)
   have fi:=Gv k;have z1:=λp=>Al p (ch (i:=2) E.box (v:=.slice (some ⟨b3,o3,none⟩) c.hooks.length c3) rfl);have z2:=λp=>Al p (ch (i:=1) E.box (v:=.slice (some ⟨a,d,none⟩) c.Af.length M) rfl);have z3:=λp=>Al p (ch (i:=k) E.row (Gt M8));have z4:=λp=>Al p ((E.below.cell (p:=⟨a,d+k*2,none⟩) (t a G)).trans d1);have z5:=λp=>Al p ((E.below.cell (p:=⟨a,d+k*2+1,none⟩) (t a G)).trans d2);have z6:=λp=>Al p ((E.below.cell (p:=⟨b3,o3+k,none⟩) (t b3 Xi)).trans d3);have du:IntKind.i64.wrap (m k - hook)=m k - hook:=ZcD _ o!;have dl:IntKind.i64.wrap (m k - hook - x)=m k - hook - x:=ZcD _ o!;have ct:IntKind.i64.wrap (m k - x)=m k - x:=ZcD _ o!;have F:=Zd (λW=>agU (m k - x) f u W);have X:=Zd (λW=>agU (m k - hook - x) f u W);cases H:decide (0<hook) with
   |true=>
    cases V:Iu (m k - hook - x) (f,u) with
    |true=>
     rw[V]at X;have R:=Zd (show Gu hook (m k) x (f,u)=true by rw[Gu,H,V];rfl);have hh:0<hook:=of_decide_eq_true H;clear H V;go_wp2;refine Av k! k! ?_
     repeat (first|go_big_quiet_step ((go_at_call 161;exact AV (X.out _)))|quiet_step ((go_at_call 161;exact AV (X.out _))))
     refine Z4 ?_;rintro _ ⟨p,rfl⟩;have o:=AE wr p;obtain⟨z,B⟩:=Qnm (calm wr p);rw[<-B]at o⊢;clear B z1 z2 z3 z4 z5 z6;have b:=E.later o;have A:=(o.block _ (Za.1 L).1).trans L;have Q:=λp=>Al p (ch (i:=1) b.box (v:=.slice (some ⟨a,d,none⟩) c.Af.length M) rfl);have P:=λp=>Al p (ch (i:=k) b.row (Gt M8));have O:=λp=>Al p ((b.below.cell (p:=⟨a,d+k*2,none⟩) (t a G)).trans d1);have N:=λp=>Al p ((b.below.cell (p:=⟨a,d+k*2+1,none⟩) (t a G)).trans d2);go_wp2;refine Av k! k! ?_
     repeat (first|go_big_quiet_step (fail)|quiet_step (fail))
     refine Z4 ?_;rintro _ ⟨q,rfl⟩;have n:=AE z q;obtain⟨wz,C⟩:=Qnm (calm z q);rw[<-C]at n⊢;clear C Q P O N;have T:=b.later n;have y:=(n.block _ (Za.1 A).1).trans A;go_wp2;go_roundg ((hi+1 - (x+1)).toNat)
     case rel=>exact⟨x+1,o!,o!,rfl,rfl,by rw[<-Z.out,K.out,R.out];rfl,T,y⟩
     case measure=>omega
    |false=>
     cases D:Iu (m k - x) (f,u) with
     |true=>
      rw[V]at X;rw[D]at F;have R:=Zd (show Gu hook (m k) x (f,u)=true by rw[Gu,H,V,D];rfl);have hh:0<hook:=of_decide_eq_true H;clear H V;clear D;go_wp2;refine Av k! k! ?_
      repeat (first|go_big_quiet_step ((go_at_call 161;exact AV (X.out _)))|quiet_step ((go_at_call 161;exact AV (X.out _))))
      refine Z4 ?_;rintro _ ⟨p,rfl⟩;have o:=AE wr p;obtain⟨z,B⟩:=Qnm (calm wr p);rw[<-B]at o⊢;clear B z1 z2 z3 z4 z5 z6;have b:=E.later o;have A:=(o.block _ (Za.1 L).1).trans L;have Q:=λp=>Al p (ch (i:=1) b.box (v:=.slice (some ⟨a,d,none⟩) c.Af.length M) rfl);have P:=λp=>Al p (ch (i:=k) b.row (Gt M8));have O:=λp=>Al p ((b.below.cell (p:=⟨a,d+k*2,none⟩) (t a G)).trans d1);have N:=λp=>Al p ((b.below.cell (p:=⟨a,d+k*2+1,none⟩) (t a G)).trans d2);go_wp2;refine Av k! k! ?_
      repeat (first|go_big_quiet_step ((go_at_call 161;exact AV (F.out _)))|quiet_step ((go_at_call 161;exact AV (F.out _))))
      refine Z4 ?_;rintro _ ⟨q,rfl⟩;have n:=AE z q;obtain⟨wz,C⟩:=Qnm (calm z q);rw[<-C]at n⊢;clear C Q P O N;have T:=b.later n;have y:=(n.block _ (Za.1 A).1).trans A;go_wp2;go_roundg ((hi+1 - (x+1)).toNat)
      case rel=>exact⟨x+1,o!,o!,rfl,rfl,by rw[<-Z.out,K.out,R.out];rfl,T,y⟩
      case measure=>omega
     |false=>
      rw[V]at X;rw[D]at F;have R:=Zd (show Gu hook (m k) x (f,u)=false by rw[Gu,H,V,D];rfl);have hh:0<hook:=of_decide_eq_true H;clear H V;clear D;go_wp2;refine Av k! k! ?_
      repeat (first|go_big_quiet_step ((go_at_call 161;exact AV (X.out _)))|quiet_step ((go_at_call 161;exact AV (X.out _))))
      refine Z4 ?_;rintro _ ⟨p,rfl⟩;have o:=AE wr p;obtain⟨z,B⟩:=Qnm (calm wr p);rw[<-B]at o⊢;clear B z1 z2 z3 z4 z5 z6;have b:=E.later o;have A:=(o.block _ (Za.1 L).1).trans L;have Q:=λp=>Al p (ch (i:=1) b.box (v:=.slice (some ⟨a,d,none⟩) c.Af.length M) rfl);have P:=λp=>Al p (ch (i:=k) b.row (Gt M8));have O:=λp=>Al p ((b.below.cell (p:=⟨a,d+k*2,none⟩) (t a G)).trans d1);have N:=λp=>Al p ((b.below.cell (p:=⟨a,d+k*2+1,none⟩) (t a G)).trans d2);go_wp2;refine Av k! k! ?_
      repeat (first|go_big_quiet_step ((go_at_call 161;exact AV (F.out _)))|quiet_step ((go_at_call 161;exact AV (F.out _))))
      refine Z4 ?_;rintro _ ⟨q,rfl⟩;have n:=AE z q;obtain⟨wz,C⟩:=Qnm (calm z q);rw[<-C]at n⊢;clear C Q P O N;have T:=b.later n;have y:=(n.block _ (Za.1 A).1).trans A;go_wp2;have e5:F0 hook (m k) (f,u) (lo,hi)=false:=by rw[<-Z.out,K.out,R.out];rfl
      have e6:BZ c l s=false:=by rw[<-hf.out,hd.out,e5];rfl
      go_ret;exact⟨by rw[e6];rfl,T.below⟩
   |false=>
    cases D:Iu (m k - x) (f,u) with
    |true=>
     rw[D]at F;have R:=Zd (show Gu hook (m k) x (f,u)=true by rw[Gu,H,D];rfl);clear D;go_wp2;refine Av k! k! ?_
     repeat (first|go_big_quiet_step (fail)|quiet_step (fail))
     refine Z4 ?_;rintro _ ⟨p,rfl⟩;have o:=AE wr p;obtain⟨z,B⟩:=Qnm (calm wr p);rw[<-B]at o⊢;clear B z1 z2 z3 z4 z5 z6;have b:=E.later o;have A:=(o.block _ (Za.1 L).1).trans L;have Q:=λp=>Al p (ch (i:=1) b.box (v:=.slice (some ⟨a,d,none⟩) c.Af.length M) rfl);have P:=λp=>Al p (ch (i:=k) b.row (Gt M8));have O:=λp=>Al p ((b.below.cell (p:=⟨a,d+k*2,none⟩) (t a G)).trans d1);have N:=λp=>Al p ((b.below.cell (p:=⟨a,d+k*2+1,none⟩) (t a G)).trans d2);go_wp2;refine Av k! k! ?_
     repeat (first|go_big_quiet_step ((go_at_call 161;exact AV (F.out _)))|quiet_step ((go_at_call 161;exact AV (F.out _))))
     refine Z4 ?_;rintro _ ⟨q,rfl⟩;have n:=AE z q;obtain⟨wz,C⟩:=Qnm (calm z q);rw[<-C]at n⊢;clear C Q P O N;have T:=b.later n;have y:=(n.block _ (Za.1 A).1).trans A;go_wp2;go_roundg ((hi+1 - (x+1)).toNat)
     case rel=>exact⟨x+1,o!,o!,rfl,rfl,by rw[<-Z.out,K.out,R.out];rfl,T,y⟩
     case measure=>omega
    |false=>
     rw[D]at F;have R:=Zd (show Gu hook (m k) x (f,u)=false by rw[Gu,H,D];rfl);clear D;go_wp2;refine Av k! k! ?_
     repeat (first|go_big_quiet_step (fail)|quiet_step (fail))
     refine Z4 ?_;rintro _ ⟨p,rfl⟩;have o:=AE wr p;obtain⟨z,B⟩:=Qnm (calm wr p);rw[<-B]at o⊢;clear B z1 z2 z3 z4 z5 z6;have b:=E.later o;have A:=(o.block _ (Za.1 L).1).trans L;have Q:=λp=>Al p (ch (i:=1) b.box (v:=.slice (some ⟨a,d,none⟩) c.Af.length M) rfl);have P:=λp=>Al p (ch (i:=k) b.row (Gt M8));have O:=λp=>Al p ((b.below.cell (p:=⟨a,d+k*2,none⟩) (t a G)).trans d1);have N:=λp=>Al p ((b.below.cell (p:=⟨a,d+k*2+1,none⟩) (t a G)).trans d2);go_wp2;refine Av k! k! ?_
     repeat (first|go_big_quiet_step ((go_at_call 161;exact AV (F.out _)))|quiet_step ((go_at_call 161;exact AV (F.out _))))
     refine Z4 ?_;rintro _ ⟨q,rfl⟩;have n:=AE z q;obtain⟨wz,C⟩:=Qnm (calm z q);rw[<-C]at n⊢;clear C Q P O N;have T:=b.later n;have y:=(n.block _ (Za.1 A).1).trans A;go_wp2;have e5:F0 hook (m k) (f,u) (lo,hi)=false:=by rw[<-Z.out,K.out,R.out];rfl
     have e6:BZ c l s=false:=by rw[<-hf.out,hd.out,e5];rfl
     go_ret;exact⟨by rw[e6];rfl,T.below⟩
  have e5:F0 hook (m k) (f,u) (lo,hi)=true:=by rw[<-Z.out];exact U' o!
  have E5:=Zd e5;clear e5 Z;go_wp2;go_roundg (s.length - (k+1))
  case rel=>exact⟨k+1,o!,rfl,v!,by rw[<-hf.out,hd.out,E5.out];rfl,E⟩
  omega
 have f:BZ c l s=true:=by rw[<-hf.out,Z7.2 o!];rfl
 have E1:=Zd f;clear f hf;go_wp2;go_ret;exact⟨by rw[E1.out];rfl,hF.below⟩
section
variable {P:Zo}{ops:Array Oper}{Q:Exit->Act->Zb->Prop}{md:YO}{S:Zb->Prop}{T:Nat->Zb->Prop}
def Cy (P:Zo)(c:YO)(b:Array Oper)(Q:Exit->Act->Zb->Prop)(T:Nat->Zb->Prop):Nat->Array Bool->Act->Zb->Prop
 |0,listed,a,w=>zs c b listed=[]/\Q .normal a w
 |f+1,listed,a,w=>(zs c b listed=[]->Q .normal a w)/\∀i∈zs c b listed,wpOp P b Q i (λa' w'=>T i w'/\Cy P c b Q T f (listed.setIfInBounds i true) a' w') a w
def JV:∀(f:Nat) (listed:Array Bool) (a:Act) (w:Zb),Cy P md ops Q T f listed a w->wpAny P md ops Q f listed a w
 |0,_,_,_,h=>h
 |f+1,_,_,_,h=>⟨h.1,λi hi=>Zcc (λa' w' x=>JV f _ a' w' x.2) (h.2 i hi)⟩
def Wx (b:YO)(a:Array Oper)(j i:Nat):Bool:=match a[j]? with|some o=>o.after.any λe=>Yk b e&&e.on==i|none=>false
variable {o oi:Oper}
def kA (c:ops[j]?=some o)(h:∀e∈o.after,Yk md e=true->e.on≠i):Wx md ops j i=false:=by
 unfold Wx;rw[c];cases b:o.after.any λe=>Yk md e&&e.on==i with
 |false=>exact b
 |true=>
  obtain⟨e,d,a⟩:=Array.any_eq_true'.1 b;simp only[ZF,beq_iff_eq]at a;exact absurd a.2 (h e d a.1)
def NY (hi:ops[i]?=some oi)(J:YF ops=true)(O:∀c a w,Q (.panic c) (a.put oi.dst v) w->Q (.panic c) a w)
 (A:∀w,S w->T i w) (F:∀j,Wx md ops j i=true\/∀w,T j w->S w):
  ∀(f:Nat) (listed:Array Bool) (a:Act) (w:Zb),Za3 md ops listed i=true->i∈zs md ops listed->ZbF P ops S oi v a->S w->
   Cy P md ops Q T f (listed.setIfInBounds i true) (a.put oi.dst v) w->Cy P md ops Q T (f+1) listed a w:=by
 have E:=Zdx J;have r:∀(f:Nat) (listed:Array Bool) (a:Act) (w:Zb),(∀j g,ops[j]?=some g->j≠i->listed.getD j true=false->(∀e∈g.after,Yk md e=true->e.on≠i)->oi.apart ops g=true)->
   i∈zs md ops listed->ZbF P ops S oi v a->S w->Cy P md ops Q T f (listed.setIfInBounds i true) (a.put oi.dst v) w->Cy P md ops Q T (f+1) listed a w:=by
  intro f
  induction f with
  |zero=>
   intro listed a w _ l o m H;refine⟨λh=>(by rw[h]at l;cases l),λj p=>?_⟩;by_cases d:j=i
   .subst d;exact o.wpOp hi m ⟨A _ m,H⟩
   .have:=ZbO p d
    rw[H.1]at this;cases this
  |succ f I=>
   intro listed a w D l o m H;refine⟨λh=>(by rw[h]at l;cases l),λj p=>?_⟩;by_cases d:j=i
   .subst d;exact o.wpOp hi m ⟨A _ m,H⟩
   have U:=H.2 j (ZbO p d);obtain⟨z,g,n,Z⟩:=ZcY.1 p;have s:listed.getD i false=false:=by
    have B:=(ZcY.1 l).1;rcases Zar i listed.size with u|u
    .simp[u]at B⊢;exact B
    simp[YR u]
   have x:∀e∈g.after,Yk md e=true->e.on≠i:=λe M N t=>by
    have:=Z e M N;rw[t,s]at this;cases this
   have G:∀w,T j w->S w:=(F j).resolve_left (by rw[kA n x];decide);have R:=wpOp_putIf n (D j g n d z x) (λcs b=>E i oi cs b hi) (λcs b=>E j g cs b n) O o U;have V:∀k ok,ops[k]?=some ok->k≠i->(listed.setIfInBounds j true).getD k true=false->
     (∀e∈ok.after,Yk md e=true->e.on≠i)->oi.apart ops ok=true:=λk ok K X y Y=>by
    refine D k ok K X ?_ Y;by_cases C:j=k
    .subst C;exact z
    rw[Zde true C]at y;exact y
   refine Zcc (λW w' q=>⟨q.2.1,I (listed.setIfInBounds j true) W w' V (ZbO l (Za0 d)) q.1 (G _ q.2.1) ?_⟩) R;rw[Zdb _ _ d];exact q.2.2
 intro f listed a w L;exact r f listed a w (Region.free_spec hi L)
def Dl (P:Zo)(b:Array Oper)(Q:Exit->Act->Zb->Prop)(T:Nat->Zb->Prop):List (Bool×Nat)->Act->Zb->Prop
 | [],a,w=>Q .normal a w
 |(false,i)::r,a,w=>wpOp P b Q i (λa' w'=>T i w'/\Dl P b Q T r a' w') a w
 |(true,i)::r,a,w=>∃o v,b[i]?=some o/\ZbF P b (λ_=>True) o v a/\Dl P b Q T r (a.put o.dst v) w
def hvB (b:YO)(a:Array Oper)(lates:List Nat):List (Bool×Nat)->Array Bool->Bool
 | [],listed=>(zs b a listed).isEmpty
 |(false,i)::r,listed=>decide (zs b a listed=[i])&&hvB b a lates r (listed.setIfInBounds i true)
 |(true,i)::r,listed=>(zs b a listed).contains i&&Za3 b a listed i&&lates.contains i&&hvB b a lates r (listed.setIfInBounds i true)
def FG (lates:List Nat)(S:Zb->Prop)(i:Nat)(w:Zb):Prop:=lates.contains i=true\/S w
def O7 {lates:List Nat}(k:YF ops=true)(g:∀c a d v w,Q (.panic c) (Zck a d v) w->Q (.panic c) a w):
  ∀(e:List (Bool×Nat)) (listed:Array Bool) (a:Act) (w:Zb),hvB md ops lates e listed=true->Dl P ops Q (FG lates S) e a w->Cy P md ops Q (FG lates S) e.length listed a w
 | [],_,_,_,b,h=>⟨by simpa[hvB]using b,h⟩
 |(false,i)::r,listed,a,w,b,h=>by
  simp only[hvB,ZF,decide_eq_true_eq]at b;refine⟨λm=>(by rw[b.1]at m;cases m),λj l=>?_⟩;rw[b.1]at l;have:j=i:=by simpa using l
  subst this;exact Zcc (λq w' x=>⟨x.1,O7 k g r _ q w' b.2 x.2⟩) h
 |(true,i)::r,listed,a,w,b,h=>by
  simp only[hvB,ZF]at b;obtain⟨o,v,p,n,h⟩:=h;exact NY (S:=λ_=>True) (f:=r.length) p k (λc a w x=>g c a o.dst v w x) (λw _=>.inl b.1.2) (λj=>.inr λ_ _=>trivial) listed a w b.1.1.2 (by simpa using b.1.1.1) n trivial (O7 k g r _ _ w b.2 h)
def ltB (b:YO)(a:Array Oper)(lates:List Nat)(next:Array Bool->Bool):List Nat->Array Bool->Bool
 | [],listed=>next listed
 |i::r,listed=>(zs b a listed).contains i&&Za3 b a listed i&&(lates.all λj=>Wx b a j i)&&ltB b a lates next r (listed.setIfInBounds i true)
def Rf (o:Oper):Bool:=match o.op with| .load .. | .fieldAddr .. | .indexAddr .. | .move .. =>true|_=>false
def MQ (P:Zo)(b:Array Oper)(S:Zb->Prop)(K:Act->Prop):List Nat->Act->Prop
 | [],a=>K a
 |i::r,a=>∃o v,b[i]?=some o/\ZbF P b S o v a/\MQ P b S K r (a.put o.dst v)
def LC {lates:List Nat}{w:Zb}{next:Array Bool->Bool}{K:Act->Prop}{g:Nat}(n:YF ops=true)(l:∀c a d v w,Q (.panic c) (Zck a d v) w->Q (.panic c) a w)(k:S w)
  (m:∀listed a,next listed=true->K a->Cy P md ops Q (FG lates S) g listed a w):
  ∀(ls:List Nat) (listed:Array Bool) (a:Act),ltB md ops lates next ls listed=true->MQ P ops S K ls a->Cy P md ops Q (FG lates S) (g+ls.length) listed a w
 | [],listed,a,b,h=>m listed a b h
 |i::r,listed,a,b,h=>by
  simp only[ltB,ZF]at b;obtain⟨o,v,q,p,h⟩:=h;refine NY (S:=S) (f:=g+r.length) q n (λc a w x=>l c a o.dst v w x) (λw x=>.inr x) (λj=>?_) listed a w b.1.1.2 (by simpa using b.1.1.1) p k (LC n l k m r _ _ b.2 h);by_cases e:lates.contains j=true
  .exact .inl (Zdm.1 b.1.2 j (by simpa using e))
  exact .inr λw x=>x.resolve_left e
def B0 {id:Nat}{l:List Oper}(lates:List Nat)(e:List (Bool×Nat))(ls:List Nat)(g:P.follows .mixedOrders=true)(f:∀c a d v w,Q (.panic c) (Zck a d v) w->Q (.panic c) a w)
 (b:(YF l.toArray&&decide (e.length+ls.length=l.toArray.size)&&ltB .any l.toArray lates (hvB .any l.toArray lates e) ls (Yu l.toArray.size false))=true) (i:S w.drew)
 (h:MQ P l.toArray S (λa'=>Dl P l.toArray Q (FG lates S) e a' w.drew) ls a):(zU id l.toArray true).wp P Q a w:=by
 simp only[ZF,decide_eq_true_eq]at b;refine Zd5 g (JV (T:=FG lates S) _ _ _ _ ?_);have:=LC b.1.1 f i (λlisted a k j=>O7 b.1.1 f e listed a w.drew k j) ls _ a b.2 h;rw[b.1.2]at this;exact this
def bH (hl:Rf o=true){e:Zbv->Zf}{n:Next}(h:(Zby e o).run P w=.ok n w'):∃v,n=.value v:=by
 unfold Rf at hl;unfold Zby at h;split at hl<;>first|cases hl|skip
 all_goals
  rename_i a;simp only[a,zg,Sem.run_pure]at h
  first
   |(simp at h;exact⟨_,h.1.symm⟩)
   |(generalize Sem.run _ _ _=r at h;cases r<;>simp[zu]at h;exact⟨_,h.1.symm⟩)
def Wy (hl:Rf o=true)(b:Yf o (yielded ops a.tmps)=true)(h:∀w,S w->o.quietAt P a S w v):ZbF P ops S o v a:=by
 refine .inl ⟨b,λw d=>?_⟩;have:=h w d;unfold Oper.quietAt at this;generalize c:(Zby a.eval o).run P w=r at this⊢;cases r with
 |ok n w'=>
  obtain⟨u,rfl⟩:=bH hl c;obtain⟨rfl,rfl⟩:=this
  rfl
 |halt x w'=>exact this.elim
def A4 {K:Act->Prop}:∀(ls:List Nat) (a:Act),(ls.all λi=>match ops[i]? with|some o=>Rf o|none=>false)=true->wpQuiet P ops S K (ls.filterMap λi=>ops[i]?) a->MQ P ops S K ls a
 | [],a,_,h=>h
 |i::r,a,hl,h=>by
  simp only[Zbs,ZF]at hl;cases b:ops[i]? with
  |none=>rw[b]at hl;cases hl.1
  |some o=>
   rw[b]at hl;rw[Z6,b]at h;replace h:wpQuiet P ops S K (o::r.filterMap λi=>ops[i]?) a:=h;unfold wpQuiet at h;split at h
   .next c=>
    obtain⟨v,e,d⟩:=h;exact⟨o,v,b,Wy hl.1 c e,A4 r _ hl.2 d⟩
   next c=>exact⟨o,Ze,b,.inr ⟨by simpa using c,rfl⟩,A4 r _ hl.2 h⟩
variable {r:List (Bool×Nat)}
def Dd (c:ops[i]?=some o)(d:o.guard=none)(b:(Zby a.eval o).run P w=.ok (.enter f args) w)
 (h:Calls P f args w λe w'=>∃v,e=.returned v/\T i w'/\Dl P ops Q T r (a.put o.dst v) w'):Dl P ops Q T ((false,i)::r) a w:=by
 unfold Dl wpOp;simp only[c];rw[if_pos (by simp[Yf,d])];refine .inl ?_;unfold ZbA;rw[b,Zdj];refine h.mono λe w' ⟨v,g,k,j⟩=>?_;subst g;exact⟨k,j⟩
def NZ (c:ops[i]?=some o)(d:o.guard=none)(b:∀w,(Zby a.eval o).run P w=.ok (.value v) w)
 (h:Dl P ops Q T r (a.put o.dst v) w):Dl P ops Q T ((true,i)::r) a w:=
 ⟨o,v,c,.inl ⟨by simp[Yf,d],λw _=>b w⟩,h⟩
def Dw (c:ops[i]?=some o)(d:o.guard=none)(b:(Zby a.eval o).run P w=.ok (.value v) w)(e:T i w)
 (h:Dl P ops Q T r (a.put o.dst v) w):Dl P ops Q T ((false,i)::r) a w:=by
 unfold Dl wpOp;simp only[c];rw[if_pos (by simp[Yf,d])];refine .inl ?_;unfold ZbA;rw[b,Zdi];exact⟨e,h⟩
def K8 (c:ops[i]?=some o)(d:o.guard=none)(b:(Zby a.eval o).run P w=.ok .skip w')(e:T i w')
 (h:Dl P ops Q T r (a.put o.dst Ze) w'):Dl P ops Q T ((false,i)::r) a w:=by
 unfold Dl wpOp;simp only[c];rw[if_pos (by simp[Yf,d])];refine .inl ?_;unfold ZbA;rw[b,ZcQ];exact⟨e,h⟩
def Gd (a:Array Oper):List (Bool×Nat)->List Oper
 | []=> []
 |(_,i)::r=>match a[i]? with|some o=>o::Gd a r|none=>Gd a r
def LD:∀(c:List (Bool×Nat)) (a:Act) (w:Zb),(c.all λx=> !x.1&&(ops[x.2]?).isSome)=true->(∀x∈c,∀w,T x.2 w)->wpList P ops Q (Gd ops c) a w->Dl P ops Q T c a w
 | [],_,_,_,_,h=>h
 |(true,i)::r,a,w,b,d,h=>by simp at b
 |(false,i)::r,a,w,b,d,h=>by
  simp only[Zbs,ZF]at b;obtain⟨o,e⟩:=Option.isSome_iff_exists.1 b.1.2;unfold Gd at h;rw[e]at h;have f:wpOp P ops Q i (wpList P ops Q (Gd ops r)) a w:=by unfold wpOp;simp only[e];exact h
  exact Zcc (λk w' x=>⟨d _ (zC ..) _,LD r k w' b.2 (λj g=>d j (zm _ g)) x⟩) f
end
structure Cq where
 obs:Array Obj
 dr:Nat
 obj:Obj
instance:Nonempty Cq:=⟨⟨#[],0,.cells #[] 0⟩⟩
def SY (w:Zb)(q:Nat)(p:Cq):Zb:= {w with heap:=(w.heap++p.obs).setIfInBounds q p.obj,drawn:=p.dr}
structure B3 (q:Nat)(w W:Zb):Prop where
 os:W.os=w.os
 tape:W.tape=w.tape
 output:W.output=w.output
 size:w<=W.heap.size
 block:∀k,k<w.heap.size->k≠q->W.heap[k]?=w.heap[k]?
def B3.refl (q:Nat)(w:Zb):B3 q w w:=⟨rfl,rfl,rfl,Zj _,λ_ _ _=>rfl⟩
def B3.below {c:Zb}(h:B3 q w W)(a:Bl W c):B3 q w c:=
 ⟨a.os.trans h.os,a.tape.trans h.tape,a.output.trans h.output,Zr h.size a.size,λk b d=>(a.block k (Zl b h.size)).trans (h.block k b d)⟩
def B3.set (h:B3 q w W):B3 q w (W.setCell ⟨q,i,none⟩ v):=
 ⟨h.os,h.tape,h.output,by simpa using h.size,λk b a=>(AZ a _).trans (h.block k b a)⟩
def BI (h:B3 q w W)(l:q<w):∃p,W=SY w q p:=by
 have b:q<W:=Zl l h.size;refine⟨⟨W.heap.extract w W,W.drawn,W.heap[q]⟩,?_⟩;obtain⟨k,j,g,m,f⟩:=h;cases W with
 |mk heap d c n output=>
  simp only at k j g m f b;subst k j g;have:heap=(w.heap++heap.extract w heap.size).setIfInBounds q heap[q]:=by
   apply Zec;intro i;by_cases a:q=i
   .subst a
    rw[ZV j!,Zx b]
   rw[Zk a];by_cases hi:i<w
   .rw[zr hi,f i hi (λe=>a e.symm)]
   rw[Zan o!,Zd4];split
   .rw[show w.heap.size+(i - w.heap.size)=i by omega]
   rw[YR o!]
  unfold SY;simp only;rw[<-this]
def Cg (p:Cq){a:Addr}(h:w.cell? a=some v)(b:a.block≠q):(SY w q p).cell? a=some v:=by
 have c:=ZH w _ h;unfold zy at h⊢;have:(SY w q p).heap[a.block]?=w.heap[a.block]? :=by
  unfold SY;simp only;rw[Zk (Za0 b),zr c]
 rw[this];exact h
section
variable {P:Zo}{ops:Array Oper}{Q:Exit->Act->Zb->Prop}{md:YO}{S:Zb->Prop}{T:Nat->Zb->Prop}
def G6 {id:Nat}{l:List Oper}(ls:List Nat)(g:Nat)(f:Array Bool)(j:P.follows .mixedOrders=true)(n:∀c a d v w,Q (.panic c) (Zck a d v) w->Q (.panic c) a w)
 (b:(YF l.toArray&&decide (g+ls.length=l.toArray.size)&&ltB .any l.toArray [] (λL=>L==f) ls (Yu l.toArray.size false))=true) (m:S w.drew)
 (h:MQ P l.toArray S (λa'=>Cy P .any l.toArray Q (λ_=>S) g f a' w.drew) ls a):(zU id l.toArray true).wp P Q a w:=by
 simp only[ZF,decide_eq_true_eq]at b;have k:(FG [] S:Nat->Zb->Prop)=λ_=>S:=by
  funext i w
  simp[FG]
 refine Zd5 j (JV (T:=FG [] S) _ _ _ _ ?_);have:=LC (P:=P) (lates:=[]) (K:=λa'=>Cy P .any l.toArray Q (λ_=>S) g f a' w.drew) b.1.1 n m (λlisted a p o=>by
  have e:listed=f:=eq_of_beq p;rw[e,k];exact o) ls _ a b.2 h
 rw[b.1.2]at this;exact this
def K9 {K:Act->Prop}:∀(l r:List Nat) (a:Act),MQ P ops S (MQ P ops S K r) l a->MQ P ops S K (l++r) a
 | [],_,_,h=>h
 |_::l,r,_,⟨o,v,d,c,b⟩=>⟨o,v,d,c,K9 l r _ b⟩
variable {o oi:Oper}
def CB {K:Act->Prop}{r:List Nat}(c:ops[i]?=some o)(d:o.guard=none)(b:∀w,S w->(Zby a.eval o).run P w=.ok (.value v) w)(h:MQ P ops S K r (a.put o.dst v)):MQ P ops S K (i::r) a:=
 ⟨o,v,c,.inl ⟨by simp[Yf,d],b⟩,h⟩
def AK {f:Nat}{listed:Array Bool}(rs:List Nat)(b:zs md ops listed=rs)(d:rs≠ [])(h:∀i∈rs,wpOp P ops Q i (λa' w'=>T i w'/\Cy P md ops Q T f (listed.setIfInBounds i true) a' w') a w):Cy P md ops Q T (f+1) listed a w:=
 ⟨λc=>absurd (b.symm.trans c) d,by rw[b];exact h⟩
variable {K:Act->Zb->Prop}
def DK (c:ops[i]?=some o)(d:o.guard=none)(b:(Zby a.eval o).run P w=.ok (.enter f args) w)
 (g:Calls P f args w λe w'=>(∃v,e=.returned v/\K (a.put o.dst v) w')\/∃x,e=.panicked x/\Q (.panic x) a w'):wpOp P ops Q i K a w:=by
 unfold wpOp;simp only[c];rw[if_pos (by simp[Yf,d])];refine .inl ?_;unfold ZbA;rw[b,Zdj];refine g.mono λe w' h=>?_;rcases h with⟨v,rfl,h⟩|⟨x,rfl,h⟩
 .exact h
 exact h
def EX (c:ops[i]?=some o)(d:o.guard=none)(b:(Zby a.eval o).run P w=.ok (.value v) w')(h:K (a.put o.dst v) w'):wpOp P ops Q i K a w:=by
 unfold wpOp;simp only[c];rw[if_pos (by simp[Yf,d])];refine .inl ?_;unfold ZbA;rw[b,Zdi];exact h
def Rj (c:ops[i]?=some o)(d:o.guard=none)(b:(Zby a.eval o).run P w=.ok .skip w')(h:K (a.put o.dst Ze) w'):wpOp P ops Q i K a w:=by
 unfold wpOp;simp only[c];rw[if_pos (by simp[Yf,d])];refine .inl ?_;unfold ZbA;rw[b,ZcQ];exact h
def BF {p:Nat->Prop}(h:p i):∀j∈ [i],p j:=λj a=>by
 rw[Yh.1 a];exact h
def Ix {p:Nat->Prop}(h:p i)(b:p k):∀j∈ [i,k],p j:=λj a=>by
 rcases List.mem_cons.1 a with rfl|a
 .exact h
 exact BF b j a
end
section
variable {P:Zo}{ops:Array Oper}{Q:Exit->Act->Zb->Prop}{md:YO}{S:Zb->Prop}{T:Nat->Zb->Prop}
def MS (b:YO)(a:Array Oper):Nat->Nat->Nat->Bool
 |0,_,_=>false
 |f+1,j,i=>match a[j]? with|some o=>o.after.any λe=>Yk b e&&(e.on==i||MS b a f e.on i)|none=>false
def Dn (b:YO)(a:Array Oper)(listed:Array Bool):Prop:=∀k ok,a[k]?=some ok->listed.getD k false=true->∀e∈ok.after,Yk b e=true->listed.getD e.on false=true
def Vb {listed:Array Bool}(h:listed.getD i true=false):listed.getD i false=false:=by
 by_cases hi:i<listed.size
 .simp[hi]at h⊢;exact h
 simp[YR (Zdl hi)]at h
def Dn.step {listed:Array Bool}{j:Nat}(h:Dn md ops listed)(o:j∈zs md ops listed):Dn md ops (listed.setIfInBounds j true):=by
 intro k ok i g e l m;obtain⟨_,q,c,p⟩:=ZcY.1 o;have b:∀x,listed.getD x false=true->(listed.setIfInBounds j true).getD x false=true:=λx d=>by
  by_cases a:j=x
  .subst a
   by_cases f:j<listed.size
   .simp[f]
   simp[YR (Zdl f)]at d
  rw[Zde false a];exact d
 by_cases n:j=k
 .subst n
  rw[i]at c;cases c;exact b _ (p e l m)
 rw[Zde false n]at g;exact b _ (h k ok i g e l m)
def Dn.closed {listed:Array Bool}(h:Dn md ops listed){i:Nat}(hi:listed.getD i true=false):∀(f j:Nat),(∀o,ops[j]?=some o->∀e∈o.after,Yk md e=true->listed.getD e.on false=true)->MS md ops f j i=false
 |0,_,_=>rfl
 |f+1,j,l=>by
  unfold MS;cases k:ops[j]? with
  |none=>rfl
  |some o=>
   simp only;cases n:o.after.any λe=>Yk md e&&(e.on==i||MS md ops f e.on i) with
   |false=>rfl
   |true=>
    obtain⟨e,m,b⟩:=Array.any_eq_true'.1 n;simp only[ZF,ZaK,beq_iff_eq]at b;have c:=l o k e m b.1;rcases b.2 with a|a
    .rw[a,Vb hi]at c;cases c
    rw[Dn.closed h hi f e.on λg d=>h e.on g d c]at a;cases a
variable {o oi:Oper}
def Me (hi:ops[i]?=some oi)(N:YF ops=true)(W:∀c a w,Q (.panic c) (a.put oi.dst v) w->Q (.panic c) a w)
 (D:∀w,S w->T i w) (K:∀j,MS md ops n j i=true\/∀w,T j w->S w):
  ∀(f:Nat) (listed:Array Bool) (a:Act) (w:Zb),Dn md ops listed->Za3 md ops listed i=true->i∈zs md ops listed->ZbF P ops S oi v a->S w->
   Cy P md ops Q T f (listed.setIfInBounds i true) (a.put oi.dst v) w->Cy P md ops Q T (f+1) listed a w:=by
 have G:=Zdx N;have x:∀(f:Nat) (listed:Array Bool) (a:Act) (w:Zb),Dn md ops listed->(∀j g,ops[j]?=some g->j≠i->listed.getD j true=false->(∀e∈g.after,Yk md e=true->e.on≠i)->oi.apart ops g=true)->
   i∈zs md ops listed->ZbF P ops S oi v a->S w->Cy P md ops Q T f (listed.setIfInBounds i true) (a.put oi.dst v) w->Cy P md ops Q T (f+1) listed a w:=by
  intro f
  induction f with
  |zero=>
   intro listed a w _ _ l s p H;refine⟨λh=>(by rw[h]at l;cases l),λj m=>?_⟩;by_cases d:j=i
   .subst d;exact s.wpOp hi p ⟨D _ p,H⟩
   .have:=ZbO m d
    rw[H.1]at this;cases this
  |succ f M=>
   intro listed a w t F l s p H;refine⟨λh=>(by rw[h]at l;cases l),λj m=>?_⟩;by_cases d:j=i
   .subst d;exact s.wpOp hi p ⟨D _ p,H⟩
   have Y:=H.2 j (ZbO m d);obtain⟨B,g,r,I⟩:=ZcY.1 m;have q:listed.getD i true=false:=(ZcY.1 l).1;have y:listed.getD i false=false:=Vb q;have J:∀e∈g.after,Yk md e=true->e.on≠i:=λe U V z=>by
    have:=I e U V;rw[z,y]at this;cases this
   have L:∀w,T j w->S w:=(K j).resolve_left (by
    rw[t.closed q n j λo C=>by rw[r]at C;cases C;exact I]
    decide)
   have X:=wpOp_putIf r (F j g r d B J) (λcs b=>G i oi cs b hi) (λcs b=>G j g cs b r) W s Y;have Z:∀k ok,ops[k]?=some ok->k≠i->(listed.setIfInBounds j true).getD k true=false->
     (∀e∈ok.after,Yk md e=true->e.on≠i)->oi.apart ops ok=true:=λk ok O TB A KJ=>by
    refine F k ok O TB ?_ KJ;by_cases E:j=k
    .subst E;exact B
    rw[Zde true E]at A;exact A
   refine Zcc (λa' w' u=>⟨u.2.1,M (listed.setIfInBounds j true) a' w' (t.step m) Z (ZbO l (Za0 d)) u.1 (L _ u.2.1) ?_⟩) X;rw[Zdb _ _ d];exact u.2.2
 intro f listed a w t R;exact x f listed a w t (Region.free_spec hi R)
def H2 (P:Zo)(b:Array Oper)(Q:Exit->Act->Zb->Prop)(S:Zb->Prop)(T:Nat->Zb->Prop):List (Bool×Nat)->Act->Zb->Prop
 | [],a,w=>Q .normal a w
 |(false,i)::r,a,w=>wpOp P b Q i (λa' w'=>T i w'/\H2 P b Q S T r a' w') a w
 |(true,i)::r,a,w=>S w/\∃o v,b[i]?=some o/\ZbF P b S o v a/\H2 P b Q S T r (a.put o.dst v) w
def pQ (b:YO)(a:Array Oper)(n:Nat)(lates:List Nat)(i:Nat):Bool:=lates.all λj=>MS b a n j i
def hsB (b:YO)(a:Array Oper)(n:Nat)(lates:List Nat):List (Bool×Nat)->Array Bool->Bool
 | [],listed=>(zs b a listed).isEmpty
 |(false,i)::r,listed=>decide (zs b a listed=[i])&&hsB b a n lates r (listed.setIfInBounds i true)
 |(true,i)::r,listed=>(zs b a listed).contains i&&Za3 b a listed i&&pQ b a n lates i&&hsB b a n lates r (listed.setIfInBounds i true)
def iw {lates:List Nat}(h:pQ md ops n lates i=true)(j:Nat):MS md ops n j i=true\/∀w,FG lates S j w->S w:=by
 by_cases a:lates.contains j=true
 .exact .inl (Zdm.1 h j (by simpa using a))
 exact .inr λw x=>x.resolve_left a
def O8 {n:Nat}{lates:List Nat}(p:YF ops=true)(m:∀c a d v w,Q (.panic c) (Zck a d v) w->Q (.panic c) a w):
  ∀(g:List (Bool×Nat)) (listed:Array Bool) (a:Act) (w:Zb),Dn md ops listed->hsB md ops n lates g listed=true->H2 P ops Q S (FG lates S) g a w->Cy P md ops Q (FG lates S) g.length listed a w
 | [],_,_,_,_,b,h=>⟨by simpa[hsB]using b,h⟩
 |(false,i)::r,listed,a,w,e,b,h=>by
  simp only[hsB,ZF,decide_eq_true_eq]at b;refine⟨λs=>(by rw[b.1]at s;cases s),λj l=>?_⟩;have k:=l;rw[b.1]at l;have:j=i:=by simpa using l
  subst this;exact Zcc (λz w' x=>⟨x.1,O8 p m r _ z w' (e.step k) b.2 x.2⟩) h
 |(true,i)::r,listed,a,w,e,b,h=>by
  simp only[hsB,ZF]at b;obtain⟨y,o,v,u,t,h⟩:=h;have q:i∈zs md ops listed:=by simpa using b.1.1.1
  exact Me (S:=S) (n:=n) (f:=r.length) u p (λc a w x=>m c a o.dst v w x) (λw x=>.inr x) (iw b.1.2) listed a w e b.1.1.2 q t y (O8 p m r _ _ w (e.step q) b.2 h)
def lsB (b:YO)(a:Array Oper)(n:Nat)(lates:List Nat)(next:Array Bool->Bool):List Nat->Array Bool->Bool
 | [],listed=>next listed
 |i::r,listed=>(zs b a listed).contains i&&Za3 b a listed i&&pQ b a n lates i&&lsB b a n lates next r (listed.setIfInBounds i true)
def Vd {n:Nat}{lates:List Nat}{w:Zb}{next:Array Bool->Bool}{K:Act->Prop}{g:Nat}(p:YF ops=true)(l:∀c a d v w,Q (.panic c) (Zck a d v) w->Q (.panic c) a w)(k:S w)
  (m:∀listed a,Dn md ops listed->next listed=true->K a->Cy P md ops Q (FG lates S) g listed a w):
  ∀(ls:List Nat) (listed:Array Bool) (a:Act),Dn md ops listed->lsB md ops n lates next ls listed=true->MQ P ops S K ls a->Cy P md ops Q (FG lates S) (g+ls.length) listed a w
 | [],listed,a,e,b,h=>m listed a e b h
 |i::r,listed,a,e,b,h=>by
  simp only[lsB,ZF]at b;obtain⟨o,v,s,q,h⟩:=h;have j:i∈zs md ops listed:=by simpa using b.1.1.1
  exact Me (S:=S) (n:=n) (f:=g+r.length) s p (λc a w x=>l c a o.dst v w x) (λw x=>.inr x) (iw b.1.2) listed a w e b.1.1.2 j q k (Vd p l k m r _ _ (e.step j) b.2 h)
def G7 {id:Nat}{l:List Oper}(n:Nat)(lates:List Nat)(e:List (Bool×Nat))(ls:List Nat)(j:P.follows .mixedOrders=true)(i:∀c a d v w,Q (.panic c) (Zck a d v) w->Q (.panic c) a w)
 (b:(YF l.toArray&&decide (e.length+ls.length=l.toArray.size)&&lsB .any l.toArray n lates (hsB .any l.toArray n lates e) ls (Yu l.toArray.size false))=true) (m:S w.drew)
 (h:MQ P l.toArray S (λa'=>H2 P l.toArray Q S (FG lates S) e a' w.drew) ls a):(zU id l.toArray true).wp P Q a w:=by
 simp only[ZF,decide_eq_true_eq]at b;refine Zd5 j (JV (T:=FG lates S) _ _ _ _ ?_);have f:Dn .any l.toArray (Yu l.toArray.size false):=λk ok _ g=>by
  rw[show(Yu l.toArray.size false).getD k false=false by unfold Array.getD;split<;>simp]at g;cases g
 have:=Vd b.1.1 i m (λlisted a o q p=>O8 b.1.1 i e listed a w.drew o q p) ls _ a f b.2 h;rw[b.1.2]at this;exact this
variable {r:List (Bool×Nat)}
def SZ (b:ops[i]?=some o)(c:o.guard=none)(h:o.wp P a w (λa' w'=>T i w'/\H2 P ops Q S T r a' w') Q):H2 P ops Q S T ((false,i)::r) a w:=by
 unfold H2 wpOp;simp only[b];rw[if_pos (by simp[Yf,c])];exact .inl h
def EY (c:ops[i]?=some o)(d:o.guard=none)(b:(Zby a.eval o).run P w=.ok (.value v) w')(e:T i w')
 (h:H2 P ops Q S T r (a.put o.dst v) w'):H2 P ops Q S T ((false,i)::r) a w:=by
 refine SZ c d ?_;unfold ZbA;rw[b,Zdi];exact⟨e,h⟩
def Iy (c:ops[i]?=some o)(d:o.guard=none)(b:(Zby a.eval o).run P w=.ok (.enter f args) w)
 (h:Calls P f args w λe w'=>∃v,e=.returned v/\T i w'/\H2 P ops Q S T r (a.put o.dst v) w'):H2 P ops Q S T ((false,i)::r) a w:=by
 refine SZ c d ?_;unfold ZbA;rw[b,Zdj];refine h.mono λe w' ⟨v,g,k,j⟩=>?_;subst g;exact⟨k,j⟩
def N9 (c:ops[i]?=some o)(d:o.guard=none)(b:(Zby a.eval o).run P w=.ok .skip w')(e:T i w')
 (h:H2 P ops Q S T r (a.put o.dst Ze) w'):H2 P ops Q S T ((false,i)::r) a w:=by
 refine SZ c d ?_;unfold ZbA;rw[b,ZcQ];exact⟨e,h⟩
def Wz (e:S w)(c:ops[i]?=some o)(d:o.guard=none)(b:∀w,S w->(Zby a.eval o).run P w=.ok (.value v) w)
 (h:H2 P ops Q S T r (a.put o.dst v) w):H2 P ops Q S T ((true,i)::r) a w:=
 ⟨e,o,v,c,.inl ⟨by simp[Yf,d],b⟩,h⟩
end
def WA {n:Int}(h:Fo lo hi n=0):lo<=n/\n<=hi:=by
 refine G' ?_;cases e:AD n lo hi
 .rfl
 rw[Fo,if_pos e]at h;cases h
def Ef {b:Type}{f:b->Int}:∀ {l:List b},Bc f l=0->∀(k:Nat) (x:b),l[k]?=some x->f x=0
 | [],_,k,x,h=>by simp at h
 |y::r,a,k,x,h=>by
  unfold Bc at a;split at a
  .next c=>
   cases k with
   |zero=>simp at h;subst h;exact c
   |succ k=>exact Ef a k x (by simpa using h)
  next c=>exact absurd a c
def WB (h:CV p lo hi=0):lo<=p.1/\p.1<=hi/\lo<=p.2/\p.2<=hi/\p.1<=p.2:=by
 unfold CV at h;split at h
 .cases h
 next a=>
 split at h
 .cases h
 next d=>
 have c:AD p.1 lo hi=false:=by
  cases e:AD p.1 lo hi
  .rfl
  exact absurd (.inl e) a
 have b:AD p.2 lo hi=false:=by
  cases e:AD p.2 lo hi
  .rfl
  exact absurd (.inr e) a
 have:=G' c;have:=G' b;omega
def Fb (h:Ct c l=0):l.length=c.Aa.length/\∀i,i<l.length->(Aj c.Aa i).low<=nth l i/\nth l i<=(Aj c.Aa i).high:=by
 unfold Ct at h;split at h
 .cases h
 split at h
 .cases h
 refine⟨o!,λi hi=>?_⟩;exact WA (Ef h i _ (Ra hi o!))
def EG (h:BN c=0):Fq c:=by
 obtain⟨p,s⟩:=Bj h;obtain⟨j,r⟩:=Bj s;obtain⟨l,a⟩:=Bj r;obtain⟨y,q⟩:=Bj p;obtain⟨w,f⟩:=Bj q;split at f
 .cases f
 next v=>
 obtain⟨u,d⟩:=Bj f;split at d
 .cases d
 next t=>
 have b:∀i,i<c.Aa.length->EF c i=0:=λi hi=>by simpa using Gs l i _ (Db hi)
 have g:H0 c.Aa=true:=by
  cases e:H0 c.Aa
  .rw[e]at a;cases a
  rfl
 rw[g,if_pos rfl]at a;obtain⟨G,F⟩:=JQ y;obtain⟨E,D⟩:=JQ j;have A:c.Af.length=c.base.length:=YQ λx=>v x;have z:c.hooks.length=c.base.length:=YQ λx=>t x;exact {
  Fp:=⟨o!,o!⟩
  base:=λi hi=>WA (Ef w i _ (Bn hi))
  PN:=A
  Af:=λi hi=>by have:=WB (Ef u i _ (EE hi));omega
  hooks:=z
  hook:=λi hi=>WA (Ef d i _ (Bn hi))
  few:=⟨o!,o!⟩
  step:=λi hi=>by have:=WB (Bj (b i hi)).1;simp only at this;omega
  Ap:=λi hi=>by have:=JQ (Bj (Bj (b i hi)).2).1;omega
  pull:=λi hi k o=>by
   have:=Gs (Bj (Bj (Bj (b i hi)).2).2).1 k _ (EE o);unfold Fa at this;split at this
   .cases this
   next n=>
   split at this
   .cases this
   next m=>
   have C:AD (BV (Aj c.Aa i).Ap k).1 0 ((c.base.length:Int) - 1)=false:=by
    cases e:AD (BV (Aj c.Aa i).Ap k).1 0 ((c.base.length:Int) - 1)
    .rfl
    exact absurd e n
   have B:AD (BV (Aj c.Aa i).Ap k).2 (-4) 4=false:=by
    cases e:AD (BV (Aj c.Aa i).Ap k).2 (-4) 4
    .rfl
    exact absurd (.inr e) m
   have:=G' C;have:=G' B;omega
  over:=SQ j l
  left:=λi hi=>WA (Bj (Bj (Bj (Bj (b i hi)).2).2).2).2
  ring:=g
  now:=a}
def Fq.uy (h:Fq c):c.now.length=c.Aa.length:=(Fb h.now).1
def S0 (a:Fq c)(h:Ct c l=0):∀i,i<l.length->-2<=nth l i/\nth l i<=2:=λi hi=>by
 obtain⟨d,b⟩:=Fb h;have:=b i hi;have:=a.step i o!;omega
def Ha {s:List (Int×Int)}(h:Fs n s=0):s.length=n/\∀i,i<s.length->0<=(BV s i).1/\(BV s i).1<=99/\0<=(BV s i).2/\(BV s i).2<=99:=by
 unfold Fs at h;split at h
 .cases h
 split at h
 .cases h
 refine⟨o!,λi hi=>?_⟩;have:=WB (Ef h i _ (EE hi));omega
def Ve (a:s<2^n)(hi:i<n):Iv s i<2^n:=
 Zba a (by rw[Nat.one_shiftLeft];exact Nat.pow_lt_pow_right d! hi)
def pR {o:Nat}(h:∀j,ab j<2^n)(a:o<n):∀j,Ql ab i o j<2^n:=λj=>by
 unfold Ql;split
 .exact Zba (h i) (Ve (h o) a)
 exact h j
def S1 {i n:Nat}:∀(l:List Int) (ab:Nat->Nat),(∀j,ab j<2^n)->(∀x∈l,0<=x/\x<n)->∀j,HJ ab i l j<2^n
 | [],_,h,_=>h
 |x::r,ab,h,a=>S1 r _ (pR h (by have:=a x (zC ..);omega)) λy b=>a y (zm _ b)
def S2 {n:Nat}:∀(l:List Ay) (ab:Nat->Nat) (i:Nat),(∀j,ab j<2^n)->(∀s∈l,∀x∈s.over,0<=x/\x<n)->∀j,K6 ab i l j<2^n
 | [],_,_,h,_=>h
 |s::r,ab,i,h,a=>S2 r _ (i+1) (S1 s.over ab h (a s (zC ..))) λy b=>a y (zm _ b)
def PR {n:Nat}{l:List Ay}(a:∀s∈l,∀x∈s.over,0<=x/\x<n):∀(k:Nat) (ab:Nat->Nat),(∀j,ab j<2^n)->∀j,G5 ab l k j<2^n
 |0,_,h=>h
 |k+1,ab,h=>PR a k _ (S2 l ab 0 h a)
def LH {l:List Ay}(h:JO l):∀j,Ax l j<2^l.length:=
 PR (λs b x a=>by
  obtain⟨i,hi,rfl⟩:=bE b;obtain⟨k,c,rfl⟩:=ik a;exact h.over i hi k c) _ _ λ_=>Zdz _
def S3 {l:List Ay}(h:JO l):∀j,j<3->Ax l j<8:=λj _=>
 Zl (LH h j) (show 2^l.length<=2^3 from YX d! h.few)
def JW {ab:Nat->Nat}{now:List Int}{n:Nat}(a:∀i,ab i<2^n):∀(l:List Int) (k s:Nat),k+l.length<=n->s<2^n->JR ab now k l s<2^n
 | [],_,_,_,h=>h
 |y::r,k,s,b,h=>by
  have c:k+(r.length+1)<=n:=b;refine JW a r (k+1) _ o! ?_;split
  .exact h
  exact Zba h (Ve (a k) o!)
def N_ (h:t<2^n):∀x,x∈AB t->0<=x/\x<n:=λx a=>by
 unfold AB FF at a;obtain⟨i,hi,rfl⟩:=List.mem_map.1 a;have c:=(List.mem_filter.1 hi).2;refine⟨o!,?_⟩;have:2^i<=t:=Nat.ge_two_pow_of_testBit c;have:i<n:=by
  refine YQ λb=>?_;have:=YX (n:=2) d! (Zdl b);omega
 omega
def MT (a:Fq c)(hl:l.length<=c.Aa.length):∀x,x∈AB (Cx (Ax c.Aa) c.now l)->0<=x/\x<c.Aa.length:=
 N_ (JW (LH a.over) l 0 0 o! (Zdz _))
def Cc (c:A_)(l:List Int):List Int:=(Yr c.base.length).map (measure c l)
def iy (w:Zb)(l:List Int)(e:Int)(a:Ending)(w':Zb):Prop:=∃v,a=.returned (.tuple #[v,J I e])/\Bl w w'/\SI (Cb w w') w' v l
def JX (c:A_)(l:List Int):List Int:=if Ca c l=0 then Cc c l else []
def WC:SI S w () []:=⟨none,0,rfl,Zj _,Zp _,λi x a=>by cases a⟩
def MU (h:i<c.base.length):(Cc c l)[i]?=some (measure c l i):=by
 simp[Cc,h]
def bI {o:Obj}(h:YH (w.alloc o).heap.size (w.alloc o) w'):w<w'.heap.size:=by
 have:=h.size;rw[ZB]at this;omega
def kB (l:List Int)(f:1<=c.base.length/\c.base.length<=3)(W:Zb):SI (λb=>b=W.heap.size) (W.alloc (.cells #[J I (measure c l 0),J I (measure c l 1),J I (measure c l 2)] 150)) (U W c.base.length 3) (Cc c l):=by
 have a:(Cc c l).length=c.base.length:=by simp[Cc]
 refine⟨some ⟨W,0,none⟩,3,by rw[a],o!,d!,λi x d=>?_⟩;have hi:i<c.base.length:=by rw[<-a];exact(Zm.1 d).1
 rw[MU hi]at d;cases d;refine⟨W,0,[J I (measure c l i)],rfl,rfl,rfl,λj u e=>?_,rfl⟩;cases j with
 |zero=>
  cases e;rw[show 0+i*1+0=i by omega];exact cn W (T4 (measure c l)) 150 (Gt o!)
 |succ j=>cases e
def c45 (h:RC S w v1 v2 v3 v4 v5 c)(hl:SI S w v6 l)(n:Ql6 S w):
  Calls Lp 45 #[.agg #[v1,v2,v3,v4,v5],v6] w (iy w (JX c l) (Ca c l)):=by
 obtain⟨O,H,N,G,M,F,L,E,K,D,rfl,rfl,rfl,rfl,rfl,l1,m1,l2,m2,l3,m3,l4,m4,l5,m5⟩:=h.vs;obtain⟨a6,c6,rfl,l6,m6⟩:=hl.val;have IX:=DJ;have f:Bl w (w.alloc (.cells (Qe6 c O H N G M F L E K D) 26)):=(Zh _ _).alloc (Zj _) _;by_cases d:Ca c l=0
 .obtain⟨p,j⟩:=Bj d
  have m:=EG p;have q:=Zd (show JX c l=Cc c l by rw[JX,if_pos d]);have A:=Zd d;obtain⟨P,_⟩:=Fb j;have g:=Zd (λW a=>Rc (w:=W) (h.later a) (hl.later a) (A3 n a) p);rw[j]at g;have u:=Zd (λW a=>ah4 (w:=W) (h.later a) m (hl.later a) o! (S0 m j) (A3 n a) (Ax c.Aa 0) (Ax c.Aa 1) (Ax c.Aa 2));have C:=m.Fp;have n8:(c.base.length:Int)<=3:=o!
  clear d p j P;go_enter Lp.func45,n45;go_wp2_with (first|(go_at_call 112;refine(g.out _ f).mono ?_;rintro e w1 ⟨rfl,t⟩;have i:=f.trans (t.mono f.size))|(go_at_call 113;refine(u.out _ (bA i)).mono ?_;rintro e w2 ⟨rfl,r⟩;obtain⟨NP,MK⟩:=E7 r;have hz:=bI r;have s:=(bA (o:=.cells #[J I (measure c l 0),J I (measure c l 1),J I (measure c l 2)] 150) ((bA i).trans (r.mono (bA i).size)));clear g u)|(go_at_call 106;refine(kt (kB l C _) (by simp[Cc];omega)).mono ?_;rintro e w3 ⟨v,rfl,R,B⟩;have Q:=s.trans (R.mono s.size)));go_ret2;exact⟨v,by rw[A.out];rfl,Q,by rw[q.out];exact B.imp (λb y=>⟨Zr s.size y.1,y.2⟩) λ_ _ h=>h⟩
 have q:=Zd (show JX c l=[] by rw[JX,if_neg d]);have A:=Zd d;have g:=Zd (λW a=>pF (w:=W) (h.later a) (hl.later a) (A3 n a));obtain⟨x,k⟩:=Qnm (Ca c l);have Oo:x≠0:=by rw[k];exact d
 have z:=Zd k;clear d k;go_enter Lp.func45,n45;go_wp2_with (go_at_call 112;refine(g.out _ f).mono ?_;rintro e w1 ⟨Z,Y,X,V,T,n1,n2,n3,n4,n5,d1,d2,d3,d4,d5,k0,k1,k2,rfl,t,_⟩;have i:=f.trans (t.mono f.size);rw[<-z.out]);go_ret2;refine⟨U none 0 0,by rw[z.out];rfl,?_,by rw[q.out];exact WC⟩
 repeat (with_reducible first|exact i|refine bA ?_|(refine bS ?_ o!)|refine bD ?_|refine bN ?_)
def Oa (c:A_)(l:List Int)(s:List (Int×Int)):Int:=PM (Ca c l) (Fs c.base.length s)
def Mf (c:A_)(l:List Int)(s:List (Int×Int)):Bool:=if Oa c l s=0 then BZ c l s else false
def c62 {s:List (Int×Int)}(h:RC S w v1 v2 v3 v4 v5 c)(hl:SI S w v6 l)(y:SP S w v7 s)(q:Ql6 S w):
  Calls Lp 62 #[.agg #[v1,v2,v3,v4,v5],v6,v7] w λe w'=>e=.returned (.tuple #[.bool (Mf c l s),J I (Oa c l s)])/\Bl w w':=by
 obtain⟨Q,L,P,K,O,H,N,G,M,F,rfl,rfl,rfl,rfl,rfl,l1,m1,l2,m2,l3,m3,l4,m4,l5,m5⟩:=h.vs;obtain⟨a6,c6,rfl,l6,m6⟩:=hl.val;have IX:=DJ;have f:Bl w (w.alloc (.cells (Qe6 c Q L P K O H N G M F) 26)):=(Zh _ _).alloc (Zj _) _;obtain⟨a7,c7,rfl,l7,m7⟩:=y.val;by_cases g:Ca c l=0
 .obtain⟨t,n⟩:=Bj g
  have C:=EG t;have i:=Zd (show Oa c l s=Fs c.base.length s by rw[Oa,BR g]);obtain⟨D,_⟩:=Fb n;have k:=Zd (λW a=>Rc (w:=W) (h.later a) (hl.later a) (A3 q a) t);rw[n]at k;have r:=Zd (λW a=>abe (w:=W) (h.later a) (y.later a) (A3 q a) (Ax c.Aa 0) (Ax c.Aa 1) (Ax c.Aa 2));by_cases b:Fs c.base.length s=0
  .obtain⟨v,B⟩:=Ha b
   rw[b]at r;have m:=Zd (show Mf c l s=BZ c l s by rw[Mf,i.out,if_pos b]);have u:=Zd b;have z:=Zd (λW a=>aha (w:=W) (h.later a) C (hl.later a) (y.later a) o! (S0 C n) o! B (A3 q a) (Ax c.Aa 0) (Ax c.Aa 1) (Ax c.Aa 2));clear g t n D b v B;go_enter Lp.func62,n62;go_wp2_with (first|(go_at_call 112;refine(k.out _ f).mono ?_;rintro e w1 ⟨rfl,p⟩;have d:=f.trans (p.mono f.size))|(go_at_call 101;refine(r.out _ (bA d)).mono ?_;rintro e w2 ⟨rfl,j⟩;obtain⟨T,U⟩:=E7 j;have E:=bI j;have o:=(bA d).trans (j.mono (bA d).size))|(go_at_call 126;refine(z.out _ o).mono ?_;rintro e w3 ⟨rfl,V⟩;have R:=o.trans (V.mono o.size)));go_ret2;exact⟨by rw[m.out,i.out,u.out];rfl,R⟩
  have m:=Zd (show Mf c l s=false by rw[Mf,i.out,if_neg b]);obtain⟨x,A⟩:=Qnm (Fs c.base.length s);rw[<-A]at r i b;clear g t n D A;go_enter Lp.func62,n62;go_wp2_with (first|(go_at_call 112;refine(k.out _ f).mono ?_;rintro e w1 ⟨rfl,p⟩;have d:=f.trans (p.mono f.size))|(go_at_call 101;refine(r.out _ (bA d)).mono ?_;rintro e w2 ⟨rfl,j⟩;obtain⟨T,U⟩:=E7 j;have E:=bI j;have o:=(bA d).trans (j.mono (bA d).size)));go_ret2;exact⟨by rw[m.out,i.out];rfl,o⟩
 have i:=Zd (show Oa c l s=Ca c l by rw[Oa,K4 g]);have m:=Zd (show Mf c l s=false by rw[Mf,i.out,if_neg g]);have k:=Zd (λW a=>pF (w:=W) (h.later a) (hl.later a) (A3 q a));obtain⟨x,b⟩:=Qnm (Ca c l);have Oo:x≠0:=by rw[b];exact g
 have u:=Zd b;clear g b;go_enter Lp.func62,n62;go_wp2_with (go_at_call 112;refine(k.out _ f).mono ?_;rintro e w1 ⟨q1,q2,Z,Y,X,n1,n2,n3,n4,n5,d1,d2,d3,d4,d5,k0,k1,k2,rfl,p,_⟩;have d:=f.trans (p.mono f.size);rw[<-u.out]);go_ret2;refine⟨by rw[m.out,i.out,u.out];rfl,?_⟩
 repeat (with_reducible first|exact d|refine bA ?_|(refine bS ?_ o!)|refine bD ?_|refine bN ?_)
def DS (c:A_)(l:List Int):Nat:=Cx (Ax c.Aa) c.now l
def Eg (c:A_)(l:List Int):Int:=PM (Ca c l) (if JU c (DS c l)=none then 0 else 12)
def ahd (w:Zb)(v1 v2 v3 v4 v5:Zf)(c:A_)(l:List Int)(e:Ending)(w':Zb):Prop:=
 ∃(g:Array Zf) (t:Nat),e=.returned (.tuple #[.agg g,J .u8 t,J I (Eg c l)])/\Bl w w'/\(Eg c l=0->g=AW v1 v2 v3 v4 v5 (Ax c.Aa)/\t=DS c l)/\(Eg c l≠0->g= #[U none 0 0,U none 0 0,U none 0 0,U none 0 0,U none 0 0,J .u8 0,J .u8 0,J .u8 0]/\t=0)
def K_ {fn:Func}{p u x:Tmp}(h:fn.results= #[.cell p ty,.tmp u,.tmp x])(tmps:Array Zf)(P:Zo)(w:Zb):
  (results fn tmps).run P w=((asAddr (tmps.getD p Ze)).run P w).andThen λa w₁=>((Zdd ty a).run P w₁).andThen λv w₂=>.ok (.tuple #[v,tmps.getD u Ze,tmps.getD x Ze]) w₂:=by
 simp only[results,h];simp[zg,zu]
def ao2 (h:RC S w v1 v2 v3 v4 v5 c)(hl:SI S w v6 l)(z:Ql6 S w):
  Calls Lp 119 #[.agg #[v1,v2,v3,v4,v5],v6] w (ahd w v1 v2 v3 v4 v5 c l):=by
 obtain⟨L,E,K,D,H,C,G,B,F,A,rfl,rfl,rfl,rfl,rfl,l1,m1,l2,m2,l3,m3,l4,m4,l5,m5⟩:=h.vs;obtain⟨a6,c6,rfl,l6,m6⟩:=hl.val;have IX:=DJ;have j:Bl w (w.alloc (.cells (Qe6 c L E K D H C G B F A) 26)):=(Zh _ _).alloc (Zj _) _;by_cases k:Ca c l=0
 .obtain⟨s,u⟩:=Bj k
  have r:=EG s;have q:=Zd (show Eg c l=if JU c (DS c l)=none then 0 else 12 by rw[Eg,BR k]);obtain⟨O,_⟩:=Fb u;have N:=r.uy;have o:=r.few;have p:=Zd (λW a=>Rc (w:=W) (h.later a) (hl.later a) (A3 z a) s);rw[u]at p;have f:=Zd (λW a=>c90 (w:=W) (h.later a) (hl.later a) o! o! (S3 r.over) (MT r o!) (A3 z a));change Hid (∀(W:Zb) (a:Bl w W),Calls Lp 90 _ _ λe w'=>e=.returned (uv (DS c l) (JU c (DS c l)))/\Bl W w') at f;cases d:JU c (DS c l) with
  |none=>
   rw[d]at f;have g:=Zd (show Eg c l=0 by rw[q.out,if_pos d]);obtain⟨t,n⟩:=Qnm (DS c l);rw[<-n]at f;change Hid (∀(W:Zb) (a:Bl w W),Calls Lp 90 _ _ λe w'=>e=.returned (.tuple #[J .u8 t,.nilIface])/\Bl W w') at f;have HT:=Zd n;clear k s u O N o d n;go_enter Lp.func119,ab6;go_wp2_with (first|(go_at_call 112;refine(p.out _ (bA j)).mono ?_;rintro e w1 ⟨rfl,b⟩;have i:=(bA j).trans (b.mono (bA j).size);obtain⟨R,T⟩:=bw b;obtain⟨Z,V⟩:=E7 b)|(go_at_call 90;refine(f.out _ (bA i)).mono ?_;rintro e w2 ⟨rfl,m⟩;obtain⟨P,Q⟩:=E7 m;have X:=bI m;have M:=(bA i).trans (m.mono (bA i).size)));refine ZN (v:=.tuple #[.agg #[U L c.base.length E,U K c.Af.length D,U H c.hooks.length C,U G c.Aa.length B,U F c.now.length A,J .u8 (Ax c.Aa 0),J .u8 (Ax c.Aa 1),J .u8 (Ax c.Aa 2)],J .u8 t,J I 0]) (by rw[K_ rfl];go_simp) rfl ?_;refine⟨AW (U L c.base.length E) (U K c.Af.length D) (U H c.hooks.length C) (U G c.Aa.length B) (U F c.now.length A) (Ax c.Aa),t,by rw[g.out];rfl,?_,λ_=>⟨rfl,HT.out⟩,λx=>absurd g.out x⟩
   repeat (with_reducible first|exact M|refine bA ?_|(refine bS ?_ o!)|refine bD ?_|refine bN ?_)
  |some x=>
   rw[d]at f;have g:=Zd (show Eg c l=12 by rw[q.out,if_neg (by rw[d];simp)]);obtain⟨t,n⟩:=Qnm (DS c l);rw[<-n]at f;change Hid (∀(W:Zb) (a:Bl w W),Calls Lp 90 _ _ λe w'=>e=.returned (.tuple #[J .u8 0,.iface 121 (.agg #[J I x])])/\Bl W w') at f;clear k s u O N o d n;go_enter Lp.func119,ab6;go_wp2_with (first|(go_at_call 112;refine(p.out _ (bA j)).mono ?_;rintro e w1 ⟨rfl,b⟩;have i:=(bA j).trans (b.mono (bA j).size);obtain⟨R,T⟩:=bw b;obtain⟨Z,V⟩:=E7 b)|(go_at_call 90;refine(f.out _ (bA i)).mono ?_;rintro e w2 ⟨rfl,m⟩;obtain⟨P,Q⟩:=E7 m;have X:=bI m;have M:=(bA i).trans (m.mono (bA i).size)));refine ZN (v:=.tuple #[.agg #[(),(),(),(),(),J .u8 0,J .u8 0,J .u8 0],J .u8 0,J I 12]) (by rw[K_ rfl];go_simp) rfl ?_;refine⟨#[U none 0 0,U none 0 0,U none 0 0,U none 0 0,U none 0 0,J .u8 0,J .u8 0,J .u8 0],0,by rw[g.out];rfl,?_,λy=>absurd (g.out.symm.trans y) d!,λ_=>⟨rfl,rfl⟩⟩
   repeat (with_reducible first|exact M|refine bA ?_|(refine bS ?_ o!)|refine bD ?_|refine bN ?_)
 have q:=Zd (show Eg c l=Ca c l by rw[Eg,K4 k]);have p:=Zd (λW a=>pF (w:=W) (h.later a) (hl.later a) (A3 z a));obtain⟨x,d⟩:=Qnm (Ca c l);have Y:x≠0:=by rw[d];exact k
 have g:=Zd d;clear k d;go_enter Lp.func119,ab6;go_wp2_with (go_at_call 112;refine(p.out _ (bA j)).mono ?_;rintro e w1 ⟨q1,q2,q3,q4,q5,n1,n2,n3,n4,n5,d1,d2,d3,d4,d5,k0,k1,k2,rfl,b,_⟩;have i:=(bA j).trans (b.mono (bA j).size);rw[<-g.out];obtain⟨P,Q⟩:=E7 b;obtain⟨R,T⟩:=bw b);refine ZN (v:=.tuple #[.agg #[(),(),(),(),(),J .u8 0,J .u8 0,J .u8 0],J .u8 0,J I x]) (by rw[K_ rfl];go_simp) rfl ?_;refine⟨#[U none 0 0,U none 0 0,U none 0 0,U none 0 0,U none 0 0,J .u8 0,J .u8 0,J .u8 0],0,by rw[q.out, <-g.out];rfl,?_,λy=>absurd ((g.out.trans q.out.symm).trans y) Y,λ_=>⟨rfl,rfl⟩⟩
 repeat (with_reducible first|exact i|refine bA ?_|(refine bS ?_ o!)|refine bD ?_|refine bN ?_)
def La (ab:Nat->Nat)(t d:Nat)(i:Int):Bool:= !hasB d i.toNat&&(AB t).all λb=> !(hasB (ab b.toNat) i.toNat&& !hasB d b.toNat)
def IQ (ab:Nat->Nat)(t:Nat):Nat->List Int->Nat->Option (List Int)
 |f,o,d=>if o.length<(AB t).length then(match f with
   |0=>none
   |f+1=>match(AB t).find? (La ab t d) with
    |none=>none
    |some i=>IQ ab t f (o++ [i]) (Iv d i.toNat)) else some o
def WE (c:A_)(l:List Int):Option (List Int):=IQ (Ax c.Aa) (DS c l) 3 [] 0
def MV (c:A_)(l:List Int):List Int:=if Eg c l=0 then(WE c l).getD [] else []
def pS {f:Int->Bool}(h:k<l.length):(l.drop k).all f=(f (nth l k)&&(l.drop (k+1)).all f):=by
 obtain⟨a,e⟩:=Zm.1 (Bn h);rw[ZO a,e,Zbs]
def kC {f:Nat}{o:List Int}(h:IQ ab t f o d=some L)(hl:o.length<(AB t).length):
  ∃a i,f=a+1/\(AB t).find? (La ab t d)=some i/\IQ ab t a (o++ [i]) (Iv d i.toNat)=some L:=by
 unfold IQ at h;rw[if_pos hl]at h;cases f with
 |zero=>cases h
 |succ f=>
  simp only at h;cases e:(AB t).find? (La ab t d) with
  |none=>rw[e]at h;cases h
  |some i=>rw[e]at h;exact⟨f,i,rfl,rfl,h⟩
def eK {f:Nat}{o:List Int}(h:IQ ab t f o d=some L)(hl:¬o.length<(AB t).length):o=L:=by
 unfold IQ at h;rw[if_neg hl]at h;cases h
 rfl
def c54 (h:RC S w v1 v2 v3 v4 v5 c)(hl:SI S w v6 l)(hS:Ql6 S w)(G:Eg c l=0->∃L,WE c l=some L):
  Calls Lp 54 #[.agg #[v1,v2,v3,v4,v5],v6] w (iy w (MV c l) (Eg c l)):=by
 obtain⟨a1,c1,a2,c2,a3,c3,a4,c4,a5,c5,rfl,rfl,rfl,rfl,rfl,l1,m1,l2,m2,l3,m3,l4,m4,l5,m5⟩:=h.vs;obtain⟨a6,c6,rfl,l6,m6⟩:=hl.val;obtain⟨i0,hi,Fl,DR,EB⟩:=zp KY;have Y:=Cz YE;have IX:=DJ;have N:Bl w (w.alloc (.cells (Qe6 c a1 c1 a2 c2 a3 c3 a4 c4 a5 c5) 26)):=(Zh _ _).alloc (Zj _) _;have T:=Zd (λW hB=>ao2 (w:=W) (h.later hB) (hl.later hB) (A3 hS hB));by_cases D:Eg c l=0
 .obtain⟨L,hL⟩:=G D
  have HV:=Zd (show MV c l=L by rw[MV,if_pos D,hL];rfl);have HR:=Zd D;obtain⟨P,_⟩:=Bj D;obtain⟨Jz,ER⟩:=Bj P;have C:=EG Jz;have hn:l.length<=c.Aa.length:=by have:=(Fb ER).1;omega
  have HS:=Zd (MT C hn);have pT:=S3 C.over;have pK:DS c l<8:=U9 pT (by have:=C.few;omega);obtain⟨t,O⟩:=Qnm (DS c l);have V:∀x,x∈AB t->0<=x/\x<(3:Int):=N_ (n:=3) (by rw[O];exact pK);have HL:=Zd (show IQ (Ax c.Aa) t 3 [] 0=some L by rw[O];exact hL);rw[<-O]at pK;have HT:=Zd O;have ct:(AB t).length<=3:=Jo t 3;obtain⟨ab,DU⟩:=Qnm (Ax c.Aa);have mG:=Zd DU;rw[<-DU]at HL pT;clear D hL P Jz ER O DU C hn G;go_enter Lp.func54,n54;go_wp2;go_step3;go_wp2_with (first|(go_at_call 119;refine(T.out _ N).mono ?_;rintro e w1 ⟨g,t',rfl,Bb,MF,X⟩;obtain⟨rfl,rfl⟩:=MF HR.out;clear MF X;have Bv:=N.trans (Bb.mono N.size);rw[HR.out, <-HT.out, <-mG.out];simp only[AW])|(go_at_call 120;refine(abf pK).mono ?_;rintro e w2 ⟨v,rfl,De,C,_⟩;have Rk:=(De.block _ i!).trans (Bp _ _);have Cj:=(bA Bv).trans (De.mono (bA Bv).size);obtain⟨a7,c7,rfl,l7,m7⟩:=C.val));go_step3;go_wp2;have nj:=Za.1 Rk|>.1;go_loopg [9,10] 3 (λg v x wr=>∃(f:Nat) (o:List Int) (d:Nat),IQ ab t f o d=some L/\f+o.length=3/\g=f/\x=.int .u8 d/\d<8/\wr.ownsRow w2 3 1 v o.length (o.map (ZL I))/\Bl w2 wr)
  case atStart=>exact⟨3,[],0,HL.out,rfl,rfl,rfl,o!,zq _ _ _ _,Zh _ _⟩
  obtain⟨f,o,d,E,dl,rfl,rfl,r,AX,M⟩:=hrel;have hf:=Zd E;clear E;obtain⟨a8,c8,an,l8,m8,_⟩:=JS AX;subst an;by_cases Az:o.length<(AB t).length
  .obtain⟨f',x,rfl,R,pU⟩:=kC hf.out Az
   have B_:=Zd R;have Py:=Zd pU;clear R pU;have S4:=(M.block _ nj).trans Rk;have K:=Zd (λs i (hs:s<8) (hi:i<3) W=>ab8 s i hs hi W);go_wp2;go_step3;go_wp2;go_step3;go_wp2;go_loopg [9,10,35] (AB t).length (λg v9 ai i wx=>∃k:Nat,k<=(AB t).length/\g=(AB t).length - k/\i=.int I k/\v9=.slice a8 o.length c8/\ai=.int .u8 d/\((AB t).drop k).find? (La ab t d)=some x/\wx=wr)
   case atStart=>exact⟨0,Zp _,rfl,rfl,rfl,rfl,B_.out,rfl⟩
   obtain⟨k,hk,rfl,rfl,rfl,rfl,E,rfl⟩:=hrel;have MK:=Zd E;clear E;by_cases G4:k<(AB t).length
   .obtain⟨b,o1,rfl,hb,hc⟩:=C.at_ G4
    have GK:b<w2:=hb.2;rw[<-M.cell (p:=⟨b,o1+k,none⟩) GK]at hc;have q:=Zd (U_ (f:=La ab t d) G4);obtain⟨bi,be⟩:=V _ (Rd G4);obtain⟨y,hy⟩:∃y:Nat,nth (AB t) k=y:=⟨(nth (AB t) k).toNat,o!⟩;rw[hy]at hc q bi be;have HY:=Zd hy;clear hy;have a:y<3:=o!
    have ck:(y:Int)<3:=o!
    by_cases H:hasB d y=true
    .have rG:La ab t d (y:Int)=false:=by simp[La,H]
     have b9:=Zd rG;clear rG;go_wp2_with (go_at_call 122;refine(K.out d y r a _).mono ?_;rintro e w' ⟨rfl,rfl⟩);go_roundg ((AB t).length - (k+1))
     case rel=>exact⟨k+1,o!,rfl,v!,rfl,rfl,by rw[<-MK.out,q.out,b9.out];rfl,rfl⟩
     omega
    have b8:hasB d y=false:=by simpa using H
    clear H;go_wp2_with (go_at_call 122;refine(K.out d y r a _).mono ?_;rintro e w' ⟨rfl,B⟩;obtain rfl:=B.symm;clear B);go_loopg [44] (AB t).length (λg i wx=>∃m:Nat,m<=(AB t).length/\g=(AB t).length - m/\i=.int I m/\(((AB t).drop m).all λb=> !(hasB (ab b.toNat) (y:Int).toNat&& !hasB d b.toNat))=La ab t d (y:Int)/\wx=wr)
    case atStart=>exact⟨0,Zp _,rfl,rfl,by simp[La,b8],rfl⟩
    obtain⟨m,hm,rfl,rfl,E,rfl⟩:=hrel;have Q:=Zd E;clear E;by_cases ey:m<(AB t).length
    .obtain⟨b',o2,e',G1,OJ⟩:=C.at_ ey
     cases e';rw[<-M.cell (p:=⟨b,o1+m,none⟩) GK]at OJ;have A:=Zd (pS (f:=λb=> !(hasB (ab b.toNat) (y:Int).toNat&& !hasB d b.toNat)) ey);obtain⟨eL,bV⟩:=V _ (Rd ey);obtain⟨z,hz⟩:∃z:Nat,nth (AB t) m=z:=⟨(nth (AB t) m).toNat,o!⟩;rw[hz]at OJ A eL bV;clear hz;have Rb:z<3:=o!
     have ci:(z:Int)<3:=o!
     have DU:=pT z Rb;have gz:=ch S4 (HN Rb);go_wp2_with (go_at_call 122;refine(K.out _ _ a! a! _).mono ?_;rintro e w' ⟨rfl,B⟩;obtain rfl:=B.symm;clear B)
     .have q1:hasB (ab z) y=true:=by assumption
      have F:(!hasB d z)=true:=a!
      have q2:hasB d z=false:=by simpa using F
      have e4:La ab t d (y:Int)=false:=by rw[<-Q.out,A.out];simp[q1,q2]
      go_roundg ((AB t).length - (k+1))
      case rel=>exact⟨k+1,o!,rfl,v!,rfl,rfl,by rw[<-MK.out,q.out,e4];rfl,rfl⟩
      omega
     .have F:(!hasB d z)=false:=by assumption
      have q2:hasB d z=true:=by simpa using F
      go_roundg ((AB t).length - (m+1))
      case rel=>exact⟨m+1,o!,rfl,v!,by rw[<-Q.out,A.out];simp[q2],rfl⟩
      omega
     have am:¬hasB (ab z) y=true:=a!
     have q1:hasB (ab z) y=false:=by simpa using am
     go_roundg ((AB t).length - (m+1))
     case rel=>exact⟨m+1,o!,rfl,v!,by rw[<-Q.out,A.out];simp[q1],rfl⟩
     omega
    have e2:La ab t d (y:Int)=true:=by rw[<-Q.out,Z7.2 o!];rfl
    have e3:(y:Int)=x:=by
     have:=MK.out;rw[q.out,if_pos e2]at this;exact ZW this
    subst e3;clear e2;have yU:IQ ab t f' (o++ [(y:Int)]) (Iv d y)=some L:=Py.out;have Py:=Zd yU;have bv:=M.size;clear yU Q;have du:o.length<=3:=o!
    go_wp2_with (first|(go_at_call 123;refine(ab9 d y r a _).mono ?_;rintro e w' ⟨rfl,B⟩;obtain rfl:=B.symm;clear B)|(at_builtin;refine Yc _ rfl _ _ 22 rfl w2 3 i0 (J I 0) 1 8 Y (Dz hi) Fl DR EB rfl d! _ _ _ rfl (AX.alloc _) ⟨_,0,none⟩ 1 1 [J I y] rfl rfl (by intro j u Z;match j,Z with|0,Z=>(simp at Z;subst Z;simp[Zcu])) (by intro u Y;simp at Y;subst Y;rfl) u! o! j! ?_;intro v' w9 Bi AG Gc));have hg:(wr.alloc (.cells #[J I y] 3)).grownBy w9 (Zy a8 o.length c8).ownBlock:=AG;have Jx:Bl w2 w9:=Bm (M.alloc bv _) hg (λk hk=>(AX.lt k hk).1) j!;have Cm:w9.ownsRow w2 3 1 v' (o++ [(y:Int)]).length ((o++ [(y:Int)]).map (ZL I)):=by simpa using Bi
    clear AG hg Gc Bi;rw[Exit.noGoto_exit];go_wp2;go_roundg f'
    case rel=>exact⟨f',o++ [(y:Int)],Iv d y,Py.out,j!,rfl,rfl,Jl r a,Cm,Jx⟩
    omega
   exact absurd MK.out (by rw[Z7.2 o!];simp)
  have e1:=Zd (eK hf.out Az);clear hf;have S4:=(M.block _ nj).trans Rk;have ap:=eC AX;have DM:=Cj.trans (M.mono Cj.size);have D':=Cj.size;go_wp2;rw[Exit.noGoto_ret];go_ret2;exact⟨U a8 o.length c8,by rw[HR.out];rfl,DM,by rw[HV.out, <-e1.out];exact ap.imp (λb hb=>⟨Zr D' hb.1,hb.2⟩) λ_ _ h=>h⟩
 obtain⟨x,hx⟩:=Qnm (Eg c l);have Oo:x≠0:=by rw[hx];exact D
 have HX:=Zd hx;have HV:=Zd (show MV c l=[] by rw[MV,if_neg D]);clear hx D G;go_enter Lp.func54,n54;go_wp2;go_step3;go_wp2_with (go_at_call 119;refine(T.out _ N).mono ?_;rintro e w1 ⟨g,t',rfl,Bb,MF,X⟩;obtain⟨rfl,rfl⟩:=X (by rw[<-HX.out];exact Oo);clear MF X;have Bv:=N.trans (Bb.mono N.size);rw[<-HX.out]);rw[Exit.noGoto_ret];go_ret2;refine⟨U none 0 0,by rw[HX.out];rfl,?_,by rw[HV.out];exact WC⟩
 repeat (with_reducible first|exact Bv|refine bA ?_|(refine bS ?_ o!)|refine bD ?_|refine bN ?_)
def NA (m q b:Nat):Prop:=m<=b/\b<q
def NB (q:Nat)(w:Zb)(b:Nat):Prop:=q<b/\b<w
abbrev Qz6:Array Zf:= #[(),(),(),(),()]
structure CW (S:Nat->Prop)(w:Zb)(m q cap:Nat)(u1 u2 u3 u5:Zf)(c:A_)(k:Nat)(cur:Array Zf)(wr:Zb):Prop where
 below:Bl w wr
 res:wr.heap[w.heap.size+1]?=some (.cells Qz6 26 (0,0))
 box:wr.heap[w.heap.size+1+1]?=some (.cells #[u1,u2,u3,U q c.Aa.length cap,u5] 26 (0,0))
 base:SI (NA m q) wr u1 c.base
 Af:SP (NA m q) wr u2 c.Af
 hooks:SI (NA m q) wr u3 c.hooks
 now:SI (NA m q) wr u5 c.now
 arr:wr.heap[q]?=some (.cells cur 62 (0,0))
 at_:∀i,i<c.Aa.length->∃v2 v3,cur[i*5]?=some (J I (Aj c.Aa i).low)/\cur[i*5+1]?=some (J I (Aj c.Aa i).high)/\cur[i*5+2]?=some v2/\cur[i*5+3]?=some v3/\cur[i*5+4]?=some (J I (Aj c.Aa i).left)/\
  ((i<k/\SP (NB q wr) wr v2 (Aj c.Aa i).Ap/\SI (NB q wr) wr v3 (Aj c.Aa i).over)\/(k<=i/\SP S w v2 (Aj c.Aa i).Ap/\SI S w v3 (Aj c.Aa i).over))
def B3.same {wr:Zb}(h:B3 q wr W)(d:∀b,T b->b≠q):CE T wr W:=λb c a=>h.block b a (d b c)
def NB.mono (h:w<=W.heap.size)(a:NB q w b):NB q W b:=⟨a.1,Zl a.2 h⟩
def CW.later {wr:Zb}{m:Nat}{u3:Zf}(h:CW S w m q cap u1 u2 u3 u5 c k cur wr)(a:Bl wr W):CW S w m q cap u1 u2 u3 u5 c k cur W:=
 {below:=h.below.trans (a.mono h.below.size),res:=(a.block _ (Za.1 h.res).1).trans h.res,box:=(a.block _ (Za.1 h.box).1).trans h.box,base:=h.base.later a,Af:=h.Af.later a,hooks:=h.hooks.later a,now:=h.now.later a,arr:=(a.block _ (Za.1 h.arr).1).trans h.arr,at_:=λi hi=>by
   obtain⟨v2,v3,o,n,l,j,g,d⟩:=h.at_ i hi;refine⟨v2,v3,o,n,l,j,g,?_⟩;rcases d with⟨f,x2,x3⟩|d
   .exact .inl ⟨f,(x2.later a).imp (λb e=>e.mono a.size) (λ_ _ x=>x),(x3.later a).imp (λb e=>e.mono a.size) (λ_ _ x=>x)⟩
   exact .inr d}
def CW.next {wr:Zb}{m:Nat}{u3 v2' v3':Zf}(h:CW S w m q cap u1 u2 u3 u5 c k cur wr)(C:k<c.Aa.length)(a:B3 q wr W)(B:w+1+1<q)
 (v:W.heap[q]?=some (.cells ((cur.setIfInBounds (k*5+2) v2').setIfInBounds (k*5+3) v3') 62 (0,0))) (z:SP (NB q W) W v2' (Aj c.Aa k).Ap) (y:SI (NB q W) W v3' (Aj c.Aa k).over):
  CW S w m q cap u1 u2 u3 u5 c (k+1) ((cur.setIfInBounds (k*5+2) v2').setIfInBounds (k*5+3) v3') W:=by
 have D:=h.below.size;have d:∀b,NA m q b->b≠q:=λb f e=>by have:=f.2;omega
 refine {below:=⟨a.os.trans h.below.os,a.tape.trans h.below.tape,a.output.trans h.below.output,Zr h.below.size a.size,λb f=>(a.block b o! o!).trans (h.below.block b f)⟩,res:=(a.block _ (Za.1 h.res).1 o!).trans h.res,box:=(a.block _ (Za.1 h.box).1 o!).trans h.box,base:=h.base.Ar (a.same d),Af:=h.Af.Ar (a.same d),hooks:=h.hooks.Ar (a.same d),now:=h.now.Ar (a.same d),arr:=v,at_:=λi hi=>?_};obtain⟨v2,v3,r,p,o,n,l,g⟩:=h.at_ i hi;have t:=(Za.1 o).1;have s:=(Za.1 n).1;by_cases u:i=k
 .subst u
  refine⟨v2',v3',?_,?_,?_,?_,?_,.inl ⟨o!,z,y⟩⟩
  .rw[Zk o!,Zk o!];exact r
  .rw[Zk o!,Zk o!];exact p
  .rw[Zk o!,ZV t]
  .rw[ZV (by simpa using s)]
  rw[Zk o!,Zk o!];exact l
 refine⟨v2,v3,?_,?_,?_,?_,?_,?_⟩
 .rw[Zk o!,Zk o!];exact r
 .rw[Zk o!,Zk o!];exact p
 .rw[Zk o!,Zk o!];exact o
 .rw[Zk o!,Zk o!];exact n
 .rw[Zk o!,Zk o!];exact l
 rcases g with⟨A,x2,x3⟩|⟨A,g⟩
 .have j:CE (NB q wr) wr W:=a.same (λb f e=>by have:=f.1;omega)
  exact .inl ⟨o!,(x2.Ar j).imp (λb f=>f.mono a.size) (λ_ _ x=>x),(x3.Ar j).imp (λb f=>f.mono a.size) (λ_ _ x=>x)⟩
 exact .inr ⟨o!,g⟩
def RC.imp (h:RC S w v1 v2 v3 v4 v5 c)(a:∀b,S b->T b):RC T w v1 v2 v3 v4 v5 c:=
 ⟨h.base.imp a λ_ _ x=>x,h.Af.imp a λ_ _ x=>x,h.hooks.imp a λ_ _ x=>x,Sl.imp h.Aa a λ_ _ ⟨v2,v3,e,x2,x3⟩=>⟨v2,v3,e,x2.imp a λ_ _ x=>x,x3.imp a λ_ _ x=>x⟩,h.now.imp a λ_ _ x=>x⟩
def NR (q r b:Nat):Prop:=q<b/\b<r
structure CD (wr:Zb)(m q r cap:Nat)(u1 u2 u3:Zf)(c:A_)(cur:Array Zf):Prop where
 base:SI (NA m q) wr u1 c.base
 Af:SP (NA m q) wr u2 c.Af
 hooks:SI (NA m q) wr u3 c.hooks
 arr:wr.heap[q]?=some (.cells cur 62 (0,0))
 at_:∀i,i<c.Aa.length->∃v2 v3,cur[i*5]?=some (J I (Aj c.Aa i).low)/\cur[i*5+1]?=some (J I (Aj c.Aa i).high)/\cur[i*5+2]?=some v2/\cur[i*5+3]?=some v3/\cur[i*5+4]?=some (J I (Aj c.Aa i).left)/\
  SP (NR q r) wr v2 (Aj c.Aa i).Ap/\SI (NR q r) wr v3 (Aj c.Aa i).over
 pV:c.Aa.length<=cap
 bJ:cap<=maxLen
 mq:m<=q
 qr:q<r
 rw_:r<=wr.heap.size
def CW.cd {wr:Zb}{m:Nat}{u3:Zf}(h:CW S w m q cap u1 u2 u3 u5 c c.Aa.length cur wr)(e:c.Aa.length<=cap)(d:cap<=maxLen)(a:m<=q):CD wr m q wr cap u1 u2 u3 c cur:=
 ⟨h.base,h.Af,h.hooks,h.arr,λi hi=>by
  obtain⟨v2,v3,l,k,j,g,f,b⟩:=h.at_ i hi;exact⟨v2,v3,l,k,j,g,f,(b.resolve_right (λz=>absurd z.1 o!)).2⟩,e,d,a,(Za.1 h.arr).1,Zj _⟩
def CD.Ar {wr:Zb}{m r:Nat}{u3:Zf}(h:CD wr m q r cap u1 u2 u3 c cur)(d:B3 b wr W)(t:b<m\/r<=b):CD W m q r cap u1 u2 u3 c cur:=by
 have p:=h.mq;have s:=h.qr;have f:CE (NA m q) wr W:=d.same (λx a e=>by have:=a.1;have:=a.2;omega);have g:CE (NR q r) wr W:=d.same (λx a e=>by have:=a.1;have:=a.2;omega);refine⟨h.base.Ar f,h.Af.Ar f,h.hooks.Ar f,(d.block q (Za.1 h.arr).1 o!).trans h.arr,λi hi=>?_,h.pV,h.bJ,h.mq,h.qr,Zr h.rw_ d.size⟩;obtain⟨v2,v3,o,n,l,k,j,x2,x3⟩:=h.at_ i hi;exact⟨v2,v3,o,n,l,k,j,x2.Ar g,x3.Ar g⟩
def CD.later {wr:Zb}{m r:Nat}{u3:Zf}(h:CD wr m q r cap u1 u2 u3 c cur)(a:Bl wr W):CD W m q r cap u1 u2 u3 c cur:=by
 refine⟨h.base.later a,h.Af.later a,h.hooks.later a,(a.block q (Za.1 h.arr).1).trans h.arr,λi hi=>?_,h.pV,h.bJ,h.mq,h.qr,Zr h.rw_ a.size⟩;obtain⟨v2,v3,g,f,e,d,b,x2,x3⟩:=h.at_ i hi;exact⟨v2,v3,g,f,e,d,b,x2.later a,x3.later a⟩
def CD.rc {wr:Zb}{m r:Nat}{u3:Zf}(h:CD wr m q r cap u1 u2 u3 c cur)(h5:SI T wr u5 c.now)(e:∀b,m<=b->b<r->T b):RC T wr u1 u2 u3 (U q c.Aa.length cap) u5 c:=by
 have g:=h.mq;have k:=h.qr;have f:∀b,NA m q b->T b:=λb d=>e b d.1 (Nat.lt_trans d.2 k);have n:∀b,NR q r b->T b:=λb d=>e b (Zr g (Nat.le_of_lt d.1)) d.2;refine⟨h.base.imp f λ_ _ x=>x,h.Af.imp f λ_ _ x=>x,h.hooks.imp f λ_ _ x=>x,⟨_,_,rfl,h.pV,h.bJ,λi x l=>?_⟩,h5⟩;have hi:=(Zm.1 l).1;have o:x=Aj c.Aa i:=by have:=Db hi;rw[l]at this;exact ZW this
 subst o;obtain⟨v2,v3,w,v,t,s,p,x2,x3⟩:=h.at_ i hi;refine⟨q,0,[J I (Aj c.Aa i).low,J I (Aj c.Aa i).high,v2,v3,J I (Aj c.Aa i).left],rfl,e q g k,rfl,λj u a=>?_,v2,v3,rfl,x2.imp n λ_ _ x=>x,x3.imp n λ_ _ x=>x⟩;rw[zN];refine ch h.arr ?_
 match j,a with
 |0,a=>cases a;exact w
 |1,a=>cases a;exact v
 |2,a=>cases a;exact t
 |3,a=>cases a;exact s
 |4,a=>cases a;exact p
def abp (w:Zb)(c:A_)(e:Ending)(w':Zb):Prop:=∃(m q r cap:Nat) (u1 u2 u3 u5:Zf) (cur:Array Zf),e=.returned (.agg #[u1,u2,u3,U q c.Aa.length cap,u5])/\Bl w w'/\w<=m/\CD w' m q r cap u1 u2 u3 c cur/\SI (NA m q) w' u5 c.now
def ao7 (h:RC S w v1 v2 v3 v4 v5 c)(hS:Ql6 S w)(ig:c.base.length<=1000)(fy:c.Af.length<=1000)(fw:c.hooks.length<=1000)(Xm:c.Aa.length<=1000)(Fy:0<c.Aa.length)(UO:c.now.length<=1000)(xB:∀i,i<c.Aa.length->(Aj c.Aa i).Ap.length<=1000/\(Aj c.Aa i).over.length<=1000)(s0 s1 s2:Nat):
  Calls Lp 150 #[.agg #[v1,v2,v3,v4,v5,J .u8 s0,J .u8 s1,J .u8 s2]] w (abp w c):=by
 obtain⟨Z,P,Y,O,X,N,V,M,T,L,rfl,rfl,rfl,rfl,rfl,l1,m1,l2,m2,l3,m3,l4,m4,l5,m5⟩:=h.vs;have IX:=DJ;go_enter Lp.func150,ans;go_wp2;obtain⟨l,Hv⟩:=Qnm ((((w.alloc (.cells #[U Z c.base.length P,U Y c.Af.length O,U X c.hooks.length N,U V c.Aa.length M,U T c.now.length L,J .u8 s0,J .u8 s1,J .u8 s2] 112)).alloc (.cells Qz6 26)).alloc (.cells (Qe6 c Z P Y O X N V M T L) 26)));have B:Bl w l:=by rw[Hv];exact bA (bA (bA (Zh _ _)))
 have F1:l.heap[w.heap.size+1+1]?=some (.cells (Qe6 c Z P Y O X N V M T L) 26 (0,0)):=by
  rw[Hv];have:=Bp ((w.alloc (.cells #[U Z c.base.length P,U Y c.Af.length O,U X c.hooks.length N,U V c.Aa.length M,U T c.now.length L,J .u8 s0,J .u8 s1,J .u8 s2] 112)).alloc (.cells Qz6 26)) (.cells (Qe6 c Z P Y O X N V M T L) 26);rwa[ZB,ZB]at this
 have O9:l.heap[w.heap.size+1]?=some (.cells Qz6 26 (0,0)):=by
  rw[Hv];exact Bf (by have:=Bp (w.alloc (.cells #[U Z c.base.length P,U Y c.Af.length O,U X c.hooks.length N,U V c.Aa.length M,U T c.now.length L,J .u8 s0,J .u8 s1,J .u8 s2] 112)) (.cells Qz6 26);rwa[ZB]at this) _
 rw[<-Hv];clear Hv;have z0:=λp=>Al p (ch (i:=0) F1 (v:=.slice Z c.base.length P) rfl);have z1:=λp=>Al p (ch (i:=1) F1 (v:=.slice Y c.Af.length O) rfl);have z2:=λp=>Al p (ch (i:=2) F1 (v:=.slice X c.hooks.length N) rfl);have z4:=λp=>Al p (ch (i:=4) F1 (v:=.slice T c.now.length L) rfl);refine B0 (S:=λW=>∃p,W=calm l p) [12,13,14,15,16,17,18,19] [(false,2),(true,12),(false,5),(false,8),(false,11),(false,13),(false,14),(false,15),(false,16),(false,17),(false,18),(false,19)] [0,1,3,4,6,7,9,10] k! (λ_ _ d _ _ h=>by cases d<;>exact h) k! (AL (Zh _ _).drew) ?_;refine A4 _ _ k! ?_;simp only[Z6,zd,ZG,ZD,ZC]
 repeat (first|go_big_quiet_step (fail)|quiet_step (fail))
 refine Z4 ?_;clear z0 z1 z2 z4;change Dl _ _ _ _ _ _ _;have ct:=B.drew;have iz:Bl l l.drew:=(Zh _ _).drew;refine Dd (f:=106) (args:= #[U Z c.base.length P]) rfl rfl g! ((kt (h.later ct).base ig).mono ?_);rintro e W4 ⟨u1,rfl,De,iA⟩;have Ks:=iz.trans (De.mono iz.size);refine⟨u1,rfl,.inr (AL Ks),?_⟩;have ck:=B.trans (Ks.mono B.size);refine NZ (v:=.pointer (w+1+1:Nat)) rfl rfl (λw=>g!) ?_;refine Dd (f:=166) (args:= #[U Y c.Af.length O]) rfl rfl g! ((anT (h.later ck).Af fy).mono ?_);rintro e W5 ⟨u2,rfl,Cj,Hb⟩;have pX:=Ks.trans (Cj.mono Ks.size);refine⟨u2,rfl,.inr (AL pX),?_⟩;have ci:=B.trans (pX.mono B.size);refine Dd (f:=106) (args:= #[U X c.hooks.length N]) rfl rfl g! ((kt (h.later ci).hooks fw).mono ?_);rintro e W6 ⟨u3,rfl,DM,Lb⟩;have Vf:=pX.trans (DM.mono pX.size);refine⟨u3,rfl,.inr (AL Vf),?_⟩;have b9:=B.trans (Vf.mono B.size);refine Dd (f:=106) (args:= #[U T c.now.length L]) rfl rfl g! ((kt (h.later b9).now UO).mono ?_);rintro e o ⟨u5,rfl,NU,rS⟩;have s:=Vf.trans (NU.mono Vf.size);refine⟨u5,rfl,.inr (AL s),?_⟩;have b8:=B.trans (s.mono B.size);have T9:=(s.block _ (Za.1 F1).1).trans F1;have an:=(s.block _ (Za.1 O9).1).trans O9;have io:=B.size;have k5:=DM.trans (NU.mono DM.size);have k4:=Cj.trans (k5.mono Cj.size);have iA:SI (Cb l.drew W4) W4 u1 c.base:=iA;have Hb:SP (Cb W4 W5) W5 u2 c.Af:=Hb;have Lb:SI (Cb W5 W6) W6 u3 c.hooks:=Lb;have rS:SI (Cb W6 o) o u5 c.now:=rS;have n1:SI (Cb l o) o u1 c.base:=(iA.later k4).imp (λb a=>Cb.mono (m:=l) k4.size iz.size a) (λ_ _ x=>x);have n2:SP (Cb l o) o u2 c.Af:=(Hb.later k5).imp (λb a=>Cb.mono (m:=l) k5.size Ks.size a) (λ_ _ x=>x);have n3:SI (Cb l o) o u3 c.hooks:=(Lb.later NU).imp (λb a=>Cb.mono (m:=l) NU.size pX.size a) (λ_ _ x=>x);have n5:SI (Cb l o) o u5 c.now:=rS.imp (λb a=>Cb.mono (m:=l) (Zj _) Vf.size a) (λ_ _ x=>x);refine LD _ _ _ k! (λx hx w=>.inl ?_) ?_
 .revert x;decide
 simp only[Gd,ZG,ZD,ZC];obtain⟨p1,d1,rfl,y1,x1⟩:=n1.val;obtain⟨p2,d2,rfl,y2,x2⟩:=n2.val;obtain⟨p3,d3,rfl,y3,x3⟩:=n3.val;obtain⟨p5,d5,rfl,y5,x5⟩:=n5.val;obtain⟨g0,g1,g2,g3,g4⟩:=Qc5 T9;obtain⟨f0,f1,f2,f3,f4⟩:=Qf5 T9;clear De Cj DM NU Ks pX Vf iz ct ck ci b9 iA Hb Lb rS;have im:=s.size;have bi:w+1+1<l.heap.size:=(Za.1 F1).1;go_wp2_with (fail);obtain⟨W8,t⟩:=Qnm (((((o.setCell (w+1+1:Nat) (U p1 c.base.length d1)).setCell ⟨w+1+1,1,none⟩ (U p2 c.Af.length d2)).setCell ⟨w+1+1,2,none⟩ (U p3 c.hooks.length d3)).setCell ⟨w+1+1,4,none⟩ (U p5 c.now.length d5)));rw[<-t];have rT:W8.heap[w.heap.size+1+1]?=some (.cells (Qe6 c p1 d1 p2 d2 p3 d3 V M p5 d5) 26 (0,0)):=by
  rw[t];exact Ba (Ba (Ba (Ba T9 _) _) _) _
 have uC:B3 (w+1+1) o W8:=by rw[t];exact(((B3.refl _ _).set.set).set).set
 have Jn:Bl w W8:=by rw[t];exact bS (bS (bS (bS b8 o!) o!) o!) o!
 have am:W8.heap[w.heap.size+1]?=some (.cells Qz6 26 (0,0)):=(uC.block _ (Za.1 an).1 o!).trans an;have xx:CE (Cb l o) o W8:=uC.same (λb a e=>by have:=a.1;omega);have gj:=uC.size;clear t g0 g1 g2 g3 g4 f0 f1 f2 f3 f4;refine(ah9 (h.later Jn).Aa Xm Fy).mono ?_;rintro e W9 ⟨v4,f8,rfl,Jx,AX,NI⟩;rcases AX.2 with⟨_,hz⟩|⟨q,cap,cur,rfl,T6,M9,JA,fu,kE,iB⟩
 .omega
 have G:=(Jx.block _ (Za.1 rT).1).trans rT;have bV:=(Jx.block _ (Za.1 am).1).trans am;have g3:=ch (i:=3) G (v:=.slice V c.Aa.length M) rfl;have f3:=cf (i:=3) G;have gn:=(Za.1 M9).1;have pW:w+1+1<q:=o!
 have fH:CW S w l q cap (U p1 c.base.length d1) (U p2 c.Af.length d2) (U p3 c.hooks.length d3) (U p5 c.now.length d5) c 0 cur (W9.setCell ⟨w+1+1,3,none⟩ (U q c.Aa.length cap)):=by
  have pY:B3 (w+1+1) o (W9.setCell ⟨w+1+1,3,none⟩ (U q c.Aa.length cap)):=(uC.below Jx).set;have E:CE (Cb l o) o (W9.setCell ⟨w+1+1,3,none⟩ (U q c.Aa.length cap)):=pY.same (λb a e=>by have:=a.1;omega);have gm:CE S W8 w:=λb a _=>(Jn.block b (hS b a)).symm;have F:∀b,Cb l o b->NA l q b:=λb a=>⟨a.1,Zl a.2 o!⟩;refine⟨bS (Jn.trans (Jx.mono Jn.size)) o!,(AZ o! _).trans bV,Ba G _,(n1.Ar E).imp F λ_ _ x=>x,(n2.Ar E).imp F λ_ _ x=>x,(n3.Ar E).imp F λ_ _ x=>x,(n5.Ar E).imp F λ_ _ x=>x,(AZ o! _).trans M9,λi hi=>?_⟩;obtain⟨v2,v3,e,x2,x3⟩:=NI i _ (Db hi);have bB:∀j u,[J I (Aj c.Aa i).low,J I (Aj c.Aa i).high,v2,v3,J I (Aj c.Aa i).left][j]?=some u->cur[i*5+j]?=some u:=λj u hu=>by
   have hj:j<5:=by have:=(Zm.1 hu).1;simpa using this
   rw[<-e,Z2 hj,Yl, <-iB,Z2 (by have:=ij hi hj;omega)]at hu;simpa using hu
  exact⟨v2,v3,bB 0 _ rfl,bB 1 _ rfl,bB 2 _ rfl,bB 3 _ rfl,bB 4 _ rfl,.inr ⟨Zp _,x2.Ar gm,x3.Ar gm⟩⟩
 have f9:W8<=W9.heap.size:=Jx.size;have fd:=Zd bi;clear B F1 O9 bi n1 n2 n3 n5 T9 an s b8 k4 k5 uC Jn am rT xx Jx AX NI G bV y1 x1 y2 x2 y3 x3 y5 x5;go_wp2;go_loopg [31] c.Aa.length (λg i wr=>∃(k:Nat) (cur:Array Zf),k<=c.Aa.length/\g=c.Aa.length - k/\i=.int I k/\CW S w l q cap (U p1 c.base.length d1) (U p2 c.Af.length d2) (U p3 c.hooks.length d3) (U p5 c.now.length d5) c k cur wr)
 case atStart=>exact⟨0,cur,Zp _,rfl,rfl,fH⟩
 obtain⟨k,cur,hk,rfl,rfl,r⟩:=hrel;by_cases Az:k<c.Aa.length
 .obtain⟨v2,v3,e0,e1,e2,e3,e4,hy⟩:=r.at_ k Az
  obtain⟨_,hp,ho⟩:=hy.resolve_left (λz=>absurd z.1 o!);obtain⟨Oq,Qm⟩:=xB k Az;obtain⟨a6,c6,rfl,l6,m6⟩:=hp.val;obtain⟨a7,c7,rfl,l7,m7⟩:=ho.val;have r0:=ch r.arr e0;have r1:=ch r.arr e1;have r2:=ch r.arr e2;have r3:=ch r.arr e3;have r4:=ch r.arr e4;obtain⟨sm,Qh⟩:=Qnm (Aj c.Aa k);rw[<-Qh]at r0 r1 r2 r3 r4 hp ho Oq Qm l6 l7;have ed:=Zd Qh;clear Qh e0 e1 e4;obtain⟨low,H,Ap,over,left⟩:=sm;dsimp only at r0 r1 r2 r3 r4 hp ho Oq Qm l6 l7;have TB:(k:Int)<(c.Aa.length:Int):=o!
  go_wp2;obtain⟨D,uD⟩:=Qnm (wr.alloc (.cells #[J I low,J I H,U a6 Ap.length c6,U a7 over.length c7,J I left] 62));have du:Bl wr D:=by rw[uD];exact(Zh _ _).alloc (Zj _) _
  have be:D.heap[wr.heap.size]?=some (.cells #[J I low,J I H,U a6 Ap.length c6,U a7 over.length c7,J I left] 62 (0,0)):=by rw[uD];exact Bp _ _
  rw[<-uD];clear uD;have y:=r.later du;have kD:q<wr:=(Za.1 r.arr).1;have C:q<D:=(Za.1 y.arr).1;have gt:(0:Int)<=(k:Int):=o!
  have z0:=λp=>Cg (q:=q) p (ch (i:=3) y.box (v:=.slice q c.Aa.length cap) rfl) j!;have z1:=λp=>Cg (q:=q) p (ch (i:=2) be (v:=.slice a6 Ap.length c6) rfl) j!;have z2:=λp=>Cg (q:=q) p (ch (i:=3) be (v:=.slice a7 over.length c7) rfl) j!;refine B0 (S:=λW=>∃p,W=SY D q p) [] [(false,8),(false,11),(false,12),(false,13),(false,14),(false,15),(false,16),(false,17)] [0,1,2,3,4,5,6,7,9,10] k! (λ_ _ d _ _ h=>by cases d<;>exact h) k! (BI ((B3.refl _ _).below (Zh _ _).drew) C) ?_;refine A4 _ _ k! ?_;simp only[Z6,zd,ZG,ZD,ZC]
  repeat (first|go_big_quiet_step (fail)|quiet_step (fail))
  refine Z4 ?_;clear z0 z1 z2;change Dl _ _ _ _ _ _ _;have O5:=y.below;have kF:B3 q D D.drew:=(B3.refl _ _).below (Zh _ _).drew;refine Dd (f:=168) (args:= #[U a6 Ap.length c6]) rfl rfl g! ((anU (hp.later O5.drew) Oq).mono ?_);rintro e A ⟨x2,rfl,Ua,mH⟩;have ap:=kF.below Ua;refine⟨x2,rfl,.inr (BI ap C),?_⟩;have iC:=O5.drew.trans (Ua.mono O5.drew.size);refine Dd (f:=106) (args:= #[U a7 over.length c7]) rfl rfl g! ((kt (ho.later iC) Qm).mono ?_);rintro e n ⟨x3,rfl,bK,U4⟩;have R:=ap.below bK;refine⟨x3,rfl,.inr (BI R C),?_⟩;have Q:=y.later (((Zh _ _).drew.trans (Ua.mono (Zj _))).trans (bK.mono Ua.size));have ii:=(Za.1 Q.arr).1;have mH:SP (Cb D.drew A) A x2 Ap:=mH;have U4:SI (Cb A n) n x3 over:=U4;obtain⟨b2,t2,rfl,y2,w2⟩:=mH.val;obtain⟨b3,t3,rfl,y3,w3⟩:=U4.val;have f2:=cf (i:=k*5+2) Q.arr;have f3:=cf (i:=k*5+3) Q.arr;have fm:=ch Q.arr e2;have fi:=ch Q.arr e3;refine Dw (v:=.pointer (some ⟨q,k*5,none⟩)) rfl rfl g! (.inr (BI R C)) ?_;refine Dw (v:=.pointer (some ⟨q,k*5+2,none⟩)) rfl rfl g! (.inr (BI R C)) ?_;refine K8 (w':=n.setCell ⟨q,k*5+2,none⟩ (U b2 Ap.length t2)) rfl rfl g! (.inr (BI R.set C)) ?_;refine Dw (v:=.pointer (some ⟨q,k*5,none⟩)) rfl rfl g! (.inr (BI R.set C)) ?_;refine Dw (v:=.pointer (some ⟨q,k*5+3,none⟩)) rfl rfl g! (.inr (BI R.set C)) ?_;refine K8 (w':=(n.setCell ⟨q,k*5+2,none⟩ (U b2 Ap.length t2)).setCell ⟨q,k*5+3,none⟩ (U b3 over.length t3)) rfl rfl g! (.inr (BI R.set.set C)) ?_;have fJ:∀b,Cb D.drew n b->NB q n b:=λb a=>⟨Zl C a.1,a.2⟩;have g9:D<=A.heap.size:=Ua.size;have fI:∀b,Cb A n b->NB q n b:=λb a=>⟨by have:=a.1;omega,a.2⟩;have K:B3 q n ((n.setCell ⟨q,k*5+2,none⟩ (U b2 Ap.length t2)).setCell ⟨q,k*5+3,none⟩ (U b3 over.length t3)):=(B3.refl _ _).set.set;have ai:CE (NB q n) n ((n.setCell ⟨q,k*5+2,none⟩ (U b2 Ap.length t2)).setCell ⟨q,k*5+3,none⟩ (U b3 over.length t3)):=K.same (λb a e=>by have:=a.1;omega);have i2:SP (NB q n) n (U b2 Ap.length t2) Ap:=(mH.later bK).imp (λb a=>fJ b (a.mono bK.size (Zj _))) (λ_ _ x=>x);have i3:SI (NB q n) n (U b3 over.length t3) over:=U4.imp fI (λ_ _ x=>x);have j2:=Sl.imp (i2.Ar ai) (λb (a:NB q n b)=>NB.mono K.size a) (λ_ _ x=>x);have j3:=Sl.imp (i3.Ar ai) (λb (a:NB q n b)=>NB.mono K.size a) (λ_ _ x=>x);have dl:=Q.next (v2':=.slice b2 Ap.length t2) (v3':=.slice b3 over.length t3) Az K pW (Ba (Ba Q.arr _) _)
   (by rw[<-ed.out];exact j2) (by rw[<-ed.out];exact j3)
  have fK:=Zd dl;clear j2 j3 i2 i3 dl Q y r ai K Ua bK kF ap R mH U4 O5 iC be du r0 r1 r2 r3 r4 fm fi f2 f3 e2 e3 hp ho;unfold Dl
  go_simp
  go_wp2;go_roundg (c.Aa.length - (k+1))
  case rel=>exact⟨k+1,_,o!,rfl,v!,fK.out⟩
  omega
 have T5:k=c.Aa.length:=o!
 subst T5;have bv:=ZY (r.cd JA fu o!) r.now;have Lc:=r.below;obtain⟨s0,s1,s2,s3,s4⟩:=Qc5 r.box;obtain⟨f0,f1,f2,f3,f4⟩:=Qf5 r.res;obtain⟨r0,r1,r2,r3,r4⟩:=Qc5 r.res;have mI:=Zd bv;clear bv r;go_wp2;refine ZN (v:=.agg #[U p1 c.base.length d1,U p2 c.Af.length d2,U p3 c.hooks.length d3,U q c.Aa.length cap,U p5 c.now.length d5]) (by rw[A8 rfl];go_simp) rfl ?_;have K:B3 (w+1) wr (((((wr.setCell (w+1:Nat) (U p1 c.base.length d1)).setCell ⟨w+1,1,none⟩ (U p2 c.Af.length d2)).setCell ⟨w+1,2,none⟩ (U p3 c.hooks.length d3)).setCell ⟨w+1,3,none⟩ (U q c.Aa.length cap)).setCell ⟨w+1,4,none⟩ (U p5 c.now.length d5)):=((((B3.refl _ _).set.set).set).set).set;exact⟨l,q,wr,cap,_,_,_,_,_,rfl,bS (bS (bS (bS (bS Lc o!) o!) o!) o!) o!,o!,mI.out.1.Ar K (.inl (by have:=fd.out;omega)),mI.out.2.Ar (K.same (λx hx e=>by have:=hx.1;have:=fd.out;omega))⟩
def Kn (s:List Ay)(i:Nat):List Ay:=s.modify i λx=> {x with left:=x.left - 1}
def CJ:List Ay->List Int->List Ay
 |s,[]=>s
 |s,i::r=>CJ (Kn s i.toNat) r
def FH (c:A_)(l:List Int)(t:Nat):A_:= {c with now:=l,Aa:=CJ c.Aa (AB t)}
def Gw (s:List Ay)(i:Nat):(Kn s i).length=s.length:=by simp[Kn]
def O_:∀(l:List Int) (s:List Ay),(CJ s l).length=s.length
 | [],_=>rfl
 |_::r,s=>(O_ r _).trans (Gw s _)
def LI {s:List Ay}(hi:i<s.length)(j:Nat):Aj (Kn s i) j=if j=i then {Aj s i with left:=(Aj s i).left - 1} else Aj s j:=by
 unfold Aj Kn;by_cases h:j=i
 .subst h
  simp[Y6,hi]
 simp[Y6,h,Za0 h]
def eM {s:List Ay}(h:k<l.length):CJ s (l.drop k)=CJ (Kn s (nth l k).toNat) (l.drop (k+1)):=by
 obtain⟨a,e⟩:=Zm.1 (Bn h);rw[ZO a,e]
 rfl
def CD.now {wr:Zb}{m r:Nat}{u3:Zf}(h:CD wr m q r cap u1 u2 u3 c cur)(l:List Int):CD wr m q r cap u1 u2 u3 {c with now:=l} cur:=
 ⟨h.base,h.Af,h.hooks,h.arr,h.at_,h.pV,h.bJ,h.mq,h.qr,h.rw_⟩
def CD.dec {wr:Zb}{m r:Nat}{u3:Zf}(h:CD wr m q r cap u1 u2 u3 c cur)(hi:i<c.Aa.length)(d:B3 q wr W)(u:W.heap[q]?=some (.cells (cur.setIfInBounds (i*5+4) (J I ((Aj c.Aa i).left - 1))) 62 (0,0))):
  CD W m q r cap u1 u2 u3 {c with Aa:=Kn c.Aa i} (cur.setIfInBounds (i*5+4) (J I ((Aj c.Aa i).left - 1))):=by
 have v:=h.mq;have w:=h.qr;have f:CE (NA m q) wr W:=d.same (λx a e=>by have:=a.1;have:=a.2;omega);have b:CE (NR q r) wr W:=d.same (λx a e=>by have:=a.1;have:=a.2;omega);refine⟨h.base.Ar f,h.Af.Ar f,h.hooks.Ar f,u,λj g=>?_,by rw[Gw];exact h.pV,h.bJ,h.mq,h.qr,Zr h.rw_ d.size⟩;rw[Gw]at g;obtain⟨v2,v3,p,o,n,l,k,x2,x3⟩:=h.at_ j g;have t:=(Za.1 k).1;simp only[LI hi];by_cases s:j=i
 .subst s
  rw[if_pos rfl];refine⟨v2,v3,?_,?_,?_,?_,?_,x2.Ar b,x3.Ar b⟩
  .rw[Zk o!];exact p
  .rw[Zk o!];exact o
  .rw[Zk o!];exact n
  .rw[Zk o!];exact l
  rw[ZV t]
 rw[if_neg s];refine⟨v2,v3,?_,?_,?_,?_,?_,x2.Ar b,x3.Ar b⟩
 .rw[Zk o!];exact p
 .rw[Zk o!];exact o
 .rw[Zk o!];exact n
 .rw[Zk o!];exact l
 rw[Zk o!];exact k
def Jq (w:Zb)(b a:Obj):((w.alloc b).alloc a).heap[w.heap.size+1]?=some a:=by
 have:=Bp (w.alloc b) a;rwa[ZB]at this
def ahl (h:CE T w W)(c:∀b,T b->b≠q):CE T w (W.setCell ⟨q,i,none⟩ v):=λb a d=>(AZ (c b a) _).trans (h b a d)
def ahm (w:Zb)(d b a:Nat)(c:A_)(e:Ending)(w':Zb):Prop:=∃(u1 u2 u3 u4 u5:Zf),e=.returned (.agg #[u1,u2,u3,u4,u5,J .u8 d,J .u8 b,J .u8 a])/\Bl w w'/\RC (Cb w w') w' u1 u2 u3 u4 u5 c
structure WW (w:Zb)(m q r cap b7:Nat)(u1 u2 u3 u5:Zf)(g:Array Zf)(c:A_)(l:List Int)(Aa:List Ay)(cur:Array Zf)(wr:Zb):Prop where
 below:Bl w wr
 Ee:wr.heap[w.heap.size]?=some (.cells g 112 (0,0))
 res:wr.heap[w.heap.size+1]?=some (.cells #[(),(),(),(),(),J .u8 0,J .u8 0,J .u8 0] 112 (0,0))
 box:wr.heap[b7]?=some (.cells #[u1,u2,u3,U q Aa.length cap,u5] 26 (0,0))
 cd:CD wr m q r cap u1 u2 u3 {c with Aa:=Aa} cur
 now:SI (λb=>b7<b/\b<wr) wr u5 l
variable {Aa:List Ay}
def WW.later {wr:Zb}{m r:Nat}{u3:Zf}(h:WW w m q r cap b7 u1 u2 u3 u5 g c l Aa cur wr)(a:Bl wr W):WW w m q r cap b7 u1 u2 u3 u5 g c l Aa cur W:=
 ⟨h.below.trans (a.mono h.below.size),(a.block _ (Za.1 h.Ee).1).trans h.Ee,(a.block _ (Za.1 h.res).1).trans h.res,(a.block _ (Za.1 h.box).1).trans h.box,h.cd.later a,
  Sl.imp (h.now.later a) (λb (d:b7<b/\b<wr)=>⟨d.1,Zl d.2 a.size⟩) (λ_ _ x=>x)⟩
def WW.dec {wr:Zb}{m r:Nat}{u3:Zf}(h:WW w m q r cap b7 u1 u2 u3 u5 g c l Aa cur wr)(hi:i<Aa.length)(j:w+1<q)(f:q<b7):
  WW w m q r cap b7 u1 u2 u3 u5 g c l (Kn Aa i) (cur.setIfInBounds (i*5+4) (J I ((Aj Aa i).left - 1))) (wr.setCell ⟨q,i*5+4,none⟩ (J I ((Aj Aa i).left - 1))):=by
 have d:B3 q wr (wr.setCell ⟨q,i*5+4,none⟩ (J I ((Aj Aa i).left - 1))):=(B3.refl _ _).set;refine⟨bS h.below o!,(AZ o! _).trans h.Ee,(AZ o! _).trans h.res,by rw[Gw];exact(AZ o! _).trans h.box,h.cd.dec hi d (Ba h.cd.arr _),?_⟩;exact Sl.imp (h.now.Ar (d.same (λb a e=>by have:=a.1;omega))) (λb (a:b7<b/\b<wr)=>⟨a.1,Zl a.2 d.size⟩) (λ_ _ x=>x)
def c92 (h:RC S w v1 v2 v3 v4 v5 c)(hl:SI S w v6 l)(hS:Ql6 S w)(ht:t<8)(hx:∀x,x∈AB t->0<=x/\x<c.Aa.length)
 (fU:∀i,i<c.Aa.length->-4<=(Aj c.Aa i).left/\(Aj c.Aa i).left<=4) (ig:c.base.length<=1000) (ci:c.Af.length<=1000) (b9:c.hooks.length<=1000) (Xm:c.Aa.length<=1000) (Fy:0<c.Aa.length) (UO:c.now.length<=1000)
 (xB:∀i,i<c.Aa.length->(Aj c.Aa i).Ap.length<=1000/\(Aj c.Aa i).over.length<=1000) (Xc:l.length<=1000) (u n j:Nat):
  Calls Lp 92 #[.agg #[v1,v2,v3,v4,v5,J .u8 u,J .u8 n,J .u8 j],v6,J .u8 t] w (ahm w u n j (FH c l t)):=by
 obtain⟨Z,Q,Y,P,X,O,V,N,R,M,rfl,rfl,rfl,rfl,rfl,l1,m1,l2,m2,l3,m3,l4,m4,l5,m5⟩:=h.vs;obtain⟨a6,c6,rfl,l6,m6⟩:=hl.val;have IX:=DJ;have Bg:Bl w ((w.alloc (.cells #[U Z c.base.length Q,U Y c.Af.length P,U X c.hooks.length O,U V c.Aa.length N,U R c.now.length M,J .u8 u,J .u8 n,J .u8 j] 112)).alloc (.cells #[(),(),(),(),(),J .u8 0,J .u8 0,J .u8 0] 112)):=bA (bA (Zh _ _));have ct:=Zd (λW hB=>ao7 (w:=W) (h.later hB) (A3 hS hB) ig ci b9 Xm Fy UO xB u n j);have ck:=Zd (λW hB=>kt (w:=W) (hl.later hB) Xc);go_enter Lp.func92,n92;go_wp2_with (go_at_call 150;refine(ct.out _ Bg).mono ?_;rintro e w1 ⟨m,q,r,cap,u1,u2,u3,u5,cur,rfl,Bb,hm,A,rS⟩;obtain⟨E,d1,rfl,_⟩:=A.base.val;obtain⟨D,d2,rfl,_⟩:=A.Af.val;obtain⟨C,d3,rfl,_⟩:=A.hooks.val;obtain⟨p5,d5,rfl,_⟩:=rS.val;have Bv:=Bg.trans (Bb.mono Bg.size));have kG:=(Bb.block w j!).trans (Bf (Bp w (.cells #[U Z c.base.length Q,U Y c.Af.length P,U X c.hooks.length O,U V c.Aa.length N,U R c.now.length M,J .u8 u,J .u8 n,J .u8 j] 112)) _);have y:=(Bb.block (w+1) i!).trans (Jq w _ _);obtain⟨W2,MX⟩:=Qnm (w1.alloc (.cells (Qe6 c E d1 D d2 C d3 q cap p5 d5) 26));have Ia:Bl w1 W2:=by rw[MX];exact(Zh _ _).alloc (Zj _) _
 have H:W2.heap[w1.heap.size]?=some (.cells (Qe6 c E d1 D d2 C d3 q cap p5 d5) 26 (0,0)):=by rw[MX];exact Bp _ _
 rw[<-MX];clear MX;have bi:=Bv.trans (Ia.mono Bv.size);refine(ck.out _ bi).mono ?_;rintro e w3 ⟨v,rfl,De,Xf⟩;have hv:SI (Cb W2 w3) w3 v l:=Xf;obtain⟨B,K,rfl,_⟩:=hv.val;have F:=Ia.trans (De.mono Ia.size);have an:w1<W2.heap.size:=(Za.1 H).1;have xC:=(De.block _ an).trans H;have n4:=ch (i:=4) xC (v:=.slice p5 c.now.length d5) rfl;have k4:=cf (i:=4) xC;have kH:=A.rw_;have kD:=A.qr;have pW:=A.mq;have b8:w+1<m:=by simp at hm;omega
 have lX:w<w1.heap.size:=(Za.1 kG).1;obtain⟨W4,ED⟩:=Qnm (w3.setCell ⟨w1,4,none⟩ (U B l.length K));have S5:B3 w1 w3 W4:=by rw[ED];exact(B3.refl _ _).set
 have Qn:W4.heap[w1.heap.size]?=some (.cells #[U E c.base.length d1,U D c.Af.length d2,U C c.hooks.length d3,U q c.Aa.length cap,U B l.length K] 26 (0,0)):=by rw[ED];exact Ba xC _
 have WH:Bl w W4:=by rw[ED];exact bS (Bv.trans (F.mono Bv.size)) o!
 have ap:WW w m q r cap w1 (U E c.base.length d1) (U D c.Af.length d2) (U C c.hooks.length d3) (U B l.length K) #[U Z c.base.length Q,U Y c.Af.length P,U X c.hooks.length O,U V c.Aa.length N,U R c.now.length M,J .u8 u,J .u8 n,J .u8 j] c l c.Aa cur W4:= {
  below:=WH
  Ee:=(S5.block _ (Zl lX F.size) o!).trans ((F.block _ lX).trans kG)
  res:=(S5.block _ (Zl (Za.1 y).1 F.size) o!).trans ((F.block _ (Za.1 y).1).trans y)
  box:=Qn
  cd:=(A.later F).Ar S5 (.inr kH)
  now:=Sl.imp (hv.Ar (S5.same (λb f e=>by have:=f.1;omega))) (λb (f:Cb W2 w3 b)=>⟨Zl an f.1,Zl f.2 S5.size⟩) (λ_ _ x=>x)}
 have L:=Zd ap;have ed:(AB t).length<=3:=Jo t 3;clear ap S5 Qn WH A rS Bb Ia H bi De hv Xf F xC kG y Bg Bv;go_wp2_with (fail);rw[<-ED];clear ED n4 k4;refine(abf ht).mono ?_;rintro e w5 ⟨v7,rfl,Cj,ai,_⟩;obtain⟨p7,d7,rfl,l7,m7⟩:=ai.val;have Jy:WW w m q r cap w1 (U E c.base.length d1) (U D c.Af.length d2) (U C c.hooks.length d3) (U B l.length K) #[U Z c.base.length Q,U Y c.Af.length P,U X c.hooks.length O,U V c.Aa.length N,U R c.now.length M,J .u8 u,J .u8 n,J .u8 j] c l c.Aa cur w5:=L.out.later Cj;have HX:=Zd hx;have p9:=Cj.size;have du:w1<W4.heap.size:=(Za.1 L.out.box).1;clear L Cj;dsimp only;go_wp2;go_loopg [18] (AB t).length (λg i wr=>∃(k:Nat) (d:List Ay) (cur:Array Zf),k<=(AB t).length/\g=(AB t).length - k/\i=.int I k/\d.length=c.Aa.length/\CJ d ((AB t).drop k)=CJ c.Aa (AB t)/\(∀i,i<c.Aa.length->-4 - (k:Int)<=(Aj d i).left/\(Aj d i).left<=4)/\B3 q w5 wr/\
  WW w m q r cap w1 (U E c.base.length d1) (U D c.Af.length d2) (U C c.hooks.length d3) (U B l.length K) #[U Z c.base.length Q,U Y c.Af.length P,U X c.hooks.length O,U V c.Aa.length N,U R c.now.length M,J .u8 u,J .u8 n,J .u8 j] c l d cur wr)
 case atStart=>exact⟨0,c.Aa,cur,Zp _,rfl,rfl,rfl,rfl,λi hi=>by have:=fU i hi;omega,B3.refl _ _,Jy⟩
 obtain⟨k,d,cur,hk,rfl,rfl,be,CP,z,hU,a⟩:=hrel;have hf:=Zd CP;have iD:=Zd be;clear CP be;by_cases Az:k<(AB t).length
 .obtain⟨b,o,rfl,f,hc⟩:=ai.at_ Az
  have OJ:=CE.cell (hU.same (T:=λb=>b≠q) (λ_ h=>h)) (p:=⟨b,o+k,none⟩) (by have:=f.1;simp;omega) hc;clear hc;obtain⟨Oo,MF⟩:=HX.out _ (Rd Az);have Pv:=Zd (eM (s:=d) Az);obtain⟨x,lV⟩:∃x:Nat,nth (AB t) k=x:=⟨(nth (AB t) k).toNat,o!⟩;rw[lV]at OJ Oo MF Pv;clear lV;have xy:x<c.Aa.length:=o!
  have G:x<d.length:=by rw[iD.out];exact xy
  have dl:(x:Int)<(d.length:Int):=o!
  obtain⟨y2,y3,_,_,_,_,e4,_,_⟩:=a.cd.at_ x G;obtain⟨xr,MK⟩:=z x xy;have bv:=Zd z;have HD:=Zd (a.dec G o! o!);have HU:=Zd (hU.set (i:=x*5+4) (v:=.int I ((Aj d x).left - 1)));have r4:=ch a.cd.arr e4;have f4:=cf (i:=x*5+4) a.cd.arr;have b3:=ch (i:=3) a.box (v:=.slice q d.length cap) rfl;clear a hU z e4;obtain⟨lf,z⟩:=Qnm ((Aj d x).left);dsimp only at r4;rw[<-z]at r4 xr MK HD HU;have fd:=Zd z;clear z;go_wp2;go_roundg ((AB t).length - (k+1))
  case rel=>exact⟨k+1,Kn d x,_,o!,rfl,v!,by rw[Gw];exact iD.out,by rw[<-hf.out,Pv.out];rfl,λi hi=>by
   have:=bv.out i hi;rw[LI G];split
   .have:=bv.out x xy
    show -4 - ((k+1:Nat):Int)<=(Aj d x).left - 1/\(Aj d x).left - 1<=4;omega
   omega,HU.out,HD.out⟩
  omega
 have am:d=CJ c.Aa (AB t):=by rw[<-hf.out,Z7.2 o!];rfl
 have HK:=Zd am;clear am hf;have e1:w+1<w1.heap.size:=o!
 have mI:=Zd ((a.cd.now l).rc (T:=λb=>w.heap.size+1<b/\b<wr) (u5:=.slice B l.length K) (h5:=Sl.imp a.now (λb (f:w1<b/\b<wr)=>⟨Nat.lt_trans e1 f.1,f.2⟩) (λ_ _ x=>x)) (λb h1 h2=>⟨Zl b8 h1,Zl h2 a.cd.rw_⟩));have HW:=Zd a.below;obtain⟨t0,t1,t2,t3,t4⟩:=Qc5 a.box;have g0:=ch (i:=0) a.Ee (v:=.slice Z c.base.length Q) rfl;have g1:=ch (i:=1) a.Ee (v:=.slice Y c.Af.length P) rfl;have g2:=ch (i:=2) a.Ee (v:=.slice X c.hooks.length O) rfl;have g3:=ch (i:=3) a.Ee (v:=.slice V c.Aa.length N) rfl;have g4:=ch (i:=4) a.Ee (v:=.slice R c.now.length M) rfl;have g5:=ch (i:=5) a.Ee (v:=.int .u8 u) rfl;have g6:=ch (i:=6) a.Ee (v:=.int .u8 n) rfl;have g7:=ch (i:=7) a.Ee (v:=.int .u8 j) rfl;obtain⟨h0,h1,h2,h3,h4⟩:=Qf5 a.Ee;have f0:=cf (i:=0) a.res;have f1:=cf (i:=1) a.res;have f2:=cf (i:=2) a.res;have f3:=cf (i:=3) a.res;have f4:=cf (i:=4) a.res;have f5:=cf (i:=5) a.res;have f6:=cf (i:=6) a.res;have f7:=cf (i:=7) a.res;have r0:=ch (i:=0) a.res (v:=.slice none 0 0) rfl;have r1:=ch (i:=1) a.res (v:=.slice none 0 0) rfl;have r2:=ch (i:=2) a.res (v:=.slice none 0 0) rfl;have r3:=ch (i:=3) a.res (v:=.slice none 0 0) rfl;have r4:=ch (i:=4) a.res (v:=.slice none 0 0) rfl;have r5:=ch (i:=5) a.res (v:=.int .u8 0) rfl;have r6:=ch (i:=6) a.res (v:=.int .u8 0) rfl;have r7:=ch (i:=7) a.res (v:=.int .u8 0) rfl;clear a hU z;go_wp2;refine ZN (v:=.agg #[U E c.base.length d1,U D c.Af.length d2,U C c.hooks.length d3,U q d.length cap,U B l.length K,J .u8 u,J .u8 n,J .u8 j]) (by rw[A8 rfl];go_simp) rfl ?_;have bV:FH c l t= { {c with Aa:=d} with now:=l}:=by rw[HK.out];rfl
 refine⟨_,_,_,_,_,rfl,?_,?_⟩
 .have Lc:=HW.out
  repeat (with_reducible first|exact Lc|(refine bS ?_ o!))
 rw[bV];refine(mI.out.Ar ?_).imp (λb f=>⟨by have:=f.1;omega,?_⟩)
 .repeat (with_reducible first|exact CE.refl _ _|(refine ahl ?_ (λb f e=>by have:=f.1;omega)))
 simpa using f.2
def Jr (w:Zb):Prop:=w.cell? ⟨0,0,none⟩=some (.iface 220 (.agg #[.pointer (some ⟨1,117,none⟩)]))
def Jr.pos (h:Jr w):0<w.heap.size:=ZH w _ h
def Jr.later (h:Jr w)(a:Bl w W):Jr W:=(a.cell (p:=⟨0,0,none⟩) h.pos).trans h
def Two (w:Zb)(v:Zf)(e:Ending)(w':Zb):Prop:=Bl w w'/\(e=.returned v\/∃x,e=.panicked x/\PX x w')
def aoi {m:Int}(ht:w.heap[t]?=some (.cells #[J I m] 121 (0,0)))(c:Jr w):Calls Lp 91 #[.nilIface,.iface 123 (.pointer t)] w (Two w (.bool false)):=by
 cases d:(((zJ 1 0 3).cut (w.tape w.drawn (.appendCap 1 0 3)):Int)==1) with
 |true=>exact(OZ _ _ _ d).mono λe w' ⟨b,a⟩=>⟨a,.inr ⟨_,b,.inr ⟨_,_,_,_,rfl,.inl rfl,t,m,rfl,(Za.1 ht).1,(a.block _ (Za.1 ht).1).trans ht,c.pos,c.later a⟩⟩⟩
 |false=>exact(gO _ _ d).mono λe w' ⟨b,a⟩=>⟨a,.inl b⟩
def As (w:Zb)(t:Nat)(n:Int)(e:Ending)(w':Zb):Prop:=(e=.returned (.bool true)/\YH w (w.setCell t (J I n)) w')\/(Bl w w'/\∃x,e=.panicked x/\PX x w')
def aoj {m n:Int}(ht:w.heap[t]?=some (.cells #[J I m] 121 (0,0)))(c:Jr w):Calls Lp 91 #[.iface 121 (.agg #[J I n]),.iface 123 (.pointer t)] w (As w t n):=by
 cases d:(((zJ 1 0 3).cut (w.tape w.drawn (.appendCap 1 0 3)):Int)==1) with
 |true=>exact(OZ _ _ _ d).mono λe w' ⟨b,a⟩=>.inr ⟨a,_,b,.inr ⟨_,_,_,_,rfl,.inr ⟨n,rfl⟩,t,m,rfl,(Za.1 ht).1,(a.block _ (Za.1 ht).1).trans ht,c.pos,c.later a⟩⟩
 |false=>exact(gP n m t w d ht).mono λe w' ⟨b,a⟩=>.inl ⟨b,a⟩
def Rl (S:Nat->Prop)(w:Zb)(cs:List Zf)(x:List Int):Prop:=∃u,cs=[u]/\SI S w u x
abbrev SL (S:Nat->Prop):=Sl S (Rl S) 1
def SL.Ar {l:List (List Int)}(h:SL S w v l)(a:CE S w w'):SL S w' v l:=Sl.Ar h a λ_ _ ⟨u,e,b⟩=>⟨u,e,b.Ar a⟩
def SL.later {l:List (List Int)}(h:SL S w v l)(a:Bl w W):SL S W v l:=h.Ar (CE.Ec a)
def BM (l:List (List Int))(i:Nat):List Int:=l.getD i []
def BJ {l:List (List Int)}(h:i<l.length):l[i]?=some (BM l i):=by simp[BM,h]
def SL.at_ {a:Option Addr}{c:Nat}{l:List (List Int)}(h:SL S w (U a l.length c) l)(hi:i<l.length):∃b o u,a=some ⟨b,o,none⟩/\S b/\w.cell? ⟨b,o+i,none⟩=some u/\SI S w u (BM l i):=by
 obtain⟨p,n,f,_,_,e⟩:=h;cases f;obtain⟨b,o,cs,k,j,m,g,u,rfl,d⟩:=e i _ (BJ hi);exact⟨b,o,u,k,j,by simpa using g 0 _ rfl,d⟩
def MY (ab:Nat->Nat):A_->Nat->List (List Int)->Int×Int
 |_,_,[]=>(-1,-1)
 |c,k,l::r=>match JU c (Cx ab c.now l) with
  |some x=>(k,x)
  |none=>MY ab (FH c l (Cx ab c.now l)) (k+1) r
def F2 (c:A_)(ls:List (List Int)):Int:=PM (BN c) (if 5<ls.length then 6 else Bc (Ct c) ls)
def Eu (c:A_)(ls:List (List Int)):Int×Int:=if F2 c ls=0 then MY (Ax c.Aa) c 0 ls else(0,0)
variable {ls:List (List Int)}
def bO (h:k<ls.length):MY ab c k (ls.drop k)=(match JU c (Cx ab c.now (BM ls k)) with
  |some x=>((k:Int),x)
  |none=>MY ab (FH c (BM ls k) (Cx ab c.now (BM ls k))) (k+1) (ls.drop (k+1))):=by
 obtain⟨a,e⟩:=Zm.1 (BJ h);rw[ZO a,e]
 rfl
def PS (t:Nat):(AB t).Nodup:=by
 unfold AB FF;unfold List.Nodup;rw[List.pairwise_map];exact(List.Pairwise.filter _ (List.nodup_range (n:=3))).imp (λh e=>h o!)
def Ld:∀(l:List Int) (s:List Ay) (j:Nat),(∀x∈l,0<=x/\x<s.length)->(j:Int)∉l->Aj (CJ s l) j=Aj s j
 | [],_,_,_,_=>rfl
 |i::r,s,j,b,c=>by
  obtain⟨f,d⟩:=b i (zC ..);have hi:i.toNat<s.length:=o!
  show Aj (CJ (Kn s i.toNat) r) j=_;rw[Ld r _ j (λx a=>by rw[Gw];exact b x (zm _ a)) (λa=>c (zm _ a)),LI hi,if_neg];intro e;exact c (by rw[e,show((i.toNat:Nat):Int)=i by omega];exact zC ..)
def MZ:∀(l:List Int) (s:List Ay) (j:Nat),l.Nodup->(∀x∈l,0<=x/\x<s.length)->(Aj (CJ s l) j).left=(Aj s j).left\/(Aj (CJ s l) j).left=(Aj s j).left - 1
 | [],_,_,_,_=>.inl rfl
 |i::r,s,j,e,c=>by
  obtain⟨g,f⟩:=c i (zC ..);have hi:i.toNat<s.length:=o!
  have d:∀x∈r,0<=x/\x<(Kn s i.toNat).length:=λx a=>by rw[Gw];exact c x (zm _ a)
  show(Aj (CJ (Kn s i.toNat) r) j).left=_\/(Aj (CJ (Kn s i.toNat) r) j).left=_;by_cases b:j=i.toNat
  .rw[Ld r _ j d (λa=>(List.nodup_cons.1 e).1 (by rw[b,show((i.toNat:Nat):Int)=i by omega]at a;exact a)),LI hi,if_pos b,b]
   exact .inr rfl
  have:=MZ r _ j (List.nodup_cons.1 e).2 d;rw[LI hi,if_neg b]at this;exact this
def M0:∀(l:List Int) (s:List Ay) (j:Nat),(∀x∈l,0<=x/\x<s.length)->(Aj (CJ s l) j).Ap=(Aj s j).Ap/\(Aj (CJ s l) j).over=(Aj s j).over/\(Aj (CJ s l) j).low=(Aj s j).low/\(Aj (CJ s l) j).high=(Aj s j).high
 | [],_,_,_=>⟨rfl,rfl,rfl,rfl⟩
 |i::r,s,j,a=>by
  obtain⟨d,c⟩:=a i (zC ..);have hi:i.toNat<s.length:=o!
  have:=M0 r (Kn s i.toNat) j (λx b=>by rw[Gw];exact a x (zm _ b));rw[LI hi]at this;change(Aj (CJ (Kn s i.toNat) r) j).Ap=_/\(Aj (CJ (Kn s i.toNat) r) j).over=_/\(Aj (CJ (Kn s i.toNat) r) j).low=_/\(Aj (CJ (Kn s i.toNat) r) j).high=_;split at this
  .next e=>rw[e]at this⊢;exact this
  exact this
def aok (w:Zb)(a b e:Int):Ending->Zb->Prop:=Two w (.tuple #[J I a,J I b,J I e])
def Eh {fn:Func}{p q r:Tmp}(h:fn.results= #[.tmp p,.tmp q,.tmp r])(tmps:Array Zf)(P:Zo)(w:Zb):(results fn tmps).run P w=.ok (.tuple #[tmps.getD p Ze,tmps.getD q Ze,tmps.getD r Ze]) w:=by
 simp[results,h]
structure DOK (c d:A_)(k:Nat):Prop where
 base:d.base=c.base
 Af:d.Af=c.Af
 hooks:d.hooks=c.hooks
 len:d.Aa.length=c.Aa.length
 now:d.now.length=c.Aa.length
 left:∀i,i<c.Aa.length->-(k:Int)<=(Aj d.Aa i).left/\(Aj d.Aa i).left<=4
 rest:∀i,i<c.Aa.length->(Aj d.Aa i).Ap.length<=1000/\(Aj d.Aa i).over.length<=1000
def DOK.abw {d:A_}(h:DOK c d k)(hl:l.length=c.Aa.length)(a:∀x,x∈AB t->0<=x/\x<d.Aa.length):DOK c (FH d l t) (k+1):=by
 refine⟨h.base,h.Af,h.hooks,(O_ _ _).trans h.len,hl,λi hi=>?_,λi hi=>?_⟩
 .have:=h.left i hi
  show -((k+1:Nat):Int)<=(Aj (CJ d.Aa (AB t)) i).left/\(Aj (CJ d.Aa (AB t)) i).left<=4;rcases MZ (AB t) d.Aa i (PS t) a with e|e<;>rw[e]<;>omega
 have:=h.rest i hi;obtain⟨f,b,_⟩:=M0 (AB t) d.Aa i a;show(Aj (CJ d.Aa (AB t)) i).Ap.length<=1000/\(Aj (CJ d.Aa (AB t)) i).over.length<=1000;rw[f,b];exact this
def c34 (h:RC S w v1 v2 v3 v4 v5 c)(hl:SL S w v6 ls)(N:Ql6 S w)(hG:Jr w)(mA:∀i,i<c.Aa.length->(Aj c.Aa i).over.length<=1000):
  Calls Lp 34 #[.agg #[v1,v2,v3,v4,v5],v6] w (aok w (Eu c ls).1 (Eu c ls).2 (F2 c ls)):=by
 obtain⟨a1,c1,a2,c2,a3,c3,a4,c4,a5,c5,rfl,rfl,rfl,rfl,rfl,l1,m1,l2,m2,l3,m3,l4,m4,l5,m5⟩:=h.vs;obtain⟨a6,c6,rfl,l6,m6⟩:=hl.val;have IX:=DJ;have E:Bl w (w.alloc (.cells (Qe6 c a1 c1 a2 c2 a3 c3 a4 c4 a5 c5) 26)):=(Zh _ _).alloc (Zj _) _;by_cases D:BN c=0
 .have ez:=Zd (λW F=>Wt (w:=W) (h.later F) (A3 N F) D)
  have gj:=Zd (λW F v l (z:SI S w v l)=>c89 (w:=W) (h.later F) (z.later F) (A3 N F));have HE:=Zd (show F2 c ls=if 5<ls.length then 6 else Bc (Ct c) ls by rw[F2,BR D]);by_cases hm:5<ls.length
  .have P:=Zd (show F2 c ls=6 by rw[HE.out,if_pos hm])
   have HV:=Zd (show Eu c ls=(0,0) by rw[Eu,P.out];rfl);have g9:(5:Int)<(ls.length:Int):=o!
   clear D;go_enter Lp.func34,n34;go_wp2_with (go_at_call 88;refine(ez.out _ E).mono ?_;rintro e w1 ⟨rfl,Bb⟩;have Q:=E.trans (Bb.mono E.size));refine ZN (Eh rfl _ _ _) rfl ?_;refine⟨?_,.inl (by rw[HV.out,P.out];rfl)⟩
   repeat (with_reducible first|exact Q|refine bA ?_|(refine bS ?_ o!)|refine bD ?_|refine bN ?_)
  have P:=Zd (show F2 c ls=Bc (Ct c) ls by rw[HE.out,if_neg hm]);have ii:ls.length<=5:=o!
  have ip:=Zd D;have z:=EG D;clear D hm;go_enter Lp.func34,n34;go_wp2_with (go_at_call 88;refine(ez.out _ E).mono ?_;rintro e w1 ⟨rfl,Bb⟩;have Q:=E.trans (Bb.mono E.size));obtain⟨W2,MX⟩:=Qnm (w1.alloc (.cells (AW (U a1 c.base.length c1) (U a2 c.Af.length c2) (U a3 c.hooks.length c3) (U a4 c.Aa.length c4) (U a5 c.now.length c5) (Ax c.Aa)) 112));have Ia:Bl w1 W2:=by rw[MX];exact(Zh _ _).alloc (Zj _) _
  have T3:W2.heap[w1.heap.size]?=some (.cells (AW (U a1 c.base.length c1) (U a2 c.Af.length c2) (U a3 c.hooks.length c3) (U a4 c.Aa.length c4) (U a5 c.now.length c5) (Ax c.Aa)) 112 (0,0)):=by rw[MX];exact Bp _ _
  have l_:=(Bb.block w i!).trans (Bp w _);have ap:=(Ia.block _ (Za.1 l_).1).trans l_;have s:=Q.trans (Ia.mono Q.size);change Code.wp _ _ _ _ (w1.alloc (.cells (AW (U a1 c.base.length c1) (U a2 c.Af.length c2) (U a3 c.hooks.length c3) (U a4 c.Aa.length c4) (U a5 c.now.length c5) (Ax c.Aa)) 112));rw[<-MX];clear MX Ia l_ Bb ez;go_loopg [30] ls.length (λg i wr=>∃k:Nat,k<=ls.length/\g=ls.length - k/\i=.int I k/\Bc (Ct c) (ls.drop k)=Bc (Ct c) ls/\Bl W2 wr)
  case atStart=>exact⟨0,Zp _,rfl,rfl,rfl,Zh _ _⟩
  obtain⟨k,hk,rfl,rfl,CP,Jp⟩:=hrel;have B:=Zd CP;clear CP;have Cj:=s.trans (Jp.mono s.size);have ct:=(Jp.block _ (Za.1 ap).1).trans ap;by_cases Az:k<ls.length
  .obtain⟨b,o,u,rfl,a,hc,hu⟩:=hl.at_ Az
   rw[<-Cj.cell (p:=⟨b,o+k,none⟩) (N b a)]at hc;obtain⟨a7,c7,rfl,l7,m7⟩:=hu.val;have b8:=Zd (E_ (f:=Ct c) (BJ Az));obtain⟨k0,k1,k2,k3,k4⟩:=Qc5 ct;go_wp2_with (go_at_call 89;refine(gj.out _ Cj _ _ hu).mono ?_;rintro e w3 ⟨rfl,A⟩;have NU:=Jp.trans (A.mono Jp.size))
   .have q:(Ct c (BM ls k) !=0)=true:=by assumption
    have e1:Bc (Ct c) ls=Ct c (BM ls k):=by rw[<-B.out,b8.out,if_neg (Gr q)]
    refine ZN (Eh rfl _ _ _) rfl ?_;have e2:F2 c ls=Ct c (BM ls k):=by rw[P.out,e1]
    have e3:Eu c ls=(0,0):=by rw[Eu,e2,if_neg (Gr q)]
    exact⟨s.trans (NU.mono s.size),.inl (by rw[e3,e2];rfl)⟩
   have q:(Ct c (BM ls k) !=0)=false:=a!
   go_roundg (ls.length - (k+1))
   case rel=>exact⟨k+1,o!,rfl,v!,by rw[<-B.out,b8.out,if_pos (FE q)],NU⟩
   omega
  have e0:Bc (Ct c) ls=0:=by rw[<-B.out];exact FZ o!
  have be:=Zd (show F2 c ls=0 by rw[P.out,e0]);have HV:=Zd (show Eu c ls=MY (Ax c.Aa) c 0 ls by rw[Eu,if_pos be.out]);have fH:=Zd (λi (hi:i<ls.length)=>Ef e0 i _ (BJ hi));obtain⟨ab,DU⟩:=Qnm (Ax c.Aa);have pT:=S3 z.over;have ci:=LH z.over;have iE:=(Jp.block _ (Za.1 T3).1).trans T3;rw[<-DU]at HV pT ci iE;have mG:=Zd DU;have Jm:=z.few;have xE:=z.uy;have l9:=z.Fp;have fw:DOK c c 0:=⟨rfl,rfl,rfl,rfl,xE,λi hi=>by have:=z.left i hi;omega,λi hi=>⟨by have:=z.Ap i hi;omega,mA i hi⟩⟩;have aW:∀b,S b->b<wr.heap.size/\b≠w1:=λb a=>⟨Zl (N b a) Cj.size,by have:=N b a;have:=Q.size;omega⟩;have fy:=h.later Cj;have f8:=Zd z.PN;have fJ:=Zd z.hooks;clear B e0 DU ct s ap T3 Jp E xE;go_wp2;go_loopg [43] ls.length (λg i wx=>∃(k:Nat) (d:A_) (T:Nat->Prop) (Z Y X V R:Option Addr) (d1 d2 d3 d4 d5:Nat),k<=ls.length/\g=ls.length - k/\i=.int I k/\MY ab d k (ls.drop k)=MY ab c 0 ls/\DOK c d k/\Bl w wx/\
   wx.heap[w1.heap.size]?=some (.cells #[U Z d.base.length d1,U Y d.Af.length d2,U X d.hooks.length d3,U V d.Aa.length d4,U R d.now.length d5,J .u8 (ab 0),J .u8 (ab 1),J .u8 (ab 2)] 112 (0,0))/\RC T wx (U Z d.base.length d1) (U Y d.Af.length d2) (U X d.hooks.length d3) (U V d.Aa.length d4) (U R d.now.length d5) d/\(∀b,T b->b<wx.heap.size/\b≠w1))
  case atStart=>exact⟨0,c,S,_,_,_,_,_,_,_,_,_,_,Zp _,rfl,rfl,rfl,fw,Cj,iE,fy,aW⟩
  obtain⟨k,d,T,Z,Y,X,V,R,d1,d2,d3,d4,d5,hk,rfl,rfl,CP,C,r,y,hR,hT⟩:=hrel;have B:=Zd CP;clear CP;by_cases G4:k<ls.length
  .obtain⟨b,o,u,rfl,a,hc,hu⟩:=hl.at_ G4
   rw[<-r.cell (p:=⟨b,o+k,none⟩) (N b a)]at hc;obtain⟨a7,c7,rfl,l7,m7⟩:=hu.val;have ER:=fH.out k G4;obtain⟨M,_⟩:=Fb ER;have fm:=C.now;have b9:=C.len;obtain⟨L,bV⟩:=Qnm (BM ls k);have n:=Zd (bO (ab:=ab) (c:=d) G4);rw[<-bV]at hc hu l7 M n;clear bV ER;obtain⟨t,ht⟩:=Qnm (Cx ab d.now L);have cI:t<2^c.Aa.length:=by rw[ht];exact JW ci L 0 0 o! (Zdz _)
   have pK:t<8:=Zl cI (show 2^c.Aa.length<=2^3 from YX d! Jm.2);have bP:∀x,x∈AB t->0<=x/\x<d.Aa.length:=by rw[b9];exact N_ cI
   have am:∀W,Bl wr W->∀b,(T b\/S b)->b<W:=λW j b a=>by
    rcases a with a|a
    .have:=(hT b a).1;have:=j.size;omega
    have:=N b a;have:=r.size;have:=j.size;omega
   have an:∀W,Bl wr W->RC (λb=>T b\/S b) W (U Z d.base.length d1) (U Y d.Af.length d2) (U X d.hooks.length d3) (U V d.Aa.length d4) (U R d.now.length d5) d:=λW j=>(hR.later j).imp (λb a=>.inl a);have ai:∀W,Bl wr W->SI (λb=>T b\/S b) W (U a7 L.length c7) L:=λW j=>Sl.imp ((hu.later r).later j) (λb a=>.inr a) (λ_ _ x=>x);have M_:=Zd (λW (j:Bl wr W)=>c90 (w:=W) (l:=L) (ab:=ab) (an W j) (ai W j) o! o! pT (by rw[<-ht];exact bP) (am W j));have bi:=Zd (λW (j:Bl wr W) (h1:k<=4)=>c92 (w:=W) (l:=L) (t:=t) (an W j) (ai W j) (am W j) pK bP (λi hi=>by have:=C.left i o!;omega) (by rw[C.base];omega) (by rw[C.Af,f8.out];omega) (by rw[C.hooks,fJ.out];omega) o! o! o! (λi hi=>C.rest i o!) o! (ab 0) (ab 1) (ab 2));rw[<-ht]at M_ n;have HT:=Zd ht;have f9:=Zd (C.abw (t:=t) (l:=L) o! bP);have k0:=ch (i:=0) y (v:=.slice Z d.base.length d1) rfl;have k1:=ch (i:=1) y (v:=.slice Y d.Af.length d2) rfl;have k2:=ch (i:=2) y (v:=.slice X d.hooks.length d3) rfl;have k3:=ch (i:=3) y (v:=.slice V d.Aa.length d4) rfl;have k4:=ch (i:=4) y (v:=.slice R d.now.length d5) rfl;have k5:=ch (i:=5) y (v:=.int .u8 (ab 0)) rfl;have k6:=ch (i:=6) y (v:=.int .u8 (ab 1)) rfl;have k7:=ch (i:=7) y (v:=.int .u8 (ab 2)) rfl;have gn:=r.size;have NN:=(Za.1 y).1;have dl:∀W,Bl wr W->Jr W:=λW j=>hG.later (r.trans (j.mono r.size));have ed:=Zd dl;have fK:=Zd y;have HR:=Zd hR;have io:=Zd hT;clear ht am an ai C dl y hR hT bP cI a hu M fm b9;cases jG:JU d t with
   |some x=>
    rw[jG]at M_ n;change Hid (∀W (j:Bl wr W),Calls Lp 90 _ _ λe w'=>e=.returned (.tuple #[J .u8 0,.iface 121 (.agg #[J I x])])/\Bl W w') at M_;have fI:=Zd (show Eu c ls=((k:Int),x) by rw[HV.out, <-B.out,n.out]);clear jG B n;go_wp2_with (go_at_call 90;refine(M_.out _ (Zh _ _)).mono ?_;rintro e w3 ⟨rfl,S7⟩);obtain⟨W4,H⟩:=Qnm (w3.alloc (.cells #[J I 0] 121));have G:Bl wr W4:=by rw[H];exact bA S7
    have K:W4.heap[w3.heap.size]?=some (.cells #[J I 0] 121 (0,0)):=by rw[H];exact Bp _ _
    rw[<-H];clear H;have Rb:=S7.size;have s:=r.trans (G.mono r.size);have bv:=(Za.1 K).1;refine(aoj K (ed.out _ G)).mono ?_;rintro e w6 (⟨rfl,A⟩|⟨A,x',rfl,Ss⟩)
    .have ck:Bl w (W4.setCell w3 (J I x)):=bS s o!
     have NU:Bl w w6:=ck.trans (A.mono s.size);have im:=(A.cell (p:=w3) bv).trans (ch (Ba K (J I x)) (i:=0) rfl);clear A ck K G S7 s;dsimp only;go_wp2;go_quiet (fail);go_wp2;refine ZN (Eh rfl _ _ _) rfl ?_;exact⟨Y5 NU _,.inl (by rw[fI.out,be.out];rfl)⟩
    .exact⟨rfl,s.trans (A.mono s.size),.inr ⟨_,rfl,Ss⟩⟩
   |none=>
    rw[jG]at M_ n;change Hid (∀W (j:Bl wr W),Calls Lp 90 _ _ λe w'=>e=.returned (.tuple #[J .u8 t,.nilIface])/\Bl W w') at M_;clear jG;go_wp2_with (go_at_call 90;refine(M_.out _ (Zh _ _)).mono ?_;rintro e w3 ⟨rfl,S7⟩);obtain⟨W4,H⟩:=Qnm (w3.alloc (.cells #[J I 0] 121));have G:Bl wr W4:=by rw[H];exact bA S7
    have K:W4.heap[w3.heap.size]?=some (.cells #[J I 0] 121 (0,0)):=by rw[H];exact Bp _ _
    rw[<-H];clear H;have Rb:=S7.size;have s:=r.trans (G.mono r.size);have bv:=(Za.1 K).1;refine(aoi K (ed.out _ G)).mono ?_;rintro e w6 ⟨A,rfl|⟨x',rfl,Ss⟩⟩
    .have O:=G.trans (A.mono G.size)
     have fd:k<=4:=o!
     have du:=bi.out _ O fd;clear A K G S7 s;have bi:=Zd du;clear du;obtain⟨fu,fi⟩:=E7 O;dsimp only;go_wp2_with (go_at_call 92;refine bi.out.mono ?_;rintro e w7 ⟨u1,u2,u3,u4,u5,rfl,NU,xG⟩;obtain⟨p1,t1,p2,t2,p3,t3,p4,t4,p5,t5,rfl,rfl,rfl,rfl,rfl,_⟩:=xG.vs;have m:=(NU.block _ (Zl NN O.size)).trans ((O.block _ NN).trans fK.out);have x0:=ch (i:=0) m (v:=.slice Z d.base.length d1) rfl;have y0:=cf (i:=0) m;have x1:=ch (i:=1) m (v:=.slice Y d.Af.length d2) rfl;have y1:=cf (i:=1) m;have x2:=ch (i:=2) m (v:=.slice X d.hooks.length d3) rfl;have y2:=cf (i:=2) m;have x3:=ch (i:=3) m (v:=.slice V d.Aa.length d4) rfl;have y3:=cf (i:=3) m;have x4:=ch (i:=4) m (v:=.slice R d.now.length d5) rfl;have y4:=cf (i:=4) m;have x5:=ch (i:=5) m (v:=.int .u8 (ab 0)) rfl;have y5:=cf (i:=5) m;have x6:=ch (i:=6) m (v:=.int .u8 (ab 1)) rfl;have y6:=cf (i:=6) m;have x7:=ch (i:=7) m (v:=.int .u8 (ab 2)) rfl;have y7:=cf (i:=7) m;clear fu fi);have Jn:Bl w w7:=(r.trans (O.mono r.size)).trans (NU.mono (r.trans (O.mono r.size)).size);go_roundg (ls.length - (k+1))
     case rel=>
      refine⟨k+1,FH d L t,Cb w6 w7,p1,p2,p3,p4,p5,t1,t2,t3,t4,t5,o!,rfl,v!,by rw[<-B.out,n.out],f9.out,?_,?_,?_,?_⟩
      .have gt:w<=w1.heap.size:=Q.size
       repeat (with_reducible first|exact Jn|(refine bS ?_ o!))
      .exact Ba (Ba (Ba (Ba (Ba (Ba (Ba (Ba m _) _) _) _) _) _) _) _
      .have BL:∀b,Cb w6 w7 b->b≠w1.heap.size:=λb a e=>by have:=a.1;have:=O.size;omega
       refine xG.Ar ?_
       repeat (with_reducible first|exact CE.refl _ _|refine ahl ?_ BL)
      intro b a;have:=O.size;refine⟨by simpa using a.2,?_⟩;have:=a.1;omega
     omega
    exact⟨rfl,s.trans (A.mono s.size),.inr ⟨_,rfl,Ss⟩⟩
  have e9:Eu c ls=(-1,-1):=by rw[HV.out, <-B.out,Z7.2 o!];rfl
  have E9:=Zd e9;clear e9 B C hR hT y;go_wp2;refine ZN (Eh rfl _ _ _) rfl ?_;exact⟨r,.inl (by rw[E9.out,be.out];rfl)⟩
 have HE:=Zd (show F2 c ls=BN c by rw[F2,K4 D]);have HV:=Zd (show Eu c ls=(0,0) by rw[Eu,HE.out,if_neg D]);have ez:=Zd (λW F=>c88 (w:=W) (h.later F) (A3 N F));obtain⟨x,hx⟩:=Qnm (BN c);have Oo:x≠0:=by rw[hx];exact D
 have P:=Zd hx;clear hx D;go_enter Lp.func34,n34;go_wp2_with (go_at_call 88;refine(ez.out _ E).mono ?_;rintro e w1 ⟨Z,Y,X,V,R,n1,n2,n3,n4,n5,d1,d2,d3,d4,d5,k0,k1,k2,rfl,Bb,_⟩;have Q:=E.trans (Bb.mono E.size);rw[<-P.out]);refine ZN (Eh rfl _ _ _) rfl ?_;refine⟨?_,.inl (by rw[HV.out,HE.out, <-P.out];rfl)⟩
 repeat (with_reducible first|exact Q|refine bA ?_|(refine bS ?_ o!)|refine bD ?_|refine bN ?_)
def bQ (S:Nat->Prop)(w w':Zb):Prop:=∀p v,S p.block->w.cell? p=some v->w'.cell? p=some v
variable {α:Type}
def Sl.H3 {R R':Zb->List Zf->α->Prop}{l:List α}(h:Sl S R k w v l)(f:bQ S w w')(m:∀cs x,R w cs x->R' w' cs x):Sl S R' k w' v l:=by
 obtain⟨a,c,r,q,p,n⟩:=h;refine⟨a,c,r,q,p,λi x e=>?_⟩;obtain⟨b,o,cs,z,d,y,t,s⟩:=n i x e;exact⟨b,o,cs,z,d,y,λj u g=>f ⟨b,o+i*k+j,none⟩ u d (t j u g),m _ _ s⟩
def SI.H3 (h:SI S w v l)(a:bQ S w w'):SI S w' v l:=Sl.H3 h a λ_ _ h=>h
def SP.H3 {l:List (Int×Int)}(h:SP S w v l)(a:bQ S w w'):SP S w' v l:=Sl.H3 h a λ_ _ h=>h
def RC.H3 (h:RC S w v1 v2 v3 v4 v5 c)(a:bQ S w w'):RC S w' v1 v2 v3 v4 v5 c:=
 ⟨h.base.H3 a,h.Af.H3 a,h.hooks.H3 a,Sl.H3 h.Aa a λ_ _ ⟨v2,v3,e,x2,x3⟩=>⟨v2,v3,e,x2.H3 a,x3.H3 a⟩,h.now.H3 a⟩
def Sl.live {R R':Zb->List Zf->α->Prop}{l:List α}(h:Sl S R k w v l)(t:0<k)(f:∀cs x,R w cs x->R' w cs x):Sl (λb=>S b/\b<w) R' k w v l:=by
 obtain⟨a,c,n,m,j,g⟩:=h;refine⟨a,c,n,m,j,λi x e=>?_⟩;obtain⟨b,o,cs,s,r,q,d,p⟩:=g i x e;exact⟨b,o,cs,s,⟨r,ZH w _ (d 0 _ (zf o!))⟩,q,d,f _ _ p⟩
def RC.live (h:RC S w v1 v2 v3 v4 v5 c):RC (λb=>S b/\b<w) w v1 v2 v3 v4 v5 c:=
 ⟨Sl.live h.base d! λ_ _ x=>x,Sl.live h.Af d! λ_ _ x=>x,Sl.live h.hooks d! λ_ _ x=>x,Sl.live h.Aa d! λ_ _ ⟨v2,v3,e,x2,x3⟩=>⟨v2,v3,e,Sl.live x2 d! λ_ _ x=>x,Sl.live x3 d! λ_ _ x=>x⟩,Sl.live h.now d! λ_ _ x=>x⟩
def eN (ls:List (List Int)):ls=(Zcq 0 ls.length).map (BM ls):=by
 apply YA;intro i;by_cases hi:i<ls.length
 .rw[BJ hi,YL,List.getElem?_range' hi]
  simp
 rw[ZP o!,ZP j!]
def WI (ls:List (List Int))(p:List Int->Bool):ls.filter p=((Zcq 0 ls.length).filter λi=>p (BM ls i)).map (BM ls):=by
 conv=>lhs;rw[eN ls]
 rw[List.filter_map]
 rfl
end Go.Proofs.Fit
