/- Part of a proof. -/
import Derived.Test.YtdhgoldgnnpnmaaGreatDoorQ05
import Derived.BigQuiet
import Derived.Deep.LoopGhost
import Derived.WalkSmall
import Derived.StillTailTactics
import Derived.Deep.RegionHeld3
import Derived.Laws.CopyOwn
import Derived.Lib.SliceRun
set_option maxRecDepth 100000
set_option maxHeartbeats 6400000
noncomputable section
set_option linter.all false
open And renaming intro->ZY
open Array renaming getElem?_modify->Y7,getElem?_eq_some_iff->Za,ext_getElem?->Zec,getElem?_append_left->zr,getElem?_append_right->Zan,getElem?_extract->Zd4,getElem?_eq_none->YR,setIfInBounds_comm->Zdb,replicate->Yu,getElem?_setIfInBounds_self_of_lt->ZV,getElem?_eq_getElem->Zx,getElem?_setIfInBounds_ne->Zk
open Bool renaming and_eq_true->ZF,or_eq_true->ZaK
open Classical renaming byContradiction->YQ
open Go renaming World->Zb,Value->Zf,below_drewN->Y5,TypeId->Zs,bodyPost_ret->ZN,results_cell_tmp->YB,Program->Zo,undef->Ze,loadVar->Zdd,info_parts->zp,wpList_append_own->Yc,FuncId->ZaQ,wpQuiet_nil->Z4,wpOp_mono->Zcc,YieldsIf->ZbF,ready_mono->ZbO,mem_ready->ZcY,getD_set_ne->Zde,wp_region_any->Zd5,Operand->Zbv,execOp->Zby
open Go.Act renaming put->Zck
open Go.Addr renaming add->Zcu
open Go.Calls renaming quiet_of_same->Zb5
open Go.Code renaming region->zU
open Go.Ending renaming returned->Zbx
open Go.IntKind renaming u8->ZcE,i64->I
open Go.IntWalk renaming i64_in->ZcD
open Go.Lib renaming hid->Zd,run_eql_slice_nil->ZaO
open Go.Oper renaming wp->ZbA,upon_enter->Zdj,upon_value->Zdi,upon_skip->ZcQ
open Go.Proofs.Tryz renaming underlying22->YE,underlying25->Zdg,underlying51->Zcz
open Go.Question renaming appendCap->zJ
open Go.Region renaming Mode->YO,ready->zs,binds->Yk,noSelect->YF,free->Za3,noSelect_spec->Zdx,wanted->Yf
open Go.Result renaming andThen->zu
open Go.RowKit renaming Below->YH
open Go.RowKit.Below renaming refl->Zh,heap_setCell->Y4,heap_alloc->zD
open Go.Sem renaming run_bind->zg
open Go.Value renaming int->ZL,slice->Zy,slice->U,int->J
open Go.World renaming block_lt_of_cell?->ZH,cell?->zy,cell?_alloc_lt->ZbG,size_alloc->ZB,frozen?->Yo,setCell->Z8,ownsRow_nil->zq,ownsRow_made->YC
open List renaming getElem?_eq_some_iff->Zm,drop_eq_getElem_cons->ZO,drop_eq_nil_iff->Z7,range->Yr,all_eq_true->Zdm,getElem?_map->YL,eq_nil_of_length_eq_zero->YM,getElem?_take_of_lt->Z2,filter_append->ZcW,length_filter_le->Zac,ext_getElem?->YA,getElem?_drop->Yl,getElem?_eq_getElem->zf,getElem?_eq_none->ZP,getElem_of_mem->Zas,mem_of_getElem?->Z3,nil_append->zP,mem_cons_self->zC,mem_cons_of_mem->zm,all_cons->Zbs,filterMap_cons->Z6,mem_singleton->Yh,filterMap_nil->zd,getElem?_toArray->ZG,getElem?_cons_succ->ZD,getElem?_cons_zero->ZC,getD_eq_getElem?_getD->Y6,range'->Zcq
open Nat renaming le_refl->Zj,zero_le->Zp,or_lt_two_pow->Zba,not_lt_zero->ZbY,lt_of_lt_of_le->Zl,le_trans->Zr,mul_le_mul_right->Zd8,add_assoc->ZbZ,div_lt_of_lt_mul->Zd9,mul_comm->ZcR,zero_add->zN,lt_or_ge->Zar,le_of_not_lt->Zdl,two_pow_pos->Zdz,pow_le_pow_right->YX
open Ne renaming symm->Za0
open Option.some renaming inj->ZW
namespace Go.Proofs.Fit
open Go
def n26:Tryz.f12.ntmps=119:=rfl
def n27:Tryz.f4.ntmps=6:=rfl
def n29:Tryz.f13.ntmps=14:=rfl
def n30:Tryz.f18.ntmps=32:=rfl
def n32:Tryz.f47.ntmps=6:=rfl
def n33:Tryz.f45.ntmps=37:=rfl
def n34:Tryz.f43.ntmps=65:=rfl
def n37:Tryz.f10.ntmps=27:=rfl
def n40:Tryz.f72.ntmps=6:=rfl
def n41:Tryz.f8.ntmps=96:=rfl
def n44:Tryz.f5.ntmps=75:=rfl
def n45:Tryz.f38.ntmps=27:=rfl
def n46:Tryz.f31.ntmps=26:=rfl
def n54:Tryz.f41.ntmps=70:=rfl
def n61:Tryz.f6.ntmps=14:=rfl
def n62:Tryz.f39.ntmps=30:=rfl
def n69:Tryz.f42.ntmps=54:=rfl
def n84:Tryz.f37.ntmps=29:=rfl
def n85:Tryz.f40.ntmps=16:=rfl
def n86:Tryz.f46.ntmps=13:=rfl
def n87:Tryz.f44.ntmps=67:=rfl
def n88:Tryz.f20.ntmps=51:=rfl
def n89:Tryz.f51.ntmps=41:=rfl
def n90:Tryz.f62.ntmps=32:=rfl
def n92:Tryz.f63.ntmps=35:=rfl
def n98:Tryz.f14.ntmps=13:=rfl
def n99:Tryz.f16.ntmps=10:=rfl
def ana:Tryz.f21.ntmps=12:=rfl
def ab5:Tryz.f22.ntmps=34:=rfl
def anb:Tryz.f23.ntmps=5:=rfl
def anc:Tryz.f24.ntmps=4:=rfl
def agQ:Tryz.f26.ntmps=114:=rfl
def uj:Tryz.f27.ntmps=8:=rfl
def ane:Tryz.f15.ntmps=84:=rfl
def anf:Tryz.f17.ntmps=86:=rfl
def ang:Tryz.f68.ntmps=21:=rfl
def anh:Tryz.f69.ntmps=47:=rfl
def ab6:Tryz.f64.ntmps=32:=rfl
def ani:Tryz.f65.ntmps=17:=rfl
def anj:Tryz.f70.ntmps=10:=rfl
def ank:Tryz.f67.ntmps=9:=rfl
def anl:Tryz.f59.ntmps=76:=rfl
def anm:Tryz.f73.ntmps=15:=rfl
def ann:Tryz.f32.ntmps=5:=rfl
def ano:Tryz.f36.ntmps=33:=rfl
def anp:Tryz.f48.ntmps=65:=rfl
def anq:Tryz.f49.ntmps=107:=rfl
def anr:Tryz.f50.ntmps=66:=rfl
def ans:Tryz.f94.ntmps=54:=rfl
def ant:Tryz.f52.ntmps=24:=rfl
def anu:Tryz.f53.ntmps=13:=rfl
def anv:Tryz.f54.ntmps=13:=rfl
def agR:Tryz.f55.ntmps=43:=rfl
def anw:Tryz.f87.ntmps=15:=rfl
def anx:Tryz.f66.ntmps=6:=rfl
def agS:Tryz.f104.ntmps=8:=rfl
def anz:Tryz.f105.ntmps=8:=rfl
def agT:Tryz.f106.ntmps=8:=rfl
end Go.Proofs.Fit
namespace Go.Proofs.Fit
open Go Go.RowKit
abbrev Bl (A B:Zb):Prop:=YH A.heap.size A B
def DJ:maxLen=9223372036854775807:=rfl
def CE (S:Nat->Prop)(w w':Zb):Prop:=∀b,S b->b<w.heap.size->w'.heap[b]?=w.heap[b]?
variable {S T:Nat->Prop}
variable {w w' W:Zb}
variable {v v1 v2 v3 v4 v5 v6 x1 x2 x3 x4 x5 v7 u1 u2 u5:Zf}
def CE.cell (h:CE S w w'){p:Addr}(hs:S p.block)(hc:w.cell? p=some v):w'.cell? p=some v:=by
 have:=h p.block hs (ZH w _ hc);unfold zy at*;rw[this];exact hc
def CE.Ec (h:Bl w w'):CE S w w':=fun b _ hb=>h.block b hb
def CE.refl (S:Nat->Prop)(w:Zb):CE S w w:=fun _ _ _=>rfl
def Sl {α:Type}(S:Nat->Prop)(R:Zb->List Zf->α->Prop)(k:Nat)(w:Zb)(v:Zf)(l:List α):Prop:=
 ∃a c,v=.slice a l.length c/\l.length<=c/\c<=maxLen/\∀i x,l[i]?=some x->∃b o cs,a=some ⟨b,o,none⟩/\S b/\cs.length=k/\(∀j u,cs[j]?=some u->w.cell? ⟨b,o+i*k+j,none⟩=some u)/\R w cs x
section
variable {α:Type}{S T:Nat->Prop}{R R':Zb->List Zf->α->Prop}{k:Nat}{w w':Zb}{v:Zf}{l:List α}
def Sl.imp (h:Sl S R k w v l)(hs:∀b,S b->T b)(hR:∀cs x,R w cs x->R' w cs x):Sl T R' k w v l:=by
 obtain⟨a,c,h1,h2,h3,h4⟩:=h;refine⟨a,c,h1,h2,h3,fun i x hx=>?_⟩;obtain⟨b,o,cs,g1,g2,g3,g4,g5⟩:=h4 i x hx;exact⟨b,o,cs,g1,hs b g2,g3,g4,hR _ _ g5⟩
def Sl.Ar (h:Sl S R k w v l)(hw:CE S w w')(hR:∀cs x,R w cs x->R w' cs x):Sl S R k w' v l:=by
 obtain⟨a,c,h1,h2,h3,h4⟩:=h;refine⟨a,c,h1,h2,h3,fun i x hx=>?_⟩;obtain⟨b,o,cs,g1,g2,g3,g4,g5⟩:=h4 i x hx;exact⟨b,o,cs,g1,g2,g3,fun j u hu=>hw.cell (p:=⟨b,o+i*k+j,none⟩) g2 (g4 j u hu),hR _ _ g5⟩
def Sl.val (h:Sl S R k w v l):∃a c,v=.slice a l.length c/\l.length<=c/\c<=maxLen:=by
 obtain⟨a,c,h1,h2,h3,_⟩:=h;exact⟨a,c,h1,h2,h3⟩
end
def Ri (_:Zb)(cs:List Zf)(x:Int):Prop:=cs=[J I x]
def Rp (_:Zb)(cs:List Zf)(x:Int×Int):Prop:=cs=[J I x.1,J I x.2]
abbrev SI (S:Nat->Prop):=Sl S Ri 1
abbrev SP (S:Nat->Prop):=Sl S Rp 2
variable {l L:List Int}
def SI.Ar (h:SI S w v l)(hw:CE S w w'):SI S w' v l:=Sl.Ar h hw fun _ _ h=>h
def SP.Ar {l:List (Int×Int)}(h:SP S w v l)(hw:CE S w w'):SP S w' v l:=Sl.Ar h hw fun _ _ h=>h
def nth (l:List Int)(i:Nat):Int:=l.getD i 0
def BV (l:List (Int×Int))(i:Nat):Int×Int:=l.getD i (0,0)
variable {i s k n b t j q d cap b7:Nat}
def Bn (h:i<l.length):l[i]?=some (nth l i):=by simp[nth,h]
def EE {l:List (Int×Int)}(h:i<l.length):l[i]?=some (BV l i):=by simp[BV,h]
def SI.at_ {a:Option Addr}{c:Nat}(h:SI S w (U a l.length c) l)(hi:i<l.length):∃b o,a=some ⟨b,o,none⟩/\S b/\w.cell? ⟨b,o+i,none⟩=some (J I (nth l i)):=by
 obtain⟨a',c',h1,_,_,h4⟩:=h;cases h1;obtain⟨b,o,cs,g1,g2,g3,g4,g5⟩:=h4 i _ (Bn hi);subst g5;exact⟨b,o,g1,g2,by simpa using g4 0 _ rfl⟩
def SP.at_ {a:Option Addr}{c:Nat}{l:List (Int×Int)}(h:SP S w (U a l.length c) l)(hi:i<l.length):
  ∃b o,a=some ⟨b,o,none⟩/\S b/\w.cell? ⟨b,o+i*2,none⟩=some (J I (BV l i).1)/\w.cell? ⟨b,o+i*2+1,none⟩=some (J I (BV l i).2):=by
 obtain⟨a',c',h1,_,_,h4⟩:=h;cases h1;obtain⟨b,o,cs,g1,g2,g3,g4,g5⟩:=h4 i _ (EE hi);unfold Rp at g5;subst g5;exact⟨b,o,g1,g2,by simpa using g4 0 _ rfl,by simpa using g4 1 _ rfl⟩
def AD (n lo hi:Int):Bool:=decide (n<lo)||decide (hi<n)
def Di (n most:Int):Int:=if n=0 then 7 else if most<n then 6 else 0
def CV (p:Int×Int)(lo hi:Int):Int:=if AD p.1 lo hi=true\/AD p.2 lo hi=true then 1 else if p.2<p.1 then 5 else 0
def Iu (n:Int)(p:Int×Int):Bool:=decide (p.1<=n)&&decide (n<=p.2)
def bp (n lo hi:Int)(w:Zb):Calls Lp 73 #[J I n,J I lo,J I hi] w fun e w'=>e=.returned (.bool (AD n lo hi))/\w'=w:=by
 go_enter Lp.func134,anm;go_wp2
 all_goals go_ret
 .exact⟨rfl,rfl⟩
 exact⟨by simp[AD, *],rfl⟩
def uk (n most:Int)(w:Zb):Calls Lp 21 #[J I n,J I most] w fun e w'=>e=.returned (J I (Di n most))/\w'=w:=by
 go_enter Lp.func100,ana;go_wp2
 all_goals go_ret
 all_goals simp_all[Di]
def agU (n a b:Int)(w:Zb):Calls Lp 87 #[J I n,.agg #[J I a,J I b]] w fun e w'=>e=.returned (.bool (Iu n (a,b)))/\Bl w w':=by
 go_enter Lp.func161,anw;go_wp2
 all_goals go_ret
 all_goals refine⟨?_,(Zh _ _).alloc (Zj _) _⟩
 all_goals simp[Iu, *]
 all_goals omega
def ab7 (a b:Int)(lo hi:Int)(w:Zb):Calls Lp 52 #[.agg #[J I a,J I b],J I lo,J I hi] w fun e w'=>e=.returned (J I (CV (a,b) lo hi))/\Bl w w':=by
 go_enter Lp.func151,ant;go_wp2_with (go_at_call 73;refine(bp _ _ _ _).mono ?_;rintro e w' ⟨rfl,rfl⟩)
 all_goals go_ret
 all_goals refine⟨?_,(Zh _ _).alloc (Zj _) _⟩
 all_goals simp_all[CV]
 all_goals omega
structure Ay where
 low:Int
 high:Int
 Ap:List (Int×Int)
 over:List Int
 left:Int
structure A_ where
 base:List Int
 Af:List (Int×Int)
 hooks:List Int
 Aa:List Ay
 now:List Int
def Rs (S:Nat->Prop)(w:Zb)(cs:List Zf)(s:Ay):Prop:=∃v2 v3,cs=[J I s.low,J I s.high,v2,v3,J I s.left]/\SP S w v2 s.Ap/\SI S w v3 s.over
abbrev SS (S:Nat->Prop):=Sl S (Rs S) 5
structure RC (S:Nat->Prop)(w:Zb)(v1 v2 v3 v4 v5:Zf)(c:A_):Prop where
 base:SI S w v1 c.base
 Af:SP S w v2 c.Af
 hooks:SI S w v3 c.hooks
 Aa:SS S w v4 c.Aa
 now:SI S w v5 c.now
def Rs.Ar {cs:List Zf}{s:Ay}(h:Rs S w cs s)(hw:CE S w w'):Rs S w' cs s:=by
 obtain⟨v2,v3,h1,h2,h3⟩:=h;exact⟨v2,v3,h1,h2.Ar hw,h3.Ar hw⟩
def SS.Ar {l:List Ay}(h:SS S w v l)(hw:CE S w w'):SS S w' v l:=Sl.Ar h hw fun _ _ h=>h.Ar hw
variable {c:A_}
def RC.Ar (h:RC S w v1 v2 v3 v4 v5 c)(hw:CE S w w'):RC S w' v1 v2 v3 v4 v5 c:=
 ⟨h.base.Ar hw,h.Af.Ar hw,h.hooks.Ar hw,h.Aa.Ar hw,h.now.Ar hw⟩
section
variable {α:Type}
def Bc (f:α->Int):List α->Int
 | []=>0
 |x::r=>if f x=0 then Bc f r else f x
def E_ {f:α->Int}{l:List α}{x:α}(h:l[k]?=some x):Bc f (l.drop k)=if f x=0 then Bc f (l.drop (k+1)) else f x:=by
 obtain⟨hk,rfl⟩:=Zm.1 h;rw[ZO hk]
 rfl
def FZ {f:α->Int}{l:List α}(h:l.length<=k):Bc f (l.drop k)=0:=by
 rw[Z7.2 h];rfl
end
def Fo (lo hi:Int)(n:Int):Int:=if AD n lo hi=true then 1 else 0
variable {lo hi hook:Int}
def Ws {n:Int}(h:AD n lo hi=true):Fo lo hi n=1:=if_pos h
def SK {n:Int}(h:AD n lo hi=false):Fo lo hi n=0:=if_neg (by rw[h];decide)
def PM (a b:Int):Int:=if a=0 then b else a
def BR {a b:Int}(h:a=0):PM a b=b:=if_pos h
def K4 {a b:Int}(h:a≠0):PM a b=a:=if_neg h
def Bw {a b:Int}(h:a=b):Zbx (J I a)=.returned (J I b):=by rw[h]
def U2 {a:Nat}(h:((a:Int) !=b)=false):a=b:=by simp at h;omega
def xp {a:Nat}(h:((a:Int) !=b)=true):a≠b:=by simp at h;omega
def FE {a:Int}(h:(a !=0)=false):a=0:=by simpa using h
def Gr {a:Int}(h:(a !=0)=true):a≠0:=by simpa using h
def Dq (c:A_):Int:=
 PM (Di c.base.length 3) (PM (Bc (Fo 1 60) c.base) (if c.Af.length≠c.base.length then 9 else PM (Bc (fun p=>CV p (-9) 9) c.Af) (if c.hooks.length≠c.base.length then 9 else Bc (Fo 0 5) c.hooks)))
def anA (h:RC S w v1 v2 v3 v4 v5 c)(hS:∀b,S b->b<w.heap.size):Calls Lp 48 #[.agg #[v1,v2,v3,v4,v5]] w fun e w'=>e=.returned (J I (Dq c))/\Bl w w':=by
 obtain⟨a1,c1,rfl,l1,m1⟩:=h.base.val;obtain⟨a2,c2,rfl,l2,m2⟩:=h.Af.val;obtain⟨a3,c3,rfl,l3,m3⟩:=h.hooks.val;obtain⟨a4,c4,rfl,l4,m4⟩:=h.Aa.val;obtain⟨a5,c5,rfl,l5,m5⟩:=h.now.val;have IX:=DJ;have hB:Bl w (w.alloc (.cells #[U a1 c.base.length c1,U a2 c.Af.length c2,U a3 c.hooks.length c3,U a4 c.Aa.length c4,U a5 c.now.length c5] 28)):=(Zh _ _).alloc (Zj _) _;go_enter Lp.func143,anp;go_wp2_with (go_at_call 21;refine(uk _ _ _).mono ?_;rintro e w' ⟨rfl,rfl⟩)
 .have q1:(Di c.base.length 3 !=0)=true:=by assumption
  go_ret;exact⟨Bw (by rw[Dq,K4 (Gr q1)]),hB⟩
 rename (Di _ _ !=0)=false=>q1
 have Q1:=Zd q1;clear q1;go_loopg [21] c.base.length (fun g i wr=>∃k:Nat,k<=c.base.length/\g=c.base.length - k/\i=.int I k/\Bc (Fo 1 60) (c.base.drop k)=Bc (Fo 1 60) c.base/\wr=(w.alloc (.cells #[U a1 c.base.length c1,U a2 c.Af.length c2,U a3 c.hooks.length c3,U a4 c.Aa.length c4,U a5 c.now.length c5] 28)))
 case atStart=>exact⟨0,Zp _,rfl,rfl,rfl,rfl⟩
 obtain⟨k,hk,rfl,rfl,CP,rfl⟩:=hrel;have hf:=Zd CP;clear CP;by_cases Az:k<c.base.length
 .obtain⟨b,o,rfl,hb,hc⟩:=h.base.at_ Az
  have OJ:=hB.cell (p:=⟨b,o+k,none⟩) (hS b hb);rw[hc]at OJ;have hd:=Zd (E_ (f:=Fo 1 60) (Bn Az));go_wp2_with (go_at_call 73;refine(bp _ _ _ _).mono ?_;rintro e w' ⟨rfl,rfl⟩)
  .have q2:AD (nth c.base k) 1 60=true:=by assumption
   go_ret;have e2:Bc (Fo 1 60) c.base=1:=by rw[<-hf.out,hd.out,Ws q2];rfl
   exact⟨Bw (by rw[Dq,BR (FE Q1.out),e2];rfl),hB⟩
  have q2:AD (nth c.base k) 1 60=false:=by assumption
  go_roundg (c.base.length - (k+1))
  case rel=>exact⟨k+1,by omega,rfl,by go_num,by rw[<-hf.out,hd.out,SK q2];rfl,rfl⟩
  omega
 have Q2:=Zd (show Bc (Fo 1 60) c.base=0 by rw[<-hf.out];exact FZ (by omega));clear hf;go_wp2
 .have q3:((c.Af.length:Int) !=c.base.length)=true:=by assumption
  go_ret;exact⟨Bw (by rw[Dq,BR (FE Q1.out),BR Q2.out,if_pos (xp q3)]),hB⟩
 rename (_ !=_)=false=>q3
 have Q3:=Zd q3;clear q3;go_loopg [38] c.Af.length (fun g i wr=>∃k:Nat,k<=c.Af.length/\g=c.Af.length - k/\i=.int I k/\Bc (fun p=>CV p (-9) 9) (c.Af.drop k)=Bc (fun p=>CV p (-9) 9) c.Af/\Bl w wr/\wr.cell? ⟨w.heap.size,0,none⟩=some (U a1 c.base.length c1)/\wr.cell? ⟨w.heap.size,2,none⟩=some (U a3 c.hooks.length c3))
 case atStart=>exact⟨0,Zp _,rfl,rfl,rfl,hB,by simp,by simp⟩
 obtain⟨k,hk,rfl,rfl,CP,Bb,Qi,NP⟩:=hrel;have hf:=Zd CP;clear CP;by_cases Az:k<c.Af.length
 .obtain⟨b,o,rfl,hb,hca,lY⟩:=h.Af.at_ Az
  rw[<-Bb.cell (p:=⟨b,o+k*2,none⟩) (hS b hb)]at hca;rw[<-Bb.cell (p:=⟨b,o+k*2+1,none⟩) (hS b hb)]at lY;have hd:=Zd (E_ (f:=fun p=>CV p (-9) 9) (EE Az));go_wp2_with (go_at_call 52;refine(ab7 _ _ _ _ _).mono ?_;rintro e w' ⟨rfl,Bv⟩)
  .have q4:(CV (BV c.Af k) (-9) 9 !=0)=true:=by assumption
   go_ret;have e4:Bc (fun p=>CV p (-9) 9) c.Af=CV (BV c.Af k) (-9) 9:=by rw[<-hf.out,hd.out,if_neg (Gr q4)]
   exact⟨Bw (by rw[Dq,BR (FE Q1.out),BR Q2.out,if_neg (fun x=>x (U2 Q3.out)),e4,K4 (Gr q4)]),(Bb.alloc Bb.size _).trans (Bv.mono (by simp;have:=Bb.size;omega))⟩
  have q4:(CV (BV c.Af k) (-9) 9 !=0)=false:=by assumption
  have De:Bl w w':=(Bb.alloc Bb.size _).trans (Bv.mono (by simp;have:=Bb.size;omega));have rM:w.heap.size<wr.heap.size:=ZH wr _ Qi;have anC:=(Bv.cell (p:=⟨w.heap.size,0,none⟩) (by simp;omega)).trans ((ZbG _ _ _ rM).trans Qi);have anD:=(Bv.cell (p:=⟨w.heap.size,2,none⟩) (by simp;omega)).trans ((ZbG _ _ _ rM).trans NP);go_roundg (c.Af.length - (k+1))
  case rel=>exact⟨k+1,by omega,rfl,by go_num,by rw[<-hf.out,hd.out,if_pos (FE q4)],De,anC,anD⟩
  omega
 have Q4:=Zd (show Bc (fun p=>CV p (-9) 9) c.Af=0 by rw[<-hf.out];exact FZ (by omega));clear hf;go_wp2
 .have q5:((c.hooks.length:Int) !=c.base.length)=true:=by assumption
  go_ret;exact⟨Bw (by rw[Dq,BR (FE Q1.out),BR Q2.out,if_neg (fun x=>x (U2 Q3.out)),BR Q4.out,if_pos (xp q5)]),Bb⟩
 rename (_ !=_)=false=>q5
 have Q5:=Zd q5;clear q5;go_loopg [58] c.hooks.length (fun g i wx=>∃k:Nat,k<=c.hooks.length/\g=c.hooks.length - k/\i=.int I k/\Bc (Fo 0 5) (c.hooks.drop k)=Bc (Fo 0 5) c.hooks/\wx=wr)
 case atStart=>exact⟨0,Zp _,rfl,rfl,rfl,rfl⟩
 obtain⟨k,hk,rfl,rfl,CP,rfl⟩:=hrel;have hf:=Zd CP;clear CP;by_cases Az:k<c.hooks.length
 .obtain⟨b,o,rfl,hb,hc⟩:=h.hooks.at_ Az
  rw[<-Bb.cell (p:=⟨b,o+k,none⟩) (hS b hb)]at hc;have hd:=Zd (E_ (f:=Fo 0 5) (Bn Az));go_wp2_with (go_at_call 73;refine(bp _ _ _ _).mono ?_;rintro e w' ⟨rfl,rfl⟩)
  .have q2:AD (nth c.hooks k) 0 5=true:=by assumption
   go_ret;have e2:Bc (Fo 0 5) c.hooks=1:=by rw[<-hf.out,hd.out,Ws q2];rfl
   exact⟨Bw (by rw[Dq,BR (FE Q1.out),BR Q2.out,if_neg (fun x=>x (U2 Q3.out)),BR Q4.out,if_neg (fun x=>x (U2 Q5.out)),e2]),Bb⟩
  have q2:AD (nth c.hooks k) 0 5=false:=by assumption
  go_roundg (c.hooks.length - (k+1))
  case rel=>exact⟨k+1,by omega,rfl,by go_num,by rw[<-hf.out,hd.out,SK q2];rfl,rfl⟩
  omega
 have Q6:=Zd (show Bc (Fo 0 5) c.hooks=0 by rw[<-hf.out];exact FZ (by omega));clear hf;go_wp2;go_ret;exact⟨Bw (by rw[Dq,BR (FE Q1.out),BR Q2.out,if_neg (fun x=>x (U2 Q3.out)),BR Q4.out,if_neg (fun x=>x (U2 Q5.out)),Q6.out]),Bb⟩
def pD:Ay:=⟨0,0,[],[],0⟩
def Aj (l:List Ay)(i:Nat):Ay:=l.getD i pD
def Db {l:List Ay}(h:i<l.length):l[i]?=some (Aj l i):=by simp[Aj,h]
def SS.at_ {a:Option Addr}{c:Nat}{l:List Ay}(h:SS S w (U a n c) l)(hi:i<l.length):
  ∃b o v2 v3,a=some ⟨b,o,none⟩/\S b/\w.cell? ⟨b,o+i*5,none⟩=some (J I (Aj l i).low)/\w.cell? ⟨b,o+i*5+1,none⟩=some (J I (Aj l i).high)/\
   w.cell? ⟨b,o+i*5+2,none⟩=some v2/\w.cell? ⟨b,o+i*5+3,none⟩=some v3/\w.cell? ⟨b,o+i*5+4,none⟩=some (J I (Aj l i).left)/\SP S w v2 (Aj l i).Ap/\SI S w v3 (Aj l i).over:=by
 obtain⟨a',c',h1,_,_,h4⟩:=h;cases h1;obtain⟨b,o,cs,g1,g2,g3,g4,v2,v3,rfl,g6,g7⟩:=h4 i _ (Db hi);exact⟨b,o,v2,v3,g1,g2,by simpa using g4 0 _ rfl,g4 1 _ rfl,g4 2 _ rfl,g4 3 _ rfl,g4 4 _ rfl,g6,g7⟩
def Ct (c:A_)(l:List Int):Int:=if l.length<c.Aa.length then 7 else if c.Aa.length<l.length then 6 else Bc (fun p:Int×Ay=>Fo p.2.low p.2.high p.1) (l.zip c.Aa)
def Ra {m:List Ay}(h1:k<l.length)(h2:k<m.length):(l.zip m)[k]?=some (nth l k,Aj m k):=by
 rw[List.getElem?_zip_eq_some];exact⟨Bn h1,Db h2⟩
def c89 (h:RC S w v1 v2 v3 v4 v5 c)(hl:SI S w v6 l)(hS:∀b,S b->b<w.heap.size):Calls Lp 51 #[.agg #[v1,v2,v3,v4,v5],v6] w fun e w'=>e=.returned (J I (Ct c l))/\Bl w w':=by
 obtain⟨a1,c1,rfl,l1,m1⟩:=h.base.val;obtain⟨a2,c2,rfl,l2,m2⟩:=h.Af.val;obtain⟨a3,c3,rfl,l3,m3⟩:=h.hooks.val;obtain⟨a4,c4,rfl,l4,m4⟩:=h.Aa.val;obtain⟨a5,c5,rfl,l5,m5⟩:=h.now.val;obtain⟨a6,c6,rfl,l6,m6⟩:=hl.val;have IX:=DJ;have hB:Bl w (w.alloc (.cells #[U a1 c.base.length c1,U a2 c.Af.length c2,U a3 c.hooks.length c3,U a4 c.Aa.length c4,U a5 c.now.length c5] 28)):=(Zh _ _).alloc (Zj _) _;by_cases T2:l.length<c.Aa.length
 .go_enter Lp.func89,n89
  go_wp2;go_ret;exact⟨Bw (by rw[Ct,if_pos T2]),hB⟩
 by_cases Oq:c.Aa.length<l.length
 .go_enter Lp.func89,n89
  go_wp2;go_ret;exact⟨Bw (by rw[Ct,if_neg T2,if_pos Oq]),hB⟩
 have hle:l.length=c.Aa.length:=by omega
 have hE:Ct c l=Bc (fun p:Int×Ay=>Fo p.2.low p.2.high p.1) (l.zip c.Aa):=by rw[Ct,if_neg T2,if_neg Oq]
 have hzl:(l.zip c.Aa).length=l.length:=by simp[hle]
 have HE:=Zd hE;have HZ:=Zd hzl;have HL:=Zd hle;clear hE hzl hle;go_enter Lp.func89,n89;go_wp2;go_loopg [21] l.length (fun g i wr=>∃k:Nat,k<=l.length/\g=l.length - k/\i=.int I k/\Bc (fun p:Int×Ay=>Fo p.2.low p.2.high p.1) ((l.zip c.Aa).drop k)=Bc (fun p:Int×Ay=>Fo p.2.low p.2.high p.1) (l.zip c.Aa)/\Bl w wr/\wr.cell? ⟨w.heap.size,3,none⟩=some (U a4 c.Aa.length c4))
 case atStart=>exact⟨0,Zp _,rfl,rfl,rfl,hB,by simp⟩
 obtain⟨k,hk,rfl,rfl,CP,Bb,lY⟩:=hrel;have hf:=Zd CP;clear CP;by_cases Az:k<l.length
 .have G4:k<c.Aa.length:=by have:=HL.out;omega
  obtain⟨b,o,rfl,hb,hc⟩:=hl.at_ Az;obtain⟨b',o',s2,s3,rfl,G1,MM,LO,_⟩:=h.Aa.at_ G4;rw[<-Bb.cell (p:=⟨b,o+k,none⟩) (hS b hb)]at hc;rw[<-Bb.cell (p:=⟨b',o'+k*5,none⟩) (hS b' G1)]at MM;rw[<-Bb.cell (p:=⟨b',o'+k*5+1,none⟩) (hS b' G1)]at LO;have hd:=Zd (E_ (f:=fun p:Int×Ay=>Fo p.2.low p.2.high p.1) (Ra Az G4));go_wp2;go_quiet (first|(go_at_call 73;refine Zb5 (bp _ _ _ _)))
  all_goals go_wp2
  .have q2:AD (nth l k) (Aj c.Aa k).low (Aj c.Aa k).high=true:=by assumption
   go_ret;exact⟨Bw (by rw[HE.out, <-hf.out,hd.out,Ws q2];rfl),Y5 Bb _⟩
  have q2:AD (nth l k) (Aj c.Aa k).low (Aj c.Aa k).high=false:=by assumption
  go_roundg (l.length - (k+1))
  case rel=>exact⟨k+1,by omega,rfl,by go_num,by rw[<-hf.out,hd.out,SK q2];rfl,Y5 Bb _,by simpa using lY⟩
  omega
 have Q2:=Zd (show Ct c l=0 by rw[HE.out, <-hf.out];exact FZ (by have:=HZ.out;omega));clear hf;go_wp2;go_ret;exact⟨Bw Q2.out.symm,Bb⟩
def hasB (s i:Nat):Bool:=s.testBit i
def Iv (s i:Nat):Nat:=s|||(1<<<i)
def ab8 (s i:Nat)(hs:s<8)(hi:i<3)(w:Zb):Calls Lp 70 #[J .u8 s,J I i] w fun e w'=>e=.returned (.bool (hasB s i))/\w'=w:=by
 have h1:s=0\/s=1\/s=2\/s=3\/s=4\/s=5\/s=6\/s=7:=by omega
 have h2:i=0\/i=1\/i=2:=by omega
 rcases h1 with rfl|rfl|rfl|rfl|rfl|rfl|rfl|rfl<;>rcases h2 with rfl|rfl|rfl
 all_goals
  go_enter Lp.func122,anj;go_wp2;go_ret;exact⟨rfl,rfl⟩
def ab9 (s i:Nat)(hs:s<8)(hi:i<3)(w:Zb):Calls Lp 67 #[J .u8 s,J I i] w fun e w'=>e=.returned (J .u8 (Iv s i))/\w'=w:=by
 have h1:s=0\/s=1\/s=2\/s=3\/s=4\/s=5\/s=6\/s=7:=by omega
 have h2:i=0\/i=1\/i=2:=by omega
 rcases h1 with rfl|rfl|rfl|rfl|rfl|rfl|rfl|rfl<;>rcases h2 with rfl|rfl|rfl
 all_goals
  go_enter Lp.func123,ank;go_wp2;go_ret;exact⟨rfl,rfl⟩
section
variable {α:Type}
def CY (f:Nat->α->Int):Nat->List α->Int
 |_,[]=>0
 |i,x::r=>if f i x=0 then CY f (i+1) r else f i x
def K5 {f:Nat->α->Int}{l:List α}{x:α}(h:l[k]?=some x):CY f k (l.drop k)=if f k x=0 then CY f (k+1) (l.drop (k+1)) else f k x:=by
 obtain⟨hk,rfl⟩:=Zm.1 h;rw[ZO hk]
 rfl
def MN {f:Nat->α->Int}{l:List α}(h:l.length<=k):CY f i (l.drop k)=0:=by
 rw[Z7.2 h];rfl
end
def Fa (Fp:Nat)(l:List (Int×Int))(i:Nat)(p:Int×Int):Int:=
 if AD p.1 0 ((Fp:Int) - 1)=true then 3 else if p.2=0\/AD p.2 (-4) 4=true then 1 else if 0<i/\p.1=(BV l 0).1 then 4 else 0
def Ed (Aa:Nat)(number:Nat)(l:List Int)(i:Nat)(o:Int):Int:=
 if AD o 0 ((Aa:Int) - 1)=true\/o=number then 3 else if 0<i/\o<=nth l (i - 1) then 5 else 0
def EF (c:A_)(n:Nat):Int:=
 PM (CV ((Aj c.Aa n).low,(Aj c.Aa n).high) (-2) 2) (PM (Di (Aj c.Aa n).Ap.length 2) (PM (CY (Fa c.base.length (Aj c.Aa n).Ap) 0 (Aj c.Aa n).Ap)
  (PM (CY (Ed c.Aa.length n (Aj c.Aa n).over) 0 (Aj c.Aa n).over) (Fo 0 4 (Aj c.Aa n).left))))
def ca {p:Addr}(h:w.cell? p=some v)(o:Obj):(w.alloc o).cell? p=some v:=(ZbG _ _ _ (ZH w _ h)).trans h
def cn (w:Zb)(xs:Array Zf)(t:Zs)(h:xs[i]?=some v):(w.alloc (.cells xs t)).cell? ⟨w.heap.size,i,none⟩=some v:=(World.cell?_alloc_at _ _ _ _ rfl).trans h
variable {cs xs args cur g:Array Zf}
def kp {ys:Array Zf}{s t:Zs}(h:YH ((w.alloc (.cells xs s)).alloc (.cells ys t)).heap.size ((w.alloc (.cells xs s)).alloc (.cells ys t)) w'):
  Bl w w'/\(∀i v,xs[i]?=some v->w'.cell? ⟨w.heap.size,i,none⟩=some v)/\(∀i v,ys[i]?=some v->w'.cell? ⟨w.heap.size+1,i,none⟩=some v):=by
 refine⟨(((Zh _ _).alloc (Zj _) _).alloc (by simp) _).trans (h.mono (by simp;omega)),fun i v hv=>?_,fun i v hv=>?_⟩
 .rw[h.cell (p:=⟨w.heap.size,i,none⟩) (by simp;omega)]
  exact ca (cn w xs s hv) _
 rw[h.cell (p:=⟨w.heap.size+1,i,none⟩) (by simp)];have:=cn (w.alloc (.cells xs s)) ys t hv;rwa[ZB]at this
def anF (h:RC S w v1 v2 v3 v4 v5 c)(hn:n<c.Aa.length)(hS:∀b,S b->b<w.heap.size):Calls Lp 49 #[.agg #[v1,v2,v3,v4,v5],J I n] w fun e w'=>e=.returned (J I (EF c n))/\Bl w w':=by
 obtain⟨a1,c1,rfl,l1,m1⟩:=h.base.val;obtain⟨a2,c2,rfl,l2,m2⟩:=h.Af.val;obtain⟨a3,c3,rfl,l3,m3⟩:=h.hooks.val;obtain⟨a4,c4,rfl,l4,m4⟩:=h.Aa.val;obtain⟨a5,c5,rfl,l5,m5⟩:=h.now.val;have IX:=DJ;obtain⟨b,o,s2,s3,rfl,hb,ER,MM,LO,et,mi,hp,ho⟩:=h.Aa.at_ hn;obtain⟨a6,c6,rfl,l6,m6⟩:=hp.val;obtain⟨a7,c7,rfl,l7,m7⟩:=ho.val;have ig:=hS b hb;obtain⟨s,hs⟩:∃s,s=Aj c.Aa n:=⟨_,rfl⟩;have hsE:EF c n=PM (CV (s.low,s.high) (-2) 2) (PM (Di s.Ap.length 2) (PM (CY (Fa c.base.length s.Ap) 0 s.Ap) (PM (CY (Ed c.Aa.length n s.over) 0 s.over) (Fo 0 4 s.left)))):=by rw[EF,hs]
 have HE:=Zd hsE;rw[<-hs]at ER MM LO et mi hp ho l6 l7;clear hs hsE;obtain⟨aba,pE,BW,B6,SM⟩:=s;dsimp only at*;go_enter Lp.func144,anq;go_wp2_with (first|(go_at_call 21;refine(uk _ _ _).mono ?_;rintro e w' ⟨rfl,rfl⟩)|(go_at_call 52;refine(ab7 _ _ _ _ _).mono ?_;rintro e w' ⟨rfl,Bv⟩;obtain⟨De,hf,hg⟩:=kp Bv;have f0:=hf 0 (U a1 c.base.length c1) rfl;have f3:=hf 3 (U (some ⟨b,o,none⟩) c.Aa.length c4) rfl;have g2:=hg 2 (U a6 BW.length c6) rfl;have g3:=hg 3 (U a7 B6.length c7) rfl;have g4:=hg 4 (J I SM) rfl;clear hf hg Bv))
 .have q1:(CV (aba,pE) (-2) 2 !=0)=true:=by assumption
  go_ret;exact⟨Bw (by rw[HE.out,K4 (Gr q1)]),De⟩
 .have q1:(CV (aba,pE) (-2) 2 !=0)=false:=by assumption
  have q2:(Di BW.length 2 !=0)=true:=by assumption
  go_ret;exact⟨Bw (by rw[HE.out,BR (FE q1),K4 (Gr q2)]),De⟩
 rename (CV _ _ _ !=0)=false=>q1
 rename (Di _ _ !=0)=false=>q2
 have um:=Zd (show EF c n=PM (CY (Fa c.base.length BW) 0 BW) (PM (CY (Ed c.Aa.length n B6) 0 B6) (Fo 0 4 SM)) by rw[HE.out,BR (FE q1),BR (FE q2)]);have Q1:=Zd q1;have Q2:=Zd q2;clear q1 q2 HE ER MM LO et mi;have D':=ZH w' _ g4;have Sb:w.heap.size+1<w'.heap.size:=D';clear D';go_loopg [36] BW.length (fun g i wr=>∃k:Nat,k<=BW.length/\g=BW.length - k/\i=.int I k/\CY (Fa c.base.length BW) k (BW.drop k)=CY (Fa c.base.length BW) 0 BW/\Bl w wr/\Bl w' wr)
 case atStart=>exact⟨0,Zp _,rfl,rfl,rfl,De,Zh _ _⟩
 obtain⟨k,hk,rfl,rfl,CP,hB,hW⟩:=hrel;have hf:=Zd CP;clear CP;rw[<-hW.cell (p:=⟨w.heap.size,0,none⟩) (by simp;omega)]at f0;rw[<-hW.cell (p:=⟨w.heap.size,3,none⟩) (by simp;omega)]at f3;rw[<-hW.cell (p:=⟨w.heap.size+1,2,none⟩) (by simp;omega)]at g2;rw[<-hW.cell (p:=⟨w.heap.size+1,3,none⟩) (by simp;omega)]at g3;rw[<-hW.cell (p:=⟨w.heap.size+1,4,none⟩) (by simp;omega)]at g4;by_cases Az:k<BW.length
 .obtain⟨b6,o6,rfl,Xj,L6,NP⟩:=hp.at_ Az
  obtain⟨b6',o6',e,_,Qi,_⟩:=hp.at_ (i:=0) (by omega);cases e;rw[<-hB.cell (p:=⟨b6,o6+k*2,none⟩) (hS b6 Xj)]at L6;rw[<-hB.cell (p:=⟨b6,o6+k*2+1,none⟩) (hS b6 Xj)]at NP;rw[<-hB.cell (p:=⟨b6,o6+0*2,none⟩) (hS b6 Xj)]at Qi;have hd:=Zd (K5 (f:=Fa c.base.length BW) (EE Az));have rM:=hB.size;have hWs:=hW.size;have Fl:w.heap.size<wr.heap.size:=by omega
  have DR:w.heap.size+1<wr.heap.size:=by omega
  have EB:b6<wr.heap.size:=by have:=hS b6 Xj;omega
  obtain⟨x,hx⟩:∃x,x=BV BW k:=⟨_,rfl⟩;rw[<-hx]at L6 NP hd;have HX:=Zd hx;clear hx;obtain⟨xg,xb⟩:=x;dsimp only at L6 NP;go_wp2_with (go_at_call 73;refine(bp _ _ _ _).mono ?_;rintro e w' ⟨rfl,rfl⟩)
  .have q3:AD xg 0 ((c.base.length:Int) - 1)=true:=by assumption
   have e3:Fa c.base.length BW k (xg,xb)=3:=by unfold Fa;rw[if_pos q3]
   go_ret;exact⟨Bw (by rw[um.out, <-hf.out,hd.out,e3];rfl),hB.alloc (by omega) _⟩
  .have q3:AD xg 0 ((c.base.length:Int) - 1)=false:=by assumption
   have q4:xb=0:=by assumption
   have e3:Fa c.base.length BW k (xg,xb)=1:=by unfold Fa;rw[if_neg (by rw[q3];decide),if_pos (.inl q4)]
   go_ret;exact⟨Bw (by rw[um.out, <-hf.out,hd.out,e3];rfl),hB.alloc (by omega) _⟩
  .have q3:AD xg 0 ((c.base.length:Int) - 1)=false:=by assumption
   have q4:(xb==0)=true\/AD xb (-4) 4=true:=by assumption
   have e3:Fa c.base.length BW k (xg,xb)=1:=by unfold Fa;rw[if_neg (by rw[q3];decide),if_pos (by simpa using q4)]
   go_ret;exact⟨Bw (by rw[um.out, <-hf.out,hd.out,e3];rfl),hB.alloc (by omega) _⟩
  rename AD xg 0 _=false=>q3
  rename ((xb==0)=false/\_)=>q4
  have e3:Fa c.base.length BW k (xg,xb)=if 0<k/\xg=(BV BW 0).1 then 4 else 0:=by unfold Fa;rw[if_neg (by rw[q3];decide),if_neg (by simpa using q4)]
  have E3:=Zd e3;have Q3:=Zd q3;have Q4:=Zd q4;clear e3 q3 q4
  rename¬xb=0=>q5
  clear q5;rw[Nat.zero_mul,Nat.add_zero]at Qi;have mr:∀nq,Bl w ((wr.alloc (.cells #[J I xg,J I xb] 107)).drewN nq):=fun nq=>Y5 (hB.alloc (by omega) _) _;have hWn:∀nq,Bl w' ((wr.alloc (.cells #[J I xg,J I xb] 107)).drewN nq):=fun nq=>Y5 (hW.alloc hWs _) _;by_cases kq:0<k
  .go_quiet (fail)
   go_wp2
   .have q6:(xg==(BV BW 0).1)=true:=by assumption
    go_ret;have e4:Fa c.base.length BW k (xg,xb)=4:=by rw[E3.out,if_pos ⟨kq,by simpa using q6⟩]
    exact⟨Bw (by rw[um.out, <-hf.out,hd.out,e4];rfl),mr _⟩
   have q6:(xg==(BV BW 0).1)=false:=by assumption
   have e4:Fa c.base.length BW k (xg,xb)=0:=by rw[E3.out,if_neg (fun x=>by simp at q6;exact q6 x.2)]
   go_roundg (BW.length - (k+1))
   case rel=>exact⟨k+1,by omega,rfl,by go_num,by rw[<-hf.out,hd.out,e4];rfl,mr _,hWn _⟩
   omega
  go_quiet (fail);go_wp2;have e4:Fa c.base.length BW k (xg,xb)=0:=by rw[E3.out,if_neg (fun x=>kq x.1)]
  go_roundg (BW.length - (k+1))
  case rel=>exact⟨k+1,by omega,rfl,by go_num,by rw[<-hf.out,hd.out,e4];rfl,mr _,hWn _⟩
  omega
 have Q3:=Zd (show CY (Fa c.base.length BW) 0 BW=0 by rw[<-hf.out];exact MN (by omega));have xq:=Zd (show EF c n=PM (CY (Ed c.Aa.length n B6) 0 B6) (Fo 0 4 SM) by rw[um.out,BR Q3.out]);have hWs:=hW.size;have DR:w.heap.size+1<wr.heap.size:=by omega
 clear hf um f0 g2 hW hWs Sb;go_wp2;go_loopg [75] B6.length (fun g i wx=>∃k:Nat,k<=B6.length/\g=B6.length - k/\i=.int I k/\CY (Ed c.Aa.length n B6) k (B6.drop k)=CY (Ed c.Aa.length n B6) 0 B6/\wx=wr)
 case atStart=>exact⟨0,Zp _,rfl,rfl,rfl,rfl⟩
 obtain⟨k,hk,rfl,rfl,CP,rfl⟩:=hrel;have hf:=Zd CP;clear CP;by_cases Az:k<B6.length
 .obtain⟨b7,o7,rfl,U3,L6⟩:=ho.at_ Az
  rw[<-hB.cell (p:=⟨b7,o7+k,none⟩) (hS b7 U3)]at L6;have Qi:0<k->wr.cell? ⟨b7,o7+(k - 1),none⟩=some (J I (nth B6 (k - 1))):=fun h0=>by
   obtain⟨b7',o7',e,_,hc⟩:=ho.at_ (i:=k - 1) (by omega);cases e;rw[<-hB.cell (p:=⟨b7,o7+(k - 1),none⟩) (hS b7 U3)]at hc;exact hc
  have hd:=Zd (K5 (f:=Ed c.Aa.length n B6) (Bn Az));obtain⟨x,hx⟩:∃x,x=nth B6 k:=⟨_,rfl⟩;rw[<-hx]at L6 hd;have HX:=Zd hx;clear hx;by_cases kq:0<k
  .have Qi:=Qi kq
   go_wp2_with (go_at_call 73;refine(bp _ _ _ _).mono ?_;rintro e w' ⟨rfl,rfl⟩)
   .have q3:AD x 0 ((c.Aa.length:Int) - 1)=true:=by assumption
    have e3:Ed c.Aa.length n B6 k x=3:=by unfold Ed;rw[if_pos (.inl q3)]
    go_ret;exact⟨Bw (by rw[xq.out, <-hf.out,hd.out,e3];rfl),hB⟩
   .have q3:(x==(n:Int))=true:=by assumption
    have e3:Ed c.Aa.length n B6 k x=3:=by unfold Ed;rw[if_pos (.inr (by simpa using q3))]
    go_ret;exact⟨Bw (by rw[xq.out, <-hf.out,hd.out,e3];rfl),hB⟩
   .have q3:¬AD x 0 ((c.Aa.length:Int) - 1)=true:=by assumption
    have q4:(x==(n:Int))=false:=by assumption
    have q5:x<=nth B6 (k - 1):=by assumption
    have e3:Ed c.Aa.length n B6 k x=5:=by unfold Ed;rw[if_neg (fun y=>y.elim q3 (by simpa using q4)),if_pos ⟨kq,q5⟩]
    go_ret;exact⟨Bw (by rw[xq.out, <-hf.out,hd.out,e3];rfl),hB⟩
   have q3:¬AD x 0 ((c.Aa.length:Int) - 1)=true:=by assumption
   have q4:(x==(n:Int))=false:=by assumption
   have q5:nth B6 (k - 1)<x:=by assumption
   have e3:Ed c.Aa.length n B6 k x=0:=by unfold Ed;rw[if_neg (fun y=>y.elim q3 (by simpa using q4)),if_neg (fun y=>by have:=y.2;omega)]
   go_roundg (B6.length - (k+1))
   case rel=>exact⟨k+1,by omega,rfl,by go_num,by rw[<-hf.out,hd.out,e3];rfl,rfl⟩
   omega
  clear Qi;go_wp2_with (go_at_call 73;refine(bp _ _ _ _).mono ?_;rintro e w' ⟨rfl,rfl⟩)
  .have q3:AD x 0 ((c.Aa.length:Int) - 1)=true:=by assumption
   have e3:Ed c.Aa.length n B6 k x=3:=by unfold Ed;rw[if_pos (.inl q3)]
   go_ret;exact⟨Bw (by rw[xq.out, <-hf.out,hd.out,e3];rfl),hB⟩
  .have q3:(x==(n:Int))=true:=by assumption
   have e3:Ed c.Aa.length n B6 k x=3:=by unfold Ed;rw[if_pos (.inr (by simpa using q3))]
   go_ret;exact⟨Bw (by rw[xq.out, <-hf.out,hd.out,e3];rfl),hB⟩
  have q3:¬AD x 0 ((c.Aa.length:Int) - 1)=true:=by assumption
  have q4:(x==(n:Int))=false:=by assumption
  have e3:Ed c.Aa.length n B6 k x=0:=by unfold Ed;rw[if_neg (fun y=>y.elim q3 (by simpa using q4)),if_neg (fun y=>kq y.1)]
  go_roundg (B6.length - (k+1))
  case rel=>exact⟨k+1,by omega,rfl,by go_num,by rw[<-hf.out,hd.out,e3];rfl,rfl⟩
  omega
 have HE4:=Zd (show EF c n=Fo 0 4 SM by rw[xq.out,BR (by rw[<-hf.out];exact MN (by omega))]);clear hf;go_wp2_with (go_at_call 73;refine(bp _ _ _ _).mono ?_;rintro e w' ⟨rfl,rfl⟩)
 .have q3:AD SM 0 4=true:=by assumption
  go_ret;exact⟨Bw (by rw[HE4.out,Ws q3]),hB⟩
 have q3:AD SM 0 4=false:=by assumption
 go_ret;exact⟨Bw (by rw[HE4.out,SK q3]),hB⟩
def Ql (ab:Nat->Nat)(i o:Nat):Nat->Nat:=fun j=>if j=i then ab i|||Iv (ab o) o else ab j
def HJ (ab:Nat->Nat)(i:Nat):List Int->Nat->Nat
 | []=>ab
 |o::r=>HJ (Ql ab i o.toNat) i r
def K6 (ab:Nat->Nat)(i:Nat):List Ay->Nat->Nat
 | []=>ab
 |s::r=>K6 (HJ ab i s.over) (i+1) r
def G5 (ab:Nat->Nat)(l:List Ay):Nat->Nat->Nat
 |0=>ab
 |n+1=>G5 (K6 ab 0 l) l n
def Ax (l:List Ay):Nat->Nat:=G5 (fun _=>0) l l.length
variable {ab:Nat->Nat}
def bq (h:k<l.length):HJ ab i (l.drop k)=HJ (Ql ab i (nth l k).toNat) i (l.drop (k+1)):=by
 have:=Bn h;obtain⟨hk,e⟩:=Zm.1 this;rw[ZO hk,e]
 rfl
def br {l:List Ay}(h:k<l.length):K6 ab i (l.drop k)=K6 (HJ ab i (Aj l k).over) (i+1) (l.drop (k+1)):=by
 have:=Db h;obtain⟨hk,e⟩:=Zm.1 this;rw[ZO hk,e]
 rfl
structure JO (l:List Ay):Prop where
 few:l.length<=3
 over:∀i,i<l.length->∀k,k<(Aj l i).over.length->0<=nth (Aj l i).over k/\nth (Aj l i).over k<l.length
def ch {t:Zs}{f:Nat×Nat}(h:w.heap[b]?=some (.cells cs t f))(hv:cs[i]?=some v):w.cell? ⟨b,i,none⟩=some v:=by
 unfold zy;rw[h];exact hv
def cf {t:Zs}(h:w.heap[b]?=some (.cells cs t (0,0))):w.frozen? ⟨b,i,none⟩=false:=by
 unfold Yo;rw[h];simp
def Ba {t:Zs}{f:Nat×Nat}(h:w.heap[b]?=some (.cells cs t f))(v:Zf):(w.setCell ⟨b,i,none⟩ v).heap[b]?=some (.cells (cs.setIfInBounds i v) t f):=by
 unfold Z8;simp only[Y7,if_pos];rw[h];rfl
def AZ {c:Nat}(h:c≠b)(v:Zf):(w.setCell ⟨b,i,none⟩ v).heap[c]?=w.heap[c]? :=Y4 _ _ _ _ h
def Bp (w:Zb)(o:Obj):(w.alloc o).heap[w.heap.size]?=some o:=by
 show(w.heap.push o)[w.heap.size]?=_;simp
def Bf {x:Obj}(h:w.heap[b]?=some x)(o:Obj):(w.alloc o).heap[b]?=some x:=(zD w o b (Za.1 h).1).trans h
def Jl (hs:s<8)(hi:i<3):Iv s i<8:=by
 have h1:s=0\/s=1\/s=2\/s=3\/s=4\/s=5\/s=6\/s=7:=by omega
 have h2:i=0\/i=1\/i=2:=by omega
 rcases h1 with rfl|rfl|rfl|rfl|rfl|rfl|rfl|rfl<;>rcases h2 with rfl|rfl|rfl<;>decide
def eu {a:Nat}(ha:a<8)(hb:b<8):a|||b<8:=Zba (n:=3) ha hb
def uo {o:Nat}(h:∀j,j<3->ab j<8)(hi:i<3)(ho:o<3):∀j,j<3->Ql ab i o j<8:=by
 intro j hj;unfold Ql;split
 .exact eu (h i hi) (Jl (h o ho) ho)
 exact h j hj
def bt {a:Nat}(ha:a<8)(hb:b<8):bits BinOp.or ZcE (a:Int) (b:Int)=((a|||b:Nat):Int):=by
 have h1:a=0\/a=1\/a=2\/a=3\/a=4\/a=5\/a=6\/a=7:=by omega
 have h2:b=0\/b=1\/b=2\/b=3\/b=4\/b=5\/b=6\/b=7:=by omega
 rcases h1 with rfl|rfl|rfl|rfl|rfl|rfl|rfl|rfl<;>rcases h2 with rfl|rfl|rfl|rfl|rfl|rfl|rfl|rfl<;>rfl
def AW (x1 x2 x3 x4 x5:Zf)(ab:Nat->Nat):Array Zf:= #[x1,x2,x3,x4,x5,J .u8 (ab 0),J .u8 (ab 1),J .u8 (ab 2)]
def HN (h:i<3):(AW x1 x2 x3 x4 x5 ab)[5+i]?=some (J .u8 (ab i)):=by
 have:i=0\/i=1\/i=2:=by omega
 rcases this with rfl|rfl|rfl<;>rfl
def ew {o:Nat}(h:i<3):(AW x1 x2 x3 x4 x5 ab).setIfInBounds (5+i) (J .u8 ((ab i|||Iv (ab o) o:Nat):Int))=AW x1 x2 x3 x4 x5 (Ql ab i o):=by
 have:i=0\/i=1\/i=2:=by omega
 rcases this with rfl|rfl|rfl<;>simp[AW,Ql]
def bu:Array Zf:= #[U none 0 0,U none 0 0,U none 0 0,U none 0 0,U none 0 0,J .u8 0,J .u8 0,J .u8 0]
structure GW (w:Zb)(x1 x2 x3 x4 x5:Zf)(ab:Nat->Nat)(wr:Zb):Prop where
 below:Bl w wr
 res:wr.heap[w.heap.size+1]?=some (.cells bu 62 (0,0))
 Ee:wr.heap[w.heap.size+1+1]?=some (.cells (AW x1 x2 x3 x4 x5 ab) 62 (0,0))
 lt:∀j,j<3->ab j<8
def GW.set {wr:Zb}{o:Nat}(h:GW w x1 x2 x3 x4 x5 ab wr)(hi:i<3)(ho:o<3):GW w x1 x2 x3 x4 x5 (Ql ab i o) (wr.setCell ⟨w.heap.size+1+1,5+i,none⟩ (J .u8 ((ab i|||Iv (ab o) o:Nat):Int))):=
 ⟨h.below.setCell (p:=⟨w.heap.size+1+1,5+i,none⟩) (by show w.heap.size<=w.heap.size+1+1;omega) _,(AZ (by omega) _).trans h.res,by rw[<-ew hi];exact Ba h.Ee _,uo h.lt hi ho⟩
def GW.drew {wr:Zb}(h:GW w x1 x2 x3 x4 x5 ab wr):GW w x1 x2 x3 x4 x5 ab wr.drew:=⟨h.below.drew,h.res,h.Ee,h.lt⟩
def SN {wr:Zb}(h:Bl w wr)(y0 y1 y2 y3 y4 y5 y6 y7:Zf):Bl w ((((((((wr.setCell ⟨w.heap.size+1,0,none⟩ y0).setCell ⟨w.heap.size+1,1,none⟩ y1).setCell ⟨w.heap.size+1,2,none⟩ y2).setCell ⟨w.heap.size+1,3,none⟩ y3).setCell ⟨w.heap.size+1,4,none⟩ y4).setCell ⟨w.heap.size+1,5,none⟩ y5).setCell ⟨w.heap.size+1,6,none⟩ y6).setCell ⟨w.heap.size+1,7,none⟩ y7):=by
 have h1:w.heap.size<=w.heap.size+1:=by omega
 exact((((((((h.setCell (p:=⟨_,0,none⟩) h1 _).setCell (p:=⟨_,1,none⟩) h1 _).setCell (p:=⟨_,2,none⟩) h1 _).setCell (p:=⟨_,3,none⟩) h1 _).setCell (p:=⟨_,4,none⟩) h1 _).setCell (p:=⟨_,5,none⟩) h1 _).setCell (p:=⟨_,6,none⟩) h1 _).setCell (p:=⟨_,7,none⟩) h1 _)
def ks {p:Nat->Bool}(hk:k<n)(h:p k=false):(Yr n).all p=false:=by
 rw[List.all_eq_false];exact⟨k,List.mem_range.2 hk,by simp[h]⟩
def anH (h:RC S w v1 v2 v3 v4 v5 c)(Jw:JO c.Aa)(hS:∀b,S b->b<w.heap.size):
  Calls Lp 50 #[.agg #[v1,v2,v3,v4,v5]] w fun e w'=>e=.returned (.tuple #[.agg #[v1,v2,v3,v4,v5,J .u8 (Ax c.Aa 0),J .u8 (Ax c.Aa 1),J .u8 (Ax c.Aa 2)],.bool ((Yr c.Aa.length).all fun i=> !hasB (Ax c.Aa i) i)])/\Bl w w':=by
 obtain⟨a1,c1,rfl,l1,m1⟩:=h.base.val;obtain⟨a2,c2,rfl,l2,m2⟩:=h.Af.val;obtain⟨a3,c3,rfl,l3,m3⟩:=h.hooks.val;obtain⟨a4,c4,rfl,l4,m4⟩:=h.Aa.val;obtain⟨a5,c5,rfl,l5,m5⟩:=h.now.val;have IX:=DJ;have Jm:=Jw.few;have HE:=Zd (show Ax c.Aa=G5 (fun _=>0) c.Aa c.Aa.length from rfl);go_enter Lp.func145,anr;go_wp2;go_loopg [16] c.Aa.length (fun g i wr=>∃(r:Nat) (ab:Nat->Nat),r<=c.Aa.length/\g=c.Aa.length - r/\i=.int I r/\G5 ab c.Aa (c.Aa.length - r)=G5 (fun _=>0) c.Aa c.Aa.length/\GW w (U a1 c.base.length c1) (U a2 c.Af.length c2) (U a3 c.hooks.length c3) (U a4 c.Aa.length c4) (U a5 c.now.length c5) ab wr)
 case atStart=>exact⟨0,fun _=>0,Zp _,rfl,rfl,rfl,(((Zh _ _).alloc (Zj _) _).alloc (by simp) _).alloc (by simp;omega) _,Bf (by have:=Bp (w.alloc (.cells #[U a1 c.base.length c1,U a2 c.Af.length c2,U a3 c.hooks.length c3,U a4 c.Aa.length c4,U a5 c.now.length c5] 28)) (.cells bu 62 (0,0));rwa[ZB]at this) _,by have:=Bp ((w.alloc (.cells #[U a1 c.base.length c1,U a2 c.Af.length c2,U a3 c.hooks.length c3,U a4 c.Aa.length c4,U a5 c.now.length c5] 28)).alloc (.cells bu 62 (0,0))) (.cells (AW (U a1 c.base.length c1) (U a2 c.Af.length c2) (U a3 c.hooks.length c3) (U a4 c.Aa.length c4) (U a5 c.now.length c5) (fun _=>0)) 62 (0,0));rwa[ZB,ZB]at this,fun _ _=>by decide⟩
 obtain⟨r,ab,hr,rfl,rfl,CP,hG⟩:=hrel;have hf:=Zd CP;clear CP;by_cases Az:r<c.Aa.length
 .have g3:=ch (i:=3) hG.Ee (v:=.slice a4 c.Aa.length c4) rfl
  go_wp2;go_loopg [22] c.Aa.length (fun g i wr=>∃(k:Nat) (ab:Nat->Nat),k<=c.Aa.length/\g=c.Aa.length - k/\i=.int I k/\G5 (K6 ab k (c.Aa.drop k)) c.Aa (c.Aa.length - (r+1))=G5 (fun _=>0) c.Aa c.Aa.length/\GW w (U a1 c.base.length c1) (U a2 c.Af.length c2) (U a3 c.hooks.length c3) (U a4 c.Aa.length c4) (U a5 c.now.length c5) ab wr)
  case atStart=>exact⟨0,ab,Zp _,rfl,rfl,by rw[<-hf.out,show c.Aa.length - r=(c.Aa.length - (r+1))+1 by omega];rfl,hG⟩
  obtain⟨k,ab2,hk,rfl,rfl,CP,T3⟩:=hrel;have MK:=Zd CP;clear CP;by_cases G4:k<c.Aa.length
  .obtain⟨b,o,s2,s3,rfl,hb,ER,MM,LO,et,mi,hp,ho⟩:=h.Aa.at_ (i:=k) G4
   obtain⟨a6,c6,rfl,l6,m6⟩:=hp.val;obtain⟨a7,c7,rfl,l7,m7⟩:=ho.val;have mA:=Jw.over k G4;rw[<-T3.below.cell (p:=⟨b,o+k*5,none⟩) (hS b hb)]at ER;rw[<-T3.below.cell (p:=⟨b,o+k*5+1,none⟩) (hS b hb)]at MM;rw[<-T3.below.cell (p:=⟨b,o+k*5+2,none⟩) (hS b hb)]at LO;rw[<-T3.below.cell (p:=⟨b,o+k*5+3,none⟩) (hS b hb)]at et;rw[<-T3.below.cell (p:=⟨b,o+k*5+4,none⟩) (hS b hb)]at mi;obtain⟨s,hs⟩:∃s,s=Aj c.Aa k:=⟨_,rfl⟩;have KB:=Zd (br (ab:=ab2) (i:=k) (l:=c.Aa) (k:=k) G4);rw[<-hs]at ER MM LO et mi hp ho mA l6 l7 KB;clear hs;obtain⟨aba,pE,BW,B6,SM⟩:=s;dsimp only at*;have hwl:=T3.below.size;have Fl:w.heap.size+1<wr.heap.size:=(Za.1 T3.res).1;have DR:w.heap.size+1+1<wr.heap.size:=(Za.1 T3.Ee).1;go_wp2;go_loopg [30] B6.length (fun g i wx=>∃(m:Nat) (ab:Nat->Nat),m<=B6.length/\g=B6.length - m/\i=.int I m/\HJ ab k (B6.drop m)=HJ ab2 k B6/\GW w (U a1 c.base.length c1) (U a2 c.Af.length c2) (U a3 c.hooks.length c3) (U (some ⟨b,o,none⟩) c.Aa.length c4) (U a5 c.now.length c5) ab wx)
   case atStart=>exact⟨0,ab2,Zp _,rfl,rfl,rfl,T3.below.alloc hwl _,Bf T3.res _,Bf T3.Ee _,T3.lt⟩
   obtain⟨m,ab3,hm,rfl,rfl,CP,mB⟩:=hrel;have cK:=Zd CP;clear CP;by_cases ey:m<B6.length
   .obtain⟨b7,o7,rfl,U3,L6⟩:=ho.at_ ey
    rw[<-mB.below.cell (p:=⟨b7,o7+m,none⟩) (hS b7 U3)]at L6;have hod:=Zd (bq (ab:=ab3) (i:=k) ey);obtain⟨me,gI⟩:=mA m ey;obtain⟨x,hx⟩:∃x:Nat,nth B6 m=x:=⟨(nth B6 m).toNat,by omega⟩;rw[hx]at L6 me gI hod;have HX:=Zd hx;clear hx ER MM LO et mi;have U4:x<3:=by omega
    have M8:k<3:=by omega
    have gk:=ch mB.Ee (HN M8);have gx:=ch mB.Ee (HN U4);have gf:=cf (i:=5+k) mB.Ee;have hlx:=mB.lt x U4;have hlk:=mB.lt k M8;have Mc:=fun w=>ab9 (ab3 x) x hlx U4 w;have TB:(k:Int)<3:=by omega
    have hxi:(x:Int)<3:=by omega
    go_wp2;go_still_tail 13,(by kernel_rfl)
    still_call (Mc _)
    repeat still_step
    refine wpStill_nil ?_;change wpList _ _ _ _ _ wr.drew;rw[bt hlk (Jl hlx U4)];go_wp2;go_roundg (B6.length - (m+1))
    case rel=>exact⟨m+1,Ql ab3 k x,by omega,rfl,by go_num,by rw[<-cK.out,hod.out];rfl,(mB.set M8 U4).drew⟩
    omega
   have e3:HJ ab2 k B6=ab3:=by rw[<-cK.out,Z7.2 (by omega)];rfl
   go_wp2;go_roundg (c.Aa.length - (k+1))
   case rel=>exact⟨k+1,ab3,by omega,rfl,by go_num,by rw[<-MK.out,KB.out,e3],mB⟩
   omega
  have e2:K6 ab2 k (c.Aa.drop k)=ab2:=by rw[Z7.2 (by omega)];rfl
  have E2:=Zd e2;clear e2;go_wp2;go_roundg (c.Aa.length - (r+1))
  case rel=>exact⟨r+1,ab2,by omega,rfl,by go_num,by rw[<-MK.out,E2.out],T3⟩
  omega
 have e1:Ax c.Aa=ab:=by
  rw[HE.out, <-hf.out,show c.Aa.length - r=0 by omega];rfl
 have E1:=Zd e1;clear e1 hf;have g3:=ch (i:=3) hG.Ee (v:=.slice a4 c.Aa.length c4) rfl;go_wp2;go_loopg [54] c.Aa.length (fun g i wx=>∃k:Nat,k<=c.Aa.length/\g=c.Aa.length - k/\i=.int I k/\(∀j,j<k->hasB (ab j) j=false)/\wx=wr)
 case atStart=>exact⟨0,Zp _,rfl,rfl,fun _ h=>absurd h (ZbY _),rfl⟩
 obtain⟨k,hk,rfl,rfl,CP,rfl⟩:=hrel;have hf:=Zd CP;clear CP;have g0:=ch (i:=0) hG.Ee (v:=.slice a1 c.base.length c1) rfl;have g1:=ch (i:=1) hG.Ee (v:=.slice a2 c.Af.length c2) rfl;have g2:=ch (i:=2) hG.Ee (v:=.slice a3 c.hooks.length c3) rfl;have g4:=ch (i:=4) hG.Ee (v:=.slice a5 c.now.length c5) rfl;have g5:=ch (i:=5) hG.Ee (v:=.int .u8 (ab 0)) rfl;have g6:=ch (i:=6) hG.Ee (v:=.int .u8 (ab 1)) rfl;have g7:=ch (i:=7) hG.Ee (v:=.int .u8 (ab 2)) rfl;have r0:=cf (i:=0) hG.res;have r1:=cf (i:=1) hG.res;have r2:=cf (i:=2) hG.res;have r3:=cf (i:=3) hG.res;have r4:=cf (i:=4) hG.res;have r5:=cf (i:=5) hG.res;have r6:=cf (i:=6) hG.res;have r7:=cf (i:=7) hG.res;have s0:=ch (i:=0) hG.res (v:=.slice none 0 0) rfl;have s1:=ch (i:=1) hG.res (v:=.slice none 0 0) rfl;have s2:=ch (i:=2) hG.res (v:=.slice none 0 0) rfl;have s3:=ch (i:=3) hG.res (v:=.slice none 0 0) rfl;have s4:=ch (i:=4) hG.res (v:=.slice none 0 0) rfl;have s5:=ch (i:=5) hG.res (v:=.int .u8 0) rfl;have s6:=ch (i:=6) hG.res (v:=.int .u8 0) rfl;have s7:=ch (i:=7) hG.res (v:=.int .u8 0) rfl;by_cases G4:k<c.Aa.length
 .have M8:k<3:=by omega
  have gk:=ch hG.Ee (HN M8);have TB:(k:Int)<3:=by omega
  have Mc:=fun w=>ab8 (ab k) k (hG.lt k M8) M8 w;go_wp2_with (go_at_call 70;refine(Mc _).mono ?_;rintro e w' ⟨rfl,rfl⟩)
  .have q1:hasB (ab k) k=true:=by assumption
   refine ZN (v:=.tuple #[.agg (AW (U a1 c.base.length c1) (U a2 c.Af.length c2) (U a3 c.hooks.length c3) (U a4 c.Aa.length c4) (U a5 c.now.length c5) ab),.bool false]) ?_ rfl ?_
   .rw[YB rfl]
    go_simp
    rfl
   refine⟨?_,?_⟩
   .rw[E1.out,ks (k:=k) G4 (by rw[q1];rfl)];rfl
   exact SN hG.below _ _ _ _ _ _ _ _
  have q1:hasB (ab k) k=false:=by assumption
  go_roundg (c.Aa.length - (k+1))
  case rel=>exact⟨k+1,by omega,rfl,by go_num,fun j hj=>by
   by_cases h:j=k
   .rw[h];exact q1
   exact hf.out j (by omega),rfl⟩
  omega
 have q2:((Yr c.Aa.length).all fun i=> !hasB (ab i) i)=true:=by
  rw[Zdm];intro j hj;rw[hf.out j (by have:=List.mem_range.1 hj;omega)];rfl
 have Q2:=Zd q2;clear q2;go_wp2;refine ZN (v:=.tuple #[.agg (AW (U a1 c.base.length c1) (U a2 c.Af.length c2) (U a3 c.hooks.length c3) (U a4 c.Aa.length c4) (U a5 c.now.length c5) ab),.bool true]) ?_ rfl ?_
 .rw[YB rfl]
  go_simp
  rfl
 refine⟨?_,?_⟩
 .rw[E1.out,Q2.out];rfl
 exact SN hG.below _ _ _ _ _ _ _ _
def JP (c:A_):Int:=CY (fun i _=>EF c i) 0 c.Aa
def H0 (l:List Ay):Bool:=(Yr l.length).all fun i=> !hasB (Ax l i) i
def BN (c:A_):Int:=PM (Dq c) (PM (Di c.Aa.length 3) (PM (JP c) (if H0 c.Aa=true then Ct c c.now else 9)))
def Gs {α:Type}{f:Nat->α->Int}:∀ {l:List α} {i:Nat},CY f i l=0->∀k x,l[k]?=some x->f (i+k) x=0
 | [],_,_,k,x,h=>by simp at h
 |y::r,i,h0,k,x,h=>by
  unfold CY at h0;split at h0
  .next hy=>
   cases k with
   |zero=>simp at h;subst h;exact hy
   |succ k=>
    have:=Gs h0 k x (by simpa using h);rwa[show i+1+k=i+(k+1) by omega]at this
  next hy=>exact absurd h0 hy
def JQ {n most:Int}(h:Di n most=0):n≠0/\n<=most:=by
 unfold Di at h;split at h
 .cases h
 next h1=>
 split at h
 .cases h
 next h2=>exact⟨h1,by omega⟩
def G' {n:Int}(h:AD n lo hi=false):lo<=n/\n<=hi:=by
 unfold AD at h;simp at h;exact h
def Bj {a b:Int}(h:PM a b=0):a=0/\b=0:=by
 unfold PM at h;split at h
 .next h1=>exact⟨h1,h⟩
 next h1=>exact absurd h h1
def uq (h:EF c n=0)(hk:k<(Aj c.Aa n).over.length):0<=nth (Aj c.Aa n).over k/\nth (Aj c.Aa n).over k<c.Aa.length:=by
 have h1:=(Bj (Bj (Bj (Bj h).2).2).2).1;have h2:=Gs h1 k _ (Bn hk);unfold Ed at h2;split at h2
 .cases h2
 next h3=>
 have h4:AD (nth (Aj c.Aa n).over k) 0 ((c.Aa.length:Int) - 1)=false:=by
  cases e:AD (nth (Aj c.Aa n).over k) 0 ((c.Aa.length:Int) - 1)
  .rfl
  exact absurd (.inl e) h3
 have:=G' h4;omega
def SQ (h1:Di c.Aa.length 3=0)(h2:JP c=0):JO c.Aa:=
 ⟨by have:=(JQ h1).2;omega,fun i hi k hk=>uq (Gs h2 i _ (Db hi)|>fun h=>by simpa using h) hk⟩
def bw {o1 o2:Obj}(h:YH ((w.alloc o1).alloc o2).heap.size ((w.alloc o1).alloc o2) w'):w.heap.size<w'.heap.size/\w.heap.size+1<w'.heap.size:=by
 have:=h.size;rw[ZB,ZB]at this;omega
def bA {o:Obj}(h:Bl w w'):Bl w (w'.alloc o):=h.alloc h.size _
def bS (h:Bl w w')(hb:w.heap.size<=b):Bl w (w'.setCell ⟨b,i,none⟩ v):=h.setCell (p:=⟨b,i,none⟩) hb _
def bD (h:Bl w w'):Bl w w'.drew:=h.drew
def bN (h:Bl w w'):Bl w (w'.drewN n):=Y5 h n
def agX (w:Zb)(v1 v2 v3 v4 v5:Zf)(c:A_)(e:Ending)(w':Zb):Prop:=
 ∃(q1 q2 q3 q4 q5:Option Addr) (n1 n2 n3 n4 n5 d1 d2 d3 d4 d5 k0 k1 k2:Nat),e=.returned (.tuple #[.agg #[U q1 n1 d1,U q2 n2 d2,U q3 n3 d3,U q4 n4 d4,U q5 n5 d5,J .u8 (k0:Nat),J .u8 (k1:Nat),J .u8 (k2:Nat)],J I (BN c)])/\Bl w w'/\(BN c=0->#[U q1 n1 d1,U q2 n2 d2,U q3 n3 d3,U q4 n4 d4,U q5 n5 d5,J .u8 (k0:Nat),J .u8 (k1:Nat),J .u8 (k2:Nat)]=AW v1 v2 v3 v4 v5 (Ax c.Aa))
def c88 (h:RC S w v1 v2 v3 v4 v5 c)(hS:∀b,S b->b<w.heap.size):Calls Lp 20 #[.agg #[v1,v2,v3,v4,v5]] w (agX w v1 v2 v3 v4 v5 c):=by
 obtain⟨a1,c1,rfl,l1,m1⟩:=h.base.val;obtain⟨a2,c2,rfl,l2,m2⟩:=h.Af.val;obtain⟨a3,c3,rfl,l3,m3⟩:=h.hooks.val;obtain⟨a4,c4,rfl,l4,m4⟩:=h.Aa.val;obtain⟨a5,c5,rfl,l5,m5⟩:=h.now.val;have IX:=DJ;have agY:∀W,Bl w W->Calls Lp 48 #[.agg #[U a1 c.base.length c1,U a2 c.Af.length c2,U a3 c.hooks.length c3,U a4 c.Aa.length c4,U a5 c.now.length c5]] W fun e w'=>e=.returned (J I (Dq c))/\Bl W w':=fun W hB=>anA (h.Ar (CE.Ec hB)) (fun b hb=>by have:=hS b hb;have:=hB.size;omega);have agZ:∀W n,n<c.Aa.length->Bl w W->Calls Lp 49 #[.agg #[U a1 c.base.length c1,U a2 c.Af.length c2,U a3 c.hooks.length c3,U a4 c.Aa.length c4,U a5 c.now.length c5],J I n] W fun e w'=>e=.returned (J I (EF c n))/\Bl W w':=fun W n hn hB=>anF (h.Ar (CE.Ec hB)) hn (fun b hb=>by have:=hS b hb;have:=hB.size;omega);have ah0:∀W,JO c.Aa->Bl w W->Calls Lp 50 #[.agg #[U a1 c.base.length c1,U a2 c.Af.length c2,U a3 c.hooks.length c3,U a4 c.Aa.length c4,U a5 c.now.length c5]] W fun e w'=>e=.returned (.tuple #[.agg #[U a1 c.base.length c1,U a2 c.Af.length c2,U a3 c.hooks.length c3,U a4 c.Aa.length c4,U a5 c.now.length c5,J .u8 (Ax c.Aa 0),J .u8 (Ax c.Aa 1),J .u8 (Ax c.Aa 2)],.bool (H0 c.Aa)])/\Bl W w':=fun W Jw hB=>anH (h.Ar (CE.Ec hB)) Jw (fun b hb=>by have:=hS b hb;have:=hB.size;omega);have h89:∀W,Bl w W->Calls Lp 51 #[.agg #[U a1 c.base.length c1,U a2 c.Af.length c2,U a3 c.hooks.length c3,U a4 c.Aa.length c4,U a5 c.now.length c5],U a5 c.now.length c5] W fun e w'=>e=.returned (J I (Ct c c.now))/\Bl W w':=fun W hB=>c89 (h.Ar (CE.Ec hB)) (h.now.Ar (CE.Ec hB)) (fun b hb=>by have:=hS b hb;have:=hB.size;omega);have Bb:Bl w ((w.alloc (.cells #[U a1 c.base.length c1,U a2 c.Af.length c2,U a3 c.hooks.length c3,U a4 c.Aa.length c4,U a5 c.now.length c5] 28)).alloc (.cells bu 62)):=((Zh _ _).alloc (Zj _) _).alloc (by simp) _;unfold bu at Bb;have anJ:=Zd agY;have anK:=Zd agZ;have anL:=Zd ah0;have H89:=Zd h89;clear agY agZ ah0 h89;go_enter Lp.func88,n88;go_wp2_with (first|(go_at_call 48;refine(anJ.out _ Bb).mono ?_;rintro e w1 ⟨rfl,Bv⟩;obtain⟨L6,xr⟩:=E7 Bv)|(go_at_call 21;refine(uk _ _ _).mono ?_;rintro e w' ⟨rfl,rfl⟩))
 .have q1:(Dq c !=0)=true:=by assumption
  have e1:BN c=Dq c:=by rw[BN,K4 (Gr q1)]
  refine ZN (v:=.tuple #[.agg #[U none 0 0,U none 0 0,U none 0 0,U none 0 0,U none 0 0,J .u8 0,J .u8 0,J .u8 0],J I (Dq c)]) (by rw[YB rfl];go_simp) rfl ?_;exact⟨none,none,none,none,none,0,0,0,0,0,0,0,0,0,0,0,0,0,by rw[e1];rfl,SN (Bb.trans (Bv.mono (by simp;omega))) _ _ _ _ _ _ _ _,fun x=>absurd (e1▸x) (Gr q1)⟩
 .have q1:(Dq c !=0)=false:=by assumption
  have q2:(Di c.Aa.length 3 !=0)=true:=by assumption
  have e1:BN c=Di c.Aa.length 3:=by rw[BN,BR (FE q1),K4 (Gr q2)]
  refine ZN (v:=.tuple #[.agg #[U none 0 0,U none 0 0,U none 0 0,U none 0 0,U none 0 0,J .u8 0,J .u8 0,J .u8 0],J I (Di c.Aa.length 3)]) (by rw[YB rfl];go_simp) rfl ?_;exact⟨none,none,none,none,none,0,0,0,0,0,0,0,0,0,0,0,0,0,by rw[e1];rfl,SN (Bb.trans (Bv.mono (by simp;omega))) _ _ _ _ _ _ _ _,fun x=>absurd (e1▸x) (Gr q2)⟩
 rename (Dq c !=0)=false=>q1
 rename (Di _ _ !=0)=false=>q2
 have Jw:JP c=0->JO c.Aa:=SQ (FE q2);have HOK:=Zd Jw;have HE:=Zd (show BN c=PM (JP c) (if H0 c.Aa=true then Ct c c.now else 9) by rw[BN,BR (FE q1),BR (FE q2)]);have Q1:=Zd q1;have Q2:=Zd q2;clear q1 q2 L6 xr Jw;go_loopg [27] c.Aa.length (fun g i wr=>∃k:Nat,k<=c.Aa.length/\g=c.Aa.length - k/\i=.int I k/\CY (fun i _=>EF c i) k (c.Aa.drop k)=JP c/\YH ((w.alloc (.cells #[U a1 c.base.length c1,U a2 c.Af.length c2,U a3 c.hooks.length c3,U a4 c.Aa.length c4,U a5 c.now.length c5] 28)).alloc (.cells #[U none 0 0,U none 0 0,U none 0 0,U none 0 0,U none 0 0,J .u8 0,J .u8 0,J .u8 0] 62)).heap.size ((w.alloc (.cells #[U a1 c.base.length c1,U a2 c.Af.length c2,U a3 c.hooks.length c3,U a4 c.Aa.length c4,U a5 c.now.length c5] 28)).alloc (.cells #[U none 0 0,U none 0 0,U none 0 0,U none 0 0,U none 0 0,J .u8 0,J .u8 0,J .u8 0] 62)) wr)
 case atStart=>exact⟨0,Zp _,rfl,rfl,rfl,Bv⟩
 obtain⟨k,hk,rfl,rfl,CP,hX⟩:=hrel;have hf:=Zd CP;clear CP;obtain⟨hcx,hfx⟩:=E7 hX;have U5:Bl w wr:=Bb.trans (hX.mono (by simp;omega));by_cases Az:k<c.Aa.length
 .have hd:=Zd (K5 (f:=fun i _=>EF c i) (Db Az))
  go_wp2_with (go_at_call 49;refine(anK.out _ _ Az U5).mono ?_;rintro e w2 ⟨rfl,De⟩;have Cj:=hX.trans (De.mono hX.size);obtain⟨NP,MK⟩:=E7 Cj)
  .have q3:(EF c k !=0)=true:=by assumption
   have e3:JP c=EF c k:=by rw[<-hf.out,hd.out,if_neg (Gr q3)]
   have e1:BN c=EF c k:=by rw[HE.out,e3,K4 (Gr q3)]
   refine ZN (v:=.tuple #[.agg #[U none 0 0,U none 0 0,U none 0 0,U none 0 0,U none 0 0,J .u8 0,J .u8 0,J .u8 0],J I (EF c k)]) (by rw[YB rfl];go_simp) rfl ?_;exact⟨none,none,none,none,none,0,0,0,0,0,0,0,0,0,0,0,0,0,by rw[e1];rfl,SN (Bb.trans (Cj.mono (by simp;omega))) _ _ _ _ _ _ _ _,fun x=>absurd (e1▸x) (Gr q3)⟩
  have q3:(EF c k !=0)=false:=by assumption
  go_roundg (c.Aa.length - (k+1))
  case rel=>exact⟨k+1,by omega,rfl,by go_num,by rw[<-hf.out,hd.out,if_pos (FE q3)],Cj⟩
  omega
 have e3:JP c=0:=by rw[<-hf.out];exact MN (by omega)
 have Jw:=HOK.out e3;have um:=Zd (show BN c=(if H0 c.Aa=true then Ct c c.now else 9) by rw[HE.out,BR e3]);clear hf e3;go_wp2_with (go_at_call 50;refine(anL.out _ Jw U5).mono ?_;rintro e w2 ⟨rfl,De⟩;have Cj:=hX.trans (De.mono hX.size);obtain⟨NP,MK⟩:=E7 Cj;clear hcx hfx;obtain⟨Fl,DR⟩:=bw Cj)
 .have q3:(!H0 c.Aa)=true:=by assumption
  have e1:BN c=9:=by rw[um.out,if_neg (by simpa using q3)]
  refine ZN (v:=.tuple #[.agg #[U none 0 0,U none 0 0,U none 0 0,U none 0 0,U none 0 0,J .u8 0,J .u8 0,J .u8 0],J I (9)]) (by rw[YB rfl];go_simp) rfl ?_;have NU:=Bb.trans (Cj.mono (by simp;omega));refine⟨none,none,none,none,none,0,0,0,0,0,0,0,0,0,0,0,0,0,by rw[e1];rfl,?_,fun x=>by rw[e1]at x;cases x⟩
  repeat (with_reducible first|exact NU|refine bA ?_|(refine bS ?_ (by omega))|refine bD ?_|refine bN ?_)
 have q3:(!H0 c.Aa)=false:=by assumption
 have xq:=Zd (show BN c=Ct c c.now by rw[um.out,if_pos (by simpa using q3)]);clear q3
 rename (!H0 c.Aa)=false=>q4
 clear q4;have DM:=Cj.alloc Cj.size (.cells #[U a1 c.base.length c1,U a2 c.Af.length c2,U a3 c.hooks.length c3,U a4 c.Aa.length c4,U a5 c.now.length c5,J .u8 (Ax c.Aa 0),J .u8 (Ax c.Aa 1),J .u8 (Ax c.Aa 2)] 62);have NU:=Bb.trans (DM.mono (by simp;omega));obtain⟨W4,ED⟩:∃W4,W4=(w2.alloc (.cells #[U a1 c.base.length c1,U a2 c.Af.length c2,U a3 c.hooks.length c3,U a4 c.Aa.length c4,U a5 c.now.length c5,J .u8 (Ax c.Aa 0),J .u8 (Ax c.Aa 1),J .u8 (Ax c.Aa 2)] 62)):=⟨_,rfl⟩;have y0:=cn w2 #[U a1 c.base.length c1,U a2 c.Af.length c2,U a3 c.hooks.length c3,U a4 c.Aa.length c4,U a5 c.now.length c5,J .u8 (Ax c.Aa 0),J .u8 (Ax c.Aa 1),J .u8 (Ax c.Aa 2)] 62 (i:=0) rfl;rw[<-ED]at DM NU y0⊢;obtain⟨hc4,hf4⟩:=E7 DM;have EB:w.heap.size<W4.heap.size:=by rw[ED,ZB];omega
 have Rb:w.heap.size+1<W4.heap.size:=by rw[ED,ZB];omega
 have hz4:w2.heap.size<W4.heap.size:=by rw[ED,ZB];omega
 have y1:∀j v,#[U a1 c.base.length c1,U a2 c.Af.length c2,U a3 c.hooks.length c3,U a4 c.Aa.length c4,U a5 c.now.length c5,J .u8 (Ax c.Aa 0),J .u8 (Ax c.Aa 1),J .u8 (Ax c.Aa 2)][j]?=some v->W4.cell? ⟨w2.heap.size,j,none⟩=some v:=fun j v hv=>by rw[ED];exact cn _ _ _ hv
 have t0:W4.cell? ⟨w2.heap.size,0,none⟩=some (U a1 c.base.length c1):=y1 0 _ rfl;have t1:W4.cell? ⟨w2.heap.size,1,none⟩=some (U a2 c.Af.length c2):=y1 1 _ rfl;have t2:W4.cell? ⟨w2.heap.size,2,none⟩=some (U a3 c.hooks.length c3):=y1 2 _ rfl;have t3:W4.cell? ⟨w2.heap.size,3,none⟩=some (U a4 c.Aa.length c4):=y1 3 _ rfl;have t4:W4.cell? ⟨w2.heap.size,4,none⟩=some (U a5 c.now.length c5):=y1 4 _ rfl;have t5:W4.cell? ⟨w2.heap.size,5,none⟩=some (J .u8 (Ax c.Aa 0)):=y1 5 _ rfl;have t6:W4.cell? ⟨w2.heap.size,6,none⟩=some (J .u8 (Ax c.Aa 1)):=y1 6 _ rfl;have t7:W4.cell? ⟨w2.heap.size,7,none⟩=some (J .u8 (Ax c.Aa 2)):=y1 7 _ rfl;clear ED y0 y1 NP MK De
 go_region_with (first|(go_at_call 51;refine(H89.out _ NU.drew).mono ?_;rintro e w5 ⟨rfl,Jn⟩;have Jx:=DM.drew.trans (Jn.mono DM.drew.size);obtain⟨hc5,hf5⟩:=E7 (show Bl W4 w5 from(Zh W4.heap.size W4).drew.trans Jn)))
 all_goals
  go_wp2;refine ZN (v:=.tuple #[.agg #[U a1 c.base.length c1,U a2 c.Af.length c2,U a3 c.hooks.length c3,U a4 c.Aa.length c4,U a5 c.now.length c5,J .u8 (Ax c.Aa 0),J .u8 (Ax c.Aa 1),J .u8 (Ax c.Aa 2)],J I (Ct c c.now)]) (by rw[YB rfl];go_simp) rfl ?_;have O5:=Bb.trans (Jx.mono (by simp;omega));refine⟨_,_,_,_,_,_,_,_,_,_,_,_,_,_,_,_,_,_,by rw[xq.out],?_,fun _=>rfl⟩
  repeat (with_reducible first|exact O5|refine bA ?_|(refine bS ?_ (by omega))|refine bD ?_|refine bN ?_)
def Wt (h:RC S w v1 v2 v3 v4 v5 c)(hS:∀b,S b->b<w.heap.size)(h0:BN c=0):
  Calls Lp 20 #[.agg #[v1,v2,v3,v4,v5]] w fun e w'=>e=.returned (.tuple #[.agg #[v1,v2,v3,v4,v5,J .u8 (Ax c.Aa 0),J .u8 (Ax c.Aa 1),J .u8 (Ax c.Aa 2)],J I 0])/\Bl w w':=
 (c88 h hS).mono fun e w' ⟨q1,q2,q3,q4,q5,n1,n2,n3,n4,n5,d1,d2,d3,d4,d5,k0,k1,k2,he,hB,hx⟩=>⟨by rw[he,hx h0,h0];rfl,hB⟩
def Ca (c:A_)(l:List Int):Int:=PM (BN c) (Ct c l)
def RC.later (h:RC S w v1 v2 v3 v4 v5 c)(hB:Bl w W):RC S W v1 v2 v3 v4 v5 c:=h.Ar (CE.Ec hB)
def A3 (hS:∀b,S b->b<w.heap.size)(hB:Bl w W):∀b,S b->b<W.heap.size:=fun b hb=>Zl (hS b hb) hB.size
def SI.later (h:SI S w v l)(hB:Bl w W):SI S W v l:=h.Ar (CE.Ec hB)
def SP.later {l:List (Int×Int)}(h:SP S w v l)(hB:Bl w W):SP S W v l:=h.Ar (CE.Ec hB)
def ah3 (w:Zb)(v1 v2 v3 v4 v5:Zf)(c:A_)(l:List Int)(e:Ending)(w':Zb):Prop:=
 ∃(q1 q2 q3 q4 q5:Option Addr) (n1 n2 n3 n4 n5 d1 d2 d3 d4 d5 k0 k1 k2:Nat),e=.returned (.tuple #[.agg #[U q1 n1 d1,U q2 n2 d2,U q3 n3 d3,U q4 n4 d4,U q5 n5 d5,J .u8 (k0:Nat),J .u8 (k1:Nat),J .u8 (k2:Nat)],J I (Ca c l)])/\Bl w w'/\(BN c=0->#[U q1 n1 d1,U q2 n2 d2,U q3 n3 d3,U q4 n4 d4,U q5 n5 d5,J .u8 (k0:Nat),J .u8 (k1:Nat),J .u8 (k2:Nat)]=AW v1 v2 v3 v4 v5 (Ax c.Aa))
def pF (h:RC S w v1 v2 v3 v4 v5 c)(hl:SI S w v6 l)(hS:∀b,S b->b<w.heap.size):Calls Lp 68 #[.agg #[v1,v2,v3,v4,v5],v6] w (ah3 w v1 v2 v3 v4 v5 c l):=by
 obtain⟨a1,c1,rfl,l1,m1⟩:=h.base.val;obtain⟨a2,c2,rfl,l2,m2⟩:=h.Af.val;obtain⟨a3,c3,rfl,l3,m3⟩:=h.hooks.val;obtain⟨a4,c4,rfl,l4,m4⟩:=h.Aa.val;obtain⟨a5,c5,rfl,l5,m5⟩:=h.now.val;have IX:=DJ;obtain⟨a6,c6,rfl,l6,m6⟩:=hl.val;have Bb:Bl w ((w.alloc (.cells #[U a1 c.base.length c1,U a2 c.Af.length c2,U a3 c.hooks.length c3,U a4 c.Aa.length c4,U a5 c.now.length c5] 28)).alloc (.cells #[U none 0 0,U none 0 0,U none 0 0,U none 0 0,U none 0 0,J .u8 0,J .u8 0,J .u8 0] 62)):=((Zh _ _).alloc (Zj _) _).alloc (by simp) _;have ez:=Zd (fun W hB=>c88 (w:=W) (h.later hB) (A3 hS hB));have H89:=Zd (fun W hB=>c89 (w:=W) (h.later hB) (hl.later hB) (A3 hS hB));go_enter Lp.func112,ang;go_wp2_with (go_at_call 20;refine(ez.out _ Bb).mono ?_;rintro e w2 ⟨q1,q2,q3,q4,q5,n1,n2,n3,n4,n5,d1,d2,d3,d4,d5,k0,k1,k2,rfl,Cj,hx⟩;obtain⟨NP,MK⟩:=E7 Cj;obtain⟨Fl,DR⟩:=bw Cj;have HX:=Zd hx;clear hx)
 .have q1:(BN c !=0)=true:=by assumption
  have e1:Ca c l=BN c:=by rw[Ca,K4 (Gr q1)]
  refine ZN (v:=.tuple #[.agg #[U none 0 0,U none 0 0,U none 0 0,U none 0 0,U none 0 0,J .u8 0,J .u8 0,J .u8 0],J I (BN c)]) (by rw[YB rfl];go_simp) rfl ?_;have NU:=Bb.trans (Cj.mono Bb.size);refine⟨none,none,none,none,none,0,0,0,0,0,0,0,0,0,0,0,0,0,by rw[e1];rfl,?_,fun x=>absurd x (Gr q1)⟩
  repeat (with_reducible first|exact NU|refine bA ?_|(refine bS ?_ (by omega))|refine bD ?_|refine bN ?_)
 rename (BN c !=0)=false=>q1
 have HE:=Zd (show Ca c l=Ct c l by rw[Ca,BR (FE q1)]);clear q1;have DM:=Cj.alloc Cj.size (.cells #[U q1 n1 d1,U q2 n2 d2,U q3 n3 d3,U q4 n4 d4,U q5 n5 d5,J .u8 (k0:Nat),J .u8 (k1:Nat),J .u8 (k2:Nat)] 62);have NU:=Bb.trans (DM.mono Bb.size);obtain⟨W4,ED⟩:∃W4,W4=(w2.alloc (.cells #[U q1 n1 d1,U q2 n2 d2,U q3 n3 d3,U q4 n4 d4,U q5 n5 d5,J .u8 (k0:Nat),J .u8 (k1:Nat),J .u8 (k2:Nat)] 62)):=⟨_,rfl⟩;have y1:∀j v,#[U q1 n1 d1,U q2 n2 d2,U q3 n3 d3,U q4 n4 d4,U q5 n5 d5,J .u8 (k0:Nat),J .u8 (k1:Nat),J .u8 (k2:Nat)][j]?=some v->(w2.alloc (.cells #[U q1 n1 d1,U q2 n2 d2,U q3 n3 d3,U q4 n4 d4,U q5 n5 d5,J .u8 (k0:Nat),J .u8 (k1:Nat),J .u8 (k2:Nat)] 62)).cell? ⟨w2.heap.size,j,none⟩=some v:=fun j v hv=>cn _ _ _ hv;rw[<-ED]at DM NU y1⊢;obtain⟨hc4,hf4⟩:=E7 DM;have EB:w.heap.size<W4.heap.size:=by rw[ED,ZB];omega
 have Rb:w.heap.size+1<W4.heap.size:=by rw[ED,ZB];omega
 have hz4:w2.heap.size<W4.heap.size:=by rw[ED,ZB];omega
 have t0:W4.cell? ⟨w2.heap.size,0,none⟩=some (U q1 n1 d1):=y1 0 _ rfl;have t1:W4.cell? ⟨w2.heap.size,1,none⟩=some (U q2 n2 d2):=y1 1 _ rfl;have t2:W4.cell? ⟨w2.heap.size,2,none⟩=some (U q3 n3 d3):=y1 2 _ rfl;have t3:W4.cell? ⟨w2.heap.size,3,none⟩=some (U q4 n4 d4):=y1 3 _ rfl;have t4:W4.cell? ⟨w2.heap.size,4,none⟩=some (U q5 n5 d5):=y1 4 _ rfl;have t5:W4.cell? ⟨w2.heap.size,5,none⟩=some (J .u8 (k0:Nat)):=y1 5 _ rfl;have t6:W4.cell? ⟨w2.heap.size,6,none⟩=some (J .u8 (k1:Nat)):=y1 6 _ rfl;have t7:W4.cell? ⟨w2.heap.size,7,none⟩=some (J .u8 (k2:Nat)):=y1 7 _ rfl;clear ED y1 NP MK
 go_region_with (first|(go_at_call 51;refine(H89.out _ NU.drew).mono ?_;rintro e w5 ⟨rfl,Jn⟩;have Jx:=DM.drew.trans (Jn.mono DM.drew.size);obtain⟨hc5,hf5⟩:=E7 (show Bl W4 w5 from(Zh W4.heap.size W4).drew.trans Jn)))
 all_goals
  go_wp2;refine ZN (v:=.tuple #[.agg #[U q1 n1 d1,U q2 n2 d2,U q3 n3 d3,U q4 n4 d4,U q5 n5 d5,J .u8 (k0:Nat),J .u8 (k1:Nat),J .u8 (k2:Nat)],J I (Ct c l)]) (by rw[YB rfl];go_simp) rfl ?_;have O5:=Bb.trans (Jx.mono Bb.size);refine⟨_,_,_,_,_,_,_,_,_,_,_,_,_,_,_,_,_,_,by rw[HE.out],?_,HX.out⟩
  repeat (with_reducible first|exact O5|refine bA ?_|(refine bS ?_ (by omega))|refine bD ?_|refine bN ?_)
def Rc (h:RC S w v1 v2 v3 v4 v5 c)(hl:SI S w v6 l)(hS:∀b,S b->b<w.heap.size)(h0:BN c=0):
  Calls Lp 68 #[.agg #[v1,v2,v3,v4,v5],v6] w fun e w'=>e=.returned (.tuple #[.agg #[v1,v2,v3,v4,v5,J .u8 (Ax c.Aa 0),J .u8 (Ax c.Aa 1),J .u8 (Ax c.Aa 2)],J I (Ct c l)])/\Bl w w':=
 (pF h hl hS).mono fun e w' ⟨q1,q2,q3,q4,q5,n1,n2,n3,n4,n5,d1,d2,d3,d4,d5,k0,k1,k2,he,hB,hx⟩=>⟨by rw[he,hx h0,Ca,BR h0];rfl,hB⟩
def K7 (m:Nat->Int)(n:Int)(p:Int×Int):Nat->Int:=fun j=>if(j:Int)=p.1 then m j+p.2*n else m j
def CZ (m:Nat->Int)(n:Int):List (Int×Int)->Nat->Int
 | []=>m
 |p::r=>CZ (K7 m n p) n r
def Iw (m:Nat->Int):List (Int×Ay)->Nat->Int
 | []=>m
 |x::r=>Iw (CZ m x.1 x.2.Ap) r
def measure (c:A_)(l:List Int):Nat->Int:=Iw (fun j=>nth c.base j) (l.zip c.Aa)
structure Fq (c:A_):Prop where
 Fp:1<=c.base.length/\c.base.length<=3
 base:∀i,i<c.base.length->1<=nth c.base i/\nth c.base i<=60
 PN:c.Af.length=c.base.length
 Af:∀i,i<c.Af.length->-9<=(BV c.Af i).1/\(BV c.Af i).2<=9/\(BV c.Af i).1<=(BV c.Af i).2
 hooks:c.hooks.length=c.base.length
 hook:∀i,i<c.hooks.length->0<=nth c.hooks i/\nth c.hooks i<=5
 few:1<=c.Aa.length/\c.Aa.length<=3
 step:∀i,i<c.Aa.length->-2<=(Aj c.Aa i).low/\(Aj c.Aa i).high<=2/\(Aj c.Aa i).low<=(Aj c.Aa i).high
 Ap:∀i,i<c.Aa.length->1<=(Aj c.Aa i).Ap.length/\(Aj c.Aa i).Ap.length<=2
 pull:∀i,i<c.Aa.length->∀k,k<(Aj c.Aa i).Ap.length->0<=(BV (Aj c.Aa i).Ap k).1/\(BV (Aj c.Aa i).Ap k).1<c.base.length/\-4<=(BV (Aj c.Aa i).Ap k).2/\(BV (Aj c.Aa i).Ap k).2<=4
 over:JO c.Aa
 left:∀i,i<c.Aa.length->0<=(Aj c.Aa i).left/\(Aj c.Aa i).left<=4
 ring:H0 c.Aa=true
 now:Ct c c.now=0
def T4 (m:Nat->Int):Array Zf:= #[J I (m 0),J I (m 1),J I (m 2)]
variable {m:Nat->Int}
def Gt (h:i<3):(T4 m)[i]?=some (J I (m i)):=by
 have:i=0\/i=1\/i=2:=by omega
 rcases this with rfl|rfl|rfl<;>rfl
def pG (h:i<3)(n b:Int):(T4 m).setIfInBounds i (J I (m i+b*n))=T4 (K7 m n ((i:Int),b)):=by
 have:i=0\/i=1\/i=2:=by omega
 rcases this with rfl|rfl|rfl<;>simp[T4,K7]
def pH (b:List Int)(h1:1<=b.length)(h3:b.length<=3):(([J I 0,J I 0,J I 0]:List Zf).take 0++(b.map (ZL I)++([J I 0,J I 0,J I 0]:List Zf).drop (0+(b.map (ZL I)).length))).toArray=T4 (fun j=>nth b j):=by
 match b,h1,h3 with
 | [x],_,_=>rfl
 | [x,y],_,_=>rfl
 | [x,y,z],_,_=>rfl
structure MW (w:Zb)(xs:Array Zf)(m:Nat->Int)(wr:Zb):Prop where
 below:Bl w wr
 box:wr.heap[w.heap.size]?=some (.cells xs 62 (0,0))
 res:wr.heap[w.heap.size+1]?=some (.cells #[J I 0,J I 0,J I 0] 148 (0,0))
 row:wr.heap[w.heap.size+1+1]?=some (.cells (T4 m) 148 (0,0))
def MW.alloc {wr:Zb}(h:MW w xs m wr)(o:Obj):MW w xs m (wr.alloc o):=⟨bA h.below,Bf h.box _,Bf h.res _,Bf h.row _⟩
def MW.drew {wr:Zb}(h:MW w xs m wr):MW w xs m wr.drew:=⟨h.below.drew,h.box,h.res,h.row⟩
def MW.set {wr:Zb}(h:MW w xs m wr)(hi:i<3)(n b:Int):MW w xs (K7 m n ((i:Int),b)) (wr.setCell ⟨w.heap.size+1+1,i,none⟩ (J I (m i+b*n))):=
 ⟨bS h.below (by omega),(AZ (by omega) _).trans h.box,(AZ (by omega) _).trans h.res,by rw[<-pG hi];exact Ba h.row _⟩
def MW.ur {wr:Zb}(h:MW w xs m wr)(m':Nat->Int):MW w xs m' (wr.setRow (w.heap.size+1+1) (T4 m')):=
 ⟨below_setRow h.below (by omega) _,(setRow_other _ _ _ _ (by omega)).trans h.box,(setRow_other _ _ _ _ (by omega)).trans h.res,setRow_heap _ _ _ _ _ _ h.row⟩
def PO {n:Int}{l:List (Int×Int)}(h:k<l.length):CZ m n (l.drop k)=CZ (K7 m n (BV l k)) n (l.drop (k+1)):=by
 obtain⟨hk,e⟩:=Zm.1 (EE h);rw[ZO hk,e]
 rfl
def SR {s:List Ay}(h1:k<l.length)(h2:k<s.length):Iw m ((l.zip s).drop k)=Iw (CZ m (nth l k) (Aj s k).Ap) ((l.zip s).drop (k+1)):=by
 obtain⟨hk,e⟩:=Zm.1 (Ra h1 h2);rw[ZO hk,e]
 rfl
variable {p:Int×Int}
def MO {n N:Int}(h:∀j,-N<=m j/\m j<=N)(hp: -4<=p.2/\p.2<=4)(hn: -2<=n/\n<=2):∀j,-(N+8)<=K7 m n p j/\K7 m n p j<=N+8:=by
 intro j;have hj:=h j;have: -8<=p.2*n/\p.2*n<=8:=by
  have:n= -2\/n= -1\/n=0\/n=1\/n=2:=by omega
  rcases this with h|h|h|h|h<;>rw[h]<;>omega
 unfold K7;split<;>omega
def prod_bound {a n:Int}(hp: -4<=a/\a<=4)(hn: -2<=n/\n<=2): -8<=a*n/\a*n<=8:=by
 have:n= -2\/n= -1\/n=0\/n=1\/n=2:=by omega
 rcases this with h|h|h|h|h<;>rw[h]<;>omega
def uu (h:l.length<=i):nth l i=0:=by simp[nth,h]
def MP (hv:Fq c):∀j,-60<=nth c.base j/\nth c.base j<=60:=by
 intro j;by_cases h:j<c.base.length
 .have:=hv.base j h;omega
 rw[uu (by omega)];omega
variable {ty e:Zs}
def A8 {fn:Func}{p:Tmp}(h:fn.results= #[.cell p ty])(tmps:Array Zf)(P:Zo)(w:Zb):
  (results fn tmps).run P w=((asAddr (tmps.getD p Ze)).run P w).andThen fun a w₁=>(Zdd ty a).run P w₁:=by
 simp only[results,h];simp[zg,zu]
def ah4 (h:RC S w v1 v2 v3 v4 v5 c)(hv:Fq c)(hl:SI S w v6 l)(hn:l.length<=c.Aa.length)(hb:∀i,i<l.length->-2<=nth l i/\nth l i<=2)(hS:∀b,S b->b<w.heap.size)(s0 s1 s2:Nat):
  Calls Lp 69 #[.agg #[v1,v2,v3,v4,v5,J .u8 s0,J .u8 s1,J .u8 s2],v6] w fun e w'=>e=.returned (.agg #[J I (measure c l 0),J I (measure c l 1),J I (measure c l 2)])/\Bl w w':=by
 obtain⟨a1,c1,rfl,l1,m1⟩:=h.base.val;obtain⟨a2,c2,rfl,l2,m2⟩:=h.Af.val;obtain⟨a3,c3,rfl,l3,m3⟩:=h.hooks.val;obtain⟨a4,c4,rfl,l4,m4⟩:=h.Aa.val;obtain⟨a5,c5,rfl,l5,m5⟩:=h.now.val;obtain⟨a6,c6,rfl,l6,m6⟩:=hl.val;have IX:=DJ;obtain⟨tN,lZ⟩:=hv.Fp;obtain⟨b1,o1,rfl,FD,kq⟩:=h.base.at_ (i:=0) (by omega);have ig:=hS b1 FD;have HB:=Zd (fun(W:Zb) (hB:Bl w W) (j:Nat) (u:Zf) (hj:(c.base.map (ZL I))[j]?=some u)=>show W.cell? ((⟨b1,o1,none⟩:Addr).add j)=some u by
  rw[YL]at hj;cases hx:c.base[j]? with
  |none=>rw[hx]at hj;cases hj
  |some x=>
   rw[hx]at hj;cases hj;have Az:j<c.base.length:=(Zm.1 hx).1;obtain⟨b',o',e,_,hc⟩:=h.base.at_ Az;cases e;rw[show(⟨b1,o1,none⟩:Addr).add j=⟨b1,o1+j,none⟩ by unfold Zcu;split<;>simp_all,hB.cell (p:=⟨b1,o1+j,none⟩) ig,hc];have:=Bn Az;rw[hx]at this;cases this
   rfl)
 have HM:=Zd (show measure c l=Iw (fun j=>nth c.base j) (l.zip c.Aa) from rfl);go_enter Lp.func113,anh;go_wp2;obtain⟨W3,Hv⟩:∃W3,W3=(((w.alloc (.cells #[U (some ⟨b1,o1,none⟩) c.base.length c1,U a2 c.Af.length c2,U a3 c.hooks.length c3,U a4 c.Aa.length c4,U a5 c.now.length c5,J .u8 s0,J .u8 s1,J .u8 s2] 62)).alloc (.cells #[J I 0,J I 0,J I 0] 148)).alloc (.cells #[J I 0,J I 0,J I 0] 148)):=⟨_,rfl⟩;have hM0:MW w #[U (some ⟨b1,o1,none⟩) c.base.length c1,U a2 c.Af.length c2,U a3 c.hooks.length c3,U a4 c.Aa.length c4,U a5 c.now.length c5,J .u8 s0,J .u8 s1,J .u8 s2] (fun _=>0) W3:=by
  rw[Hv];refine⟨bA (bA (bA (Zh _ _))),Bf (Bf (Bp _ _) _) _,Bf (by have:=Bp (w.alloc (.cells #[U (some ⟨b1,o1,none⟩) c.base.length c1,U a2 c.Af.length c2,U a3 c.hooks.length c3,U a4 c.Aa.length c4,U a5 c.now.length c5,J .u8 s0,J .u8 s1,J .u8 s2] 62)) (.cells #[J I 0,J I 0,J I 0] 148);rwa[ZB]at this) _,by have:=Bp ((w.alloc (.cells #[U (some ⟨b1,o1,none⟩) c.base.length c1,U a2 c.Af.length c2,U a3 c.hooks.length c3,U a4 c.Aa.length c4,U a5 c.now.length c5,J .u8 s0,J .u8 s1,J .u8 s2] 62)).alloc (.cells #[J I 0,J I 0,J I 0] 148)) (.cells #[J I 0,J I 0,J I 0] 148);rwa[ZB,ZB]at this⟩
 have Qi:W3.cell? ⟨w.heap.size,0,none⟩=some (U (some ⟨b1,o1,none⟩) c.base.length c1):=by
  exact ch hM0.box rfl
 rw[<-Hv];clear Hv;go_still_tail 4,(by kernel_rfl);change wpList _ _ _ _ _ W3.drew;refine wpList_copy_own (P:=Lp) rfl (.tmp 10) (.tmp 13) 22 22 rfl 3 (Cz YE) (by kernel_rfl) (w.heap.size+1+1) 0 3 3 ⟨b1,o1,none⟩ c.base.length c1 rfl rfl #[J I 0,J I 0,J I 0] 148 hM0.row (c.base.map (ZL I)) (by rw[List.length_map];exact(Nat.min_eq_left lZ).symm) (HB.out _ hM0.below.drew) (by simp;omega) (by intro v hv;obtain⟨x,_,rfl⟩:=List.mem_map.1 hv;rfl) ?_;rw[show(#[J I 0,J I 0,J I 0]:Array Zf).toList=[J I 0,J I 0,J I 0] from rfl,pH _ tN lZ];obtain⟨W4,ED⟩:∃W4,W4=W3.drew.setRow (w.heap.size+1+1) (T4 fun j=>nth c.base j):=⟨_,rfl⟩;have hM4:=hM0.drew.ur (fun j=>nth c.base j);rw[<-ED]at hM4⊢;clear ED hM0 Qi HB;have hbb:=MP hv;go_wp2;go_loopg [17] l.length (fun g i wr=>∃(k:Nat) (m:Nat->Int),k<=l.length/\g=l.length - k/\i=.int I k/\Iw m ((l.zip c.Aa).drop k)=measure c l/\(∀j,-(60+16*k)<=m j/\m j<=60+16*k)/\MW w #[U (some ⟨b1,o1,none⟩) c.base.length c1,U a2 c.Af.length c2,U a3 c.hooks.length c3,U a4 c.Aa.length c4,U a5 c.now.length c5,J .u8 s0,J .u8 s1,J .u8 s2] m wr)
 case atStart=>exact⟨0,_,Zp _,rfl,rfl,rfl,fun j=>by have:=hbb j;omega,hM4⟩
 obtain⟨k,m,hk,rfl,rfl,CP,hbd,hM⟩:=hrel;have hf:=Zd CP;clear CP;by_cases Az:k<l.length
 .have Xm:k<c.Aa.length:=by omega
  have mr:=hb k Az;have hd:=Zd (SR (m:=m) Az Xm);obtain⟨b6,o6,rfl,Xj,xu⟩:=hl.at_ Az;rw[<-hM.below.cell (p:=⟨b6,o6+k,none⟩) (hS b6 Xj)]at xu;obtain⟨b,o,s2,s3,rfl,UQ,ER,MM,LO,et,mi,hp,ho⟩:=h.Aa.at_ (i:=k) Xm;obtain⟨a7,c7,rfl,l7,m7⟩:=hp.val;rw[<-hM.below.cell (p:=⟨b,o+k*5+2,none⟩) (hS b UQ)]at LO;clear ER MM et mi;have Xa:=hv.pull k Xm;have hpn:=hv.Ap k Xm;have Jm:=hv.few;have g3:=ch (i:=3) hM.box (v:=.slice (some ⟨b,o,none⟩) c.Aa.length c4) rfl;have hwl:=hM.below.size;have Fl:w.heap.size+1<wr.heap.size:=(Za.1 hM.res).1;have DR:w.heap.size+1+1<wr.heap.size:=(Za.1 hM.row).1;obtain⟨n,Gc⟩:∃n,n=nth l k:=⟨_,rfl⟩;rw[<-Gc]at xu mr hd;clear Gc;obtain⟨ps,lP⟩:∃ps,ps=(Aj c.Aa k).Ap:=⟨_,rfl⟩;rw[<-lP]at LO hp l7 Xa hpn hd;clear lP;go_wp2;go_loopg [30] ps.length (fun g i wx=>∃(j:Nat) (mm:Nat->Int),j<=ps.length/\g=ps.length - j/\i=.int I j/\CZ mm n (ps.drop j)=CZ m n ps/\(∀i,-(60+16*(k:Int)+8*j)<=mm i/\mm i<=60+16*(k:Int)+8*j)/\MW w #[U (some ⟨b1,o1,none⟩) c.base.length c1,U a2 c.Af.length c2,U a3 c.hooks.length c3,U (some ⟨b,o,none⟩) c.Aa.length c4,U a5 c.now.length c5,J .u8 s0,J .u8 s1,J .u8 s2] mm wx)
  case atStart=>exact⟨0,m,Zp _,rfl,rfl,rfl,fun i=>by have:=hbd i;omega,hM⟩
  obtain⟨j,mm,hj,rfl,rfl,CP,eA,U6⟩:=hrel;have MK:=Zd CP;clear CP;by_cases G4:j<ps.length
  .obtain⟨b7,o7,rfl,U3,p1,p2⟩:=hp.at_ G4
   rw[<-U6.below.cell (p:=⟨b7,o7+j*2,none⟩) (hS b7 U3)]at p1;rw[<-U6.below.cell (p:=⟨b7,o7+j*2+1,none⟩) (hS b7 U3)]at p2;have hpd:=Zd (PO (m:=mm) (n:=n) G4);obtain⟨Oo,MF,mC,mD⟩:=Xa j G4;obtain⟨q,hq⟩:∃q,q=BV ps j:=⟨_,rfl⟩;rw[<-hq]at p1 p2 hpd Oo MF mC mD;clear hq;obtain⟨x',y⟩:=q;obtain⟨x,rfl⟩:∃x:Nat,x'=x:=⟨x'.toNat,by simp only at Oo;omega⟩;dsimp only at p1 p2 Oo MF mC mD;have U4:x<3:=by omega
   have hxi:(x:Int)<3:=by omega
   have hpr:=prod_bound ⟨mC,mD⟩ mr;have hmx:=eA x;have eB:=U6.alloc (.cells #[J I x,J I y] 107);have EB:w.heap.size+1+1<wr.heap.size:=(Za.1 U6.row).1;obtain⟨W5,Jy⟩:∃W5,W5=wr.alloc (.cells #[J I x,J I y] 107):=⟨_,rfl⟩;have e0:W5.cell? ⟨wr.heap.size,0,none⟩=some (J I x):=by rw[Jy];exact cn _ _ _ rfl
   have e1:W5.cell? ⟨wr.heap.size,1,none⟩=some (J I y):=by rw[Jy];exact cn _ _ _ rfl
   rw[<-Jy]at eB;have r0:W5.cell? ⟨w.heap.size+1+1,x,none⟩=some (J I (mm x)):=ch eB.row (Gt U4);have rf:=cf (i:=x) eB.row;go_wp2;rw[<-Jy];clear Jy;go_still_tail 10,(by kernel_rfl);change wpList _ _ _ _ _ W5.drew;have hM6:=eB.drew.set (i:=x) U4 n y;go_wp2;go_roundg (ps.length - (j+1))
   case rel=>exact⟨j+1,K7 mm n ((x:Int),y),by omega,rfl,by go_num,by rw[<-MK.out,hpd.out],fun i=>by have:=MO (N:=60+16*(k:Int)+8*j) (p:=((x:Int),y)) eA ⟨mC,mD⟩ mr i;omega,hM6⟩
   omega
  have e2:mm=CZ m n ps:=by rw[<-MK.out,Z7.2 (by omega)];rfl
  subst e2;go_wp2;go_roundg (l.length - (k+1))
  case rel=>exact⟨k+1,_,by omega,rfl,by go_num,by rw[<-hf.out,hd.out],fun i=>by have:=eA i;have:(j:Int)<=2:=(by omega);omega,U6⟩
  omega
 have e1:m=measure c l:=by rw[<-hf.out,Z7.2 (by simp;omega)];rfl
 subst e1;have g0:=ch (i:=0) hM.row (v:=.int I (measure c l 0)) rfl;have g1:=ch (i:=1) hM.row (v:=.int I (measure c l 1)) rfl;have g2:=ch (i:=2) hM.row (v:=.int I (measure c l 2)) rfl;have f0:=cf (i:=0) hM.res;have f1:=cf (i:=1) hM.res;have f2:=cf (i:=2) hM.res;have t0:=ch (i:=0) hM.res (v:=.int I 0) rfl;have t1:=ch (i:=1) hM.res (v:=.int I 0) rfl;have t2:=ch (i:=2) hM.res (v:=.int I 0) rfl;have hB:=hM.below;go_wp2;refine ZN (v:=.agg #[J I (measure c l 0),J I (measure c l 1),J I (measure c l 2)]) (by rw[A8 rfl];go_simp) rfl ?_;refine⟨rfl,?_⟩
 repeat (with_reducible first|exact hB|refine bA ?_|(refine bS ?_ (by omega))|refine bD ?_|refine bN ?_)
def Cb (n:Nat)(w:Zb)(b:Nat):Prop:=n<=b/\b<w.heap.size
def U7 {base:Nat}{xs:List Zf}(h:w.ownsRow base e 1 v n xs):
  ∃a c,v=.slice a n c/\n<=c/\c<=maxLen/\∀i u,xs[i]?=some u->∃b,a=some ⟨b,0,none⟩/\Cb base w b/\w.cell? ⟨b,0+i*1+0,none⟩=some u:=by
 rcases h.2 with⟨rfl,rfl⟩|⟨g,cap,cur,rfl,hb,hg,h1,h2,h3,h4⟩
 .refine⟨none,0,rfl,Zj _,Zp _,fun i u hu=>?_⟩
  have:=h.1;have:xs=[]:=YM (by simpa using this);subst this;cases hu
 refine⟨_,_,rfl,h1,h2,fun i u hu=>⟨g,rfl,⟨hb,(Za.1 hg).1⟩,?_⟩⟩;have hi:i<n:=by
  have:=(Zm.1 hu).1;rw[h.1]at this;omega
 rw[<-h4,Z2 (by omega)]at hu;rw[show 0+i*1+0=i by omega];exact ch hg (by simpa using hu)
def eC {base:Nat}(h:w.ownsRow base e 1 v l.length (l.map (ZL I))):SI (Cb base w) w v l:=by
 obtain⟨a,c,h1,h2,h3,h4⟩:=U7 h;refine⟨a,c,h1,h2,h3,fun i x hx=>?_⟩;obtain⟨b,hb,hn,hc⟩:=h4 i (J I x) (by rw[YL,hx];rfl);refine⟨b,0,[J I x],hb,hn,rfl,fun j u hu=>?_,rfl⟩;cases j with
 |zero=>cases hu;exact hc
 |succ j=>cases hu
def Cb.mono {m:Nat}(h:w.heap.size<=w'.heap.size)(hn:m<=n)(hb:Cb n w b):Cb m w' b:=⟨Zr hn hb.1,Zl hb.2 h⟩
def Bm {B:Nat}{w0:Zb}{row:Option Nat}(h:YH B w0 w)(hg:w.grownBy w' row)(hr:∀k,row=some k->B<=k)(hB:B<=w.heap.size):YH B w0 w':=
 h.trans ⟨hg.os,hg.tape,hg.output,hg.size,fun k hk=>hg.block k (Zl hk hB) (fun e=>absurd (hr k e.symm) (by omega))⟩
def Fs (n:Nat)(s:List (Int×Int)):Int:=if s.length<n then 7 else if n<s.length then 6 else Bc (fun p=>CV p 0 99) s
def abe {s:List (Int×Int)}(h:RC S w v1 v2 v3 v4 v5 c)(hs:SP S w v6 s)(hS:∀b,S b->b<w.heap.size)(s0 s1 s2:Nat):Calls Lp 22 #[.agg #[v1,v2,v3,v4,v5,J .u8 s0,J .u8 s1,J .u8 s2],v6] w fun e w'=>e=.returned (J I (Fs c.base.length s))/\Bl w w':=by
 obtain⟨a1,c1,rfl,l1,m1⟩:=h.base.val;obtain⟨a2,c2,rfl,l2,m2⟩:=h.Af.val;obtain⟨a3,c3,rfl,l3,m3⟩:=h.hooks.val;obtain⟨a4,c4,rfl,l4,m4⟩:=h.Aa.val;obtain⟨a5,c5,rfl,l5,m5⟩:=h.now.val;obtain⟨a6,c6,rfl,l6,m6⟩:=hs.val;have IX:=DJ;have hB:Bl w (w.alloc (.cells #[U a1 c.base.length c1,U a2 c.Af.length c2,U a3 c.hooks.length c3,U a4 c.Aa.length c4,U a5 c.now.length c5,J .u8 s0,J .u8 s1,J .u8 s2] 62)):=(Zh _ _).alloc (Zj _) _;by_cases T2:s.length<c.base.length
 .go_enter Lp.func101,ab5
  go_wp2;go_ret;exact⟨Bw (by rw[Fs,if_pos T2]),hB⟩
 by_cases Oq:c.base.length<s.length
 .go_enter Lp.func101,ab5
  go_wp2;go_ret;exact⟨Bw (by rw[Fs,if_neg T2,if_pos Oq]),hB⟩
 have HE:=Zd (show Fs c.base.length s=Bc (fun p=>CV p 0 99) s by rw[Fs,if_neg T2,if_neg Oq]);go_enter Lp.func101,ab5;go_wp2;go_loopg [24] s.length (fun g i wr=>∃k:Nat,k<=s.length/\g=s.length - k/\i=.int I k/\Bc (fun p=>CV p 0 99) (s.drop k)=Bc (fun p=>CV p 0 99) s/\Bl w wr)
 case atStart=>exact⟨0,Zp _,rfl,rfl,rfl,hB⟩
 obtain⟨k,hk,rfl,rfl,CP,Bb⟩:=hrel;have hf:=Zd CP;clear CP;by_cases Az:k<s.length
 .obtain⟨b,o,rfl,hb,hca,lY⟩:=hs.at_ Az
  rw[<-Bb.cell (p:=⟨b,o+k*2,none⟩) (hS b hb)]at hca;rw[<-Bb.cell (p:=⟨b,o+k*2+1,none⟩) (hS b hb)]at lY;have hd:=Zd (E_ (f:=fun p=>CV p 0 99) (EE Az));go_wp2_with (go_at_call 52;refine(ab7 _ _ _ _ _).mono ?_;rintro e w' ⟨rfl,Bv⟩)
  .have q4:(CV (BV s k) 0 99 !=0)=true:=by assumption
   go_ret;have e4:Bc (fun p=>CV p 0 99) s=CV (BV s k) 0 99:=by rw[<-hf.out,hd.out,if_neg (Gr q4)]
   exact⟨Bw (by rw[HE.out,e4]),(Bb.alloc Bb.size _).trans (Bv.mono (by simp;have:=Bb.size;omega))⟩
  have q4:(CV (BV s k) 0 99 !=0)=false:=by assumption
  have De:Bl w w':=(Bb.alloc Bb.size _).trans (Bv.mono (by simp;have:=Bb.size;omega));go_roundg (s.length - (k+1))
  case rel=>exact⟨k+1,by omega,rfl,by go_num,by rw[<-hf.out,hd.out,if_pos (FE q4)],De⟩
  omega
 have Q4:=Zd (show Fs c.base.length s=0 by rw[HE.out, <-hf.out];exact FZ (by omega));clear hf;go_wp2;go_ret;exact⟨Bw Q4.out.symm,Bb⟩
def JR (ab:Nat->Nat)(now:List Int):Nat->List Int->Nat->Nat
 |_,[],s=>s
 |i,n::r,s=>JR ab now (i+1) r (if n=nth now i then s else s|||Iv (ab i) i)
def Cx (ab:Nat->Nat)(now l:List Int):Nat:=JR ab now 0 l 0
def bz {now:List Int}(h:k<l.length):JR ab now k (l.drop k) s=JR ab now (k+1) (l.drop (k+1)) (if nth l k=nth now k then s else s|||Iv (ab k) k):=by
 obtain⟨hk,e⟩:=Zm.1 (Bn h);rw[ZO hk,e]
 rfl
def eD {now:List Int}(h:l.length<=k):JR ab now k (l.drop k) s=s:=by
 rw[Z7.2 h];rfl
def U8 {ab:Nat->Nat}{now:List Int}(ha:∀i,i<3->ab i<8):∀(l:List Int) (k s:Nat),k+l.length<=3->s<8->JR ab now k l s<8
 | [],_,_,_,h=>h
 |n::r,k,s,hk,h=>by
  have h1:k+(r.length+1)<=3:=hk;refine U8 ha r (k+1) _ (by omega) ?_;split
  .exact h
  exact eu h (Jl (ha k (by omega)) (by omega))
def U9 {now:List Int}(ha:∀i,i<3->ab i<8)(hl:l.length<=3):Cx ab now l<8:=U8 ha l 0 0 (by omega) (by omega)
def xv {a b:Int}(h:(a !=b)=false):a=b:=by simpa using h
def xw {a b:Int}(h:(a !=b)=true):a≠b:=by simpa using h
def anP (h:RC S w v1 v2 v3 v4 v5 c)(hl:SI S w v6 l)(hn:l.length<=c.now.length)(hn3:c.now.length<=3)(ha:∀i,i<3->ab i<8)(hS:∀b,S b->b<w.heap.size):
  Calls Lp 36 #[.agg #[v1,v2,v3,v4,v5,J .u8 (ab 0),J .u8 (ab 1),J .u8 (ab 2)],v6] w fun e w'=>e=.returned (J .u8 (Cx ab c.now l))/\Bl w w':=by
 obtain⟨a1,c1,rfl,l1,m1⟩:=h.base.val;obtain⟨a2,c2,rfl,l2,m2⟩:=h.Af.val;obtain⟨a3,c3,rfl,l3,m3⟩:=h.hooks.val;obtain⟨a4,c4,rfl,l4,m4⟩:=h.Aa.val;obtain⟨a5,c5,rfl,l5,m5⟩:=h.now.val;obtain⟨a6,c6,rfl,l6,m6⟩:=hl.val;have IX:=DJ;have hB:Bl w (w.alloc (.cells (AW (U a1 c.base.length c1) (U a2 c.Af.length c2) (U a3 c.hooks.length c3) (U a4 c.Aa.length c4) (U a5 c.now.length c5) ab) 62)):=(Zh _ _).alloc (Zj _) _;have hG:=Bp w (.cells (AW (U a1 c.base.length c1) (U a2 c.Af.length c2) (U a3 c.hooks.length c3) (U a4 c.Aa.length c4) (U a5 c.now.length c5) ab) 62);have HE:=Zd (show Cx ab c.now l=JR ab c.now 0 (l.drop 0) 0 from rfl);obtain⟨W,hW⟩:∃W,W=(w.alloc (.cells (AW (U a1 c.base.length c1) (U a2 c.Af.length c2) (U a3 c.hooks.length c3) (U a4 c.Aa.length c4) (U a5 c.now.length c5) ab) 62)):=⟨_,rfl⟩;rw[<-hW]at hB hG;have HW:=Zd hW;clear hW;go_enter Lp.func139,ano;go_wp2;rw[show(w.alloc (.cells #[U a1 c.base.length c1,U a2 c.Af.length c2,U a3 c.hooks.length c3,U a4 c.Aa.length c4,U a5 c.now.length c5,J .u8 (ab 0),J .u8 (ab 1),J .u8 (ab 2)] 62))=W from HW.out.symm];go_loopg [5,10] l.length (fun g v i wr=>∃k s:Nat,k<=l.length/\g=l.length - k/\i=.int I k/\v=.int .u8 s/\s<8/\JR ab c.now k (l.drop k) s=Cx ab c.now l/\wr=W)
 case atStart=>exact⟨0,0,Zp _,rfl,rfl,rfl,by omega,rfl,rfl⟩
 obtain⟨k,s,hk,rfl,rfl,rfl,xx,CP,rfl⟩:=hrel;have hf:=Zd CP;clear CP;by_cases Az:k<l.length
 .obtain⟨b,o,rfl,hb,hc⟩:=hl.at_ Az
  obtain⟨b',o',rfl,G1,OJ⟩:=h.now.at_ (i:=k) (by omega);rw[<-hB.cell (p:=⟨b,o+k,none⟩) (hS b hb)]at hc;rw[<-hB.cell (p:=⟨b',o'+k,none⟩) (hS b' G1)]at OJ;have hd:=Zd (bz (ab:=ab) (now:=c.now) (l:=l) (s:=s) Az);have M8:k<3:=by omega
  have TB:(k:Int)<3:=by omega
  have hkn:k<c.now.length:=by omega
  have g4:=ch (i:=4) hG (v:=.slice (some ⟨b',o',none⟩) c.now.length c5) rfl;have gk:=ch hG (HN M8);have hak:=ha k M8;go_wp2_with (go_at_call 67;refine(ab9 (ab k) k hak M8 _).mono ?_;rintro e w' ⟨rfl,rfl⟩)
  .have q:(nth l k !=nth c.now k)=true:=by assumption
   rw[bt xx (Jl hak M8)];go_roundg (l.length - (k+1))
   case rel=>exact⟨k+1,_,by omega,rfl,by go_num,rfl,eu xx (Jl hak M8),by rw[<-hf.out,hd.out,if_neg (xw q)],rfl⟩
   omega
  have q:(nth l k !=nth c.now k)=false:=by assumption
  go_roundg (l.length - (k+1))
  case rel=>exact⟨k+1,_,by omega,rfl,by go_num,rfl,xx,by rw[<-hf.out,hd.out,if_pos (xv q)],rfl⟩
  omega
 have e1:s=Cx ab c.now l:=by rw[<-hf.out,eD (by omega)]
 have E1:=Zd e1;clear hf e1;go_wp2;go_ret;exact⟨by rw[E1.out];rfl,hB⟩
def FF (s n:Nat):List Int:=((Yr n).filter (hasB s)).map fun i:Nat=>(i:Int)
def AB (s:Nat):List Int:=FF s 3
def eF (s n:Nat):FF s (n+1)=if hasB s n=true then FF s n++ [(n:Int)] else FF s n:=by
 unfold FF;rw[List.range_succ,ZcW];split
 .rename_i h;simp[h]
 rename_i h;simp[h]
def Jo (s n:Nat):(FF s n).length<=n:=by
 unfold FF;rw[List.length_map];exact Zr (Zac _ _) (by simp)
def abf (hs:s<8):Calls Lp 65 #[J .u8 s] w fun e w'=>∃v,e=.returned v/\Bl w w'/\SI (Cb w.heap.size w') w' v (AB s)/\(AB s=[]->v=.slice none 0 0):=by
 obtain⟨i0,hi,Fl,DR,EB⟩:=zp KY;have hu:=Cz YE;have Mc:=Zd (fun k (hk:k<3) w=>ab8 s k hs hk w);go_enter Lp.func120,ani;go_wp2;go_loopg [3,5] 3 (fun g v i wr=>∃k:Nat,k<=3/\g=3 - k/\i=.int I k/\wr.ownsRow w.heap.size 3 1 v (FF s k).length ((FF s k).map (ZL I))/\Bl w wr/\(FF s k=[]->v=.slice none 0 0))
 case atStart=>exact⟨0,Zp _,rfl,rfl,zq _ _ _ _,Zh _ _,fun _=>rfl⟩
 obtain⟨k,hk,rfl,rfl,AX,hB,ah7⟩:=hrel;have hle:=Jo s k;have D':=hB.size;by_cases Az:k<3
 .have TB:(k:Int)<3:=by omega
  have HS:=Zd (eF s k);go_wp2_with (first|(go_at_call 70;refine(Mc.out _ Az _).mono ?_;rintro e w' ⟨rfl,rfl⟩)|(at_builtin;refine Yc _ rfl _ _ 22 rfl w.heap.size 3 i0 (J I 0) 1 8 hu (Dz hi) Fl DR EB rfl (by decide) _ _ _ rfl (AX.alloc _) ⟨_,0,none⟩ 1 1 [J I k] rfl rfl (by intro j u hj;match j,hj with|0,hj=>(simp at hj;subst hj;simp[Zcu])) (by intro u hu;simp at hu;subst hu;rfl) (by unfold maxLen;omega) (by omega) (by simp;omega) ?_;intro v' w1 Bi AG Gc))
  .have q:hasB s k=true:=by assumption
   have e1:FF s (k+1)=FF s k++ [(k:Int)]:=by rw[HS.out,if_pos q]
   have hg:(w'.alloc (.cells #[J I k] 3)).grownBy w1 u3.ownBlock:=AG;have Bg:Bl w w1:=Bm (bA hB) hg (fun k hk=>(AX.lt k hk).1) (by simp;omega);have Cm:w1.ownsRow w.heap.size 3 1 v' (FF s (k+1)).length ((FF s (k+1)).map (ZL I)):=by
    rw[e1];simpa using Bi
   go_roundg (3 - (k+1))
   case rel=>exact⟨k+1,by omega,rfl,by go_num,Cm,Bg,fun h=>absurd h (by rw[e1];simp)⟩
   omega
  have q:hasB s k=false:=by assumption
  have e1:FF s (k+1)=FF s k:=by rw[HS.out,if_neg (by rw[q];decide)]
  go_roundg (3 - (k+1))
  case rel=>exact⟨k+1,by omega,rfl,by go_num,by rw[e1];exact AX,hB,by rw[e1];exact ah7⟩
  omega
 have M8:k=3:=by omega
 subst M8;have hsi:=eC AX;go_wp2;go_ret;exact⟨_,rfl,hB,hsi,ah7⟩
def anR (s:Nat)(hs:s<8)(w:Zb):Calls Lp 66 #[J .u8 s] w fun e w'=>e=.returned (J I (AB s).length)/\w'=w:=by
 have h1:s=0\/s=1\/s=2\/s=3\/s=4\/s=5\/s=6\/s=7:=by omega
 rcases h1 with rfl|rfl|rfl|rfl|rfl|rfl|rfl|rfl
 all_goals
  go_enter Lp.func162,anx;go_wp2;go_ret;exact⟨by kernel_rfl,rfl⟩
def anS (s:Nat)(hs:s<8)(w:Zb):Calls Lp 32 #[J .u8 s] w fun e w'=>e=.returned (J I (AB s).length)/\w'=w:=by
 go_enter Lp.func136,ann;go_wp2_with (go_at_call 66;refine(anR s hs _).mono ?_;rintro e w' ⟨rfl,rfl⟩);go_ret;exact⟨rfl,rfl⟩
def JS {base:Nat}{size:Nat}{xs:List Zf}(h:w.ownsRow base e size v n xs):
  ∃a c,v=.slice a n c/\n<=c/\c<=maxLen/\∀j u,xs[j]?=some u->∃b,a=some ⟨b,0,none⟩/\Cb base w b/\w.cell? ⟨b,j,none⟩=some u:=by
 rcases h.2 with⟨rfl,rfl⟩|⟨g,cap,cur,rfl,hb,hg,h1,h2,h3,h4⟩
 .refine⟨none,0,rfl,Zj _,Zp _,fun i u hu=>?_⟩
  have:=h.1;have:xs=[]:=YM (by simpa using this);subst this;cases hu
 refine⟨_,_,rfl,h1,h2,fun i u hu=>⟨g,rfl,⟨hb,(Za.1 hg).1⟩,?_⟩⟩;have hi:i<n*size:=by
  have:=(Zm.1 hu).1;rw[h.1]at this;omega
 rw[<-h4,Z2 (by omega)]at hu;exact ch hg (by simpa using hu)
section
variable {α:Type}{S:Nat->Prop}{R R':Zb->List Zf->α->Prop}{k:Nat}{w w':Zb}{v:Zf}{l:List α}
def ij {k:Nat}(hi:i<n)(hj:j<k):i*k+j<n*k:=by
 have:(i+1)*k<=n*k:=Zd8 k hi;rw[Nat.add_mul]at this;omega
def Sl.row {a:Option Addr}{c:Nat}(h:Sl S R k w (U a l.length c) l)(hk:0<k)(ad:Addr)(ha:a=some ad):
  ∃news:List Zf,news.length=l.length*k/\(∀i x,l[i]?=some x->R w ((news.drop (i*k)).take k) x)/\∀j u,news[j]?=some u->w.cell? (ad.add j)=some u:=by
 obtain⟨a',c',h1,h2,h3,h4⟩:=h;cases h1;subst ha;refine⟨(Yr (l.length*k)).map fun j=>(w.cell? (ad.add j)).getD Ze,by simp,fun i x hx=>?_,fun j u hu=>?_⟩
 .obtain⟨b,o,cs,e,_,hl,hc,hr⟩:=h4 i x hx
  cases e;have hi:=(Zm.1 hx).1;refine Eq.mpr (congrArg (fun y=>R w y x) (?_:_=cs)) hr;apply YA;intro j;by_cases hj:j<k
  .rw[Z2 hj,Yl,YL,List.getElem?_range (ij hi hj)]
   have:cs[j]?=some (cs[j]'(by omega)):=zf _;rw[this];have:=hc j _ this;show some ((w.cell? ((⟨b,o,none⟩:Addr).add (i*k+j))).getD Ze)=_;rw[show(⟨b,o,none⟩:Addr).add (i*k+j)=⟨b,o+i*k+j,none⟩ by rw[ZbZ];unfold Zcu;split<;>simp_all,this]
   rfl
  rw[ZP (by simp;omega),ZP (by omega)]
 obtain⟨hj,rfl⟩:=Zm.1 hu;simp only[List.length_map,List.length_range]at hj;have hi:j / k<l.length:=Zd9 (by rwa[ZcR]);obtain⟨b,o,cs,e,_,hl,hc,hr⟩:=h4 (j / k) _ (zf hi);cases e;have hm:=Nat.mod_lt j hk;have:=hc (j % k) _ (zf (by omega));have nE:j / k*k+j % k=j:=by rw[ZcR];exact Nat.div_add_mod j k
 rw[ZbZ,nE]at this;simp only[List.getElem_map,List.getElem_range];rw[show(⟨b,o,none⟩:Addr).add j=⟨b,o+j,none⟩ by unfold Zcu;split<;>simp_all,this]
 rfl
def O6 {base:Nat}{xs:List Zf}(hk:0<k)(h:w.ownsRow base e k v l.length xs)(hR:∀i x,l[i]?=some x->R w ((xs.drop (i*k)).take k) x):Sl (Cb base w) R k w v l:=by
 obtain⟨a,c,h1,h2,h3,h4⟩:=JS h;refine⟨a,c,h1,h2,h3,fun i x hx=>?_⟩;have hi:=(Zm.1 hx).1;have hl:=h.1;have hlen:((xs.drop (i*k)).take k).length=k:=by
  have:(i+1)*k<=l.length*k:=Zd8 k hi;rw[Nat.add_mul]at this;simp;omega
 have bB:∀j u,((xs.drop (i*k)).take k)[j]?=some u->xs[i*k+j]?=some u:=fun j u hj=>by
  have eG:j<k:=by have:=(Zm.1 hj).1;omega
  rwa[Z2 eG,Yl]at hj
 obtain⟨b,hb,hn,_⟩:=h4 (i*k+0) _ (bB 0 _ (zf (by omega)));refine⟨b,0,_,hb,hn,hlen,fun j u hu=>?_,hR i x hx⟩;obtain⟨b',G1,_,hc⟩:=h4 _ _ (bB j u hu);rw[hb]at G1;cases G1;rwa[zN]
def pI (R:Zb->List Zf->α->Prop):Prop:=∀w cs x,R w cs x->∀u∈cs,u.oneCell'=true
def row_one {news:List Zf}(hk:0<k)(hn:news.length=l.length*k)(h:∀i x,l[i]?=some x->R w ((news.drop (i*k)).take k) x)(h1:pI R):∀u∈news,u.oneCell'=true:=by
 intro u hu;obtain⟨j,hj,rfl⟩:=Zas hu;have hi:j / k<l.length:=Zd9 (by rw[ZcR, <-hn];exact hj);refine h1 _ _ _ (h (j / k) _ (zf hi)) _ ?_;have hm:=Nat.mod_lt j hk;have nE:j / k*k+j % k=j:=by rw[ZcR];exact Nat.div_add_mod j k
 refine Z3 (i:=j % k) ?_;rw[Z2 hm,Yl,nE];exact zf hj
end
def pJ:pI Ri:=fun _ _ _ h u hu=>by unfold Ri at h;subst h;simp at hu;subst hu;rfl
def bC:pI Rp:=fun _ _ _ h u hu=>by unfold Rp at h;subst h;simp at hu;rcases hu with rfl|rfl<;>rfl
def ah8:pI (Rs S):=fun _ _ _ h u hu=>by
 obtain⟨v2,v3,rfl,h2,h3⟩:=h;obtain⟨a2,c2,rfl,_⟩:=h2.val;obtain⟨a3,c3,rfl,_⟩:=h3.val;simp at hu;rcases hu with rfl|rfl|rfl|rfl|rfl<;>rfl
def eH {α:Type}(R:Zb->List Zf->α->Prop)(k:Nat)(w:Zb)(l:List α)(e:Ending)(w':Zb):Prop:=∃v',e=.returned v'/\Bl w w'/\Sl (Cb w.heap.size w') R k w' v' l
def Wu:(Tryz.prog.info? 49).map (fun i=>(i.zero,i.size,i.bytes))=some (some (.agg #[J I 0,J I 0]),2,16):=by kernel_rfl
def Wv:(Tryz.prog.info? 107).map (fun i=>(i.zero,i.size,i.bytes))=some (some (.agg #[J I 0,J I 0]),2,16):=by kernel_rfl
def eI:(Tryz.prog.info? 53).map (fun i=>(i.zero,i.size,i.bytes))=some (some (.agg #[J I 0,J I 0,U none 0 0,U none 0 0,J I 0]),5,72):=by kernel_rfl
def kt (h:Sl S Ri 1 w v l)(hlen:l.length<=1000):Calls Lp 27 #[v] w (eH Ri 1 w l):=by
 obtain⟨a,c,rfl,l1,m1⟩:=h.val;obtain⟨i0,hi,Fl,DR,EB⟩:=zp KY;have hu:=Cz YE;have q22:∀(w:Zb) (a:Option Addr) (n c n' c':Nat),(binOp .eql 22 (U a n c) (U none n' c')).run Lp w=.ok (.bool a.isNone) w:=fun w a n c n' c'=>ZaO w _ _ a n c n' c' hu;cases a with
 |none=>
  have hl:l=[]:=by
   cases l with
   |nil=>rfl
   |cons x r=>
    obtain⟨a',c',h1,_,_,h4⟩:=h;cases h1;obtain⟨b,o,cs,e,_⟩:=h4 0 x rfl;cases e
  subst hl;go_enter Lp.func106,uj;go_wp2;go_ret;exact⟨_,rfl,Zh _ _,none,0,rfl,Zj _,Zp _,fun i x hx=>by cases hx⟩
 |some ad=>
  obtain⟨news,hn,hR,hc⟩:=Sl.row h (by decide) ad rfl;have h1:=row_one (by decide) hn hR pJ;have HC:=Zd hc;have HR:=Zd hR;clear hc hR;go_enter Lp.func106,uj;go_wp2_with (at_builtin;refine Yc _ rfl _ _ 22 rfl w.heap.size 3 i0 (J I 0) 1 8 hu (Dz hi) Fl DR EB rfl (by decide) _ 0 [] rfl (YC w #[] 0 (Zj _) (Zp _) rfl) ad l.length c news rfl hn (fun j u hj=>ca (HC.out j u hj) _) h1 (by unfold maxLen;omega) (by omega) (by simp) ?_;intro v' w1 Bi AG Gc);have hB:Bl w w1:=Bm (bA (Zh _ _)) AG (fun k hk=>by cases hk;exact Zj _) (by simp);have Ts:Sl (Cb w.heap.size w1) Ri 1 w1 v' l:=O6 (by decide) (by rw[zN,zP]at Bi;exact Bi) (fun i x hx=>HR.out i x hx);clear Bi AG Gc;go_ret;exact⟨_,rfl,hB,Ts⟩
def anT {l:List (Int×Int)}(h:Sl S Rp 2 w v l)(hlen:l.length<=1000):Calls Lp 104 #[v] w (eH Rp 2 w l):=by
 obtain⟨a,c,rfl,l1,m1⟩:=h.val;obtain⟨i0,hi,Fl,DR,EB⟩:=zp Wu;have hu:=Cz Zdg;have q22:∀(w:Zb) (a:Option Addr) (n c n' c':Nat),(binOp .eql 25 (U a n c) (U none n' c')).run Lp w=.ok (.bool a.isNone) w:=fun w a n c n' c'=>ZaO w _ _ a n c n' c' hu;cases a with
 |none=>
  have hl:l=[]:=by
   cases l with
   |nil=>rfl
   |cons x r=>
    obtain⟨a',c',h1,_,_,h4⟩:=h;cases h1;obtain⟨b,o,cs,e,_⟩:=h4 0 x rfl;cases e
  subst hl;go_enter Lp.func166,agS;go_wp2;go_ret;exact⟨_,rfl,Zh _ _,none,0,rfl,Zj _,Zp _,fun i x hx=>by cases hx⟩
 |some ad=>
  obtain⟨news,hn,hR,hc⟩:=Sl.row h (by decide) ad rfl;have h1:=row_one (by decide) hn hR bC;have HC:=Zd hc;have HR:=Zd hR;clear hc hR;go_enter Lp.func166,agS;go_wp2_with (at_builtin;refine Yc _ rfl _ _ 25 rfl w.heap.size 49 i0 (.agg #[J I 0,J I 0]) 2 16 hu (Dz hi) Fl DR EB rfl (by decide) _ 0 [] rfl (YC w #[] 0 (Zj _) (Zp _) rfl) ad l.length c news rfl hn (fun j u hj=>ca (HC.out j u hj) _) h1 (by unfold maxLen;omega) (by omega) (by simp) ?_;intro v' w1 Bi AG Gc);have hB:Bl w w1:=Bm (bA (Zh _ _)) AG (fun k hk=>by cases hk;exact Zj _) (by simp);have Ts:Sl (Cb w.heap.size w1) Rp 2 w1 v' l:=O6 (by decide) (by rw[zN,zP]at Bi;exact Bi) (fun i x hx=>HR.out i x hx);clear Bi AG Gc;go_ret;exact⟨_,rfl,hB,Ts⟩
def anU {l:List (Int×Int)}(h:Sl S Rp 2 w v l)(hlen:l.length<=1000):Calls Lp 106 #[v] w (eH Rp 2 w l):=by
 obtain⟨a,c,rfl,l1,m1⟩:=h.val;obtain⟨i0,hi,Fl,DR,EB⟩:=zp Wv;have hu:=Cz Zcz;have q22:∀(w:Zb) (a:Option Addr) (n c n' c':Nat),(binOp .eql 51 (U a n c) (U none n' c')).run Lp w=.ok (.bool a.isNone) w:=fun w a n c n' c'=>ZaO w _ _ a n c n' c' hu;cases a with
 |none=>
  have hl:l=[]:=by
   cases l with
   |nil=>rfl
   |cons x r=>
    obtain⟨a',c',h1,_,_,h4⟩:=h;cases h1;obtain⟨b,o,cs,e,_⟩:=h4 0 x rfl;cases e
  subst hl;go_enter Lp.func168,agT;go_wp2;go_ret;exact⟨_,rfl,Zh _ _,none,0,rfl,Zj _,Zp _,fun i x hx=>by cases hx⟩
 |some ad=>
  obtain⟨news,hn,hR,hc⟩:=Sl.row h (by decide) ad rfl;have h1:=row_one (by decide) hn hR bC;have HC:=Zd hc;have HR:=Zd hR;clear hc hR;go_enter Lp.func168,agT;go_wp2_with (at_builtin;refine Yc _ rfl _ _ 51 rfl w.heap.size 107 i0 (.agg #[J I 0,J I 0]) 2 16 hu (Dz hi) Fl DR EB rfl (by decide) _ 0 [] rfl (YC w #[] 0 (Zj _) (Zp _) rfl) ad l.length c news rfl hn (fun j u hj=>ca (HC.out j u hj) _) h1 (by unfold maxLen;omega) (by omega) (by simp) ?_;intro v' w1 Bi AG Gc);have hB:Bl w w1:=Bm (bA (Zh _ _)) AG (fun k hk=>by cases hk;exact Zj _) (by simp);have Ts:Sl (Cb w.heap.size w1) Rp 2 w1 v' l:=O6 (by decide) (by rw[zN,zP]at Bi;exact Bi) (fun i x hx=>HR.out i x hx);clear Bi AG Gc;go_ret;exact⟨_,rfl,hB,Ts⟩
def ku (S:Nat->Prop)(w:Zb)(l:List Ay)(en:Ending)(w':Zb):Prop:=∃v' news,en=.returned v'/\Bl w w'/\w'.ownsRow w.heap.size 53 5 v' l.length news/\∀(i:Nat) (x:Ay),l[i]?=some x->Rs S w ((news.drop (i*5)).take 5) x
def ah9 {l:List Ay}(h:Sl S (Rs S) 5 w v l)(hlen:l.length<=1000)(Fy:0<l.length):Calls Lp 105 #[v] w (ku S w l):=by
 obtain⟨a,c,rfl,l1,m1⟩:=h.val;obtain⟨i0,hi,Fl,DR,EB⟩:=zp eI;have hu:=Cz Tryz.underlying26;have q22:∀(w:Zb) (a:Option Addr) (n c n' c':Nat),(binOp .eql 26 (U a n c) (U none n' c')).run Lp w=.ok (.bool a.isNone) w:=fun w a n c n' c'=>ZaO w _ _ a n c n' c' hu;obtain⟨ad,rfl⟩:∃ad,a=some ad:=by
  obtain⟨a',c',h1,_,_,h4⟩:=h;cases h1;obtain⟨b,o,cs,e,_⟩:=h4 0 _ (zf Fy);exact⟨_,e⟩
 obtain⟨news,hn,hR,hc⟩:=Sl.row h (by decide) ad rfl;have h1:=row_one (by decide) hn hR ah8;have HC:=Zd hc;have HR:=Zd hR;clear hc hR;go_enter Lp.func167,anz;go_wp2_with (at_builtin;refine Yc _ rfl _ _ 26 rfl w.heap.size 53 i0 (.agg #[J I 0,J I 0,U none 0 0,U none 0 0,J I 0]) 5 72 hu (Dz hi) Fl DR EB rfl (by decide) _ 0 [] rfl (YC w #[] 0 (Zj _) (Zp _) rfl) ad l.length c news rfl hn (fun j u hj=>ca (HC.out j u hj) _) h1 (by unfold maxLen;omega) (by omega) (by simp) ?_;intro v' w1 Bi AG Gc);have hB:Bl w w1:=Bm (bA (Zh _ _)) AG (fun k hk=>by cases hk;exact Zj _) (by simp);rw[zN,zP]at Bi;have hO:=Zd Bi;clear Bi AG Gc;go_ret;exact⟨_,news,rfl,hB,hO.out,fun i x hx=>HR.out i x hx⟩
def SU (c:A_)(i:Int):Bool:=decide ((Aj c.Aa i.toNat).left<1)
def JU (c:A_)(t:Nat):Option Int:=(AB t).find? (SU c)
def uv (t:Nat):Option Int->Zf
 |some i=>.tuple #[J .u8 0,.iface 152 (.agg #[J I i])]
 |none=>.tuple #[J .u8 t,.nilIface]
def U_ {f:Int->Bool}(h:k<l.length):(l.drop k).find? f=if f (nth l k)=true then some (nth l k) else(l.drop (k+1)).find? f:=by
 obtain⟨hk,e⟩:=Zm.1 (Bn h);rw[ZO hk,e,List.find?_cons];cases f (nth l k)<;>simp
def Rd (h:k<l.length):nth l k∈l:=Z3 (Bn h)
def c90 (h:RC S w v1 v2 v3 v4 v5 c)(hl:SI S w v6 l)(hn:l.length<=c.now.length)(hn3:c.now.length<=3)(ha:∀i,i<3->ab i<8)(hx:∀x,x∈AB (Cx ab c.now l)->0<=x/\x<c.Aa.length)(hS:∀b,S b->b<w.heap.size):
  Calls Lp 62 #[.agg #[v1,v2,v3,v4,v5,J .u8 (ab 0),J .u8 (ab 1),J .u8 (ab 2)],v6] w fun e w'=>e=.returned (uv (Cx ab c.now l) (JU c (Cx ab c.now l)))/\Bl w w':=by
 obtain⟨a1,c1,rfl,l1,m1⟩:=h.base.val;obtain⟨a2,c2,rfl,l2,m2⟩:=h.Af.val;obtain⟨a3,c3,rfl,l3,m3⟩:=h.hooks.val;obtain⟨a4,c4,rfl,l4,m4⟩:=h.Aa.val;obtain⟨a5,c5,rfl,l5,m5⟩:=h.now.val;obtain⟨a6,c6,rfl,l6,m6⟩:=hl.val;have IX:=DJ;have Bg:Bl w (w.alloc (.cells #[U a1 c.base.length c1,U a2 c.Af.length c2,U a3 c.hooks.length c3,U a4 c.Aa.length c4,U a5 c.now.length c5,J .u8 (ab 0),J .u8 (ab 1),J .u8 (ab 2)] 62)):=(Zh _ _).alloc (Zj _) _;have pK:=U9 (now:=c.now) (l:=l) ha (by omega);have anV:=Zd (fun W hB=>anP (w:=W) (h.later hB) (hl.later hB) hn hn3 ha (A3 hS hB));obtain⟨t,ht⟩:∃t,t=Cx ab c.now l:=⟨_,rfl⟩;rw[<-ht]at hx pK⊢;have HT:=Zd ht;clear ht;have HE:=Zd (show JU c t=((AB t).drop 0).find? (SU c) from rfl);have hle:(AB t).length<=3:=Jo t 3;go_enter Lp.func90,n90;go_wp2_with (first|(go_at_call 36;refine(anV.out _ Bg).mono ?_;rintro e w1 ⟨rfl,Bb⟩;rw[<-HT.out])|(go_at_call 65;refine(abf pK).mono ?_;rintro e w2 ⟨v,rfl,Bv,hv,hvn⟩;have De:=Bb.trans (Bv.mono Bb.size);obtain⟨NP,MK⟩:=E7 De;clear hvn;obtain⟨a7,c7,rfl,l7,m7⟩:=hv.val));have Cj:=Bg.trans (De.mono Bg.size);have hc4:w2.cell? ⟨w.heap.size,3,none⟩=some (U a4 c.Aa.length c4):=by rw[NP _ _ (by simp)];exact cn _ _ _ rfl
 clear NP MK;go_loopg [15] (AB t).length (fun g i wr=>∃k:Nat,k<=(AB t).length/\g=(AB t).length - k/\i=.int I k/\((AB t).drop k).find? (SU c)=JU c t/\wr=w2)
 case atStart=>exact⟨0,Zp _,rfl,rfl,rfl,rfl⟩
 obtain⟨k,hk,rfl,rfl,CP,rfl⟩:=hrel;have hf:=Zd CP;clear CP;by_cases Az:k<(AB t).length
 .obtain⟨b,o,rfl,hb,hc⟩:=hv.at_ Az
  have hd:=Zd (U_ (f:=SU c) Az);obtain⟨Oo,MF⟩:=hx _ (Rd Az);obtain⟨x,lV⟩:∃x:Nat,nth (AB t) k=x:=⟨(nth (AB t) k).toNat,by omega⟩;rw[lV]at hc hd MF Oo;clear lV;have xy:x<c.Aa.length:=by omega
  obtain⟨b',o',s2,s3,rfl,G1,_,_,_,_,mi,_,_⟩:=h.Aa.at_ (i:=x) xy;rw[<-Cj.cell (p:=⟨b',o'+x*5+4,none⟩) (hS b' G1)]at mi;go_wp2
  .have q:(Aj c.Aa x).left<1:=by assumption
   have e1:JU c t=some (x:Int):=by rw[<-hf.out,hd.out,if_pos (by simpa[SU]using q)]
   go_ret2;exact⟨by rw[e1];rfl,Cj⟩
  have q:1<=(Aj c.Aa x).left:=by assumption
  go_roundg ((AB t).length - (k+1))
  case rel=>exact⟨k+1,by omega,rfl,by go_num,by rw[<-hf.out,hd.out,if_neg (by simp[SU];omega)],rfl⟩
  omega
 have e1:JU c t=none:=by rw[<-hf.out,Z7.2 (by omega)];rfl
 have E1:=Zd e1;clear hf e1;go_wp2;go_ret2;exact⟨by rw[E1.out];rfl,Cj⟩
structure Cp where
 obs:Array Obj
 dr:Nat
instance:Nonempty Cp:=⟨⟨#[],0⟩⟩
def calm (w:Zb)(p:Cp):Zb:= {w with heap:=w.heap++p.obs,drawn:=p.dr}
def AL (h:Bl w W):∃p,W=calm w p:=by
 refine⟨⟨W.heap.extract w.heap.size W.heap.size,W.drawn⟩,?_⟩;obtain⟨h1,h2,h3,h4,h5⟩:=h;cases W with
 |mk heap tape drawn os output=>
  simp only at h1 h2 h3 h4 h5;subst h1 h2 h3;have:heap=w.heap++heap.extract w.heap.size heap.size:=by
   apply Zec;intro i;by_cases hi:i<w.heap.size
   .rw[zr hi,h5 i hi]
   rw[Zan (by omega),Zd4];split
   .rw[show w.heap.size+(i -w.heap.size)=i by omega]
   rw[YR (by omega)]
  unfold calm;simp only;rw[<-this]
def AE (w:Zb)(p:Cp):Bl w (calm w p):=
 ⟨rfl,rfl,rfl,by simp[calm],fun k hk=>by simp[calm,zr hk]⟩
def Al (p:Cp){a:Addr}(h:w.cell? a=some v):(calm w p).cell? a=some v:=
 ((AE w p).cell (ZH w _ h)).trans h
variable {P:Zo}
variable {a:Act}
def Av {id:Nat}{Q:Exit->Act->Zb->Prop}{l:List Oper}(hm:P.follows .mixedOrders=true)(hB:Region.lexB .any l.toArray=true)
 (h:wpQuiet P l.toArray (fun w'=>∃p,w'=calm w p) (fun a'=>∀w',(∃p,w'=calm w p)->Q .normal a' w') l a):(zU id l.toArray true).wp P Q a w:=
 wp_region_quiet (C:=fun w'=>∃p,w'=calm w p) hm hB ⟨⟨#[],w.drawn+1⟩,by simp[calm]⟩ (by simpa using h)
variable {f:ZaQ}
def AV {p:Cp}(h:Calls P f args (calm w p) fun e w'=>e=.returned v/\YH (calm w p).heap.size (calm w p) w'):
  Calls P f args (calm w p) fun e Xd=>e=.returned v/\∃q,Xd=calm w q:=
 h.mono fun _ _ ⟨he,hb⟩=>⟨he,AL ((AE w p).trans (hb.mono (AE w p).size))⟩
structure FW (w:Zb)(n1:Nat)(xs:Array Zf)(m:Nat->Int)(wr:Zb):Prop where
 below:Bl w wr
 box:wr.heap[w.heap.size]?=some (.cells xs 62 (0,0))
 row:wr.heap[n1]?=some (.cells (T4 m) 148 (0,0))
def FW.later {wr:Zb}{n1:Nat}(h:FW w n1 xs m wr)(hB:Bl wr W):FW w n1 xs m W:=
 ⟨h.below.trans (hB.mono h.below.size),(hB.block _ (Za.1 h.box).1).trans h.box,(hB.block _ (Za.1 h.row).1).trans h.row⟩
def Gu (hook m b:Int)(p:Int×Int):Bool:=(decide (0<hook)&&Iu (m - hook - b) p)||Iu (m - b) p
def NV (hook m:Int)(p:Int×Int):Nat->Int->Bool
 |0,_=>true
 |n+1,b=>Gu hook m b p&&NV hook m p n (b+1)
def F0 (hook m:Int)(p r:Int×Int):Bool:=NV hook m p (r.2+1 - r.1).toNat r.1
def SV (c:A_)(m:Nat->Int):Nat->List (Int×Int)->Bool
 |_,[]=>true
 |i,r::s=>F0 (nth c.hooks i) (m i) (BV c.Af i) r&&SV c m (i+1) s
def BZ (c:A_)(l:List Int)(s:List (Int×Int)):Bool:=SV c (measure c l) 0 s
def SW {s:List (Int×Int)}(h:k<s.length):SV c m k (s.drop k)=(F0 (nth c.hooks k) (m k) (BV c.Af k) (BV s k)&&SV c m (k+1) (s.drop (k+1))):=by
 obtain⟨hk,e⟩:=Zm.1 (EE h);rw[ZO hk,e]
 rfl
def SX {m:Int}{b e:Int}(h:b<=e):NV hook m p (e+1 - b).toNat b=(Gu hook m b p&&NV hook m p (e+1 - (b+1)).toNat (b+1)):=by
 rw[show(e+1 - b).toNat=(e+1 - (b+1)).toNat+1 by omega]
 rfl
def U' {m:Int}{b e:Int}(h:e<b):NV hook m p (e+1 - b).toNat b=true:=by
 rw[show(e+1 - b).toNat=0 by omega]
 rfl
def NW {n:Int}(hn: -2<=n/\n<=2):∀(l:List (Int×Int)) (m:Nat->Int) (N:Int),(∀p∈l,-4<=p.2/\p.2<=4)->(∀j,-N<=m j/\m j<=N)->∀j,-(N+8*l.length)<=CZ m n l j/\CZ m n l j<=N+8*l.length
 | [],m,N,_,h=>fun j=>by have:=h j;simpa[CZ,Iw]using this
 |p::r,m,N,hp,h=>fun j=>by
  have h1:=MO (p:=p) h (hp p (zC ..)) hn;have h2:=NW hn r (K7 m n p) (N+8) (fun q hq=>hp q (zm _ hq)) h1 j;have e:((p::r).length:Int)=r.length+1:=by simp
  rw[e];show -_<=CZ (K7 m n p) n r j/\CZ (K7 m n p) n r j<=_;omega
def PQ:∀(l:List (Int×Ay)) (m:Nat->Int) (N:Int),(∀x∈l,(-2<=x.1/\x.1<=2)/\x.2.Ap.length<=2/\∀p∈x.2.Ap,-4<=p.2/\p.2<=4)->(∀j,-N<=m j/\m j<=N)->∀j,-(N+16*l.length)<=Iw m l j/\Iw m l j<=N+16*l.length
 | [],m,N,_,h=>fun j=>by have:=h j;simpa[CZ,Iw]using this
 |x::r,m,N,hx,h=>fun j=>by
  obtain⟨h1,h2,h3⟩:=hx x (zC ..);have h4:=NW h1 x.2.Ap m N h3 h;have h5:∀j,-(N+16)<=CZ m x.1 x.2.Ap j/\CZ m x.1 x.2.Ap j<=N+16:=fun j=>by have:=h4 j;omega
  have h6:=PQ r (CZ m x.1 x.2.Ap) (N+16) (fun q hq=>hx q (zm _ hq)) h5 j;have e:((x::r).length:Int)=r.length+1:=by simp
  rw[e];show -_<=Iw (CZ m x.1 x.2.Ap) r j/\Iw (CZ m x.1 x.2.Ap) r j<=_;omega
def pL {l:List (Int×Int)}(h:p∈l):∃k,k<l.length/\BV l k=p:=by
 obtain⟨k,hk,e⟩:=Zas h;exact⟨k,hk,by simp[BV,hk,e]⟩
def ik {p:Int}(h:p∈l):∃k,k<l.length/\nth l k=p:=by
 obtain⟨k,hk,e⟩:=Zas h;exact⟨k,hk,by simp[nth,hk,e]⟩
def bE {l:List Ay}{p:Ay}(h:p∈l):∃k,k<l.length/\Aj l k=p:=by
 obtain⟨k,hk,e⟩:=Zas h;exact⟨k,hk,by simp[Aj,hk,e]⟩
def Md (hv:Fq c)(hn:l.length<=c.Aa.length)(hb:∀i,i<l.length->-2<=nth l i/\nth l i<=2):∀j,-108<=measure c l j/\measure c l j<=108:=by
 intro j;have h1:=PQ (l.zip c.Aa) (fun j=>nth c.base j) 60 (fun x hx=>by
  obtain⟨h2,h3⟩:=List.of_mem_zip (a:=x.1) (b:=x.2) hx;obtain⟨k,hk,e⟩:=ik h2;obtain⟨i,hi,e2⟩:=bE h3;refine⟨by rw[<-e];exact hb k hk,by rw[<-e2];exact(hv.Ap i hi).2,fun p hp=>?_⟩;rw[<-e2]at hp;obtain⟨q,hq,e3⟩:=pL hp;have:=hv.pull i hi q hq;rw[e3]at this;omega) (MP hv) j
 have h2:(l.zip c.Aa).length<=3:=by
  have:=hv.few;simp only[List.length_zip];omega
 unfold measure;omega
def aha {s:List (Int×Int)}(h:RC S w v1 v2 v3 v4 v5 c)(hv:Fq c)(hl:SI S w v6 l)(hs:SP S w v7 s)(hn:l.length<=c.Aa.length)(hb:∀i,i<l.length->-2<=nth l i/\nth l i<=2)
 (hsn:s.length<=c.base.length) (il:∀i,i<s.length->0<=(BV s i).1/\(BV s i).1<=99/\0<=(BV s i).2/\(BV s i).2<=99) (hS:∀b,S b->b<w.heap.size) (s0 s1 s2:Nat):
  Calls Lp 59 #[.agg #[v1,v2,v3,v4,v5,J .u8 s0,J .u8 s1,J .u8 s2],v6,v7] w fun e w'=>e=.returned (.bool (BZ c l s))/\Bl w w':=by
 have Gv:∀j,-108<=measure c l j/\measure c l j<=108:=Md hv hn hb;obtain⟨a1,c1,rfl,l1,m1⟩:=h.base.val;obtain⟨a2,c2,rfl,l2,m2⟩:=h.Af.val;obtain⟨a3,c3,rfl,l3,m3⟩:=h.hooks.val;obtain⟨a4,c4,rfl,l4,m4⟩:=h.Aa.val;obtain⟨a5,c5,rfl,l5,m5⟩:=h.now.val;obtain⟨a6,c6,rfl,l6,m6⟩:=hl.val;obtain⟨a7,c7,rfl,l7,m7⟩:=hs.val;have IX:=DJ;have Bg:Bl w (w.alloc (.cells #[U a1 c.base.length c1,U a2 c.Af.length c2,U a3 c.hooks.length c3,U a4 c.Aa.length c4,U a5 c.now.length c5,J .u8 s0,J .u8 s1,J .u8 s2] 62)):=(Zh _ _).alloc (Zj _) _;have kz:=Zd (fun W hB=>ah4 (w:=W) (h.later hB) hv (hl.later hB) hn hb (A3 hS hB) s0 s1 s2);obtain⟨m,hm⟩:∃m,m=measure c l:=⟨_,rfl⟩;have HE:=Zd (show BZ c l s=SV c m 0 (s.drop 0) by rw[hm];rfl);rw[<-hm]at kz Gv;clear hm;have hg:=hv.Fp;have HEL:=Zd hv.PN;have HHL:=Zd hv.hooks;go_enter Lp.func126,anl;go_wp2_with (go_at_call 69;refine(kz.out _ Bg).mono ?_;rintro e w1 ⟨rfl,Bb⟩;obtain⟨NP,MK⟩:=E7 Bb);obtain⟨W3,Hv⟩:∃W3,W3=w1.alloc (.cells #[J I (m 0),J I (m 1),J I (m 2)] 148):=⟨_,rfl⟩;have hF0:FW w w1.heap.size #[U a1 c.base.length c1,U a2 c.Af.length c2,U a3 c.hooks.length c3,U a4 c.Aa.length c4,U a5 c.now.length c5,J .u8 s0,J .u8 s1,J .u8 s2] m W3:=by
  rw[Hv];refine⟨bA (Bg.trans (Bb.mono Bg.size)),Bf ?_ _,Bp _ _⟩;rw[Bb.block _ (by simp)];exact Bp _ _
 rw[<-Hv];clear Hv NP MK kz;go_loopg [17] s.length (fun g i wr=>∃k:Nat,k<=s.length/\g=s.length - k/\i=.int I k/\SV c m k (s.drop k)=BZ c l s/\FW w w1.heap.size #[U a1 c.base.length c1,U a2 c.Af.length c2,U a3 c.hooks.length c3,U a4 c.Aa.length c4,U a5 c.now.length c5,J .u8 s0,J .u8 s1,J .u8 s2] m wr)
 case atStart=>exact⟨0,Zp _,rfl,rfl,HE.out.symm,hF0⟩
 obtain⟨k,hk,rfl,rfl,CP,hF⟩:=hrel;have hf:=Zd CP;clear CP;by_cases Az:k<s.length
 .have hd:=Zd (SW (c:=c) (m:=m) Az)
  have hkb:k<c.base.length:=by omega
  have T5:k<c.Af.length:=by rw[HEL.out];exact hkb
  have hkh:k<c.hooks.length:=by rw[HHL.out];exact hkb
  have M8:k<3:=by omega
  have TB:(k:Int)<3:=by omega
  obtain⟨b7,o7,rfl,U3,p1,p2⟩:=hs.at_ Az;rw[<-hF.below.cell (p:=⟨b7,o7+k*2,none⟩) (hS b7 U3)]at p1;rw[<-hF.below.cell (p:=⟨b7,o7+k*2+1,none⟩) (hS b7 U3)]at p2;have hE:=hv.Af k T5;have hH:=hv.hook k hkh;obtain⟨Xg,Ox,hr3,hr4⟩:=il k Az;obtain⟨b2,o2,rfl,EC,d1,d2⟩:=h.Af.at_ T5;obtain⟨b3,o3,rfl,Xi,d3⟩:=h.hooks.at_ hkh;obtain⟨r,hrr⟩:∃r,r=BV s k:=⟨_,rfl⟩;obtain⟨ep,hep⟩:∃r,r=BV c.Af k:=⟨_,rfl⟩;obtain⟨hook,bF⟩:∃r,r=nth c.hooks k:=⟨_,rfl⟩;rw[<-hrr]at p1 p2 Xg Ox hr3 hr4 hd;rw[<-hep]at d1 d2 hE hd;rw[<-bF]at d3 hH hd;clear hrr hep bF;obtain⟨lo,hi⟩:=r;obtain⟨e1,e2⟩:=ep;dsimp only at p1 p2 Xg Ox hr3 hr4 d1 d2 hE;have hwl:=hF.below.size;have Xn:=hF.later ((Zh wr.heap.size wr).alloc (Zj _) (.cells #[J I lo,J I hi] 49));obtain⟨W5,Jy⟩:∃W5,W5=wr.alloc (.cells #[J I lo,J I hi] 49):=⟨_,rfl⟩;have hQ0:W5.heap[wr.heap.size]?=some (.cells #[J I lo,J I hi] 49 (0,0)):=by rw[Jy];exact Bp _ _
  rw[<-Jy]at Xn;have e0:W5.cell? ⟨wr.heap.size,0,none⟩=some (J I lo):=ch hQ0 rfl;have HW:=Zd Jy;clear Jy;go_wp2;rw[<-HW.out];go_loopg [10] ((hi+1 - lo).toNat) (fun g i wx=>∃x:Int,0<=x/\x<=100/\g=(hi+1 - x).toNat/\i=.int I x/\NV hook (m k) (e1,e2) (hi+1 - x).toNat x=F0 hook (m k) (e1,e2) (lo,hi)/\FW w w1.heap.size #[U a1 c.base.length c1,U (some ⟨b2,o2,none⟩) c.Af.length c2,U (some ⟨b3,o3,none⟩) c.hooks.length c3,U a4 c.Aa.length c4,U a5 c.now.length c5,J .u8 s0,J .u8 s1,J .u8 s2] m wx/\wx.heap[wr.heap.size]?=some (.cells #[J I lo,J I hi] 49 (0,0)))
  case atStart=>exact⟨lo,Xg,by omega,rfl,rfl,rfl,Xn,hQ0⟩
  obtain⟨x,Oo,MF,rfl,rfl,xr,Ww,hQ⟩:=hrel;have cK:=Zd xr;clear xr;have q1c:=ch (i:=1) hQ (v:=.int I hi) rfl;by_cases hle:x<=hi
  .have hsu:=Zd (SX (hook:=hook) (m:=m k) (p:=(e1,e2)) hle)
   have hmk:=Gv k;have z1:=fun p=>Al p (ch (i:=2) Ww.box (v:=.slice (some ⟨b3,o3,none⟩) c.hooks.length c3) rfl);have z2:=fun p=>Al p (ch (i:=1) Ww.box (v:=.slice (some ⟨b2,o2,none⟩) c.Af.length c2) rfl);have z3:=fun p=>Al p (ch (i:=k) Ww.row (Gt M8));have z4:=fun p=>Al p ((Ww.below.cell (p:=⟨b2,o2+k*2,none⟩) (hS b2 EC)).trans d1);have z5:=fun p=>Al p ((Ww.below.cell (p:=⟨b2,o2+k*2+1,none⟩) (hS b2 EC)).trans d2);have z6:=fun p=>Al p ((Ww.below.cell (p:=⟨b3,o3+k,none⟩) (hS b3 Xi)).trans d3);have iw1:IntKind.i64.wrap (m k - hook)=m k - hook:=ZcD _ (by omega);have iw2:IntKind.i64.wrap (m k - hook - x)=m k - hook - x:=ZcD _ (by omega);have iw3:IntKind.i64.wrap (m k - x)=m k - x:=ZcD _ (by omega);have Q2:=Zd (fun W=>agU (m k - x) e1 e2 W);have Q1:=Zd (fun W=>agU (m k - hook - x) e1 e2 W);cases pM:decide (0<hook) with
   |true=>
    cases T6:Iu (m k - hook - x) (e1,e2) with
    |true=>
     rw[T6]at Q1;have uw:=Zd (show Gu hook (m k) x (e1,e2)=true by rw[Gu,pM,T6];rfl);have hh:0<hook:=of_decide_eq_true pM;clear pM T6;go_wp2;refine Av (by kernel_rfl) (by kernel_rfl) ?_
     repeat (first|go_big_quiet_step ((go_at_call 87;exact AV (Q1.out _)))|quiet_step ((go_at_call 87;exact AV (Q1.out _))))
     refine Z4 ?_;rintro _ ⟨p,rfl⟩;have Jn:=AE wr p;obtain⟨wy,iq⟩:∃wy,wy=calm wr p:=⟨_,rfl⟩;rw[<-iq]at Jn⊢;clear iq z1 z2 z3 z4 z5 z6;have IY:=Ww.later Jn;have iu:=(Jn.block _ (Za.1 hQ).1).trans hQ;have y1:=fun p=>Al p (ch (i:=1) IY.box (v:=.slice (some ⟨b2,o2,none⟩) c.Af.length c2) rfl);have y3:=fun p=>Al p (ch (i:=k) IY.row (Gt M8));have y4:=fun p=>Al p ((IY.below.cell (p:=⟨b2,o2+k*2,none⟩) (hS b2 EC)).trans d1);have y5:=fun p=>Al p ((IY.below.cell (p:=⟨b2,o2+k*2+1,none⟩) (hS b2 EC)).trans d2);go_wp2;refine Av (by kernel_rfl) (by kernel_rfl) ?_
     repeat (first|go_big_quiet_step (fail)|quiet_step (fail))
     refine Z4 ?_;rintro _ ⟨p2,rfl⟩;have Jx:=AE wy p2;obtain⟨wz,bG⟩:∃wz,wz=calm wy p2:=⟨_,rfl⟩;rw[<-bG]at Jx⊢;clear bG y1 y3 y4 y5;have T7:=IY.later Jx;have hQ5:=(Jx.block _ (Za.1 iu).1).trans iu;go_wp2;go_roundg ((hi+1 - (x+1)).toNat)
     case rel=>exact⟨x+1,by omega,by omega,rfl,rfl,by rw[<-cK.out,hsu.out,uw.out];rfl,T7,hQ5⟩
     case measure=>omega
    |false=>
     cases M9:Iu (m k - x) (e1,e2) with
     |true=>
      rw[T6]at Q1;rw[M9]at Q2;have uw:=Zd (show Gu hook (m k) x (e1,e2)=true by rw[Gu,pM,T6,M9];rfl);have hh:0<hook:=of_decide_eq_true pM;clear pM T6;clear M9;go_wp2;refine Av (by kernel_rfl) (by kernel_rfl) ?_
      repeat (first|go_big_quiet_step ((go_at_call 87;exact AV (Q1.out _)))|quiet_step ((go_at_call 87;exact AV (Q1.out _))))
      refine Z4 ?_;rintro _ ⟨p,rfl⟩;have Jn:=AE wr p;obtain⟨wy,iq⟩:∃wy,wy=calm wr p:=⟨_,rfl⟩;rw[<-iq]at Jn⊢;clear iq z1 z2 z3 z4 z5 z6;have IY:=Ww.later Jn;have iu:=(Jn.block _ (Za.1 hQ).1).trans hQ;have y1:=fun p=>Al p (ch (i:=1) IY.box (v:=.slice (some ⟨b2,o2,none⟩) c.Af.length c2) rfl);have y3:=fun p=>Al p (ch (i:=k) IY.row (Gt M8));have y4:=fun p=>Al p ((IY.below.cell (p:=⟨b2,o2+k*2,none⟩) (hS b2 EC)).trans d1);have y5:=fun p=>Al p ((IY.below.cell (p:=⟨b2,o2+k*2+1,none⟩) (hS b2 EC)).trans d2);go_wp2;refine Av (by kernel_rfl) (by kernel_rfl) ?_
      repeat (first|go_big_quiet_step ((go_at_call 87;exact AV (Q2.out _)))|quiet_step ((go_at_call 87;exact AV (Q2.out _))))
      refine Z4 ?_;rintro _ ⟨p2,rfl⟩;have Jx:=AE wy p2;obtain⟨wz,bG⟩:∃wz,wz=calm wy p2:=⟨_,rfl⟩;rw[<-bG]at Jx⊢;clear bG y1 y3 y4 y5;have T7:=IY.later Jx;have hQ5:=(Jx.block _ (Za.1 iu).1).trans iu;go_wp2;go_roundg ((hi+1 - (x+1)).toNat)
      case rel=>exact⟨x+1,by omega,by omega,rfl,rfl,by rw[<-cK.out,hsu.out,uw.out];rfl,T7,hQ5⟩
      case measure=>omega
     |false=>
      rw[T6]at Q1;rw[M9]at Q2;have uw:=Zd (show Gu hook (m k) x (e1,e2)=false by rw[Gu,pM,T6,M9];rfl);have hh:0<hook:=of_decide_eq_true pM;clear pM T6;clear M9;go_wp2;refine Av (by kernel_rfl) (by kernel_rfl) ?_
      repeat (first|go_big_quiet_step ((go_at_call 87;exact AV (Q1.out _)))|quiet_step ((go_at_call 87;exact AV (Q1.out _))))
      refine Z4 ?_;rintro _ ⟨p,rfl⟩;have Jn:=AE wr p;obtain⟨wy,iq⟩:∃wy,wy=calm wr p:=⟨_,rfl⟩;rw[<-iq]at Jn⊢;clear iq z1 z2 z3 z4 z5 z6;have IY:=Ww.later Jn;have iu:=(Jn.block _ (Za.1 hQ).1).trans hQ;have y1:=fun p=>Al p (ch (i:=1) IY.box (v:=.slice (some ⟨b2,o2,none⟩) c.Af.length c2) rfl);have y3:=fun p=>Al p (ch (i:=k) IY.row (Gt M8));have y4:=fun p=>Al p ((IY.below.cell (p:=⟨b2,o2+k*2,none⟩) (hS b2 EC)).trans d1);have y5:=fun p=>Al p ((IY.below.cell (p:=⟨b2,o2+k*2+1,none⟩) (hS b2 EC)).trans d2);go_wp2;refine Av (by kernel_rfl) (by kernel_rfl) ?_
      repeat (first|go_big_quiet_step ((go_at_call 87;exact AV (Q2.out _)))|quiet_step ((go_at_call 87;exact AV (Q2.out _))))
      refine Z4 ?_;rintro _ ⟨p2,rfl⟩;have Jx:=AE wy p2;obtain⟨wz,bG⟩:∃wz,wz=calm wy p2:=⟨_,rfl⟩;rw[<-bG]at Jx⊢;clear bG y1 y3 y4 y5;have T7:=IY.later Jx;have hQ5:=(Jx.block _ (Za.1 iu).1).trans iu;go_wp2;have e5:F0 hook (m k) (e1,e2) (lo,hi)=false:=by rw[<-cK.out,hsu.out,uw.out];rfl
      have e6:BZ c l s=false:=by rw[<-hf.out,hd.out,e5];rfl
      go_ret;exact⟨by rw[e6];rfl,T7.below⟩
   |false=>
    cases M9:Iu (m k - x) (e1,e2) with
    |true=>
     rw[M9]at Q2;have uw:=Zd (show Gu hook (m k) x (e1,e2)=true by rw[Gu,pM,M9];rfl);clear M9;go_wp2;refine Av (by kernel_rfl) (by kernel_rfl) ?_
     repeat (first|go_big_quiet_step (fail)|quiet_step (fail))
     refine Z4 ?_;rintro _ ⟨p,rfl⟩;have Jn:=AE wr p;obtain⟨wy,iq⟩:∃wy,wy=calm wr p:=⟨_,rfl⟩;rw[<-iq]at Jn⊢;clear iq z1 z2 z3 z4 z5 z6;have IY:=Ww.later Jn;have iu:=(Jn.block _ (Za.1 hQ).1).trans hQ;have y1:=fun p=>Al p (ch (i:=1) IY.box (v:=.slice (some ⟨b2,o2,none⟩) c.Af.length c2) rfl);have y3:=fun p=>Al p (ch (i:=k) IY.row (Gt M8));have y4:=fun p=>Al p ((IY.below.cell (p:=⟨b2,o2+k*2,none⟩) (hS b2 EC)).trans d1);have y5:=fun p=>Al p ((IY.below.cell (p:=⟨b2,o2+k*2+1,none⟩) (hS b2 EC)).trans d2);go_wp2;refine Av (by kernel_rfl) (by kernel_rfl) ?_
     repeat (first|go_big_quiet_step ((go_at_call 87;exact AV (Q2.out _)))|quiet_step ((go_at_call 87;exact AV (Q2.out _))))
     refine Z4 ?_;rintro _ ⟨p2,rfl⟩;have Jx:=AE wy p2;obtain⟨wz,bG⟩:∃wz,wz=calm wy p2:=⟨_,rfl⟩;rw[<-bG]at Jx⊢;clear bG y1 y3 y4 y5;have T7:=IY.later Jx;have hQ5:=(Jx.block _ (Za.1 iu).1).trans iu;go_wp2;go_roundg ((hi+1 - (x+1)).toNat)
     case rel=>exact⟨x+1,by omega,by omega,rfl,rfl,by rw[<-cK.out,hsu.out,uw.out];rfl,T7,hQ5⟩
     case measure=>omega
    |false=>
     rw[M9]at Q2;have uw:=Zd (show Gu hook (m k) x (e1,e2)=false by rw[Gu,pM,M9];rfl);clear M9;go_wp2;refine Av (by kernel_rfl) (by kernel_rfl) ?_
     repeat (first|go_big_quiet_step (fail)|quiet_step (fail))
     refine Z4 ?_;rintro _ ⟨p,rfl⟩;have Jn:=AE wr p;obtain⟨wy,iq⟩:∃wy,wy=calm wr p:=⟨_,rfl⟩;rw[<-iq]at Jn⊢;clear iq z1 z2 z3 z4 z5 z6;have IY:=Ww.later Jn;have iu:=(Jn.block _ (Za.1 hQ).1).trans hQ;have y1:=fun p=>Al p (ch (i:=1) IY.box (v:=.slice (some ⟨b2,o2,none⟩) c.Af.length c2) rfl);have y3:=fun p=>Al p (ch (i:=k) IY.row (Gt M8));have y4:=fun p=>Al p ((IY.below.cell (p:=⟨b2,o2+k*2,none⟩) (hS b2 EC)).trans d1);have y5:=fun p=>Al p ((IY.below.cell (p:=⟨b2,o2+k*2+1,none⟩) (hS b2 EC)).trans d2);go_wp2;refine Av (by kernel_rfl) (by kernel_rfl) ?_
     repeat (first|go_big_quiet_step ((go_at_call 87;exact AV (Q2.out _)))|quiet_step ((go_at_call 87;exact AV (Q2.out _))))
     refine Z4 ?_;rintro _ ⟨p2,rfl⟩;have Jx:=AE wy p2;obtain⟨wz,bG⟩:∃wz,wz=calm wy p2:=⟨_,rfl⟩;rw[<-bG]at Jx⊢;clear bG y1 y3 y4 y5;have T7:=IY.later Jx;have hQ5:=(Jx.block _ (Za.1 iu).1).trans iu;go_wp2;have e5:F0 hook (m k) (e1,e2) (lo,hi)=false:=by rw[<-cK.out,hsu.out,uw.out];rfl
     have e6:BZ c l s=false:=by rw[<-hf.out,hd.out,e5];rfl
     go_ret;exact⟨by rw[e6];rfl,T7.below⟩
  have e5:F0 hook (m k) (e1,e2) (lo,hi)=true:=by rw[<-cK.out];exact U' (by omega)
  have E5:=Zd e5;clear e5 cK;go_wp2;go_roundg (s.length - (k+1))
  case rel=>exact⟨k+1,by omega,rfl,by go_num,by rw[<-hf.out,hd.out,E5.out];rfl,Ww⟩
  omega
 have e1:BZ c l s=true:=by rw[<-hf.out,Z7.2 (by omega)];rfl
 have E1:=Zd e1;clear e1 hf;go_wp2;go_ret;exact⟨by rw[E1.out];rfl,hF.below⟩
section
variable {P:Zo}{ops:Array Oper}{Q:Exit->Act->Zb->Prop}{md:YO}{S:Zb->Prop}{T:Nat->Zb->Prop}
def Cy (P:Zo)(md:YO)(ops:Array Oper)(Q:Exit->Act->Zb->Prop)(T:Nat->Zb->Prop):Nat->Array Bool->Act->Zb->Prop
 |0,listed,a,w=>zs md ops listed=[]/\Q .normal a w
 |f+1,listed,a,w=>(zs md ops listed=[]->Q .normal a w)/\∀i∈zs md ops listed,wpOp P ops Q i (fun a' w'=>T i w'/\Cy P md ops Q T f (listed.setIfInBounds i true) a' w') a w
def JV:∀(f:Nat) (listed:Array Bool) (a:Act) (w:Zb),Cy P md ops Q T f listed a w->wpAny P md ops Q f listed a w
 |0,_,_,_,h=>h
 |f+1,_,_,_,h=>⟨h.1,fun i hi=>Zcc (fun a' w' x=>JV f _ a' w' x.2) (h.2 i hi)⟩
def Wx (md:YO)(ops:Array Oper)(j i:Nat):Bool:=match ops[j]? with|some o=>o.after.any fun e=>Yk md e&&e.on==i|none=>false
variable {o oi:Oper}
def kA (ho:ops[j]?=some o)(h:∀e∈o.after,Yk md e=true->e.on≠i):Wx md ops j i=false:=by
 unfold Wx;rw[ho];cases hb:o.after.any fun e=>Yk md e&&e.on==i with
 |false=>exact hb
 |true=>
  obtain⟨e,he,hx⟩:=Array.any_eq_true'.1 hb;simp only[ZF,beq_iff_eq]at hx;exact absurd hx.2 (h e he hx.1)
def NY (hi:ops[i]?=some oi)(hs:YF ops=true)(hQ:∀c a w,Q (.panic c) (a.put oi.dst v) w->Q (.panic c) a w)
 (hT:∀w,S w->T i w) (pN:∀j,Wx md ops j i=true\/∀w,T j w->S w):
  ∀(f:Nat) (listed:Array Bool) (a:Act) (w:Zb),Za3 md ops listed i=true->i∈zs md ops listed->ZbF P ops S oi v a->S w->
   Cy P md ops Q T f (listed.setIfInBounds i true) (a.put oi.dst v) w->Cy P md ops Q T (f+1) listed a w:=by
 have IP:=Zdx hs;have key:∀(f:Nat) (listed:Array Bool) (a:Act) (w:Zb),(∀j oj,ops[j]?=some oj->j≠i->listed.getD j true=false->(∀e∈oj.after,Yk md e=true->e.on≠i)->oi.apart ops oj=true)->
   i∈zs md ops listed->ZbF P ops S oi v a->S w->Cy P md ops Q T f (listed.setIfInBounds i true) (a.put oi.dst v) w->Cy P md ops Q T (f+1) listed a w:=by
  intro f
  induction f with
  |zero=>
   intro listed a w _ hr hy hS H;refine⟨fun h=>(by rw[h]at hr;cases hr),fun j hj=>?_⟩;by_cases LZ:j=i
   .subst LZ;exact hy.wpOp hi hS ⟨hT _ hS,H⟩
   .have:=ZbO hj LZ
    rw[H.1]at this;cases this
  |succ f ih=>
   intro listed a w Pp hr hy hS H;refine⟨fun h=>(by rw[h]at hr;cases hr),fun j hj=>?_⟩;by_cases LZ:j=i
   .subst LZ;exact hy.wpOp hi hS ⟨hT _ hS,H⟩
   have h1:=H.2 j (ZbO hj LZ);obtain⟨pO,oj,mE,FJ⟩:=ZcY.1 hj;have hun:listed.getD i false=false:=by
    have h0:=(ZcY.1 hr).1;rcases Zar i listed.size with h'|h'
    .simp[h']at h0⊢;exact h0
    simp[YR h']
   have ux:∀e∈oj.after,Yk md e=true->e.on≠i:=fun e he hb heq=>by
    have:=FJ e he hb;rw[heq,hun]at this;cases this
   have mF:∀w,T j w->S w:=(pN j).resolve_left (by rw[kA mE ux];decide);have h2:=wpOp_putIf mE (Pp j oj mE LZ pO ux) (fun cs b=>IP i oi cs b hi) (fun cs b=>IP j oj cs b mE) hQ hy h1;have eJ:∀k ok,ops[k]?=some ok->k≠i->(listed.setIfInBounds j true).getD k true=false->
     (∀e∈ok.after,Yk md e=true->e.on≠i)->oi.apart ops ok=true:=fun k ok hk TB pP KJ=>by
    refine Pp k ok hk TB ?_ KJ;by_cases eG:j=k
    .subst eG;exact pO
    rw[Zde true eG]at pP;exact pP
   refine Zcc (fun a' w' h3=>⟨h3.2.1,ih (listed.setIfInBounds j true) a' w' eJ (ZbO hr (Za0 LZ)) h3.1 (mF _ h3.2.1) ?_⟩) h2;rw[Zdb _ _ LZ];exact h3.2.2
 intro f listed a w hf;exact key f listed a w (Region.free_spec hi hf)
def Dl (P:Zo)(ops:Array Oper)(Q:Exit->Act->Zb->Prop)(T:Nat->Zb->Prop):List (Bool×Nat)->Act->Zb->Prop
 | [],a,w=>Q .normal a w
 |(false,i)::r,a,w=>wpOp P ops Q i (fun a' w'=>T i w'/\Dl P ops Q T r a' w') a w
 |(true,i)::r,a,w=>∃o v,ops[i]?=some o/\ZbF P ops (fun _=>True) o v a/\Dl P ops Q T r (a.put o.dst v) w
def hvB (md:YO)(ops:Array Oper)(lates:List Nat):List (Bool×Nat)->Array Bool->Bool
 | [],listed=>(zs md ops listed).isEmpty
 |(false,i)::r,listed=>decide (zs md ops listed=[i])&&hvB md ops lates r (listed.setIfInBounds i true)
 |(true,i)::r,listed=>(zs md ops listed).contains i&&Za3 md ops listed i&&lates.contains i&&hvB md ops lates r (listed.setIfInBounds i true)
def FG (lates:List Nat)(S:Zb->Prop)(i:Nat)(w:Zb):Prop:=lates.contains i=true\/S w
def O7 {lates:List Nat}(IP:YF ops=true)(hQ:∀c a d v w,Q (.panic c) (Zck a d v) w->Q (.panic c) a w):
  ∀(hs:List (Bool×Nat)) (listed:Array Bool) (a:Act) (w:Zb),hvB md ops lates hs listed=true->Dl P ops Q (FG lates S) hs a w->Cy P md ops Q (FG lates S) hs.length listed a w
 | [],_,_,_,hB,h=>⟨by simpa[hvB]using hB,h⟩
 |(false,i)::r,listed,a,w,hB,h=>by
  simp only[hvB,ZF,decide_eq_true_eq]at hB;refine⟨fun h0=>(by rw[hB.1]at h0;cases h0),fun j hj=>?_⟩;rw[hB.1]at hj;have:j=i:=by simpa using hj
  subst this;exact Zcc (fun a' w' x=>⟨x.1,O7 IP hQ r _ a' w' hB.2 x.2⟩) h
 |(true,i)::r,listed,a,w,hB,h=>by
  simp only[hvB,ZF]at hB;obtain⟨o,v,ho,hy,h⟩:=h;exact NY (S:=fun _=>True) (f:=r.length) ho IP (fun c a w x=>hQ c a o.dst v w x) (fun w _=>.inl hB.1.2) (fun j=>.inr fun _ _=>trivial) listed a w hB.1.1.2 (by simpa using hB.1.1.1) hy trivial (O7 IP hQ r _ _ w hB.2 h)
def ltB (md:YO)(ops:Array Oper)(lates:List Nat)(next:Array Bool->Bool):List Nat->Array Bool->Bool
 | [],listed=>next listed
 |i::r,listed=>(zs md ops listed).contains i&&Za3 md ops listed i&&(lates.all fun j=>Wx md ops j i)&&ltB md ops lates next r (listed.setIfInBounds i true)
def Rf (o:Oper):Bool:=match o.op with| .load .. | .fieldAddr .. | .indexAddr .. | .move .. =>true|_=>false
def MQ (P:Zo)(ops:Array Oper)(S:Zb->Prop)(K:Act->Prop):List Nat->Act->Prop
 | [],a=>K a
 |i::r,a=>∃o v,ops[i]?=some o/\ZbF P ops S o v a/\MQ P ops S K r (a.put o.dst v)
def LC {lates:List Nat}{w:Zb}{next:Array Bool->Bool}{K:Act->Prop}{g:Nat}(IP:YF ops=true)(hQ:∀c a d v w,Q (.panic c) (Zck a d v) w->Q (.panic c) a w)(hS:S w)
  (hK:∀listed a,next listed=true->K a->Cy P md ops Q (FG lates S) g listed a w):
  ∀(ls:List Nat) (listed:Array Bool) (a:Act),ltB md ops lates next ls listed=true->MQ P ops S K ls a->Cy P md ops Q (FG lates S) (g+ls.length) listed a w
 | [],listed,a,hB,h=>hK listed a hB h
 |i::r,listed,a,hB,h=>by
  simp only[ltB,ZF]at hB;obtain⟨o,v,ho,hy,h⟩:=h;refine NY (S:=S) (f:=g+r.length) ho IP (fun c a w x=>hQ c a o.dst v w x) (fun w x=>.inr x) (fun j=>?_) listed a w hB.1.1.2 (by simpa using hB.1.1.1) hy hS (LC IP hQ hS hK r _ _ hB.2 h);by_cases hj:lates.contains j=true
  .exact .inl (Zdm.1 hB.1.2 j (by simpa using hj))
  exact .inr fun w x=>x.resolve_left hj
def B0 {id:Nat}{l:List Oper}(lates:List Nat)(hs:List (Bool×Nat))(ls:List Nat)(hm:P.follows .mixedOrders=true)(hQ:∀c a d v w,Q (.panic c) (Zck a d v) w->Q (.panic c) a w)
 (hB:(YF l.toArray&&decide (hs.length+ls.length=l.toArray.size)&&ltB .any l.toArray lates (hvB .any l.toArray lates hs) ls (Yu l.toArray.size false))=true) (hS:S w.drew)
 (h:MQ P l.toArray S (fun a'=>Dl P l.toArray Q (FG lates S) hs a' w.drew) ls a):(zU id l.toArray true).wp P Q a w:=by
 simp only[ZF,decide_eq_true_eq]at hB;refine Zd5 hm (JV (T:=FG lates S) _ _ _ _ ?_);have:=LC hB.1.1 hQ hS (fun listed a h1 h2=>O7 hB.1.1 hQ hs listed a w.drew h1 h2) ls _ a hB.2 h;rw[hB.1.2]at this;exact this
def bH (hl:Rf o=true){e:Zbv->Zf}{n:Next}(h:(Zby e o).run P w=.ok n w'):∃v,n=.value v:=by
 unfold Rf at hl;unfold Zby at h;split at hl<;>first|cases hl|skip
 all_goals
  rename_i hop;simp only[hop,zg,Sem.run_pure]at h
  first
   |(simp at h;exact⟨_,h.1.symm⟩)
   |(generalize Sem.run _ _ _=r at h;cases r<;>simp[zu]at h;exact⟨_,h.1.symm⟩)
def Wy (hl:Rf o=true)(hw:Yf o (yielded ops a.tmps)=true)(h:∀w,S w->o.quietAt P a S w v):ZbF P ops S o v a:=by
 refine .inl ⟨hw,fun w hS=>?_⟩;have:=h w hS;unfold Oper.quietAt at this;generalize hr:(Zby a.eval o).run P w=r at this⊢;cases r with
 |ok n w'=>
  obtain⟨u,rfl⟩:=bH hl hr;obtain⟨rfl,rfl⟩:=this
  rfl
 |halt x w'=>exact this.elim
def A4 {K:Act->Prop}:∀(ls:List Nat) (a:Act),(ls.all fun i=>match ops[i]? with|some o=>Rf o|none=>false)=true->wpQuiet P ops S K (ls.filterMap fun i=>ops[i]?) a->MQ P ops S K ls a
 | [],a,_,h=>h
 |i::r,a,hl,h=>by
  simp only[Zbs,ZF]at hl;cases ho:ops[i]? with
  |none=>rw[ho]at hl;cases hl.1
  |some o=>
   rw[ho]at hl;rw[Z6,ho]at h;replace h:wpQuiet P ops S K (o::r.filterMap fun i=>ops[i]?) a:=h;unfold wpQuiet at h;split at h
   .next hw=>
    obtain⟨v,h1,h2⟩:=h;exact⟨o,v,ho,Wy hl.1 hw h1,A4 r _ hl.2 h2⟩
   next hw=>exact⟨o,Ze,ho,.inr ⟨by simpa using hw,rfl⟩,A4 r _ hl.2 h⟩
variable {r:List (Bool×Nat)}
def Dd (ho:ops[i]?=some o)(hg:o.guard=none)(hr:(Zby a.eval o).run P w=.ok (.enter f args) w)
 (hc:Calls P f args w fun e w'=>∃v,e=.returned v/\T i w'/\Dl P ops Q T r (a.put o.dst v) w'):Dl P ops Q T ((false,i)::r) a w:=by
 unfold Dl wpOp;simp only[ho];rw[if_pos (by simp[Yf,hg])];refine .inl ?_;unfold ZbA;rw[hr,Zdj];refine hc.mono fun e w' ⟨v,he,h1,h2⟩=>?_;subst he;exact⟨h1,h2⟩
def NZ (ho:ops[i]?=some o)(hg:o.guard=none)(hr:∀w,(Zby a.eval o).run P w=.ok (.value v) w)
 (h:Dl P ops Q T r (a.put o.dst v) w):Dl P ops Q T ((true,i)::r) a w:=
 ⟨o,v,ho,.inl ⟨by simp[Yf,hg],fun w _=>hr w⟩,h⟩
def Dw (ho:ops[i]?=some o)(hg:o.guard=none)(hr:(Zby a.eval o).run P w=.ok (.value v) w)(hT:T i w)
 (h:Dl P ops Q T r (a.put o.dst v) w):Dl P ops Q T ((false,i)::r) a w:=by
 unfold Dl wpOp;simp only[ho];rw[if_pos (by simp[Yf,hg])];refine .inl ?_;unfold ZbA;rw[hr,Zdi];exact⟨hT,h⟩
def K8 (ho:ops[i]?=some o)(hg:o.guard=none)(hr:(Zby a.eval o).run P w=.ok .skip w')(hT:T i w')
 (h:Dl P ops Q T r (a.put o.dst Ze) w'):Dl P ops Q T ((false,i)::r) a w:=by
 unfold Dl wpOp;simp only[ho];rw[if_pos (by simp[Yf,hg])];refine .inl ?_;unfold ZbA;rw[hr,ZcQ];exact⟨hT,h⟩
def Gd (ops:Array Oper):List (Bool×Nat)->List Oper
 | []=> []
 |(_,i)::r=>match ops[i]? with|some o=>o::Gd ops r|none=>Gd ops r
def LD:∀(hs:List (Bool×Nat)) (a:Act) (w:Zb),(hs.all fun x=> !x.1&&(ops[x.2]?).isSome)=true->(∀x∈hs,∀w,T x.2 w)->wpList P ops Q (Gd ops hs) a w->Dl P ops Q T hs a w
 | [],_,_,_,_,h=>h
 |(true,i)::r,a,w,hB,hT,h=>by simp at hB
 |(false,i)::r,a,w,hB,hT,h=>by
  simp only[Zbs,ZF]at hB;obtain⟨o,ho⟩:=Option.isSome_iff_exists.1 hB.1.2;unfold Gd at h;rw[ho]at h;have hw:wpOp P ops Q i (wpList P ops Q (Gd ops r)) a w:=by unfold wpOp;simp only[ho];exact h
  exact Zcc (fun a' w' x=>⟨hT _ (zC ..) _,LD r a' w' hB.2 (fun j hj=>hT j (zm _ hj)) x⟩) hw
end
structure Cq where
 obs:Array Obj
 dr:Nat
 obj:Obj
instance:Nonempty Cq:=⟨⟨#[],0,.cells #[] 0⟩⟩
def SY (w:Zb)(q:Nat)(p:Cq):Zb:= {w with heap:=(w.heap++p.obs).setIfInBounds q p.obj,drawn:=p.dr}
structure B3 (q:Nat)(w W:Zb):Prop where
 os:W.os=w.os
 tape:W.tape=w.tape
 output:W.output=w.output
 size:w.heap.size<=W.heap.size
 block:∀k,k<w.heap.size->k≠q->W.heap[k]?=w.heap[k]?
def B3.refl (q:Nat)(w:Zb):B3 q w w:=⟨rfl,rfl,rfl,Zj _,fun _ _ _=>rfl⟩
def B3.below {W':Zb}(h:B3 q w W)(hB:Bl W W'):B3 q w W':=
 ⟨hB.os.trans h.os,hB.tape.trans h.tape,hB.output.trans h.output,Zr h.size hB.size,fun k hk hq=>(hB.block k (Zl hk h.size)).trans (h.block k hk hq)⟩
def B3.set (h:B3 q w W):B3 q w (W.setCell ⟨q,i,none⟩ v):=
 ⟨h.os,h.tape,h.output,by simpa using h.size,fun k hk hq=>(AZ hq _).trans (h.block k hk hq)⟩
def BI (h:B3 q w W)(hq:q<w.heap.size):∃p,W=SY w q p:=by
 have hqW:q<W.heap.size:=Zl hq h.size;refine⟨⟨W.heap.extract w.heap.size W.heap.size,W.drawn,W.heap[q]⟩,?_⟩;obtain⟨h1,h2,h3,h4,h5⟩:=h;cases W with
 |mk heap tape drawn os output=>
  simp only at h1 h2 h3 h4 h5 hqW;subst h1 h2 h3;have:heap=(w.heap++heap.extract w.heap.size heap.size).setIfInBounds q heap[q]:=by
   apply Zec;intro i;by_cases hiq:q=i
   .subst hiq
    rw[ZV (by simp;omega),Zx hqW]
   rw[Zk hiq];by_cases hi:i<w.heap.size
   .rw[zr hi,h5 i hi (fun e=>hiq e.symm)]
   rw[Zan (by omega),Zd4];split
   .rw[show w.heap.size+(i -w.heap.size)=i by omega]
   rw[YR (by omega)]
  unfold SY;simp only;rw[<-this]
def Cg (p:Cq){a:Addr}(h:w.cell? a=some v)(hq:a.block≠q):(SY w q p).cell? a=some v:=by
 have hb:=ZH w _ h;unfold zy at h⊢;have:(SY w q p).heap[a.block]?=w.heap[a.block]? :=by
  unfold SY;simp only;rw[Zk (Za0 hq),zr hb]
 rw[this];exact h
section
variable {P:Zo}{ops:Array Oper}{Q:Exit->Act->Zb->Prop}{md:YO}{S:Zb->Prop}{T:Nat->Zb->Prop}
def G6 {id:Nat}{l:List Oper}(ls:List Nat)(g:Nat)(Rh:Array Bool)(hm:P.follows .mixedOrders=true)(hQ:∀c a d v w,Q (.panic c) (Zck a d v) w->Q (.panic c) a w)
 (hB:(YF l.toArray&&decide (g+ls.length=l.toArray.size)&&ltB .any l.toArray [] (fun L=>L==Rh) ls (Yu l.toArray.size false))=true) (hS:S w.drew)
 (h:MQ P l.toArray S (fun a'=>Cy P .any l.toArray Q (fun _=>S) g Rh a' w.drew) ls a):(zU id l.toArray true).wp P Q a w:=by
 simp only[ZF,decide_eq_true_eq]at hB;have hT:(FG [] S:Nat->Zb->Prop)=fun _=>S:=by
  funext i w
  simp[FG]
 refine Zd5 hm (JV (T:=FG [] S) _ _ _ _ ?_);have:=LC (P:=P) (lates:=[]) (K:=fun a'=>Cy P .any l.toArray Q (fun _=>S) g Rh a' w.drew) hB.1.1 hQ hS (fun listed a h1 h2=>by
  have e:listed=Rh:=eq_of_beq h1;rw[e,hT];exact h2) ls _ a hB.2 h
 rw[hB.1.2]at this;exact this
def K9 {K:Act->Prop}:∀(l r:List Nat) (a:Act),MQ P ops S (MQ P ops S K r) l a->MQ P ops S K (l++r) a
 | [],_,_,h=>h
 |_::l,r,_,⟨o,v,h1,h2,h3⟩=>⟨o,v,h1,h2,K9 l r _ h3⟩
variable {o oi:Oper}
def CB {K:Act->Prop}{r:List Nat}(ho:ops[i]?=some o)(hg:o.guard=none)(hr:∀w,S w->(Zby a.eval o).run P w=.ok (.value v) w)(h:MQ P ops S K r (a.put o.dst v)):MQ P ops S K (i::r) a:=
 ⟨o,v,ho,.inl ⟨by simp[Yf,hg],hr⟩,h⟩
def AK {f:Nat}{listed:Array Bool}(rs:List Nat)(hr:zs md ops listed=rs)(BL:rs≠ [])(h:∀i∈rs,wpOp P ops Q i (fun a' w'=>T i w'/\Cy P md ops Q T f (listed.setIfInBounds i true) a' w') a w):Cy P md ops Q T (f+1) listed a w:=
 ⟨fun h0=>absurd (hr.symm.trans h0) BL,by rw[hr];exact h⟩
variable {K:Act->Zb->Prop}
def DK (ho:ops[i]?=some o)(hg:o.guard=none)(hr:(Zby a.eval o).run P w=.ok (.enter f args) w)
 (hc:Calls P f args w fun e w'=>(∃v,e=.returned v/\K (a.put o.dst v) w')\/∃x,e=.panicked x/\Q (.panic x) a w'):wpOp P ops Q i K a w:=by
 unfold wpOp;simp only[ho];rw[if_pos (by simp[Yf,hg])];refine .inl ?_;unfold ZbA;rw[hr,Zdj];refine hc.mono fun e w' h=>?_;rcases h with⟨v,rfl,h⟩|⟨x,rfl,h⟩
 .exact h
 exact h
def EX (ho:ops[i]?=some o)(hg:o.guard=none)(hr:(Zby a.eval o).run P w=.ok (.value v) w')(h:K (a.put o.dst v) w'):wpOp P ops Q i K a w:=by
 unfold wpOp;simp only[ho];rw[if_pos (by simp[Yf,hg])];refine .inl ?_;unfold ZbA;rw[hr,Zdi];exact h
def Rj (ho:ops[i]?=some o)(hg:o.guard=none)(hr:(Zby a.eval o).run P w=.ok .skip w')(h:K (a.put o.dst Ze) w'):wpOp P ops Q i K a w:=by
 unfold wpOp;simp only[ho];rw[if_pos (by simp[Yf,hg])];refine .inl ?_;unfold ZbA;rw[hr,ZcQ];exact h
def BF {p:Nat->Prop}(h:p i):∀j∈ [i],p j:=fun j hj=>by
 rw[Yh.1 hj];exact h
def Ix {p:Nat->Prop}(h:p i)(h2:p k):∀j∈ [i,k],p j:=fun j hj=>by
 rcases List.mem_cons.1 hj with rfl|hj
 .exact h
 exact BF h2 j hj
end
section
variable {P:Zo}{ops:Array Oper}{Q:Exit->Act->Zb->Prop}{md:YO}{S:Zb->Prop}{T:Nat->Zb->Prop}
def MS (md:YO)(ops:Array Oper):Nat->Nat->Nat->Bool
 |0,_,_=>false
 |f+1,j,i=>match ops[j]? with|some o=>o.after.any fun e=>Yk md e&&(e.on==i||MS md ops f e.on i)|none=>false
def Dn (md:YO)(ops:Array Oper)(listed:Array Bool):Prop:=∀k ok,ops[k]?=some ok->listed.getD k false=true->∀e∈ok.after,Yk md e=true->listed.getD e.on false=true
def Vb {listed:Array Bool}(h:listed.getD i true=false):listed.getD i false=false:=by
 by_cases hi:i<listed.size
 .simp[hi]at h⊢;exact h
 simp[YR (Zdl hi)]at h
def Dn.step {listed:Array Bool}{j:Nat}(h:Dn md ops listed)(hj:j∈zs md ops listed):Dn md ops (listed.setIfInBounds j true):=by
 intro k ok hk hl e he hb;obtain⟨_,oj,mE,FJ⟩:=ZcY.1 hj;have xz:∀x,listed.getD x false=true->(listed.setIfInBounds j true).getD x false=true:=fun x hx=>by
  by_cases hjx:j=x
  .subst hjx
   by_cases hs:j<listed.size
   .simp[hs]
   simp[YR (Zdl hs)]at hx
  rw[Zde false hjx];exact hx
 by_cases eG:j=k
 .subst eG
  rw[hk]at mE;cases mE;exact xz _ (FJ e he hb)
 rw[Zde false eG]at hl;exact xz _ (h k ok hk hl e he hb)
def Dn.closed {listed:Array Bool}(h:Dn md ops listed){i:Nat}(hi:listed.getD i true=false):∀(f j:Nat),(∀o,ops[j]?=some o->∀e∈o.after,Yk md e=true->listed.getD e.on false=true)->MS md ops f j i=false
 |0,_,_=>rfl
 |f+1,j,hj=>by
  unfold MS;cases ho:ops[j]? with
  |none=>rfl
  |some o=>
   simp only;cases hb:o.after.any fun e=>Yk md e&&(e.on==i||MS md ops f e.on i) with
   |false=>rfl
   |true=>
    obtain⟨e,he,hx⟩:=Array.any_eq_true'.1 hb;simp only[ZF,ZaK,beq_iff_eq]at hx;have hl:=hj o ho e he hx.1;rcases hx.2 with h2|h2
    .rw[h2,Vb hi]at hl;cases hl
    rw[Dn.closed h hi f e.on fun o' rH=>h e.on o' rH hl]at h2;cases h2
variable {o oi:Oper}
def Me (hi:ops[i]?=some oi)(hs:YF ops=true)(hQ:∀c a w,Q (.panic c) (a.put oi.dst v) w->Q (.panic c) a w)
 (hT:∀w,S w->T i w) (pN:∀j,MS md ops n j i=true\/∀w,T j w->S w):
  ∀(f:Nat) (listed:Array Bool) (a:Act) (w:Zb),Dn md ops listed->Za3 md ops listed i=true->i∈zs md ops listed->ZbF P ops S oi v a->S w->
   Cy P md ops Q T f (listed.setIfInBounds i true) (a.put oi.dst v) w->Cy P md ops Q T (f+1) listed a w:=by
 have IP:=Zdx hs;have key:∀(f:Nat) (listed:Array Bool) (a:Act) (w:Zb),Dn md ops listed->(∀j oj,ops[j]?=some oj->j≠i->listed.getD j true=false->(∀e∈oj.after,Yk md e=true->e.on≠i)->oi.apart ops oj=true)->
   i∈zs md ops listed->ZbF P ops S oi v a->S w->Cy P md ops Q T f (listed.setIfInBounds i true) (a.put oi.dst v) w->Cy P md ops Q T (f+1) listed a w:=by
  intro f
  induction f with
  |zero=>
   intro listed a w _ _ hr hy hS H;refine⟨fun h=>(by rw[h]at hr;cases hr),fun j hj=>?_⟩;by_cases LZ:j=i
   .subst LZ;exact hy.wpOp hi hS ⟨hT _ hS,H⟩
   .have:=ZbO hj LZ
    rw[H.1]at this;cases this
  |succ f ih=>
   intro listed a w hD Pp hr hy hS H;refine⟨fun h=>(by rw[h]at hr;cases hr),fun j hj=>?_⟩;by_cases LZ:j=i
   .subst LZ;exact hy.wpOp hi hS ⟨hT _ hS,H⟩
   have h1:=H.2 j (ZbO hj LZ);obtain⟨pO,oj,mE,FJ⟩:=ZcY.1 hj;have ahc:listed.getD i true=false:=(ZcY.1 hr).1;have hun:listed.getD i false=false:=Vb ahc;have ux:∀e∈oj.after,Yk md e=true->e.on≠i:=fun e he hb heq=>by
    have:=FJ e he hb;rw[heq,hun]at this;cases this
   have mF:∀w,T j w->S w:=(pN j).resolve_left (by
    rw[hD.closed ahc n j fun o ho=>by rw[mE]at ho;cases ho;exact FJ]
    decide)
   have h2:=wpOp_putIf mE (Pp j oj mE LZ pO ux) (fun cs b=>IP i oi cs b hi) (fun cs b=>IP j oj cs b mE) hQ hy h1;have eJ:∀k ok,ops[k]?=some ok->k≠i->(listed.setIfInBounds j true).getD k true=false->
     (∀e∈ok.after,Yk md e=true->e.on≠i)->oi.apart ops ok=true:=fun k ok hk TB pP KJ=>by
    refine Pp k ok hk TB ?_ KJ;by_cases eG:j=k
    .subst eG;exact pO
    rw[Zde true eG]at pP;exact pP
   refine Zcc (fun a' w' h3=>⟨h3.2.1,ih (listed.setIfInBounds j true) a' w' (hD.step hj) eJ (ZbO hr (Za0 LZ)) h3.1 (mF _ h3.2.1) ?_⟩) h2;rw[Zdb _ _ LZ];exact h3.2.2
 intro f listed a w hD hf;exact key f listed a w hD (Region.free_spec hi hf)
def H2 (P:Zo)(ops:Array Oper)(Q:Exit->Act->Zb->Prop)(S:Zb->Prop)(T:Nat->Zb->Prop):List (Bool×Nat)->Act->Zb->Prop
 | [],a,w=>Q .normal a w
 |(false,i)::r,a,w=>wpOp P ops Q i (fun a' w'=>T i w'/\H2 P ops Q S T r a' w') a w
 |(true,i)::r,a,w=>S w/\∃o v,ops[i]?=some o/\ZbF P ops S o v a/\H2 P ops Q S T r (a.put o.dst v) w
def pQ (md:YO)(ops:Array Oper)(n:Nat)(lates:List Nat)(i:Nat):Bool:=lates.all fun j=>MS md ops n j i
def hsB (md:YO)(ops:Array Oper)(n:Nat)(lates:List Nat):List (Bool×Nat)->Array Bool->Bool
 | [],listed=>(zs md ops listed).isEmpty
 |(false,i)::r,listed=>decide (zs md ops listed=[i])&&hsB md ops n lates r (listed.setIfInBounds i true)
 |(true,i)::r,listed=>(zs md ops listed).contains i&&Za3 md ops listed i&&pQ md ops n lates i&&hsB md ops n lates r (listed.setIfInBounds i true)
def iw {lates:List Nat}(h:pQ md ops n lates i=true)(j:Nat):MS md ops n j i=true\/∀w,FG lates S j w->S w:=by
 by_cases hj:lates.contains j=true
 .exact .inl (Zdm.1 h j (by simpa using hj))
 exact .inr fun w x=>x.resolve_left hj
def O8 {n:Nat}{lates:List Nat}(IP:YF ops=true)(hQ:∀c a d v w,Q (.panic c) (Zck a d v) w->Q (.panic c) a w):
  ∀(hs:List (Bool×Nat)) (listed:Array Bool) (a:Act) (w:Zb),Dn md ops listed->hsB md ops n lates hs listed=true->H2 P ops Q S (FG lates S) hs a w->Cy P md ops Q (FG lates S) hs.length listed a w
 | [],_,_,_,_,hB,h=>⟨by simpa[hsB]using hB,h⟩
 |(false,i)::r,listed,a,w,hD,hB,h=>by
  simp only[hsB,ZF,decide_eq_true_eq]at hB;refine⟨fun h0=>(by rw[hB.1]at h0;cases h0),fun j hj=>?_⟩;have hj':=hj;rw[hB.1]at hj;have:j=i:=by simpa using hj
  subst this;exact Zcc (fun a' w' x=>⟨x.1,O8 IP hQ r _ a' w' (hD.step hj') hB.2 x.2⟩) h
 |(true,i)::r,listed,a,w,hD,hB,h=>by
  simp only[hsB,ZF]at hB;obtain⟨hS,o,v,ho,hy,h⟩:=h;have hr:i∈zs md ops listed:=by simpa using hB.1.1.1
  exact Me (S:=S) (n:=n) (f:=r.length) ho IP (fun c a w x=>hQ c a o.dst v w x) (fun w x=>.inr x) (iw hB.1.2) listed a w hD hB.1.1.2 hr hy hS (O8 IP hQ r _ _ w (hD.step hr) hB.2 h)
def lsB (md:YO)(ops:Array Oper)(n:Nat)(lates:List Nat)(next:Array Bool->Bool):List Nat->Array Bool->Bool
 | [],listed=>next listed
 |i::r,listed=>(zs md ops listed).contains i&&Za3 md ops listed i&&pQ md ops n lates i&&lsB md ops n lates next r (listed.setIfInBounds i true)
def Vd {n:Nat}{lates:List Nat}{w:Zb}{next:Array Bool->Bool}{K:Act->Prop}{g:Nat}(IP:YF ops=true)(hQ:∀c a d v w,Q (.panic c) (Zck a d v) w->Q (.panic c) a w)(hS:S w)
  (hK:∀listed a,Dn md ops listed->next listed=true->K a->Cy P md ops Q (FG lates S) g listed a w):
  ∀(ls:List Nat) (listed:Array Bool) (a:Act),Dn md ops listed->lsB md ops n lates next ls listed=true->MQ P ops S K ls a->Cy P md ops Q (FG lates S) (g+ls.length) listed a w
 | [],listed,a,hD,hB,h=>hK listed a hD hB h
 |i::r,listed,a,hD,hB,h=>by
  simp only[lsB,ZF]at hB;obtain⟨o,v,ho,hy,h⟩:=h;have hr:i∈zs md ops listed:=by simpa using hB.1.1.1
  exact Me (S:=S) (n:=n) (f:=g+r.length) ho IP (fun c a w x=>hQ c a o.dst v w x) (fun w x=>.inr x) (iw hB.1.2) listed a w hD hB.1.1.2 hr hy hS (Vd IP hQ hS hK r _ _ (hD.step hr) hB.2 h)
def G7 {id:Nat}{l:List Oper}(n:Nat)(lates:List Nat)(hs:List (Bool×Nat))(ls:List Nat)(hm:P.follows .mixedOrders=true)(hQ:∀c a d v w,Q (.panic c) (Zck a d v) w->Q (.panic c) a w)
 (hB:(YF l.toArray&&decide (hs.length+ls.length=l.toArray.size)&&lsB .any l.toArray n lates (hsB .any l.toArray n lates hs) ls (Yu l.toArray.size false))=true) (hS:S w.drew)
 (h:MQ P l.toArray S (fun a'=>H2 P l.toArray Q S (FG lates S) hs a' w.drew) ls a):(zU id l.toArray true).wp P Q a w:=by
 simp only[ZF,decide_eq_true_eq]at hB;refine Zd5 hm (JV (T:=FG lates S) _ _ _ _ ?_);have hD0:Dn .any l.toArray (Yu l.toArray.size false):=fun k ok _ hl=>by
  rw[show(Yu l.toArray.size false).getD k false=false by unfold Array.getD;split<;>simp]at hl;cases hl
 have:=Vd hB.1.1 hQ hS (fun listed a hD h1 h2=>O8 hB.1.1 hQ hs listed a w.drew hD h1 h2) ls _ a hD0 hB.2 h;rw[hB.1.2]at this;exact this
variable {r:List (Bool×Nat)}
def SZ (ho:ops[i]?=some o)(hg:o.guard=none)(h:o.wp P a w (fun a' w'=>T i w'/\H2 P ops Q S T r a' w') Q):H2 P ops Q S T ((false,i)::r) a w:=by
 unfold H2 wpOp;simp only[ho];rw[if_pos (by simp[Yf,hg])];exact .inl h
def EY (ho:ops[i]?=some o)(hg:o.guard=none)(hr:(Zby a.eval o).run P w=.ok (.value v) w')(hT:T i w')
 (h:H2 P ops Q S T r (a.put o.dst v) w'):H2 P ops Q S T ((false,i)::r) a w:=by
 refine SZ ho hg ?_;unfold ZbA;rw[hr,Zdi];exact⟨hT,h⟩
def Iy (ho:ops[i]?=some o)(hg:o.guard=none)(hr:(Zby a.eval o).run P w=.ok (.enter f args) w)
 (hc:Calls P f args w fun e w'=>∃v,e=.returned v/\T i w'/\H2 P ops Q S T r (a.put o.dst v) w'):H2 P ops Q S T ((false,i)::r) a w:=by
 refine SZ ho hg ?_;unfold ZbA;rw[hr,Zdj];refine hc.mono fun e w' ⟨v,he,h1,h2⟩=>?_;subst he;exact⟨h1,h2⟩
def N9 (ho:ops[i]?=some o)(hg:o.guard=none)(hr:(Zby a.eval o).run P w=.ok .skip w')(hT:T i w')
 (h:H2 P ops Q S T r (a.put o.dst Ze) w'):H2 P ops Q S T ((false,i)::r) a w:=by
 refine SZ ho hg ?_;unfold ZbA;rw[hr,ZcQ];exact⟨hT,h⟩
def Wz (hS:S w)(ho:ops[i]?=some o)(hg:o.guard=none)(hr:∀w,S w->(Zby a.eval o).run P w=.ok (.value v) w)
 (h:H2 P ops Q S T r (a.put o.dst v) w):H2 P ops Q S T ((true,i)::r) a w:=
 ⟨hS,o,v,ho,.inl ⟨by simp[Yf,hg],hr⟩,h⟩
end
def WA {n:Int}(h:Fo lo hi n=0):lo<=n/\n<=hi:=by
 refine G' ?_;cases e:AD n lo hi
 .rfl
 rw[Fo,if_pos e]at h;cases h
def Ef {α:Type}{f:α->Int}:∀ {l:List α},Bc f l=0->∀(k:Nat) (x:α),l[k]?=some x->f x=0
 | [],_,k,x,h=>by simp at h
 |y::r,h0,k,x,h=>by
  unfold Bc at h0;split at h0
  .next hy=>
   cases k with
   |zero=>simp at h;subst h;exact hy
   |succ k=>exact Ef h0 k x (by simpa using h)
  next hy=>exact absurd h0 hy
def WB (h:CV p lo hi=0):lo<=p.1/\p.1<=hi/\lo<=p.2/\p.2<=hi/\p.1<=p.2:=by
 unfold CV at h;split at h
 .cases h
 next h1=>
 split at h
 .cases h
 next h2=>
 have e1:AD p.1 lo hi=false:=by
  cases e:AD p.1 lo hi
  .rfl
  exact absurd (.inl e) h1
 have e2:AD p.2 lo hi=false:=by
  cases e:AD p.2 lo hi
  .rfl
  exact absurd (.inr e) h1
 have:=G' e1;have:=G' e2;omega
def Fb (h:Ct c l=0):l.length=c.Aa.length/\∀i,i<l.length->(Aj c.Aa i).low<=nth l i/\nth l i<=(Aj c.Aa i).high:=by
 unfold Ct at h;split at h
 .cases h
 split at h
 .cases h
 refine⟨by omega,fun i hi=>?_⟩;exact WA (Ef h i _ (Ra hi (by omega)))
def EG (h:BN c=0):Fq c:=by
 obtain⟨hg,h1⟩:=Bj h;obtain⟨hz,h2⟩:=Bj h1;obtain⟨hs,h3⟩:=Bj h2;obtain⟨g1,h4⟩:=Bj hg;obtain⟨g2,h5⟩:=Bj h4;split at h5
 .cases h5
 next g3=>
 obtain⟨g4,h6⟩:=Bj h5;split at h6
 .cases h6
 next g5=>
 have Qh:∀i,i<c.Aa.length->EF c i=0:=fun i hi=>by simpa using Gs hs i _ (Db hi)
 have xA:H0 c.Aa=true:=by
  cases e:H0 c.Aa
  .rw[e]at h3;cases h3
  rfl
 rw[xA,if_pos rfl]at h3;obtain⟨z1,z2⟩:=JQ g1;obtain⟨z3,z4⟩:=JQ hz;have e3:c.Af.length=c.base.length:=YQ fun x=>g3 x;have e5:c.hooks.length=c.base.length:=YQ fun x=>g5 x;exact {
  Fp:=⟨by omega,by omega⟩
  base:=fun i hi=>WA (Ef g2 i _ (Bn hi))
  PN:=e3
  Af:=fun i hi=>by have:=WB (Ef g4 i _ (EE hi));omega
  hooks:=e5
  hook:=fun i hi=>WA (Ef h6 i _ (Bn hi))
  few:=⟨by omega,by omega⟩
  step:=fun i hi=>by have:=WB (Bj (Qh i hi)).1;simp only at this;omega
  Ap:=fun i hi=>by have:=JQ (Bj (Bj (Qh i hi)).2).1;omega
  pull:=fun i hi k hk=>by
   have:=Gs (Bj (Bj (Bj (Qh i hi)).2).2).1 k _ (EE hk);unfold Fa at this;split at this
   .cases this
   next p1=>
   split at this
   .cases this
   next p2=>
   have e1:AD (BV (Aj c.Aa i).Ap k).1 0 ((c.base.length:Int) - 1)=false:=by
    cases e:AD (BV (Aj c.Aa i).Ap k).1 0 ((c.base.length:Int) - 1)
    .rfl
    exact absurd e p1
   have e2:AD (BV (Aj c.Aa i).Ap k).2 (-4) 4=false:=by
    cases e:AD (BV (Aj c.Aa i).Ap k).2 (-4) 4
    .rfl
    exact absurd (.inr e) p2
   have:=G' e1;have:=G' e2;omega
  over:=SQ hz hs
  left:=fun i hi=>WA (Bj (Bj (Bj (Bj (Qh i hi)).2).2).2).2
  ring:=xA
  now:=h3}
def Fq.uy (h:Fq c):c.now.length=c.Aa.length:=(Fb h.now).1
def S0 (hv:Fq c)(h:Ct c l=0):∀i,i<l.length->-2<=nth l i/\nth l i<=2:=fun i hi=>by
 obtain⟨h1,h2⟩:=Fb h;have:=h2 i hi;have:=hv.step i (by omega);omega
def Ha {s:List (Int×Int)}(h:Fs n s=0):s.length=n/\∀i,i<s.length->0<=(BV s i).1/\(BV s i).1<=99/\0<=(BV s i).2/\(BV s i).2<=99:=by
 unfold Fs at h;split at h
 .cases h
 split at h
 .cases h
 refine⟨by omega,fun i hi=>?_⟩;have:=WB (Ef h i _ (EE hi));omega
def Ve (hs:s<2^n)(hi:i<n):Iv s i<2^n:=
 Zba hs (by rw[Nat.one_shiftLeft];exact Nat.pow_lt_pow_right (by decide) hi)
def pR {o:Nat}(h:∀j,ab j<2^n)(ho:o<n):∀j,Ql ab i o j<2^n:=fun j=>by
 unfold Ql;split
 .exact Zba (h i) (Ve (h o) ho)
 exact h j
def S1 {i n:Nat}:∀(l:List Int) (ab:Nat->Nat),(∀j,ab j<2^n)->(∀x∈l,0<=x/\x<n)->∀j,HJ ab i l j<2^n
 | [],_,h,_=>h
 |x::r,ab,h,hx=>S1 r _ (pR h (by have:=hx x (zC ..);omega)) fun y hy=>hx y (zm _ hy)
def S2 {n:Nat}:∀(l:List Ay) (ab:Nat->Nat) (i:Nat),(∀j,ab j<2^n)->(∀s∈l,∀x∈s.over,0<=x/\x<n)->∀j,K6 ab i l j<2^n
 | [],_,_,h,_=>h
 |s::r,ab,i,h,hx=>S2 r _ (i+1) (S1 s.over ab h (hx s (zC ..))) fun y hy=>hx y (zm _ hy)
def PR {n:Nat}{l:List Ay}(hx:∀s∈l,∀x∈s.over,0<=x/\x<n):∀(k:Nat) (ab:Nat->Nat),(∀j,ab j<2^n)->∀j,G5 ab l k j<2^n
 |0,_,h=>h
 |k+1,ab,h=>PR hx k _ (S2 l ab 0 h hx)
def LH {l:List Ay}(h:JO l):∀j,Ax l j<2^l.length:=
 PR (fun s hs x hx=>by
  obtain⟨i,hi,rfl⟩:=bE hs;obtain⟨k,hk,rfl⟩:=ik hx;exact h.over i hi k hk) _ _ fun _=>Zdz _
def S3 {l:List Ay}(h:JO l):∀j,j<3->Ax l j<8:=fun j _=>
 Zl (LH h j) (show 2^l.length<=2^3 from YX (by decide) h.few)
def JW {ab:Nat->Nat}{now:List Int}{n:Nat}(ha:∀i,ab i<2^n):∀(l:List Int) (k s:Nat),k+l.length<=n->s<2^n->JR ab now k l s<2^n
 | [],_,_,_,h=>h
 |y::r,k,s,hk,h=>by
  have h1:k+(r.length+1)<=n:=hk;refine JW ha r (k+1) _ (by omega) ?_;split
  .exact h
  exact Zba h (Ve (ha k) (by omega))
def N_ (h:t<2^n):∀x,x∈AB t->0<=x/\x<n:=fun x hx=>by
 unfold AB FF at hx;obtain⟨i,hi,rfl⟩:=List.mem_map.1 hx;have hb:=(List.mem_filter.1 hi).2;refine⟨by omega,?_⟩;have:2^i<=t:=Nat.ge_two_pow_of_testBit hb;have:i<n:=by
  refine YQ fun wB=>?_;have:=YX (n:=2) (by decide) (Zdl wB);omega
 omega
def MT (hv:Fq c)(hl:l.length<=c.Aa.length):∀x,x∈AB (Cx (Ax c.Aa) c.now l)->0<=x/\x<c.Aa.length:=
 N_ (JW (LH hv.over) l 0 0 (by omega) (Zdz _))
def Cc (c:A_)(l:List Int):List Int:=(Yr c.base.length).map (measure c l)
def iy (w:Zb)(l:List Int)(e:Int)(en:Ending)(w':Zb):Prop:=∃v,en=.returned (.tuple #[v,J I e])/\Bl w w'/\SI (Cb w.heap.size w') w' v l
def JX (c:A_)(l:List Int):List Int:=if Ca c l=0 then Cc c l else []
def WC:SI S w (U none 0 0) []:=⟨none,0,rfl,Zj _,Zp _,fun i x hx=>by cases hx⟩
def MU (h:i<c.base.length):(Cc c l)[i]?=some (measure c l i):=by
 simp[Cc,h]
def bI {o:Obj}(h:YH (w.alloc o).heap.size (w.alloc o) w'):w.heap.size<w'.heap.size:=by
 have:=h.size;rw[ZB]at this;omega
def kB (l:List Int)(hg:1<=c.base.length/\c.base.length<=3)(W:Zb):SI (fun b=>b=W.heap.size) (W.alloc (.cells #[J I (measure c l 0),J I (measure c l 1),J I (measure c l 2)] 148)) (U (some ⟨W.heap.size,0,none⟩) c.base.length 3) (Cc c l):=by
 have hlen:(Cc c l).length=c.base.length:=by simp[Cc]
 refine⟨some ⟨W.heap.size,0,none⟩,3,by rw[hlen],by omega,by decide,fun i x hx=>?_⟩;have hi:i<c.base.length:=by rw[<-hlen];exact(Zm.1 hx).1
 rw[MU hi]at hx;cases hx;refine⟨W.heap.size,0,[J I (measure c l i)],rfl,rfl,rfl,fun j u hu=>?_,rfl⟩;cases j with
 |zero=>
  cases hu;rw[show 0+i*1+0=i by omega];exact cn W (T4 (measure c l)) 148 (Gt (by omega))
 |succ j=>cases hu
def c45 (h:RC S w v1 v2 v3 v4 v5 c)(hl:SI S w v6 l)(hS:∀b,S b->b<w.heap.size):
  Calls Lp 38 #[.agg #[v1,v2,v3,v4,v5],v6] w (iy w (JX c l) (Ca c l)):=by
 obtain⟨a1,c1,rfl,l1,m1⟩:=h.base.val;obtain⟨a2,c2,rfl,l2,m2⟩:=h.Af.val;obtain⟨a3,c3,rfl,l3,m3⟩:=h.hooks.val;obtain⟨a4,c4,rfl,l4,m4⟩:=h.Aa.val;obtain⟨a5,c5,rfl,l5,m5⟩:=h.now.val;obtain⟨a6,c6,rfl,l6,m6⟩:=hl.val;have IX:=DJ;have Bg:Bl w (w.alloc (.cells #[U a1 c.base.length c1,U a2 c.Af.length c2,U a3 c.hooks.length c3,U a4 c.Aa.length c4,U a5 c.now.length c5] 28)):=(Zh _ _).alloc (Zj _) _;by_cases h0:Ca c l=0
 .obtain⟨Jz,ER⟩:=Bj h0
  have hv:=EG Jz;have HV:=Zd (show JX c l=Cc c l by rw[JX,if_pos h0]);have HA:=Zd h0;obtain⟨UO,_⟩:=Fb ER;have Ie:=Zd (fun W hB=>Rc (w:=W) (h.later hB) (hl.later hB) (A3 hS hB) Jz);rw[ER]at Ie;have kz:=Zd (fun W hB=>ah4 (w:=W) (h.later hB) hv (hl.later hB) (by omega) (S0 hv ER) (A3 hS hB) (Ax c.Aa 0) (Ax c.Aa 1) (Ax c.Aa 2));have hg:=hv.Fp;have n8:(c.base.length:Int)<=3:=by omega
  clear h0 Jz ER UO;go_enter Lp.func45,n45;go_wp2_with (first|(go_at_call 68;refine(Ie.out _ Bg).mono ?_;rintro e w1 ⟨rfl,Bb⟩;have Bv:=Bg.trans (Bb.mono Bg.size))|(go_at_call 69;refine(kz.out _ (bA Bv)).mono ?_;rintro e w2 ⟨rfl,De⟩;obtain⟨NP,MK⟩:=E7 De;have hz:=bI De;have Cj:=(bA (o:=.cells #[J I (measure c l 0),J I (measure c l 1),J I (measure c l 2)] 148) ((bA Bv).trans (De.mono (bA Bv).size)));clear Ie kz)|(go_at_call 27;refine(kt (kB l hg _) (by simp[Cc];omega)).mono ?_;rintro e w3 ⟨v,rfl,DM,oy⟩;have NU:=Cj.trans (DM.mono Cj.size)));go_ret2;exact⟨v,by rw[HA.out];rfl,NU,by rw[HV.out];exact oy.imp (fun b hb=>⟨Zr Cj.size hb.1,hb.2⟩) fun _ _ h=>h⟩
 have HV:=Zd (show JX c l=[] by rw[JX,if_neg h0]);have HA:=Zd h0;have Ie:=Zd (fun W hB=>pF (w:=W) (h.later hB) (hl.later hB) (A3 hS hB));obtain⟨x,hx⟩:∃x,x=Ca c l:=⟨_,rfl⟩;have Oo:x≠0:=by rw[hx];exact h0
 have HX:=Zd hx;clear h0 hx;go_enter Lp.func45,n45;go_wp2_with (go_at_call 68;refine(Ie.out _ Bg).mono ?_;rintro e w1 ⟨q1,q2,q3,q4,q5,n1,n2,n3,n4,n5,d1,d2,d3,d4,d5,k0,k1,k2,rfl,Bb,_⟩;have Bv:=Bg.trans (Bb.mono Bg.size);rw[<-HX.out]);go_ret2;refine⟨U none 0 0,by rw[HX.out];rfl,?_,by rw[HV.out];exact WC⟩
 repeat (with_reducible first|exact Bv|refine bA ?_|(refine bS ?_ (by omega))|refine bD ?_|refine bN ?_)
def Oa (c:A_)(l:List Int)(s:List (Int×Int)):Int:=PM (Ca c l) (Fs c.base.length s)
def Mf (c:A_)(l:List Int)(s:List (Int×Int)):Bool:=if Oa c l s=0 then BZ c l s else false
def c62 {s:List (Int×Int)}(h:RC S w v1 v2 v3 v4 v5 c)(hl:SI S w v6 l)(hs:SP S w v7 s)(hS:∀b,S b->b<w.heap.size):
  Calls Lp 39 #[.agg #[v1,v2,v3,v4,v5],v6,v7] w fun e w'=>e=.returned (.tuple #[.bool (Mf c l s),J I (Oa c l s)])/\Bl w w':=by
 obtain⟨a1,c1,rfl,l1,m1⟩:=h.base.val;obtain⟨a2,c2,rfl,l2,m2⟩:=h.Af.val;obtain⟨a3,c3,rfl,l3,m3⟩:=h.hooks.val;obtain⟨a4,c4,rfl,l4,m4⟩:=h.Aa.val;obtain⟨a5,c5,rfl,l5,m5⟩:=h.now.val;obtain⟨a6,c6,rfl,l6,m6⟩:=hl.val;have IX:=DJ;have Bg:Bl w (w.alloc (.cells #[U a1 c.base.length c1,U a2 c.Af.length c2,U a3 c.hooks.length c3,U a4 c.Aa.length c4,U a5 c.now.length c5] 28)):=(Zh _ _).alloc (Zj _) _;obtain⟨a7,c7,rfl,l7,m7⟩:=hs.val;by_cases h0:Ca c l=0
 .obtain⟨Jz,ER⟩:=Bj h0
  have hv:=EG Jz;have HE:=Zd (show Oa c l s=Fs c.base.length s by rw[Oa,BR h0]);obtain⟨UO,_⟩:=Fb ER;have Ie:=Zd (fun W hB=>Rc (w:=W) (h.later hB) (hl.later hB) (A3 hS hB) Jz);rw[ER]at Ie;have T8:=Zd (fun W hB=>abe (w:=W) (h.later hB) (hs.later hB) (A3 hS hB) (Ax c.Aa 0) (Ax c.Aa 1) (Ax c.Aa 2));by_cases hx:Fs c.base.length s=0
  .obtain⟨hsn,il⟩:=Ha hx
   rw[hx]at T8;have HV:=Zd (show Mf c l s=BZ c l s by rw[Mf,HE.out,if_pos hx]);have HX:=Zd hx;have ao1:=Zd (fun W hB=>aha (w:=W) (h.later hB) hv (hl.later hB) (hs.later hB) (by omega) (S0 hv ER) (by omega) il (A3 hS hB) (Ax c.Aa 0) (Ax c.Aa 1) (Ax c.Aa 2));clear h0 Jz ER UO hx hsn il;go_enter Lp.func62,n62;go_wp2_with (first|(go_at_call 68;refine(Ie.out _ Bg).mono ?_;rintro e w1 ⟨rfl,Bb⟩;have Bv:=Bg.trans (Bb.mono Bg.size))|(go_at_call 22;refine(T8.out _ (bA Bv)).mono ?_;rintro e w2 ⟨rfl,De⟩;obtain⟨NP,MK⟩:=E7 De;have hz:=bI De;have Cj:=(bA Bv).trans (De.mono (bA Bv).size))|(go_at_call 59;refine(ao1.out _ Cj).mono ?_;rintro e w3 ⟨rfl,DM⟩;have NU:=Cj.trans (DM.mono Cj.size)));go_ret2;exact⟨by rw[HV.out,HE.out,HX.out];rfl,NU⟩
  have HV:=Zd (show Mf c l s=false by rw[Mf,HE.out,if_neg hx]);obtain⟨x,lV⟩:∃x,x=Fs c.base.length s:=⟨_,rfl⟩;rw[<-lV]at T8 HE hx;clear h0 Jz ER UO lV;go_enter Lp.func62,n62;go_wp2_with (first|(go_at_call 68;refine(Ie.out _ Bg).mono ?_;rintro e w1 ⟨rfl,Bb⟩;have Bv:=Bg.trans (Bb.mono Bg.size))|(go_at_call 22;refine(T8.out _ (bA Bv)).mono ?_;rintro e w2 ⟨rfl,De⟩;obtain⟨NP,MK⟩:=E7 De;have hz:=bI De;have Cj:=(bA Bv).trans (De.mono (bA Bv).size)));go_ret2;exact⟨by rw[HV.out,HE.out];rfl,Cj⟩
 have HE:=Zd (show Oa c l s=Ca c l by rw[Oa,K4 h0]);have HV:=Zd (show Mf c l s=false by rw[Mf,HE.out,if_neg h0]);have Ie:=Zd (fun W hB=>pF (w:=W) (h.later hB) (hl.later hB) (A3 hS hB));obtain⟨x,hx⟩:∃x,x=Ca c l:=⟨_,rfl⟩;have Oo:x≠0:=by rw[hx];exact h0
 have HX:=Zd hx;clear h0 hx;go_enter Lp.func62,n62;go_wp2_with (go_at_call 68;refine(Ie.out _ Bg).mono ?_;rintro e w1 ⟨q1,q2,q3,q4,q5,n1,n2,n3,n4,n5,d1,d2,d3,d4,d5,k0,k1,k2,rfl,Bb,_⟩;have Bv:=Bg.trans (Bb.mono Bg.size);rw[<-HX.out]);go_ret2;refine⟨by rw[HV.out,HE.out,HX.out];rfl,?_⟩
 repeat (with_reducible first|exact Bv|refine bA ?_|(refine bS ?_ (by omega))|refine bD ?_|refine bN ?_)
def DS (c:A_)(l:List Int):Nat:=Cx (Ax c.Aa) c.now l
def Eg (c:A_)(l:List Int):Int:=PM (Ca c l) (if JU c (DS c l)=none then 0 else 12)
def ahd (w:Zb)(v1 v2 v3 v4 v5:Zf)(c:A_)(l:List Int)(e:Ending)(w':Zb):Prop:=
 ∃(g:Array Zf) (t:Nat),e=.returned (.tuple #[.agg g,J .u8 t,J I (Eg c l)])/\Bl w w'/\(Eg c l=0->g=AW v1 v2 v3 v4 v5 (Ax c.Aa)/\t=DS c l)/\(Eg c l≠0->g= #[U none 0 0,U none 0 0,U none 0 0,U none 0 0,U none 0 0,J .u8 0,J .u8 0,J .u8 0]/\t=0)
def K_ {fn:Func}{p u x:Tmp}(h:fn.results= #[.cell p ty,.tmp u,.tmp x])(tmps:Array Zf)(P:Zo)(w:Zb):
  (results fn tmps).run P w=((asAddr (tmps.getD p Ze)).run P w).andThen fun a w₁=>((Zdd ty a).run P w₁).andThen fun v w₂=>.ok (.tuple #[v,tmps.getD u Ze,tmps.getD x Ze]) w₂:=by
 simp only[results,h];simp[zg,zu]
def ao2 (h:RC S w v1 v2 v3 v4 v5 c)(hl:SI S w v6 l)(hS:∀b,S b->b<w.heap.size):
  Calls Lp 64 #[.agg #[v1,v2,v3,v4,v5],v6] w (ahd w v1 v2 v3 v4 v5 c l):=by
 obtain⟨a1,c1,rfl,l1,m1⟩:=h.base.val;obtain⟨a2,c2,rfl,l2,m2⟩:=h.Af.val;obtain⟨a3,c3,rfl,l3,m3⟩:=h.hooks.val;obtain⟨a4,c4,rfl,l4,m4⟩:=h.Aa.val;obtain⟨a5,c5,rfl,l5,m5⟩:=h.now.val;obtain⟨a6,c6,rfl,l6,m6⟩:=hl.val;have IX:=DJ;have Bg:Bl w (w.alloc (.cells #[U a1 c.base.length c1,U a2 c.Af.length c2,U a3 c.hooks.length c3,U a4 c.Aa.length c4,U a5 c.now.length c5] 28)):=(Zh _ _).alloc (Zj _) _;by_cases h0:Ca c l=0
 .obtain⟨Jz,ER⟩:=Bj h0
  have hv:=EG Jz;have HE:=Zd (show Eg c l=if JU c (DS c l)=none then 0 else 12 by rw[Eg,BR h0]);obtain⟨UO,_⟩:=Fb ER;have uz:=hv.uy;have hfw:=hv.few;have Ie:=Zd (fun W hB=>Rc (w:=W) (h.later hB) (hl.later hB) (A3 hS hB) Jz);rw[ER]at Ie;have M_:=Zd (fun W hB=>c90 (w:=W) (h.later hB) (hl.later hB) (by omega) (by omega) (S3 hv.over) (MT hv (by omega)) (A3 hS hB));change Hid (∀(W:Zb) (hB:Bl w W),Calls Lp 62 _ _ fun e w'=>e=.returned (uv (DS c l) (JU c (DS c l)))/\Bl W w') at M_;cases hx:JU c (DS c l) with
  |none=>
   rw[hx]at M_;have HX:=Zd (show Eg c l=0 by rw[HE.out,if_pos hx]);obtain⟨t,ht⟩:∃t,t=DS c l:=⟨_,rfl⟩;rw[<-ht]at M_;change Hid (∀(W:Zb) (hB:Bl w W),Calls Lp 62 _ _ fun e w'=>e=.returned (.tuple #[J .u8 t,.nilIface])/\Bl W w') at M_;have HT:=Zd ht;clear h0 Jz ER UO uz hfw hx ht;go_enter Lp.func119,ab6;go_wp2_with (first|(go_at_call 68;refine(Ie.out _ (bA Bg)).mono ?_;rintro e w1 ⟨rfl,Bb⟩;have Bv:=(bA Bg).trans (Bb.mono (bA Bg).size);obtain⟨Fl,DR⟩:=bw Bb;obtain⟨L6,xr⟩:=E7 Bb)|(go_at_call 62;refine(M_.out _ (bA Bv)).mono ?_;rintro e w2 ⟨rfl,De⟩;obtain⟨NP,MK⟩:=E7 De;have hz:=bI De;have Cj:=(bA Bv).trans (De.mono (bA Bv).size)));refine ZN (v:=.tuple #[.agg #[U a1 c.base.length c1,U a2 c.Af.length c2,U a3 c.hooks.length c3,U a4 c.Aa.length c4,U a5 c.now.length c5,J .u8 (Ax c.Aa 0),J .u8 (Ax c.Aa 1),J .u8 (Ax c.Aa 2)],J .u8 t,J I 0]) (by rw[K_ rfl];go_simp) rfl ?_;refine⟨AW (U a1 c.base.length c1) (U a2 c.Af.length c2) (U a3 c.hooks.length c3) (U a4 c.Aa.length c4) (U a5 c.now.length c5) (Ax c.Aa),t,by rw[HX.out];rfl,?_,fun _=>⟨rfl,HT.out⟩,fun x=>absurd HX.out x⟩
   repeat (with_reducible first|exact Cj|refine bA ?_|(refine bS ?_ (by omega))|refine bD ?_|refine bN ?_)
  |some x=>
   rw[hx]at M_;have HX:=Zd (show Eg c l=12 by rw[HE.out,if_neg (by rw[hx];simp)]);obtain⟨t,ht⟩:∃t,t=DS c l:=⟨_,rfl⟩;rw[<-ht]at M_;change Hid (∀(W:Zb) (hB:Bl w W),Calls Lp 62 _ _ fun e w'=>e=.returned (.tuple #[J .u8 0,.iface 152 (.agg #[J I x])])/\Bl W w') at M_;clear h0 Jz ER UO uz hfw hx ht;go_enter Lp.func119,ab6;go_wp2_with (first|(go_at_call 68;refine(Ie.out _ (bA Bg)).mono ?_;rintro e w1 ⟨rfl,Bb⟩;have Bv:=(bA Bg).trans (Bb.mono (bA Bg).size);obtain⟨Fl,DR⟩:=bw Bb;obtain⟨L6,xr⟩:=E7 Bb)|(go_at_call 62;refine(M_.out _ (bA Bv)).mono ?_;rintro e w2 ⟨rfl,De⟩;obtain⟨NP,MK⟩:=E7 De;have hz:=bI De;have Cj:=(bA Bv).trans (De.mono (bA Bv).size)));refine ZN (v:=.tuple #[.agg #[U none 0 0,U none 0 0,U none 0 0,U none 0 0,U none 0 0,J .u8 0,J .u8 0,J .u8 0],J .u8 0,J I 12]) (by rw[K_ rfl];go_simp) rfl ?_;refine⟨#[U none 0 0,U none 0 0,U none 0 0,U none 0 0,U none 0 0,J .u8 0,J .u8 0,J .u8 0],0,by rw[HX.out];rfl,?_,fun y=>absurd (HX.out.symm.trans y) (by decide),fun _=>⟨rfl,rfl⟩⟩
   repeat (with_reducible first|exact Cj|refine bA ?_|(refine bS ?_ (by omega))|refine bD ?_|refine bN ?_)
 have HE:=Zd (show Eg c l=Ca c l by rw[Eg,K4 h0]);have Ie:=Zd (fun W hB=>pF (w:=W) (h.later hB) (hl.later hB) (A3 hS hB));obtain⟨x,hx⟩:∃x,x=Ca c l:=⟨_,rfl⟩;have Oo:x≠0:=by rw[hx];exact h0
 have HX:=Zd hx;clear h0 hx;go_enter Lp.func119,ab6;go_wp2_with (go_at_call 68;refine(Ie.out _ (bA Bg)).mono ?_;rintro e w1 ⟨q1,q2,q3,q4,q5,n1,n2,n3,n4,n5,d1,d2,d3,d4,d5,k0,k1,k2,rfl,Bb,_⟩;have Bv:=(bA Bg).trans (Bb.mono (bA Bg).size);rw[<-HX.out];obtain⟨NP,MK⟩:=E7 Bb;obtain⟨Fl,DR⟩:=bw Bb);refine ZN (v:=.tuple #[.agg #[U none 0 0,U none 0 0,U none 0 0,U none 0 0,U none 0 0,J .u8 0,J .u8 0,J .u8 0],J .u8 0,J I x]) (by rw[K_ rfl];go_simp) rfl ?_;refine⟨#[U none 0 0,U none 0 0,U none 0 0,U none 0 0,U none 0 0,J .u8 0,J .u8 0,J .u8 0],0,by rw[HE.out, <-HX.out];rfl,?_,fun y=>absurd ((HX.out.trans HE.out.symm).trans y) Oo,fun _=>⟨rfl,rfl⟩⟩
 repeat (with_reducible first|exact Bv|refine bA ?_|(refine bS ?_ (by omega))|refine bD ?_|refine bN ?_)
def La (ab:Nat->Nat)(t d:Nat)(i:Int):Bool:= !hasB d i.toNat&&(AB t).all fun b=> !(hasB (ab b.toNat) i.toNat&& !hasB d b.toNat)
def IQ (ab:Nat->Nat)(t:Nat):Nat->List Int->Nat->Option (List Int)
 |f,o,d=>if o.length<(AB t).length then(match f with
   |0=>none
   |f+1=>match(AB t).find? (La ab t d) with
    |none=>none
    |some i=>IQ ab t f (o++ [i]) (Iv d i.toNat)) else some o
def WE (c:A_)(l:List Int):Option (List Int):=IQ (Ax c.Aa) (DS c l) 3 [] 0
def MV (c:A_)(l:List Int):List Int:=if Eg c l=0 then(WE c l).getD [] else []
def pS {f:Int->Bool}(h:k<l.length):(l.drop k).all f=(f (nth l k)&&(l.drop (k+1)).all f):=by
 obtain⟨hk,e⟩:=Zm.1 (Bn h);rw[ZO hk,e,Zbs]
def kC {f:Nat}{o:List Int}(h:IQ ab t f o d=some L)(hl:o.length<(AB t).length):
  ∃f' i,f=f'+1/\(AB t).find? (La ab t d)=some i/\IQ ab t f' (o++ [i]) (Iv d i.toNat)=some L:=by
 unfold IQ at h;rw[if_pos hl]at h;cases f with
 |zero=>cases h
 |succ f=>
  simp only at h;cases e:(AB t).find? (La ab t d) with
  |none=>rw[e]at h;cases h
  |some i=>rw[e]at h;exact⟨f,i,rfl,rfl,h⟩
def eK {f:Nat}{o:List Int}(h:IQ ab t f o d=some L)(hl:¬o.length<(AB t).length):o=L:=by
 unfold IQ at h;rw[if_neg hl]at h;cases h
 rfl
def c54 (h:RC S w v1 v2 v3 v4 v5 c)(hl:SI S w v6 l)(hS:∀b,S b->b<w.heap.size)(hgo:Eg c l=0->∃L,WE c l=some L):
  Calls Lp 41 #[.agg #[v1,v2,v3,v4,v5],v6] w (iy w (MV c l) (Eg c l)):=by
 obtain⟨a1,c1,rfl,l1,m1⟩:=h.base.val;obtain⟨a2,c2,rfl,l2,m2⟩:=h.Af.val;obtain⟨a3,c3,rfl,l3,m3⟩:=h.hooks.val;obtain⟨a4,c4,rfl,l4,m4⟩:=h.Aa.val;obtain⟨a5,c5,rfl,l5,m5⟩:=h.now.val;obtain⟨a6,c6,rfl,l6,m6⟩:=hl.val;obtain⟨i0,hi,Fl,DR,EB⟩:=zp KY;have hu:=Cz YE;have IX:=DJ;have Bg:Bl w (w.alloc (.cells #[U a1 c.base.length c1,U a2 c.Af.length c2,U a3 c.hooks.length c3,U a4 c.Aa.length c4,U a5 c.now.length c5] 28)):=(Zh _ _).alloc (Zj _) _;have ahe:=Zd (fun W hB=>ao2 (w:=W) (h.later hB) (hl.later hB) (A3 hS hB));by_cases h0:Eg c l=0
 .obtain⟨L,hL⟩:=hgo h0
  have HV:=Zd (show MV c l=L by rw[MV,if_pos h0,hL];rfl);have HR:=Zd h0;obtain⟨ha0,_⟩:=Bj h0;obtain⟨Jz,ER⟩:=Bj ha0;have hv:=EG Jz;have hn:l.length<=c.Aa.length:=by have:=(Fb ER).1;omega
  have HS:=Zd (MT hv hn);have pT:=S3 hv.over;have pK:DS c l<8:=U9 pT (by have:=hv.few;omega);obtain⟨t,ht⟩:∃t,t=DS c l:=⟨_,rfl⟩;have HS2:∀x,x∈AB t->0<=x/\x<(3:Int):=N_ (n:=3) (by rw[ht];exact pK);have HL:=Zd (show IQ (Ax c.Aa) t 3 [] 0=some L by rw[ht];exact hL);rw[<-ht]at pK;have HT:=Zd ht;have hle:(AB t).length<=3:=Jo t 3;obtain⟨ab,DU⟩:∃ab,ab=Ax c.Aa:=⟨_,rfl⟩;have mG:=Zd DU;rw[<-DU]at HL pT;clear h0 hL ha0 Jz ER ht DU hv hn hgo;go_enter Lp.func54,n54;go_wp2;go_step3;go_wp2_with (first|(go_at_call 64;refine(ahe.out _ Bg).mono ?_;rintro e w1 ⟨g,t',rfl,Bb,MF,mH⟩;obtain⟨rfl,rfl⟩:=MF HR.out;clear MF mH;have Bv:=Bg.trans (Bb.mono Bg.size);rw[HR.out, <-HT.out, <-mG.out];simp only[AW])|(go_at_call 65;refine(abf pK).mono ?_;rintro e w2 ⟨v,rfl,De,hv,_⟩;have Rk:=(De.block _ (by simp)).trans (Bp _ _);have Cj:=(bA Bv).trans (De.mono (bA Bv).size);obtain⟨a7,c7,rfl,l7,m7⟩:=hv.val));go_step3;go_wp2;have nj:=Za.1 Rk|>.1;go_loopg [9,10] 3 (fun g v x wr=>∃(f:Nat) (o:List Int) (d:Nat),IQ ab t f o d=some L/\f+o.length=3/\g=f/\x=.int .u8 d/\d<8/\wr.ownsRow w2.heap.size 3 1 v o.length (o.map (ZL I))/\Bl w2 wr)
  case atStart=>exact⟨3,[],0,HL.out,rfl,rfl,rfl,by omega,zq _ _ _ _,Zh _ _⟩
  obtain⟨f,o,d,CP,hfo,rfl,rfl,hd8,AX,Jp⟩:=hrel;have hf:=Zd CP;clear CP;obtain⟨a8,c8,hv8,l8,m8,_⟩:=JS AX;subst hv8;by_cases Az:o.length<(AB t).length
  .obtain⟨f',x,rfl,ahg,pU⟩:=kC hf.out Az
   have B_:=Zd ahg;have Py:=Zd pU;clear ahg pU;have S4:=(Jp.block _ nj).trans Rk;have abm:=Zd (fun s i (hs:s<8) (hi:i<3) W=>ab8 s i hs hi W);go_wp2;go_step3;go_wp2;go_step3;go_wp2;go_loopg [9,10,35] (AB t).length (fun g v9 v10 i wx=>∃k:Nat,k<=(AB t).length/\g=(AB t).length - k/\i=.int I k/\v9=.slice a8 o.length c8/\v10=.int .u8 d/\((AB t).drop k).find? (La ab t d)=some x/\wx=wr)
   case atStart=>exact⟨0,Zp _,rfl,rfl,rfl,rfl,B_.out,rfl⟩
   obtain⟨k,hk,rfl,rfl,rfl,rfl,CP,rfl⟩:=hrel;have MK:=Zd CP;clear CP;by_cases G4:k<(AB t).length
   .obtain⟨b,o1,rfl,hb,hc⟩:=hv.at_ G4
    have GK:b<w2.heap.size:=hb.2;rw[<-Jp.cell (p:=⟨b,o1+k,none⟩) GK]at hc;have hfd:=Zd (U_ (f:=La ab t d) G4);obtain⟨he0,he3⟩:=HS2 _ (Rd G4);obtain⟨y,hy⟩:∃y:Nat,nth (AB t) k=y:=⟨(nth (AB t) k).toNat,by omega⟩;rw[hy]at hc hfd he0 he3;have HY:=Zd hy;clear hy;have hy3:y<3:=by omega
    have hyi:(y:Int)<3:=by omega
    by_cases hdy:hasB d y=true
    .have rG:La ab t d (y:Int)=false:=by simp[La,hdy]
     have HFR:=Zd rG;clear rG;go_wp2_with (go_at_call 70;refine(abm.out d y hd8 hy3 _).mono ?_;rintro e w' ⟨rfl,rfl⟩);go_roundg ((AB t).length - (k+1))
     case rel=>exact⟨k+1,by omega,rfl,by go_num,rfl,rfl,by rw[<-MK.out,hfd.out,HFR.out];rfl,rfl⟩
     omega
    have ao3:hasB d y=false:=by simpa using hdy
    clear hdy;go_wp2_with (go_at_call 70;refine(abm.out d y hd8 hy3 _).mono ?_;rintro e w' ⟨rfl,uA⟩;obtain rfl:=uA.symm;clear uA);go_loopg [44] (AB t).length (fun g i wx=>∃m:Nat,m<=(AB t).length/\g=(AB t).length - m/\i=.int I m/\(((AB t).drop m).all fun b=> !(hasB (ab b.toNat) (y:Int).toNat&& !hasB d b.toNat))=La ab t d (y:Int)/\wx=wr)
    case atStart=>exact⟨0,Zp _,rfl,rfl,by simp[La,ao3],rfl⟩
    obtain⟨m,hm,rfl,rfl,CP,rfl⟩:=hrel;have cK:=Zd CP;clear CP;by_cases ey:m<(AB t).length
    .obtain⟨b',o2,e',G1,OJ⟩:=hv.at_ ey
     cases e';rw[<-Jp.cell (p:=⟨b,o1+m,none⟩) GK]at OJ;have had:=Zd (pS (f:=fun b=> !(hasB (ab b.toNat) (y:Int).toNat&& !hasB d b.toNat)) ey);obtain⟨eL,ao4⟩:=HS2 _ (Rd ey);obtain⟨z,hz⟩:∃z:Nat,nth (AB t) m=z:=⟨(nth (AB t) m).toNat,by omega⟩;rw[hz]at OJ had eL ao4;clear hz;have Rb:z<3:=by omega
     have hzi:(z:Int)<3:=by omega
     have DU:=pT z Rb;have gz:=ch S4 (HN Rb);go_wp2_with (go_at_call 70;refine(abm.out _ _ (by assumption) (by assumption) _).mono ?_;rintro e w' ⟨rfl,uA⟩;obtain rfl:=uA.symm;clear uA)
     .have q1:hasB (ab z) y=true:=by assumption
      have q2':(!hasB d z)=true:=by assumption
      have q2:hasB d z=false:=by simpa using q2'
      have e4:La ab t d (y:Int)=false:=by rw[<-cK.out,had.out];simp[q1,q2]
      go_roundg ((AB t).length - (k+1))
      case rel=>exact⟨k+1,by omega,rfl,by go_num,rfl,rfl,by rw[<-MK.out,hfd.out,e4];rfl,rfl⟩
      omega
     .have q2':(!hasB d z)=false:=by assumption
      have q2:hasB d z=true:=by simpa using q2'
      go_roundg ((AB t).length - (m+1))
      case rel=>exact⟨m+1,by omega,rfl,by go_num,by rw[<-cK.out,had.out];simp[q2],rfl⟩
      omega
     have q1':¬hasB (ab z) y=true:=by assumption
     have q1:hasB (ab z) y=false:=by simpa using q1'
     go_roundg ((AB t).length - (m+1))
     case rel=>exact⟨m+1,by omega,rfl,by go_num,by rw[<-cK.out,had.out];simp[q1],rfl⟩
     omega
    have e2:La ab t d (y:Int)=true:=by rw[<-cK.out,Z7.2 (by omega)];rfl
    have e3:(y:Int)=x:=by
     have:=MK.out;rw[hfd.out,if_pos e2]at this;exact ZW this
    subst e3;clear e2;have yU:IQ ab t f' (o++ [(y:Int)]) (Iv d y)=some L:=Py.out;have Py:=Zd yU;have ao6:=Jp.size;clear yU cK;have awp:o.length<=3:=by omega
    go_wp2_with (first|(go_at_call 67;refine(ab9 d y hd8 hy3 _).mono ?_;rintro e w' ⟨rfl,uA⟩;obtain rfl:=uA.symm;clear uA)|(at_builtin;refine Yc _ rfl _ _ 22 rfl w2.heap.size 3 i0 (J I 0) 1 8 hu (Dz hi) Fl DR EB rfl (by decide) _ _ _ rfl (AX.alloc _) ⟨_,0,none⟩ 1 1 [J I y] rfl rfl (by intro j u hj;match j,hj with|0,hj=>(simp at hj;subst hj;simp[Zcu])) (by intro u hu;simp at hu;subst hu;rfl) (by unfold maxLen;omega) (by omega) (by simp;omega) ?_;intro v' w9 Bi AG Gc));have hg:(wr.alloc (.cells #[J I y] 3)).grownBy w9 (Zy a8 o.length c8).ownBlock:=AG;have Jx:Bl w2 w9:=Bm (Jp.alloc ao6 _) hg (fun k hk=>(AX.lt k hk).1) (by simp;omega);have Cm:w9.ownsRow w2.heap.size 3 1 v' (o++ [(y:Int)]).length ((o++ [(y:Int)]).map (ZL I)):=by simpa using Bi
    clear AG hg Gc Bi;rw[Exit.noGoto_exit];go_wp2;go_roundg f'
    case rel=>exact⟨f',o++ [(y:Int)],Iv d y,Py.out,by simp;omega,rfl,rfl,Jl hd8 hy3,Cm,Jx⟩
    omega
   exact absurd MK.out (by rw[Z7.2 (by omega)];simp)
  have e1:=Zd (eK hf.out Az);clear hf;have S4:=(Jp.block _ nj).trans Rk;have hsi:=eC AX;have DM:=Cj.trans (Jp.mono Cj.size);have D':=Cj.size;go_wp2;rw[Exit.noGoto_ret];go_ret2;exact⟨U a8 o.length c8,by rw[HR.out];rfl,DM,by rw[HV.out, <-e1.out];exact hsi.imp (fun b hb=>⟨Zr D' hb.1,hb.2⟩) fun _ _ h=>h⟩
 obtain⟨x,hx⟩:∃x,x=Eg c l:=⟨_,rfl⟩;have Oo:x≠0:=by rw[hx];exact h0
 have HX:=Zd hx;have HV:=Zd (show MV c l=[] by rw[MV,if_neg h0]);clear hx h0 hgo;go_enter Lp.func54,n54;go_wp2;go_step3;go_wp2_with (go_at_call 64;refine(ahe.out _ Bg).mono ?_;rintro e w1 ⟨g,t',rfl,Bb,MF,mH⟩;obtain⟨rfl,rfl⟩:=mH (by rw[<-HX.out];exact Oo);clear MF mH;have Bv:=Bg.trans (Bb.mono Bg.size);rw[<-HX.out]);rw[Exit.noGoto_ret];go_ret2;refine⟨U none 0 0,by rw[HX.out];rfl,?_,by rw[HV.out];exact WC⟩
 repeat (with_reducible first|exact Bv|refine bA ?_|(refine bS ?_ (by omega))|refine bD ?_|refine bN ?_)
def NA (m q b:Nat):Prop:=m<=b/\b<q
def NB (q:Nat)(w:Zb)(b:Nat):Prop:=q<b/\b<w.heap.size
structure CW (S:Nat->Prop)(w:Zb)(m q cap:Nat)(u1 u2 u3 u5:Zf)(c:A_)(k:Nat)(cur:Array Zf)(wr:Zb):Prop where
 below:Bl w wr
 res:wr.heap[w.heap.size+1]?=some (.cells #[U none 0 0,U none 0 0,U none 0 0,U none 0 0,U none 0 0] 28 (0,0))
 box:wr.heap[w.heap.size+1+1]?=some (.cells #[u1,u2,u3,U (some ⟨q,0,none⟩) c.Aa.length cap,u5] 28 (0,0))
 base:SI (NA m q) wr u1 c.base
 Af:SP (NA m q) wr u2 c.Af
 hooks:SI (NA m q) wr u3 c.hooks
 now:SI (NA m q) wr u5 c.now
 arr:wr.heap[q]?=some (.cells cur 53 (0,0))
 at_:∀i,i<c.Aa.length->∃v2 v3,cur[i*5]?=some (J I (Aj c.Aa i).low)/\cur[i*5+1]?=some (J I (Aj c.Aa i).high)/\cur[i*5+2]?=some v2/\cur[i*5+3]?=some v3/\cur[i*5+4]?=some (J I (Aj c.Aa i).left)/\
  ((i<k/\SP (NB q wr) wr v2 (Aj c.Aa i).Ap/\SI (NB q wr) wr v3 (Aj c.Aa i).over)\/(k<=i/\SP S w v2 (Aj c.Aa i).Ap/\SI S w v3 (Aj c.Aa i).over))
def B3.same {wr:Zb}(h:B3 q wr W)(hT:∀b,T b->b≠q):CE T wr W:=fun b hb hl=>h.block b hl (hT b hb)
def NB.mono (h:w.heap.size<=W.heap.size)(hb:NB q w b):NB q W b:=⟨hb.1,Zl hb.2 h⟩
def CW.later {wr:Zb}{m:Nat}{u3:Zf}(h:CW S w m q cap u1 u2 u3 u5 c k cur wr)(hB:Bl wr W):CW S w m q cap u1 u2 u3 u5 c k cur W:=
 {below:=h.below.trans (hB.mono h.below.size),res:=(hB.block _ (Za.1 h.res).1).trans h.res,box:=(hB.block _ (Za.1 h.box).1).trans h.box,base:=h.base.later hB,Af:=h.Af.later hB,hooks:=h.hooks.later hB,now:=h.now.later hB,arr:=(hB.block _ (Za.1 h.arr).1).trans h.arr,at_:=fun i hi=>by
   obtain⟨v2,v3,e0,e1,e2,e3,e4,hx⟩:=h.at_ i hi;refine⟨v2,v3,e0,e1,e2,e3,e4,?_⟩;rcases hx with⟨hk,x2,x3⟩|hx
   .exact .inl ⟨hk,(x2.later hB).imp (fun b hb=>hb.mono hB.size) (fun _ _ x=>x),(x3.later hB).imp (fun b hb=>hb.mono hB.size) (fun _ _ x=>x)⟩
   exact .inr hx}
def CW.next {wr:Zb}{m:Nat}{u3 v2' v3':Zf}(h:CW S w m q cap u1 u2 u3 u5 c k cur wr)(hk:k<c.Aa.length)(hB:B3 q wr W)(hq:w.heap.size+1+1<q)
 (ha:W.heap[q]?=some (.cells ((cur.setIfInBounds (k*5+2) v2').setIfInBounds (k*5+3) v3') 53 (0,0))) (h2:SP (NB q W) W v2' (Aj c.Aa k).Ap) (h3:SI (NB q W) W v3' (Aj c.Aa k).over):
  CW S w m q cap u1 u2 u3 u5 c (k+1) ((cur.setIfInBounds (k*5+2) v2').setIfInBounds (k*5+3) v3') W:=by
 have D':=h.below.size;have hwq:∀b,NA m q b->b≠q:=fun b hb e=>by have:=hb.2;omega
 refine {below:=⟨hB.os.trans h.below.os,hB.tape.trans h.below.tape,hB.output.trans h.below.output,Zr h.below.size hB.size,fun b hb=>(hB.block b (by omega) (by omega)).trans (h.below.block b hb)⟩,res:=(hB.block _ (Za.1 h.res).1 (by omega)).trans h.res,box:=(hB.block _ (Za.1 h.box).1 (by omega)).trans h.box,base:=h.base.Ar (hB.same hwq),Af:=h.Af.Ar (hB.same hwq),hooks:=h.hooks.Ar (hB.same hwq),now:=h.now.Ar (hB.same hwq),arr:=ha,at_:=fun i hi=>?_};obtain⟨v2,v3,e0,e1,e2,e3,e4,hx⟩:=h.at_ i hi;have z2:=(Za.1 e2).1;have z3:=(Za.1 e3).1;by_cases uB:i=k
 .subst uB
  refine⟨v2',v3',?_,?_,?_,?_,?_,.inl ⟨by omega,h2,h3⟩⟩
  .rw[Zk (by omega),Zk (by omega)];exact e0
  .rw[Zk (by omega),Zk (by omega)];exact e1
  .rw[Zk (by omega),ZV z2]
  .rw[ZV (by simpa using z3)]
  rw[Zk (by omega),Zk (by omega)];exact e4
 refine⟨v2,v3,?_,?_,?_,?_,?_,?_⟩
 .rw[Zk (by omega),Zk (by omega)];exact e0
 .rw[Zk (by omega),Zk (by omega)];exact e1
 .rw[Zk (by omega),Zk (by omega)];exact e2
 .rw[Zk (by omega),Zk (by omega)];exact e3
 .rw[Zk (by omega),Zk (by omega)];exact e4
 rcases hx with⟨Kh,x2,x3⟩|⟨Kh,hx⟩
 .have hs:CE (NB q wr) wr W:=hB.same (fun b hb e=>by have:=hb.1;omega)
  exact .inl ⟨by omega,(x2.Ar hs).imp (fun b hb=>hb.mono hB.size) (fun _ _ x=>x),(x3.Ar hs).imp (fun b hb=>hb.mono hB.size) (fun _ _ x=>x)⟩
 exact .inr ⟨by omega,hx⟩
def RC.imp (h:RC S w v1 v2 v3 v4 v5 c)(hs:∀b,S b->T b):RC T w v1 v2 v3 v4 v5 c:=
 ⟨h.base.imp hs fun _ _ x=>x,h.Af.imp hs fun _ _ x=>x,h.hooks.imp hs fun _ _ x=>x,Sl.imp h.Aa hs fun _ _ ⟨v2,v3,e,x2,x3⟩=>⟨v2,v3,e,x2.imp hs fun _ _ x=>x,x3.imp hs fun _ _ x=>x⟩,h.now.imp hs fun _ _ x=>x⟩
def NR (q r b:Nat):Prop:=q<b/\b<r
structure CD (wr:Zb)(m q r cap:Nat)(u1 u2 u3:Zf)(c:A_)(cur:Array Zf):Prop where
 base:SI (NA m q) wr u1 c.base
 Af:SP (NA m q) wr u2 c.Af
 hooks:SI (NA m q) wr u3 c.hooks
 arr:wr.heap[q]?=some (.cells cur 53 (0,0))
 at_:∀i,i<c.Aa.length->∃v2 v3,cur[i*5]?=some (J I (Aj c.Aa i).low)/\cur[i*5+1]?=some (J I (Aj c.Aa i).high)/\cur[i*5+2]?=some v2/\cur[i*5+3]?=some v3/\cur[i*5+4]?=some (J I (Aj c.Aa i).left)/\
  SP (NR q r) wr v2 (Aj c.Aa i).Ap/\SI (NR q r) wr v3 (Aj c.Aa i).over
 pV:c.Aa.length<=cap
 bJ:cap<=maxLen
 mq:m<=q
 qr:q<r
 rw_:r<=wr.heap.size
def CW.cd {wr:Zb}{m:Nat}{u3:Zf}(h:CW S w m q cap u1 u2 u3 u5 c c.Aa.length cur wr)(h1:c.Aa.length<=cap)(h2:cap<=maxLen)(pW:m<=q):CD wr m q wr.heap.size cap u1 u2 u3 c cur:=
 ⟨h.base,h.Af,h.hooks,h.arr,fun i hi=>by
  obtain⟨v2,v3,e0,e1,e2,e3,e4,hx⟩:=h.at_ i hi;exact⟨v2,v3,e0,e1,e2,e3,e4,(hx.resolve_right (fun z=>absurd z.1 (by omega))).2⟩,h1,h2,pW,(Za.1 h.arr).1,Zj _⟩
def CD.Ar {wr:Zb}{m r:Nat}{u3:Zf}(h:CD wr m q r cap u1 u2 u3 c cur)(hB:B3 b wr W)(hb:b<m\/r<=b):CD W m q r cap u1 u2 u3 c cur:=by
 have pW:=h.mq;have kD:=h.qr;have hA:CE (NA m q) wr W:=hB.same (fun x hx e=>by have:=hx.1;have:=hx.2;omega);have hN:CE (NR q r) wr W:=hB.same (fun x hx e=>by have:=hx.1;have:=hx.2;omega);refine⟨h.base.Ar hA,h.Af.Ar hA,h.hooks.Ar hA,(hB.block q (Za.1 h.arr).1 (by omega)).trans h.arr,fun i hi=>?_,h.pV,h.bJ,h.mq,h.qr,Zr h.rw_ hB.size⟩;obtain⟨v2,v3,e0,e1,e2,e3,e4,x2,x3⟩:=h.at_ i hi;exact⟨v2,v3,e0,e1,e2,e3,e4,x2.Ar hN,x3.Ar hN⟩
def CD.later {wr:Zb}{m r:Nat}{u3:Zf}(h:CD wr m q r cap u1 u2 u3 c cur)(hB:Bl wr W):CD W m q r cap u1 u2 u3 c cur:=by
 refine⟨h.base.later hB,h.Af.later hB,h.hooks.later hB,(hB.block q (Za.1 h.arr).1).trans h.arr,fun i hi=>?_,h.pV,h.bJ,h.mq,h.qr,Zr h.rw_ hB.size⟩;obtain⟨v2,v3,e0,e1,e2,e3,e4,x2,x3⟩:=h.at_ i hi;exact⟨v2,v3,e0,e1,e2,e3,e4,x2.later hB,x3.later hB⟩
def CD.rc {wr:Zb}{m r:Nat}{u3:Zf}(h:CD wr m q r cap u1 u2 u3 c cur)(h5:SI T wr u5 c.now)(hT:∀b,m<=b->b<r->T b):RC T wr u1 u2 u3 (U (some ⟨q,0,none⟩) c.Aa.length cap) u5 c:=by
 have pW:=h.mq;have kD:=h.qr;have hA:∀b,NA m q b->T b:=fun b hb=>hT b hb.1 (Nat.lt_trans hb.2 kD);have D5:∀b,NR q r b->T b:=fun b hb=>hT b (Zr pW (Nat.le_of_lt hb.1)) hb.2;refine⟨h.base.imp hA fun _ _ x=>x,h.Af.imp hA fun _ _ x=>x,h.hooks.imp hA fun _ _ x=>x,⟨_,_,rfl,h.pV,h.bJ,fun i x hx=>?_⟩,h5⟩;have hi:=(Zm.1 hx).1;have lV:x=Aj c.Aa i:=by have:=Db hi;rw[hx]at this;exact ZW this
 subst lV;obtain⟨v2,v3,e0,e1,e2,e3,e4,x2,x3⟩:=h.at_ i hi;refine⟨q,0,[J I (Aj c.Aa i).low,J I (Aj c.Aa i).high,v2,v3,J I (Aj c.Aa i).left],rfl,hT q pW kD,rfl,fun j u hu=>?_,v2,v3,rfl,x2.imp D5 fun _ _ x=>x,x3.imp D5 fun _ _ x=>x⟩;rw[zN];refine ch h.arr ?_
 match j,hu with
 |0,hu=>cases hu;exact e0
 |1,hu=>cases hu;exact e1
 |2,hu=>cases hu;exact e2
 |3,hu=>cases hu;exact e3
 |4,hu=>cases hu;exact e4
def abp (w:Zb)(c:A_)(e:Ending)(w':Zb):Prop:=∃(m q r cap:Nat) (u1 u2 u3 u5:Zf) (cur:Array Zf),e=.returned (.agg #[u1,u2,u3,U (some ⟨q,0,none⟩) c.Aa.length cap,u5])/\Bl w w'/\w.heap.size<=m/\CD w' m q r cap u1 u2 u3 c cur/\SI (NA m q) w' u5 c.now
def ao7 (h:RC S w v1 v2 v3 v4 v5 c)(hS:∀b,S b->b<w.heap.size)(ig:c.base.length<=1000)(hle:c.Af.length<=1000)(hlh:c.hooks.length<=1000)(Xm:c.Aa.length<=1000)(Fy:0<c.Aa.length)(UO:c.now.length<=1000)(xB:∀i,i<c.Aa.length->(Aj c.Aa i).Ap.length<=1000/\(Aj c.Aa i).over.length<=1000)(s0 s1 s2:Nat):
  Calls Lp 94 #[.agg #[v1,v2,v3,v4,v5,J .u8 s0,J .u8 s1,J .u8 s2]] w (abp w c):=by
 obtain⟨a1,c1,rfl,l1,m1⟩:=h.base.val;obtain⟨a2,c2,rfl,l2,m2⟩:=h.Af.val;obtain⟨a3,c3,rfl,l3,m3⟩:=h.hooks.val;obtain⟨a4,c4,rfl,l4,m4⟩:=h.Aa.val;obtain⟨a5,c5,rfl,l5,m5⟩:=h.now.val;have IX:=DJ;go_enter Lp.func150,ans;go_wp2;obtain⟨W3,Hv⟩:∃W3,W3=(((w.alloc (.cells #[U a1 c.base.length c1,U a2 c.Af.length c2,U a3 c.hooks.length c3,U a4 c.Aa.length c4,U a5 c.now.length c5,J .u8 s0,J .u8 s1,J .u8 s2] 62)).alloc (.cells #[U none 0 0,U none 0 0,U none 0 0,U none 0 0,U none 0 0] 28)).alloc (.cells #[U a1 c.base.length c1,U a2 c.Af.length c2,U a3 c.hooks.length c3,U a4 c.Aa.length c4,U a5 c.now.length c5] 28)):=⟨_,rfl⟩;have Bv:Bl w W3:=by rw[Hv];exact bA (bA (bA (Zh _ _)))
 have F1:W3.heap[w.heap.size+1+1]?=some (.cells #[U a1 c.base.length c1,U a2 c.Af.length c2,U a3 c.hooks.length c3,U a4 c.Aa.length c4,U a5 c.now.length c5] 28 (0,0)):=by
  rw[Hv];have:=Bp ((w.alloc (.cells #[U a1 c.base.length c1,U a2 c.Af.length c2,U a3 c.hooks.length c3,U a4 c.Aa.length c4,U a5 c.now.length c5,J .u8 s0,J .u8 s1,J .u8 s2] 62)).alloc (.cells #[U none 0 0,U none 0 0,U none 0 0,U none 0 0,U none 0 0] 28)) (.cells #[U a1 c.base.length c1,U a2 c.Af.length c2,U a3 c.hooks.length c3,U a4 c.Aa.length c4,U a5 c.now.length c5] 28);rwa[ZB,ZB]at this
 have O9:W3.heap[w.heap.size+1]?=some (.cells #[U none 0 0,U none 0 0,U none 0 0,U none 0 0,U none 0 0] 28 (0,0)):=by
  rw[Hv];exact Bf (by have:=Bp (w.alloc (.cells #[U a1 c.base.length c1,U a2 c.Af.length c2,U a3 c.hooks.length c3,U a4 c.Aa.length c4,U a5 c.now.length c5,J .u8 s0,J .u8 s1,J .u8 s2] 62)) (.cells #[U none 0 0,U none 0 0,U none 0 0,U none 0 0,U none 0 0] 28);rwa[ZB]at this) _
 rw[<-Hv];clear Hv;have z0:=fun p=>Al p (ch (i:=0) F1 (v:=.slice a1 c.base.length c1) rfl);have z1:=fun p=>Al p (ch (i:=1) F1 (v:=.slice a2 c.Af.length c2) rfl);have z2:=fun p=>Al p (ch (i:=2) F1 (v:=.slice a3 c.hooks.length c3) rfl);have z4:=fun p=>Al p (ch (i:=4) F1 (v:=.slice a5 c.now.length c5) rfl);refine B0 (S:=fun W=>∃p,W=calm W3 p) [12,13,14,15,16,17,18,19] [(false,2),(true,12),(false,5),(false,8),(false,11),(false,13),(false,14),(false,15),(false,16),(false,17),(false,18),(false,19)] [0,1,3,4,6,7,9,10] (by kernel_rfl) (fun _ _ d _ _ h=>by cases d<;>exact h) (by kernel_rfl) (AL (Zh _ _).drew) ?_;refine A4 _ _ (by kernel_rfl) ?_;simp only[Z6,zd,ZG,ZD,ZC]
 repeat (first|go_big_quiet_step (fail)|quiet_step (fail))
 refine Z4 ?_;clear z0 z1 z2 z4;change Dl _ _ _ _ _ _ _;have hD3:=Bv.drew;have iz:Bl W3 W3.drew:=(Zh _ _).drew;refine Dd (f:=27) (args:= #[U a1 c.base.length c1]) rfl rfl (by go_simp) ((kt (h.later hD3).base ig).mono ?_);rintro e W4 ⟨u1,rfl,De,iA⟩;have Ks:=iz.trans (De.mono iz.size);refine⟨u1,rfl,.inr (AL Ks),?_⟩;have hD4:=Bv.trans (Ks.mono Bv.size);refine NZ (v:=.pointer (some ⟨w.heap.size+1+1,0,none⟩)) rfl rfl (fun w=>by go_simp) ?_;refine Dd (f:=104) (args:= #[U a2 c.Af.length c2]) rfl rfl (by go_simp) ((anT (h.later hD4).Af hle).mono ?_);rintro e W5 ⟨u2,rfl,Cj,Hb⟩;have pX:=Ks.trans (Cj.mono Ks.size);refine⟨u2,rfl,.inr (AL pX),?_⟩;have hD5:=Bv.trans (pX.mono Bv.size);refine Dd (f:=27) (args:= #[U a3 c.hooks.length c3]) rfl rfl (by go_simp) ((kt (h.later hD5).hooks hlh).mono ?_);rintro e W6 ⟨u3,rfl,DM,Lb⟩;have Vf:=pX.trans (DM.mono pX.size);refine⟨u3,rfl,.inr (AL Vf),?_⟩;have hD6:=Bv.trans (Vf.mono Bv.size);refine Dd (f:=27) (args:= #[U a5 c.now.length c5]) rfl rfl (by go_simp) ((kt (h.later hD6).now UO).mono ?_);rintro e W7 ⟨u5,rfl,NU,rS⟩;have hX7:=Vf.trans (NU.mono Vf.size);refine⟨u5,rfl,.inr (AL hX7),?_⟩;have hD7:=Bv.trans (hX7.mono Bv.size);have T9:=(hX7.block _ (Za.1 F1).1).trans F1;have hR7:=(hX7.block _ (Za.1 O9).1).trans O9;have awq:=Bv.size;have k5:=DM.trans (NU.mono DM.size);have k4:=Cj.trans (k5.mono Cj.size);have iA:SI (Cb W3.drew.heap.size W4) W4 u1 c.base:=iA;have Hb:SP (Cb W4.heap.size W5) W5 u2 c.Af:=Hb;have Lb:SI (Cb W5.heap.size W6) W6 u3 c.hooks:=Lb;have rS:SI (Cb W6.heap.size W7) W7 u5 c.now:=rS;have n1:SI (Cb W3.heap.size W7) W7 u1 c.base:=(iA.later k4).imp (fun b hb=>Cb.mono (m:=W3.heap.size) k4.size iz.size hb) (fun _ _ x=>x);have n2:SP (Cb W3.heap.size W7) W7 u2 c.Af:=(Hb.later k5).imp (fun b hb=>Cb.mono (m:=W3.heap.size) k5.size Ks.size hb) (fun _ _ x=>x);have n3:SI (Cb W3.heap.size W7) W7 u3 c.hooks:=(Lb.later NU).imp (fun b hb=>Cb.mono (m:=W3.heap.size) NU.size pX.size hb) (fun _ _ x=>x);have n5:SI (Cb W3.heap.size W7) W7 u5 c.now:=rS.imp (fun b hb=>Cb.mono (m:=W3.heap.size) (Zj _) Vf.size hb) (fun _ _ x=>x);refine LD _ _ _ (by kernel_rfl) (fun x hx w=>.inl ?_) ?_
 .revert x;decide
 simp only[Gd,ZG,ZD,ZC];obtain⟨p1,d1,rfl,y1,x1⟩:=n1.val;obtain⟨p2,d2,rfl,y2,x2⟩:=n2.val;obtain⟨p3,d3,rfl,y3,x3⟩:=n3.val;obtain⟨p5,d5,rfl,y5,x5⟩:=n5.val;have g0:=ch (i:=0) T9 (v:=.slice a1 c.base.length c1) rfl;have g1:=ch (i:=1) T9 (v:=.slice a2 c.Af.length c2) rfl;have g2:=ch (i:=2) T9 (v:=.slice a3 c.hooks.length c3) rfl;have g3:=ch (i:=3) T9 (v:=.slice a4 c.Aa.length c4) rfl;have g4:=ch (i:=4) T9 (v:=.slice a5 c.now.length c5) rfl;have f0:=cf (i:=0) T9;have f1:=cf (i:=1) T9;have f2:=cf (i:=2) T9;have f3:=cf (i:=3) T9;have f4:=cf (i:=4) T9;clear De Cj DM NU Ks pX Vf iz hD3 hD4 hD5 hD6 iA Hb Lb rS;have awr:=hX7.size;have hm3:w.heap.size+1+1<W3.heap.size:=(Za.1 F1).1;go_wp2_with (fail);obtain⟨W8,hW8⟩:∃W8,W8=((((W7.setCell ⟨w.heap.size+1+1,0,none⟩ (U p1 c.base.length d1)).setCell ⟨w.heap.size+1+1,1,none⟩ (U p2 c.Af.length d2)).setCell ⟨w.heap.size+1+1,2,none⟩ (U p3 c.hooks.length d3)).setCell ⟨w.heap.size+1+1,4,none⟩ (U p5 c.now.length d5)):=⟨_,rfl⟩;rw[<-hW8];have rT:W8.heap[w.heap.size+1+1]?=some (.cells #[U p1 c.base.length d1,U p2 c.Af.length d2,U p3 c.hooks.length d3,U a4 c.Aa.length c4,U p5 c.now.length d5] 28 (0,0)):=by
  rw[hW8];exact Ba (Ba (Ba (Ba T9 _) _) _) _
 have uC:B3 (w.heap.size+1+1) W7 W8:=by rw[hW8];exact(((B3.refl _ _).set.set).set).set
 have Jn:Bl w W8:=by rw[hW8];exact bS (bS (bS (bS hD7 (by omega)) (by omega)) (by omega)) (by omega)
 have hR8:W8.heap[w.heap.size+1]?=some (.cells #[U none 0 0,U none 0 0,U none 0 0,U none 0 0,U none 0 0] 28 (0,0)):=(uC.block _ (Za.1 hR7).1 (by omega)).trans hR7;have xx:CE (Cb W3.heap.size W7) W7 W8:=uC.same (fun b hb e=>by have:=hb.1;omega);have hz8:=uC.size;clear hW8 g0 g1 g2 g3 g4 f0 f1 f2 f3 f4;refine(ah9 (h.later Jn).Aa Xm Fy).mono ?_;rintro e W9 ⟨v4,news,rfl,Jx,AX,NI⟩;rcases AX.2 with⟨_,hz⟩|⟨q,cap,cur,rfl,T6,M9,JA,hq4,kE,iB⟩
 .omega
 have hK9:=(Jx.block _ (Za.1 rT).1).trans rT;have hR9:=(Jx.block _ (Za.1 hR8).1).trans hR8;have g3:=ch (i:=3) hK9 (v:=.slice a4 c.Aa.length c4) rfl;have f3:=cf (i:=3) hK9;have hqW:=(Za.1 M9).1;have pW:w.heap.size+1+1<q:=by omega
 have hC0:CW S w W3.heap.size q cap (U p1 c.base.length d1) (U p2 c.Af.length d2) (U p3 c.hooks.length d3) (U p5 c.now.length d5) c 0 cur (W9.setCell ⟨w.heap.size+1+1,3,none⟩ (U (some ⟨q,0,none⟩) c.Aa.length cap)):=by
  have pY:B3 (w.heap.size+1+1) W7 (W9.setCell ⟨w.heap.size+1+1,3,none⟩ (U (some ⟨q,0,none⟩) c.Aa.length cap)):=(uC.below Jx).set;have hs9:CE (Cb W3.heap.size W7) W7 (W9.setCell ⟨w.heap.size+1+1,3,none⟩ (U (some ⟨q,0,none⟩) c.Aa.length cap)):=pY.same (fun b hb e=>by have:=hb.1;omega);have gm:CE S W8 w:=fun b hb _=>(Jn.block b (hS b hb)).symm;have hNA:∀b,Cb W3.heap.size W7 b->NA W3.heap.size q b:=fun b hb=>⟨hb.1,Zl hb.2 (by omega)⟩;refine⟨bS (Jn.trans (Jx.mono Jn.size)) (by omega),(AZ (by omega) _).trans hR9,Ba hK9 _,(n1.Ar hs9).imp hNA fun _ _ x=>x,(n2.Ar hs9).imp hNA fun _ _ x=>x,(n3.Ar hs9).imp hNA fun _ _ x=>x,(n5.Ar hs9).imp hNA fun _ _ x=>x,(AZ (by omega) _).trans M9,fun i hi=>?_⟩;obtain⟨v2,v3,e,x2,x3⟩:=NI i _ (Db hi);have bB:∀j u,[J I (Aj c.Aa i).low,J I (Aj c.Aa i).high,v2,v3,J I (Aj c.Aa i).left][j]?=some u->cur[i*5+j]?=some u:=fun j u hu=>by
   have hj:j<5:=by have:=(Zm.1 hu).1;simpa using this
   rw[<-e,Z2 hj,Yl, <-iB,Z2 (by have:=ij hi hj;omega)]at hu;simpa using hu
  exact⟨v2,v3,bB 0 _ rfl,bB 1 _ rfl,bB 2 _ rfl,bB 3 _ rfl,bB 4 _ rfl,.inr ⟨Zp _,x2.Ar gm,x3.Ar gm⟩⟩
 have hz9:W8.heap.size<=W9.heap.size:=Jx.size;have HM3:=Zd hm3;clear Bv F1 O9 hm3 n1 n2 n3 n5 T9 hR7 hX7 hD7 k4 k5 uC Jn hR8 rT xx Jx AX NI hK9 hR9 y1 x1 y2 x2 y3 x3 y5 x5;go_wp2;go_loopg [31] c.Aa.length (fun g i wr=>∃(k:Nat) (cur:Array Zf),k<=c.Aa.length/\g=c.Aa.length - k/\i=.int I k/\CW S w W3.heap.size q cap (U p1 c.base.length d1) (U p2 c.Af.length d2) (U p3 c.hooks.length d3) (U p5 c.now.length d5) c k cur wr)
 case atStart=>exact⟨0,cur,Zp _,rfl,rfl,hC0⟩
 obtain⟨k,cur,hk,rfl,rfl,hC⟩:=hrel;by_cases Az:k<c.Aa.length
 .obtain⟨v2,v3,e0,e1,e2,e3,e4,hy⟩:=hC.at_ k Az
  obtain⟨_,hp,ho⟩:=hy.resolve_left (fun z=>absurd z.1 (by omega));obtain⟨Oq,Qm⟩:=xB k Az;obtain⟨a6,c6,rfl,l6,m6⟩:=hp.val;obtain⟨a7,c7,rfl,l7,m7⟩:=ho.val;have r0:=ch hC.arr e0;have r1:=ch hC.arr e1;have r2:=ch hC.arr e2;have r3:=ch hC.arr e3;have r4:=ch hC.arr e4;obtain⟨sm,Qh⟩:∃sm,sm=Aj c.Aa k:=⟨_,rfl⟩;rw[<-Qh]at r0 r1 r2 r3 r4 hp ho Oq Qm l6 l7;have HSM:=Zd Qh;clear Qh e0 e1 e4;obtain⟨low,high,Ap,over,left⟩:=sm;dsimp only at r0 r1 r2 r3 r4 hp ho Oq Qm l6 l7;have TB:(k:Int)<(c.Aa.length:Int):=by omega
  go_wp2;obtain⟨pZ,uD⟩:∃pZ,pZ=wr.alloc (.cells #[J I low,J I high,U a6 Ap.length c6,U a7 over.length c7,J I left] 53):=⟨_,rfl⟩;have ahi:Bl wr pZ:=by rw[uD];exact(Zh _ _).alloc (Zj _) _
  have abt:pZ.heap[wr.heap.size]?=some (.cells #[J I low,J I high,U a6 Ap.length c6,U a7 over.length c7,J I left] 53 (0,0)):=by rw[uD];exact Bp _ _
  rw[<-uD];clear uD;have hC1:=hC.later ahi;have kD:q<wr.heap.size:=(Za.1 hC.arr).1;have T_:q<pZ.heap.size:=(Za.1 hC1.arr).1;have hi1:(0:Int)<=(k:Int):=by omega
  have z0:=fun p=>Cg (q:=q) p (ch (i:=3) hC1.box (v:=.slice (some ⟨q,0,none⟩) c.Aa.length cap) rfl) (by simp;omega);have z1:=fun p=>Cg (q:=q) p (ch (i:=2) abt (v:=.slice a6 Ap.length c6) rfl) (by simp;omega);have z2:=fun p=>Cg (q:=q) p (ch (i:=3) abt (v:=.slice a7 over.length c7) rfl) (by simp;omega);refine B0 (S:=fun W=>∃p,W=SY pZ q p) [] [(false,8),(false,11),(false,12),(false,13),(false,14),(false,15),(false,16),(false,17)] [0,1,2,3,4,5,6,7,9,10] (by kernel_rfl) (fun _ _ d _ _ h=>by cases d<;>exact h) (by kernel_rfl) (BI ((B3.refl _ _).below (Zh _ _).drew) T_) ?_;refine A4 _ _ (by kernel_rfl) ?_;simp only[Z6,zd,ZG,ZD,ZC]
  repeat (first|go_big_quiet_step (fail)|quiet_step (fail))
  refine Z4 ?_;clear z0 z1 z2;change Dl _ _ _ _ _ _ _;have O5:=hC1.below;have kF:B3 q pZ pZ.drew:=(B3.refl _ _).below (Zh _ _).drew;refine Dd (f:=106) (args:= #[U a6 Ap.length c6]) rfl rfl (by go_simp) ((anU (hp.later O5.drew) Oq).mono ?_);rintro e W11 ⟨x2,rfl,Ua,mH⟩;have abu:=kF.below Ua;refine⟨x2,rfl,.inr (BI abu T_),?_⟩;have iC:=O5.drew.trans (Ua.mono O5.drew.size);refine Dd (f:=27) (args:= #[U a7 over.length c7]) rfl rfl (by go_simp) ((kt (ho.later iC) Qm).mono ?_);rintro e WG ⟨x3,rfl,bK,U4⟩;have bL:=abu.below bK;refine⟨x3,rfl,.inr (BI bL T_),?_⟩;have bM:=hC1.later (((Zh _ _).drew.trans (Ua.mono (Zj _))).trans (bK.mono Ua.size));have awt:=(Za.1 bM.arr).1;have mH:SP (Cb pZ.drew.heap.size W11) W11 x2 Ap:=mH;have U4:SI (Cb W11.heap.size WG) WG x3 over:=U4;obtain⟨b2,t2,rfl,y2,w2⟩:=mH.val;obtain⟨b3,t3,rfl,y3,w3⟩:=U4.val;have f2:=cf (i:=k*5+2) bM.arr;have f3:=cf (i:=k*5+3) bM.arr;have r2':=ch bM.arr e2;have r3':=ch bM.arr e3;refine Dw (v:=.pointer (some ⟨q,k*5,none⟩)) rfl rfl (by go_simp) (.inr (BI bL T_)) ?_;refine Dw (v:=.pointer (some ⟨q,k*5+2,none⟩)) rfl rfl (by go_simp) (.inr (BI bL T_)) ?_;refine K8 (w':=WG.setCell ⟨q,k*5+2,none⟩ (U b2 Ap.length t2)) rfl rfl (by go_simp) (.inr (BI bL.set T_)) ?_;refine Dw (v:=.pointer (some ⟨q,k*5,none⟩)) rfl rfl (by go_simp) (.inr (BI bL.set T_)) ?_;refine Dw (v:=.pointer (some ⟨q,k*5+3,none⟩)) rfl rfl (by go_simp) (.inr (BI bL.set T_)) ?_;refine K8 (w':=(WG.setCell ⟨q,k*5+2,none⟩ (U b2 Ap.length t2)).setCell ⟨q,k*5+3,none⟩ (U b3 over.length t3)) rfl rfl (by go_simp) (.inr (BI bL.set.set T_)) ?_;have aob:∀b,Cb pZ.drew.heap.size WG b->NB q WG b:=fun b hb=>⟨Zl T_ hb.1,hb.2⟩;have aww:pZ.heap.size<=W11.heap.size:=Ua.size;have aoc:∀b,Cb W11.heap.size WG b->NB q WG b:=fun b hb=>⟨by have:=hb.1;omega,hb.2⟩;have hV:B3 q WG ((WG.setCell ⟨q,k*5+2,none⟩ (U b2 Ap.length t2)).setCell ⟨q,k*5+3,none⟩ (U b3 over.length t3)):=(B3.refl _ _).set.set;have hsV:CE (NB q WG) WG ((WG.setCell ⟨q,k*5+2,none⟩ (U b2 Ap.length t2)).setCell ⟨q,k*5+3,none⟩ (U b3 over.length t3)):=hV.same (fun b hb e=>by have:=hb.1;omega);have i2:SP (NB q WG) WG (U b2 Ap.length t2) Ap:=(mH.later bK).imp (fun b hb=>aob b (hb.mono bK.size (Zj _))) (fun _ _ x=>x);have i3:SI (NB q WG) WG (U b3 over.length t3) over:=U4.imp aoc (fun _ _ x=>x);have j2:=Sl.imp (i2.Ar hsV) (fun b (hb:NB q WG b)=>NB.mono hV.size hb) (fun _ _ x=>x);have j3:=Sl.imp (i3.Ar hsV) (fun b (hb:NB q WG b)=>NB.mono hV.size hb) (fun _ _ x=>x);have hC3:=bM.next (v2':=.slice b2 Ap.length t2) (v3':=.slice b3 over.length t3) Az hV pW (Ba (Ba bM.arr _) _)
   (by rw[<-HSM.out];exact j2) (by rw[<-HSM.out];exact j3)
  have HC3:=Zd hC3;clear j2 j3 i2 i3 hC3 bM hC1 hC hsV hV Ua bK kF abu bL mH U4 O5 iC abt ahi r0 r1 r2 r3 r4 r2' r3' f2 f3 e2 e3 hp ho;unfold Dl
  go_simp
  go_wp2;go_roundg (c.Aa.length - (k+1))
  case rel=>exact⟨k+1,_,by omega,rfl,by go_num,HC3.out⟩
  omega
 have T5:k=c.Aa.length:=by omega
 subst T5;have hRC:=ZY (hC.cd JA hq4 (by omega)) hC.now;have Lc:=hC.below;have s0:=ch (i:=0) hC.box (v:=.slice p1 c.base.length d1) rfl;have s1:=ch (i:=1) hC.box (v:=.slice p2 c.Af.length d2) rfl;have s2:=ch (i:=2) hC.box (v:=.slice p3 c.hooks.length d3) rfl;have s3:=ch (i:=3) hC.box (v:=.slice (some ⟨q,0,none⟩) c.Aa.length cap) rfl;have s4:=ch (i:=4) hC.box (v:=.slice p5 c.now.length d5) rfl;have f0:=cf (i:=0) hC.res;have f1:=cf (i:=1) hC.res;have f2:=cf (i:=2) hC.res;have f3:=cf (i:=3) hC.res;have f4:=cf (i:=4) hC.res;have r0:=ch (i:=0) hC.res (v:=.slice none 0 0) rfl;have r1:=ch (i:=1) hC.res (v:=.slice none 0 0) rfl;have r2:=ch (i:=2) hC.res (v:=.slice none 0 0) rfl;have r3:=ch (i:=3) hC.res (v:=.slice none 0 0) rfl;have r4:=ch (i:=4) hC.res (v:=.slice none 0 0) rfl;have mI:=Zd hRC;clear hRC hC;go_wp2;refine ZN (v:=.agg #[U p1 c.base.length d1,U p2 c.Af.length d2,U p3 c.hooks.length d3,U (some ⟨q,0,none⟩) c.Aa.length cap,U p5 c.now.length d5]) (by rw[A8 rfl];go_simp) rfl ?_;have hV:B3 (w.heap.size+1) wr (((((wr.setCell ⟨w.heap.size+1,0,none⟩ (U p1 c.base.length d1)).setCell ⟨w.heap.size+1,1,none⟩ (U p2 c.Af.length d2)).setCell ⟨w.heap.size+1,2,none⟩ (U p3 c.hooks.length d3)).setCell ⟨w.heap.size+1,3,none⟩ (U (some ⟨q,0,none⟩) c.Aa.length cap)).setCell ⟨w.heap.size+1,4,none⟩ (U p5 c.now.length d5)):=((((B3.refl _ _).set.set).set).set).set;exact⟨W3.heap.size,q,wr.heap.size,cap,_,_,_,_,_,rfl,bS (bS (bS (bS (bS Lc (by omega)) (by omega)) (by omega)) (by omega)) (by omega),by omega,mI.out.1.Ar hV (.inl (by have:=HM3.out;omega)),mI.out.2.Ar (hV.same (fun x hx e=>by have:=hx.1;have:=HM3.out;omega))⟩
def Kn (s:List Ay)(i:Nat):List Ay:=s.modify i fun x=> {x with left:=x.left - 1}
def CJ:List Ay->List Int->List Ay
 |s,[]=>s
 |s,i::r=>CJ (Kn s i.toNat) r
def FH (c:A_)(l:List Int)(t:Nat):A_:= {c with now:=l,Aa:=CJ c.Aa (AB t)}
def Gw (s:List Ay)(i:Nat):(Kn s i).length=s.length:=by simp[Kn]
def O_:∀(l:List Int) (s:List Ay),(CJ s l).length=s.length
 | [],_=>rfl
 |_::r,s=>(O_ r _).trans (Gw s _)
def LI {s:List Ay}(hi:i<s.length)(j:Nat):Aj (Kn s i) j=if j=i then {Aj s i with left:=(Aj s i).left - 1} else Aj s j:=by
 unfold Aj Kn;by_cases h:j=i
 .subst h
  simp[Y6,hi]
 simp[Y6,h,Za0 h]
def eM {s:List Ay}(h:k<l.length):CJ s (l.drop k)=CJ (Kn s (nth l k).toNat) (l.drop (k+1)):=by
 obtain⟨hk,e⟩:=Zm.1 (Bn h);rw[ZO hk,e]
 rfl
def CD.now {wr:Zb}{m r:Nat}{u3:Zf}(h:CD wr m q r cap u1 u2 u3 c cur)(l:List Int):CD wr m q r cap u1 u2 u3 {c with now:=l} cur:=
 ⟨h.base,h.Af,h.hooks,h.arr,h.at_,h.pV,h.bJ,h.mq,h.qr,h.rw_⟩
def CD.dec {wr:Zb}{m r:Nat}{u3:Zf}(h:CD wr m q r cap u1 u2 u3 c cur)(hi:i<c.Aa.length)(hB:B3 q wr W)(ha:W.heap[q]?=some (.cells (cur.setIfInBounds (i*5+4) (J I ((Aj c.Aa i).left - 1))) 53 (0,0))):
  CD W m q r cap u1 u2 u3 {c with Aa:=Kn c.Aa i} (cur.setIfInBounds (i*5+4) (J I ((Aj c.Aa i).left - 1))):=by
 have pW:=h.mq;have kD:=h.qr;have hA:CE (NA m q) wr W:=hB.same (fun x hx e=>by have:=hx.1;have:=hx.2;omega);have hN:CE (NR q r) wr W:=hB.same (fun x hx e=>by have:=hx.1;have:=hx.2;omega);refine⟨h.base.Ar hA,h.Af.Ar hA,h.hooks.Ar hA,ha,fun j hj=>?_,by rw[Gw];exact h.pV,h.bJ,h.mq,h.qr,Zr h.rw_ hB.size⟩;rw[Gw]at hj;obtain⟨v2,v3,e0,e1,e2,e3,e4,x2,x3⟩:=h.at_ j hj;have z4:=(Za.1 e4).1;simp only[LI hi];by_cases LZ:j=i
 .subst LZ
  rw[if_pos rfl];refine⟨v2,v3,?_,?_,?_,?_,?_,x2.Ar hN,x3.Ar hN⟩
  .rw[Zk (by omega)];exact e0
  .rw[Zk (by omega)];exact e1
  .rw[Zk (by omega)];exact e2
  .rw[Zk (by omega)];exact e3
  rw[ZV z4]
 rw[if_neg LZ];refine⟨v2,v3,?_,?_,?_,?_,?_,x2.Ar hN,x3.Ar hN⟩
 .rw[Zk (by omega)];exact e0
 .rw[Zk (by omega)];exact e1
 .rw[Zk (by omega)];exact e2
 .rw[Zk (by omega)];exact e3
 rw[Zk (by omega)];exact e4
def Jq (w:Zb)(o1 o2:Obj):((w.alloc o1).alloc o2).heap[w.heap.size+1]?=some o2:=by
 have:=Bp (w.alloc o1) o2;rwa[ZB]at this
def ahl (h:CE T w W)(hq:∀b,T b->b≠q):CE T w (W.setCell ⟨q,i,none⟩ v):=fun b hb hl=>(AZ (hq b hb) _).trans (h b hb hl)
def ahm (w:Zb)(s0 s1 s2:Nat)(c:A_)(e:Ending)(w':Zb):Prop:=∃(u1 u2 u3 u4 u5:Zf),e=.returned (.agg #[u1,u2,u3,u4,u5,J .u8 s0,J .u8 s1,J .u8 s2])/\Bl w w'/\RC (Cb w.heap.size w') w' u1 u2 u3 u4 u5 c
structure WW (w:Zb)(m q r cap b7:Nat)(u1 u2 u3 u5:Zf)(g:Array Zf)(c:A_)(l:List Int)(Aa:List Ay)(cur:Array Zf)(wr:Zb):Prop where
 below:Bl w wr
 Ee:wr.heap[w.heap.size]?=some (.cells g 62 (0,0))
 res:wr.heap[w.heap.size+1]?=some (.cells #[U none 0 0,U none 0 0,U none 0 0,U none 0 0,U none 0 0,J .u8 0,J .u8 0,J .u8 0] 62 (0,0))
 box:wr.heap[b7]?=some (.cells #[u1,u2,u3,U (some ⟨q,0,none⟩) Aa.length cap,u5] 28 (0,0))
 cd:CD wr m q r cap u1 u2 u3 {c with Aa:=Aa} cur
 now:SI (fun b=>b7<b/\b<wr.heap.size) wr u5 l
variable {Aa:List Ay}
def WW.later {wr:Zb}{m r:Nat}{u3:Zf}(h:WW w m q r cap b7 u1 u2 u3 u5 g c l Aa cur wr)(hB:Bl wr W):WW w m q r cap b7 u1 u2 u3 u5 g c l Aa cur W:=
 ⟨h.below.trans (hB.mono h.below.size),(hB.block _ (Za.1 h.Ee).1).trans h.Ee,(hB.block _ (Za.1 h.res).1).trans h.res,(hB.block _ (Za.1 h.box).1).trans h.box,h.cd.later hB,
  Sl.imp (h.now.later hB) (fun b (hb:b7<b/\b<wr.heap.size)=>⟨hb.1,Zl hb.2 hB.size⟩) (fun _ _ x=>x)⟩
def WW.dec {wr:Zb}{m r:Nat}{u3:Zf}(h:WW w m q r cap b7 u1 u2 u3 u5 g c l Aa cur wr)(hi:i<Aa.length)(hq:w.heap.size+1<q)(hqb:q<b7):
  WW w m q r cap b7 u1 u2 u3 u5 g c l (Kn Aa i) (cur.setIfInBounds (i*5+4) (J I ((Aj Aa i).left - 1))) (wr.setCell ⟨q,i*5+4,none⟩ (J I ((Aj Aa i).left - 1))):=by
 have hU:B3 q wr (wr.setCell ⟨q,i*5+4,none⟩ (J I ((Aj Aa i).left - 1))):=(B3.refl _ _).set;refine⟨bS h.below (by omega),(AZ (by omega) _).trans h.Ee,(AZ (by omega) _).trans h.res,by rw[Gw];exact(AZ (by omega) _).trans h.box,h.cd.dec hi hU (Ba h.cd.arr _),?_⟩;exact Sl.imp (h.now.Ar (hU.same (fun b hb e=>by have:=hb.1;omega))) (fun b (hb:b7<b/\b<wr.heap.size)=>⟨hb.1,Zl hb.2 hU.size⟩) (fun _ _ x=>x)
def c92 (h:RC S w v1 v2 v3 v4 v5 c)(hl:SI S w v6 l)(hS:∀b,S b->b<w.heap.size)(ht:t<8)(hx:∀x,x∈AB t->0<=x/\x<c.Aa.length)
 (fU:∀i,i<c.Aa.length->-4<=(Aj c.Aa i).left/\(Aj c.Aa i).left<=4) (ig:c.base.length<=1000) (hle:c.Af.length<=1000) (hlh:c.hooks.length<=1000) (Xm:c.Aa.length<=1000) (Fy:0<c.Aa.length) (UO:c.now.length<=1000)
 (xB:∀i,i<c.Aa.length->(Aj c.Aa i).Ap.length<=1000/\(Aj c.Aa i).over.length<=1000) (Xc:l.length<=1000) (s0 s1 s2:Nat):
  Calls Lp 63 #[.agg #[v1,v2,v3,v4,v5,J .u8 s0,J .u8 s1,J .u8 s2],v6,J .u8 t] w (ahm w s0 s1 s2 (FH c l t)):=by
 obtain⟨a1,c1,rfl,l1,m1⟩:=h.base.val;obtain⟨a2,c2,rfl,l2,m2⟩:=h.Af.val;obtain⟨a3,c3,rfl,l3,m3⟩:=h.hooks.val;obtain⟨a4,c4,rfl,l4,m4⟩:=h.Aa.val;obtain⟨a5,c5,rfl,l5,m5⟩:=h.now.val;obtain⟨a6,c6,rfl,l6,m6⟩:=hl.val;have IX:=DJ;have Bg:Bl w ((w.alloc (.cells #[U a1 c.base.length c1,U a2 c.Af.length c2,U a3 c.hooks.length c3,U a4 c.Aa.length c4,U a5 c.now.length c5,J .u8 s0,J .u8 s1,J .u8 s2] 62)).alloc (.cells #[U none 0 0,U none 0 0,U none 0 0,U none 0 0,U none 0 0,J .u8 0,J .u8 0,J .u8 0] 62)):=bA (bA (Zh _ _));have aoe:=Zd (fun W hB=>ao7 (w:=W) (h.later hB) (A3 hS hB) ig hle hlh Xm Fy UO xB s0 s1 s2);have aof:=Zd (fun W hB=>kt (w:=W) (hl.later hB) Xc);go_enter Lp.func92,n92;go_wp2_with (go_at_call 94;refine(aoe.out _ Bg).mono ?_;rintro e w1 ⟨m,q,r,cap,u1,u2,u3,u5,cur,rfl,Bb,hm,hC,rS⟩;obtain⟨p1,d1,rfl,_⟩:=hC.base.val;obtain⟨p2,d2,rfl,_⟩:=hC.Af.val;obtain⟨p3,d3,rfl,_⟩:=hC.hooks.val;obtain⟨p5,d5,rfl,_⟩:=rS.val;have Bv:=Bg.trans (Bb.mono Bg.size));have kG:=(Bb.block w.heap.size (by simp;omega)).trans (Bf (Bp w (.cells #[U a1 c.base.length c1,U a2 c.Af.length c2,U a3 c.hooks.length c3,U a4 c.Aa.length c4,U a5 c.now.length c5,J .u8 s0,J .u8 s1,J .u8 s2] 62)) _);have hR1:=(Bb.block (w.heap.size+1) (by simp)).trans (Jq w _ _);obtain⟨W2,MX⟩:∃W2,W2=w1.alloc (.cells #[U p1 c.base.length d1,U p2 c.Af.length d2,U p3 c.hooks.length d3,U (some ⟨q,0,none⟩) c.Aa.length cap,U p5 c.now.length d5] 28):=⟨_,rfl⟩;have Ia:Bl w1 W2:=by rw[MX];exact(Zh _ _).alloc (Zj _) _
 have hN2:W2.heap[w1.heap.size]?=some (.cells #[U p1 c.base.length d1,U p2 c.Af.length d2,U p3 c.hooks.length d3,U (some ⟨q,0,none⟩) c.Aa.length cap,U p5 c.now.length d5] 28 (0,0)):=by rw[MX];exact Bp _ _
 rw[<-MX];clear MX;have ahn:=Bv.trans (Ia.mono Bv.size);refine(aof.out _ ahn).mono ?_;rintro e w3 ⟨v,rfl,De,Xf⟩;have hv:SI (Cb W2.heap.size w3) w3 v l:=Xf;obtain⟨p6,d6,rfl,_⟩:=hv.val;have iz:=Ia.trans (De.mono Ia.size);have hbW:w1.heap.size<W2.heap.size:=(Za.1 hN2).1;have xC:=(De.block _ hbW).trans hN2;have n4:=ch (i:=4) xC (v:=.slice p5 c.now.length d5) rfl;have k4:=cf (i:=4) xC;have kH:=hC.rw_;have kD:=hC.qr;have pW:=hC.mq;have hmw:w.heap.size+1<m:=by simp at hm;omega
 have lX:w.heap.size<w1.heap.size:=(Za.1 kG).1;obtain⟨W4,ED⟩:∃W4,W4=w3.setCell ⟨w1.heap.size,4,none⟩ (U p6 l.length d6):=⟨_,rfl⟩;have S5:B3 w1.heap.size w3 W4:=by rw[ED];exact(B3.refl _ _).set
 have Qn:W4.heap[w1.heap.size]?=some (.cells #[U p1 c.base.length d1,U p2 c.Af.length d2,U p3 c.hooks.length d3,U (some ⟨q,0,none⟩) c.Aa.length cap,U p6 l.length d6] 28 (0,0)):=by rw[ED];exact Ba xC _
 have WH:Bl w W4:=by rw[ED];exact bS (Bv.trans (iz.mono Bv.size)) (by omega)
 have hW0:WW w m q r cap w1.heap.size (U p1 c.base.length d1) (U p2 c.Af.length d2) (U p3 c.hooks.length d3) (U p6 l.length d6) #[U a1 c.base.length c1,U a2 c.Af.length c2,U a3 c.hooks.length c3,U a4 c.Aa.length c4,U a5 c.now.length c5,J .u8 s0,J .u8 s1,J .u8 s2] c l c.Aa cur W4:= {
  below:=WH
  Ee:=(S5.block _ (Zl lX iz.size) (by omega)).trans ((iz.block _ lX).trans kG)
  res:=(S5.block _ (Zl (Za.1 hR1).1 iz.size) (by omega)).trans ((iz.block _ (Za.1 hR1).1).trans hR1)
  box:=Qn
  cd:=(hC.later iz).Ar S5 (.inr kH)
  now:=Sl.imp (hv.Ar (S5.same (fun b hb e=>by have:=hb.1;omega))) (fun b (hb:Cb W2.heap.size w3 b)=>⟨Zl hbW hb.1,Zl hb.2 S5.size⟩) (fun _ _ x=>x)}
 have HW0:=Zd hW0;have awy:(AB t).length<=3:=Jo t 3;clear hW0 S5 Qn WH hC rS Bb Ia hN2 ahn De hv Xf iz xC kG hR1 Bg Bv;go_wp2_with (fail);rw[<-ED];clear ED n4 k4;refine(abf ht).mono ?_;rintro e w5 ⟨v7,rfl,Cj,hv7,_⟩;obtain⟨p7,d7,rfl,l7,m7⟩:=hv7.val;have Jy:WW w m q r cap w1.heap.size (U p1 c.base.length d1) (U p2 c.Af.length d2) (U p3 c.hooks.length d3) (U p6 l.length d6) #[U a1 c.base.length c1,U a2 c.Af.length c2,U a3 c.hooks.length c3,U a4 c.Aa.length c4,U a5 c.now.length c5,J .u8 s0,J .u8 s1,J .u8 s2] c l c.Aa cur w5:=HW0.out.later Cj;have HX:=Zd hx;have p9:=Cj.size;have hbz:w1.heap.size<W4.heap.size:=(Za.1 HW0.out.box).1;clear HW0 Cj;dsimp only;go_wp2;go_loopg [18] (AB t).length (fun g i wr=>∃(k:Nat) (sm:List Ay) (cur:Array Zf),k<=(AB t).length/\g=(AB t).length - k/\i=.int I k/\sm.length=c.Aa.length/\CJ sm ((AB t).drop k)=CJ c.Aa (AB t)/\(∀i,i<c.Aa.length->-4 - (k:Int)<=(Aj sm i).left/\(Aj sm i).left<=4)/\B3 q w5 wr/\
  WW w m q r cap w1.heap.size (U p1 c.base.length d1) (U p2 c.Af.length d2) (U p3 c.hooks.length d3) (U p6 l.length d6) #[U a1 c.base.length c1,U a2 c.Af.length c2,U a3 c.hooks.length c3,U a4 c.Aa.length c4,U a5 c.now.length c5,J .u8 s0,J .u8 s1,J .u8 s2] c l sm cur wr)
 case atStart=>exact⟨0,c.Aa,cur,Zp _,rfl,rfl,rfl,rfl,fun i hi=>by have:=fU i hi;omega,B3.refl _ _,Jy⟩
 obtain⟨k,sm,cur,hk,rfl,rfl,aho,CP,xD,hU,hW⟩:=hrel;have hf:=Zd CP;have iD:=Zd aho;clear CP aho;by_cases Az:k<(AB t).length
 .obtain⟨b,o,rfl,hb,hc⟩:=hv7.at_ Az
  have OJ:=CE.cell (hU.same (T:=fun b=>b≠q) (fun _ h=>h)) (p:=⟨b,o+k,none⟩) (by have:=hb.1;simp;omega) hc;clear hc;obtain⟨Oo,MF⟩:=HX.out _ (Rd Az);have Pv:=Zd (eM (s:=sm) Az);obtain⟨x,lV⟩:∃x:Nat,nth (AB t) k=x:=⟨(nth (AB t) k).toNat,by omega⟩;rw[lV]at OJ Oo MF Pv;clear lV;have xy:x<c.Aa.length:=by omega
  have hxs:x<sm.length:=by rw[iD.out];exact xy
  have hxi:(x:Int)<(sm.length:Int):=by omega
  obtain⟨y2,y3,_,_,_,_,e4,_,_⟩:=hW.cd.at_ x hxs;obtain⟨xr,MK⟩:=xD x xy;have HLF:=Zd xD;have HD:=Zd (hW.dec hxs (by omega) (by omega));have HU:=Zd (hU.set (i:=x*5+4) (v:=.int I ((Aj sm x).left - 1)));have r4:=ch hW.cd.arr e4;have f4:=cf (i:=x*5+4) hW.cd.arr;have b3:=ch (i:=3) hW.box (v:=.slice (some ⟨q,0,none⟩) sm.length cap) rfl;clear hW hU xD e4;obtain⟨lf,xD⟩:∃lf,lf=(Aj sm x).left:=⟨_,rfl⟩;dsimp only at r4;rw[<-xD]at r4 xr MK HD HU;have HLE:=Zd xD;clear xD;go_wp2;go_roundg ((AB t).length - (k+1))
  case rel=>exact⟨k+1,Kn sm x,_,by omega,rfl,by go_num,by rw[Gw];exact iD.out,by rw[<-hf.out,Pv.out];rfl,fun i hi=>by
   have:=HLF.out i hi;rw[LI hxs];split
   .have:=HLF.out x xy
    show -4 - ((k+1:Nat):Int)<=(Aj sm x).left - 1/\(Aj sm x).left - 1<=4;omega
   omega,HU.out,HD.out⟩
  omega
 have hks:sm=CJ c.Aa (AB t):=by rw[<-hf.out,Z7.2 (by omega)];rfl
 have HK:=Zd hks;clear hks hf;have e1:w.heap.size+1<w1.heap.size:=by omega
 have mI:=Zd ((hW.cd.now l).rc (T:=fun b=>w.heap.size+1<b/\b<wr.heap.size) (u5:=.slice p6 l.length d6) (h5:=Sl.imp hW.now (fun b (hb:w1.heap.size<b/\b<wr.heap.size)=>⟨Nat.lt_trans e1 hb.1,hb.2⟩) (fun _ _ x=>x)) (fun b h1 h2=>⟨Zl hmw h1,Zl h2 hW.cd.rw_⟩));have HW:=Zd hW.below;have t0:=ch (i:=0) hW.box (v:=.slice p1 c.base.length d1) rfl;have t1:=ch (i:=1) hW.box (v:=.slice p2 c.Af.length d2) rfl;have t2:=ch (i:=2) hW.box (v:=.slice p3 c.hooks.length d3) rfl;have t3:=ch (i:=3) hW.box (v:=.slice (some ⟨q,0,none⟩) sm.length cap) rfl;have t4:=ch (i:=4) hW.box (v:=.slice p6 l.length d6) rfl;have g0:=ch (i:=0) hW.Ee (v:=.slice a1 c.base.length c1) rfl;have g1:=ch (i:=1) hW.Ee (v:=.slice a2 c.Af.length c2) rfl;have g2:=ch (i:=2) hW.Ee (v:=.slice a3 c.hooks.length c3) rfl;have g3:=ch (i:=3) hW.Ee (v:=.slice a4 c.Aa.length c4) rfl;have g4:=ch (i:=4) hW.Ee (v:=.slice a5 c.now.length c5) rfl;have g5:=ch (i:=5) hW.Ee (v:=.int .u8 s0) rfl;have g6:=ch (i:=6) hW.Ee (v:=.int .u8 s1) rfl;have g7:=ch (i:=7) hW.Ee (v:=.int .u8 s2) rfl;have h0:=cf (i:=0) hW.Ee;have h1:=cf (i:=1) hW.Ee;have h2:=cf (i:=2) hW.Ee;have h3:=cf (i:=3) hW.Ee;have h4:=cf (i:=4) hW.Ee;have f0:=cf (i:=0) hW.res;have f1:=cf (i:=1) hW.res;have f2:=cf (i:=2) hW.res;have f3:=cf (i:=3) hW.res;have f4:=cf (i:=4) hW.res;have f5:=cf (i:=5) hW.res;have f6:=cf (i:=6) hW.res;have f7:=cf (i:=7) hW.res;have r0:=ch (i:=0) hW.res (v:=.slice none 0 0) rfl;have r1:=ch (i:=1) hW.res (v:=.slice none 0 0) rfl;have r2:=ch (i:=2) hW.res (v:=.slice none 0 0) rfl;have r3:=ch (i:=3) hW.res (v:=.slice none 0 0) rfl;have r4:=ch (i:=4) hW.res (v:=.slice none 0 0) rfl;have r5:=ch (i:=5) hW.res (v:=.int .u8 0) rfl;have r6:=ch (i:=6) hW.res (v:=.int .u8 0) rfl;have r7:=ch (i:=7) hW.res (v:=.int .u8 0) rfl;clear hW hU xD;go_wp2;refine ZN (v:=.agg #[U p1 c.base.length d1,U p2 c.Af.length d2,U p3 c.hooks.length d3,U (some ⟨q,0,none⟩) sm.length cap,U p6 l.length d6,J .u8 s0,J .u8 s1,J .u8 s2]) (by rw[A8 rfl];go_simp) rfl ?_;have hwc:FH c l t= { {c with Aa:=sm} with now:=l}:=by rw[HK.out];rfl
 refine⟨_,_,_,_,_,rfl,?_,?_⟩
 .have Lc:=HW.out
  repeat (with_reducible first|exact Lc|(refine bS ?_ (by omega)))
 rw[hwc];refine(mI.out.Ar ?_).imp (fun b hb=>⟨by have:=hb.1;omega,?_⟩)
 .repeat (with_reducible first|exact CE.refl _ _|(refine ahl ?_ (fun b hb e=>by have:=hb.1;omega)))
 simpa using hb.2
def Jr (w:Zb):Prop:=w.cell? ⟨0,0,none⟩=some (.iface 195 (.agg #[.pointer (some ⟨1,137,none⟩)]))
def Jr.pos (h:Jr w):0<w.heap.size:=ZH w _ h
def Jr.later (h:Jr w)(hB:Bl w W):Jr W:=(hB.cell (p:=⟨0,0,none⟩) h.pos).trans h
def Two (w:Zb)(v:Zf)(e:Ending)(w':Zb):Prop:=Bl w w'/\(e=.returned v\/∃x,e=.panicked x/\PX x w')
def aoi {m:Int}(ht:w.heap[t]?=some (.cells #[J I m] 152 (0,0)))(hG:Jr w):Calls Lp 71 #[.nilIface,.iface 154 (.pointer (some ⟨t,0,none⟩))] w (Two w (.bool false)):=by
 cases h1:(((zJ 1 0 3).cut (w.tape w.drawn (.appendCap 1 0 3)):Int)==1) with
 |true=>exact(OZ _ _ _ h1).mono fun e w' ⟨he,hB⟩=>⟨hB,.inr ⟨_,he,.inr ⟨_,_,_,_,rfl,.inl rfl,t,m,rfl,(Za.1 ht).1,(hB.block _ (Za.1 ht).1).trans ht,hG.pos,hG.later hB⟩⟩⟩
 |false=>exact(gO _ _ h1).mono fun e w' ⟨he,hB⟩=>⟨hB,.inl he⟩
def As (w:Zb)(t:Nat)(n:Int)(e:Ending)(w':Zb):Prop:=(e=.returned (.bool true)/\YH w.heap.size (w.setCell ⟨t,0,none⟩ (J I n)) w')\/(Bl w w'/\∃x,e=.panicked x/\PX x w')
def aoj {m n:Int}(ht:w.heap[t]?=some (.cells #[J I m] 152 (0,0)))(hG:Jr w):Calls Lp 71 #[.iface 152 (.agg #[J I n]),.iface 154 (.pointer (some ⟨t,0,none⟩))] w (As w t n):=by
 cases h1:(((zJ 1 0 3).cut (w.tape w.drawn (.appendCap 1 0 3)):Int)==1) with
 |true=>exact(OZ _ _ _ h1).mono fun e w' ⟨he,hB⟩=>.inr ⟨hB,_,he,.inr ⟨_,_,_,_,rfl,.inr ⟨n,rfl⟩,t,m,rfl,(Za.1 ht).1,(hB.block _ (Za.1 ht).1).trans ht,hG.pos,hG.later hB⟩⟩
 |false=>exact(gP n m t w h1 ht).mono fun e w' ⟨he,hB⟩=>.inl ⟨he,hB⟩
def Rl (S:Nat->Prop)(w:Zb)(cs:List Zf)(x:List Int):Prop:=∃u,cs=[u]/\SI S w u x
abbrev SL (S:Nat->Prop):=Sl S (Rl S) 1
def SL.Ar {l:List (List Int)}(h:SL S w v l)(hw:CE S w w'):SL S w' v l:=Sl.Ar h hw fun _ _ ⟨u,e,hu⟩=>⟨u,e,hu.Ar hw⟩
def SL.later {l:List (List Int)}(h:SL S w v l)(hB:Bl w W):SL S W v l:=h.Ar (CE.Ec hB)
def BM (l:List (List Int))(i:Nat):List Int:=l.getD i []
def BJ {l:List (List Int)}(h:i<l.length):l[i]?=some (BM l i):=by simp[BM,h]
def SL.at_ {a:Option Addr}{c:Nat}{l:List (List Int)}(h:SL S w (U a l.length c) l)(hi:i<l.length):∃b o u,a=some ⟨b,o,none⟩/\S b/\w.cell? ⟨b,o+i,none⟩=some u/\SI S w u (BM l i):=by
 obtain⟨a',c',h1,_,_,h4⟩:=h;cases h1;obtain⟨b,o,cs,g1,g2,g3,g4,u,rfl,hu⟩:=h4 i _ (BJ hi);exact⟨b,o,u,g1,g2,by simpa using g4 0 _ rfl,hu⟩
def MY (ab:Nat->Nat):A_->Nat->List (List Int)->Int×Int
 |_,_,[]=>(-1,-1)
 |c,k,l::r=>match JU c (Cx ab c.now l) with
  |some x=>(k,x)
  |none=>MY ab (FH c l (Cx ab c.now l)) (k+1) r
def F2 (c:A_)(ls:List (List Int)):Int:=PM (BN c) (if 5<ls.length then 6 else Bc (Ct c) ls)
def Eu (c:A_)(ls:List (List Int)):Int×Int:=if F2 c ls=0 then MY (Ax c.Aa) c 0 ls else(0,0)
variable {ls:List (List Int)}
def bO (h:k<ls.length):MY ab c k (ls.drop k)=(match JU c (Cx ab c.now (BM ls k)) with
  |some x=>((k:Int),x)
  |none=>MY ab (FH c (BM ls k) (Cx ab c.now (BM ls k))) (k+1) (ls.drop (k+1))):=by
 obtain⟨hk,e⟩:=Zm.1 (BJ h);rw[ZO hk,e]
 rfl
def PS (t:Nat):(AB t).Nodup:=by
 unfold AB FF;unfold List.Nodup;rw[List.pairwise_map];exact(List.Pairwise.filter _ (List.nodup_range (n:=3))).imp (fun h e=>h (by omega))
def Ld:∀(l:List Int) (s:List Ay) (j:Nat),(∀x∈l,0<=x/\x<s.length)->(j:Int)∉l->Aj (CJ s l) j=Aj s j
 | [],_,_,_,_=>rfl
 |i::r,s,j,hx,hj=>by
  obtain⟨h0,h1⟩:=hx i (zC ..);have hi:i.toNat<s.length:=by omega
  show Aj (CJ (Kn s i.toNat) r) j=_;rw[Ld r _ j (fun x hm=>by rw[Gw];exact hx x (zm _ hm)) (fun hm=>hj (zm _ hm)),LI hi,if_neg];intro e;exact hj (by rw[e,show((i.toNat:Nat):Int)=i by omega];exact zC ..)
def MZ:∀(l:List Int) (s:List Ay) (j:Nat),l.Nodup->(∀x∈l,0<=x/\x<s.length)->(Aj (CJ s l) j).left=(Aj s j).left\/(Aj (CJ s l) j).left=(Aj s j).left - 1
 | [],_,_,_,_=>.inl rfl
 |i::r,s,j,hn,hx=>by
  obtain⟨h0,h1⟩:=hx i (zC ..);have hi:i.toNat<s.length:=by omega
  have hr:∀x∈r,0<=x/\x<(Kn s i.toNat).length:=fun x hm=>by rw[Gw];exact hx x (zm _ hm)
  show(Aj (CJ (Kn s i.toNat) r) j).left=_\/(Aj (CJ (Kn s i.toNat) r) j).left=_;by_cases hj:j=i.toNat
  .rw[Ld r _ j hr (fun hm=>(List.nodup_cons.1 hn).1 (by rw[hj,show((i.toNat:Nat):Int)=i by omega]at hm;exact hm)),LI hi,if_pos hj,hj]
   exact .inr rfl
  have:=MZ r _ j (List.nodup_cons.1 hn).2 hr;rw[LI hi,if_neg hj]at this;exact this
def M0:∀(l:List Int) (s:List Ay) (j:Nat),(∀x∈l,0<=x/\x<s.length)->(Aj (CJ s l) j).Ap=(Aj s j).Ap/\(Aj (CJ s l) j).over=(Aj s j).over/\(Aj (CJ s l) j).low=(Aj s j).low/\(Aj (CJ s l) j).high=(Aj s j).high
 | [],_,_,_=>⟨rfl,rfl,rfl,rfl⟩
 |i::r,s,j,hx=>by
  obtain⟨h0,h1⟩:=hx i (zC ..);have hi:i.toNat<s.length:=by omega
  have:=M0 r (Kn s i.toNat) j (fun x hm=>by rw[Gw];exact hx x (zm _ hm));rw[LI hi]at this;change(Aj (CJ (Kn s i.toNat) r) j).Ap=_/\(Aj (CJ (Kn s i.toNat) r) j).over=_/\(Aj (CJ (Kn s i.toNat) r) j).low=_/\(Aj (CJ (Kn s i.toNat) r) j).high=_;split at this
  .next e=>rw[e]at this⊢;exact this
  exact this
def aok (w:Zb)(a b e:Int):Ending->Zb->Prop:=Two w (.tuple #[J I a,J I b,J I e])
def Eh {fn:Func}{p q r:Tmp}(h:fn.results= #[.tmp p,.tmp q,.tmp r])(tmps:Array Zf)(P:Zo)(w:Zb):(results fn tmps).run P w=.ok (.tuple #[tmps.getD p Ze,tmps.getD q Ze,tmps.getD r Ze]) w:=by
 simp[results,h]
structure DOK (c d:A_)(k:Nat):Prop where
 base:d.base=c.base
 Af:d.Af=c.Af
 hooks:d.hooks=c.hooks
 len:d.Aa.length=c.Aa.length
 now:d.now.length=c.Aa.length
 left:∀i,i<c.Aa.length->-(k:Int)<=(Aj d.Aa i).left/\(Aj d.Aa i).left<=4
 rest:∀i,i<c.Aa.length->(Aj d.Aa i).Ap.length<=1000/\(Aj d.Aa i).over.length<=1000
def DOK.abw {d:A_}(h:DOK c d k)(hl:l.length=c.Aa.length)(hx:∀x,x∈AB t->0<=x/\x<d.Aa.length):DOK c (FH d l t) (k+1):=by
 refine⟨h.base,h.Af,h.hooks,(O_ _ _).trans h.len,hl,fun i hi=>?_,fun i hi=>?_⟩
 .have:=h.left i hi
  show -((k+1:Nat):Int)<=(Aj (CJ d.Aa (AB t)) i).left/\(Aj (CJ d.Aa (AB t)) i).left<=4;rcases MZ (AB t) d.Aa i (PS t) hx with e|e<;>rw[e]<;>omega
 have:=h.rest i hi;obtain⟨e1,e2,_⟩:=M0 (AB t) d.Aa i hx;show(Aj (CJ d.Aa (AB t)) i).Ap.length<=1000/\(Aj (CJ d.Aa (AB t)) i).over.length<=1000;rw[e1,e2];exact this
def c34 (h:RC S w v1 v2 v3 v4 v5 c)(hl:SL S w v6 ls)(hS:∀b,S b->b<w.heap.size)(hG:Jr w)(mA:∀i,i<c.Aa.length->(Aj c.Aa i).over.length<=1000):
  Calls Lp 43 #[.agg #[v1,v2,v3,v4,v5],v6] w (aok w (Eu c ls).1 (Eu c ls).2 (F2 c ls)):=by
 obtain⟨a1,c1,rfl,l1,m1⟩:=h.base.val;obtain⟨a2,c2,rfl,l2,m2⟩:=h.Af.val;obtain⟨a3,c3,rfl,l3,m3⟩:=h.hooks.val;obtain⟨a4,c4,rfl,l4,m4⟩:=h.Aa.val;obtain⟨a5,c5,rfl,l5,m5⟩:=h.now.val;obtain⟨a6,c6,rfl,l6,m6⟩:=hl.val;have IX:=DJ;have Bg:Bl w (w.alloc (.cells #[U a1 c.base.length c1,U a2 c.Af.length c2,U a3 c.hooks.length c3,U a4 c.Aa.length c4,U a5 c.now.length c5] 28)):=(Zh _ _).alloc (Zj _) _;by_cases Jz:BN c=0
 .have ez:=Zd (fun W hB=>Wt (w:=W) (h.later hB) (A3 hS hB) Jz)
  have H89:=Zd (fun W hB v l (hv:SI S w v l)=>c89 (w:=W) (h.later hB) (hv.later hB) (A3 hS hB));have HE:=Zd (show F2 c ls=if 5<ls.length then 6 else Bc (Ct c) ls by rw[F2,BR Jz]);by_cases hm:5<ls.length
  .have HX:=Zd (show F2 c ls=6 by rw[HE.out,if_pos hm])
   have HV:=Zd (show Eu c ls=(0,0) by rw[Eu,HX.out];rfl);have hmi:(5:Int)<(ls.length:Int):=by omega
   clear Jz;go_enter Lp.func34,n34;go_wp2_with (go_at_call 20;refine(ez.out _ Bg).mono ?_;rintro e w1 ⟨rfl,Bb⟩;have Bv:=Bg.trans (Bb.mono Bg.size));refine ZN (Eh rfl _ _ _) rfl ?_;refine⟨?_,.inl (by rw[HV.out,HX.out];rfl)⟩
   repeat (with_reducible first|exact Bv|refine bA ?_|(refine bS ?_ (by omega))|refine bD ?_|refine bN ?_)
  have HX:=Zd (show F2 c ls=Bc (Ct c) ls by rw[HE.out,if_neg hm]);have hm5:ls.length<=5:=by omega
  have HB0:=Zd Jz;have hv:=EG Jz;clear Jz hm;go_enter Lp.func34,n34;go_wp2_with (go_at_call 20;refine(ez.out _ Bg).mono ?_;rintro e w1 ⟨rfl,Bb⟩;have Bv:=Bg.trans (Bb.mono Bg.size));obtain⟨W2,MX⟩:∃W2,W2=w1.alloc (.cells (AW (U a1 c.base.length c1) (U a2 c.Af.length c2) (U a3 c.hooks.length c3) (U a4 c.Aa.length c4) (U a5 c.now.length c5) (Ax c.Aa)) 62):=⟨_,rfl⟩;have Ia:Bl w1 W2:=by rw[MX];exact(Zh _ _).alloc (Zj _) _
  have T3:W2.heap[w1.heap.size]?=some (.cells (AW (U a1 c.base.length c1) (U a2 c.Af.length c2) (U a3 c.hooks.length c3) (U a4 c.Aa.length c4) (U a5 c.now.length c5) (Ax c.Aa)) 62 (0,0)):=by rw[MX];exact Bp _ _
  have l_:=(Bb.block w.heap.size (by simp)).trans (Bp w _);have hK2:=(Ia.block _ (Za.1 l_).1).trans l_;have De:=Bv.trans (Ia.mono Bv.size);change Code.wp _ _ _ _ (w1.alloc (.cells (AW (U a1 c.base.length c1) (U a2 c.Af.length c2) (U a3 c.hooks.length c3) (U a4 c.Aa.length c4) (U a5 c.now.length c5) (Ax c.Aa)) 62));rw[<-MX];clear MX Ia l_ Bb ez;go_loopg [30] ls.length (fun g i wr=>∃k:Nat,k<=ls.length/\g=ls.length - k/\i=.int I k/\Bc (Ct c) (ls.drop k)=Bc (Ct c) ls/\Bl W2 wr)
  case atStart=>exact⟨0,Zp _,rfl,rfl,rfl,Zh _ _⟩
  obtain⟨k,hk,rfl,rfl,CP,Jp⟩:=hrel;have hf:=Zd CP;clear CP;have Cj:=De.trans (Jp.mono De.size);have hKr:=(Jp.block _ (Za.1 hK2).1).trans hK2;by_cases Az:k<ls.length
  .obtain⟨b,o,u,rfl,hb,hc,hu⟩:=hl.at_ Az
   rw[<-Cj.cell (p:=⟨b,o+k,none⟩) (hS b hb)]at hc;obtain⟨a7,c7,rfl,l7,m7⟩:=hu.val;have hfd:=Zd (E_ (f:=Ct c) (BJ Az));have k0:=ch (i:=0) hKr (v:=.slice a1 c.base.length c1) rfl;have k1:=ch (i:=1) hKr (v:=.slice a2 c.Af.length c2) rfl;have k2:=ch (i:=2) hKr (v:=.slice a3 c.hooks.length c3) rfl;have k3:=ch (i:=3) hKr (v:=.slice a4 c.Aa.length c4) rfl;have k4:=ch (i:=4) hKr (v:=.slice a5 c.now.length c5) rfl;go_wp2_with (go_at_call 51;refine(H89.out _ Cj _ _ hu).mono ?_;rintro e w3 ⟨rfl,DM⟩;have NU:=Jp.trans (DM.mono Jp.size))
   .have q:(Ct c (BM ls k) !=0)=true:=by assumption
    have e1:Bc (Ct c) ls=Ct c (BM ls k):=by rw[<-hf.out,hfd.out,if_neg (Gr q)]
    refine ZN (Eh rfl _ _ _) rfl ?_;have e2:F2 c ls=Ct c (BM ls k):=by rw[HX.out,e1]
    have e3:Eu c ls=(0,0):=by rw[Eu,e2,if_neg (Gr q)]
    exact⟨De.trans (NU.mono De.size),.inl (by rw[e3,e2];rfl)⟩
   have q:(Ct c (BM ls k) !=0)=false:=by assumption
   go_roundg (ls.length - (k+1))
   case rel=>exact⟨k+1,by omega,rfl,by go_num,by rw[<-hf.out,hfd.out,if_pos (FE q)],NU⟩
   omega
  have e0:Bc (Ct c) ls=0:=by rw[<-hf.out];exact FZ (by omega)
  have HX0:=Zd (show F2 c ls=0 by rw[HX.out,e0]);have HV:=Zd (show Eu c ls=MY (Ax c.Aa) c 0 ls by rw[Eu,if_pos HX0.out]);have HSE:=Zd (fun i (hi:i<ls.length)=>Ef e0 i _ (BJ hi));obtain⟨ab,DU⟩:∃ab,ab=Ax c.Aa:=⟨_,rfl⟩;have pT:=S3 hv.over;have haL:=LH hv.over;have iE:=(Jp.block _ (Za.1 T3).1).trans T3;rw[<-DU]at HV pT haL iE;have mG:=Zd DU;have Jm:=hv.few;have xE:=hv.uy;have l9:=hv.Fp;have hD0:DOK c c 0:=⟨rfl,rfl,rfl,rfl,xE,fun i hi=>by have:=hv.left i hi;omega,fun i hi=>⟨by have:=hv.Ap i hi;omega,mA i hi⟩⟩;have aW:∀b,S b->b<wr.heap.size/\b≠w1.heap.size:=fun b hb=>⟨Zl (hS b hb) Cj.size,by have:=hS b hb;have:=Bv.size;omega⟩;have aoo:=h.later Cj;have HEQ:=Zd hv.PN;have HHQ:=Zd hv.hooks;clear hf e0 DU hKr De hK2 T3 Jp Bg xE;go_wp2;go_loopg [43] ls.length (fun g i wx=>∃(k:Nat) (d:A_) (T:Nat->Prop) (q1 q2 q3 q4 q5:Option Addr) (d1 d2 d3 d4 d5:Nat),k<=ls.length/\g=ls.length - k/\i=.int I k/\MY ab d k (ls.drop k)=MY ab c 0 ls/\DOK c d k/\Bl w wx/\
   wx.heap[w1.heap.size]?=some (.cells #[U q1 d.base.length d1,U q2 d.Af.length d2,U q3 d.hooks.length d3,U q4 d.Aa.length d4,U q5 d.now.length d5,J .u8 (ab 0),J .u8 (ab 1),J .u8 (ab 2)] 62 (0,0))/\RC T wx (U q1 d.base.length d1) (U q2 d.Af.length d2) (U q3 d.hooks.length d3) (U q4 d.Aa.length d4) (U q5 d.now.length d5) d/\(∀b,T b->b<wx.heap.size/\b≠w1.heap.size))
  case atStart=>exact⟨0,c,S,_,_,_,_,_,_,_,_,_,_,Zp _,rfl,rfl,rfl,hD0,Cj,iE,aoo,aW⟩
  obtain⟨k,d,T,q1,q2,q3,q4,q5,d1,d2,d3,d4,d5,hk,rfl,rfl,CP,hD,U5,S6,hR,hT⟩:=hrel;have hf:=Zd CP;clear CP;by_cases G4:k<ls.length
  .obtain⟨b,o,u,rfl,hb,hc,hu⟩:=hl.at_ G4
   rw[<-U5.cell (p:=⟨b,o+k,none⟩) (hS b hb)]at hc;obtain⟨a7,c7,rfl,l7,m7⟩:=hu.val;have ER:=HSE.out k G4;obtain⟨hlen,_⟩:=Fb ER;have hdn:=hD.now;have hds:=hD.len;obtain⟨lk,hlk⟩:∃lk,lk=BM ls k:=⟨_,rfl⟩;have hld:=Zd (bO (ab:=ab) (c:=d) G4);rw[<-hlk]at hc hu l7 hlen hld;clear hlk ER;obtain⟨t,ht⟩:∃t,t=Cx ab d.now lk:=⟨_,rfl⟩;have cI:t<2^c.Aa.length:=by rw[ht];exact JW haL lk 0 0 (by omega) (Zdz _)
   have pK:t<8:=Zl cI (show 2^c.Aa.length<=2^3 from YX (by decide) Jm.2);have bP:∀x,x∈AB t->0<=x/\x<d.Aa.length:=by rw[hds];exact N_ cI
   have hTS:∀W,Bl wr W->∀b,(T b\/S b)->b<W.heap.size:=fun W Lc b hb=>by
    rcases hb with hb|hb
    .have:=(hT b hb).1;have:=Lc.size;omega
    have:=hS b hb;have:=U5.size;have:=Lc.size;omega
   have hRT:∀W,Bl wr W->RC (fun b=>T b\/S b) W (U q1 d.base.length d1) (U q2 d.Af.length d2) (U q3 d.hooks.length d3) (U q4 d.Aa.length d4) (U q5 d.now.length d5) d:=fun W Lc=>(hR.later Lc).imp (fun b hb=>.inl hb);have huT:∀W,Bl wr W->SI (fun b=>T b\/S b) W (U a7 lk.length c7) lk:=fun W Lc=>Sl.imp ((hu.later U5).later Lc) (fun b hb=>.inr hb) (fun _ _ x=>x);have M_:=Zd (fun W (Lc:Bl wr W)=>c90 (w:=W) (l:=lk) (ab:=ab) (hRT W Lc) (huT W Lc) (by omega) (by omega) pT (by rw[<-ht];exact bP) (hTS W Lc));have H92:=Zd (fun W (Lc:Bl wr W) (h1:k<=4)=>c92 (w:=W) (l:=lk) (t:=t) (hRT W Lc) (huT W Lc) (hTS W Lc) pK bP (fun i hi=>by have:=hD.left i (by omega);omega) (by rw[hD.base];omega) (by rw[hD.Af,HEQ.out];omega) (by rw[hD.hooks,HHQ.out];omega) (by omega) (by omega) (by omega) (fun i hi=>hD.rest i (by omega)) (by omega) (ab 0) (ab 1) (ab 2));rw[<-ht]at M_ hld;have HT:=Zd ht;have HDw:=Zd (hD.abw (t:=t) (l:=lk) (by omega) bP);have k0:=ch (i:=0) S6 (v:=.slice q1 d.base.length d1) rfl;have k1:=ch (i:=1) S6 (v:=.slice q2 d.Af.length d2) rfl;have k2:=ch (i:=2) S6 (v:=.slice q3 d.hooks.length d3) rfl;have k3:=ch (i:=3) S6 (v:=.slice q4 d.Aa.length d4) rfl;have k4:=ch (i:=4) S6 (v:=.slice q5 d.now.length d5) rfl;have k5:=ch (i:=5) S6 (v:=.int .u8 (ab 0)) rfl;have k6:=ch (i:=6) S6 (v:=.int .u8 (ab 1)) rfl;have k7:=ch (i:=7) S6 (v:=.int .u8 (ab 2)) rfl;have hwl:=U5.size;have NN:=(Za.1 S6).1;have hGg:∀W,Bl wr W->Jr W:=fun W Lc=>hG.later (U5.trans (Lc.mono U5.size));have HGg:=Zd hGg;have HGx:=Zd S6;have HR:=Zd hR;have HTT:=Zd hT;clear ht hTS hRT huT hD hGg S6 hR hT bP cI hb hu hlen hdn hds;cases jG:JU d t with
   |some x=>
    rw[jG]at M_ hld;change Hid (∀W (Lc:Bl wr W),Calls Lp 62 _ _ fun e w'=>e=.returned (.tuple #[J .u8 0,.iface 152 (.agg #[J I x])])/\Bl W w') at M_;have HLD:=Zd (show Eu c ls=((k:Int),x) by rw[HV.out, <-hf.out,hld.out]);clear jG hf hld;go_wp2_with (go_at_call 62;refine(M_.out _ (Zh _ _)).mono ?_;rintro e w3 ⟨rfl,S7⟩);obtain⟨W4,ED⟩:∃W4,W4=w3.alloc (.cells #[J I 0] 152):=⟨_,rfl⟩;have Ks:Bl wr W4:=by rw[ED];exact bA S7
    have xF:W4.heap[w3.heap.size]?=some (.cells #[J I 0] 152 (0,0)):=by rw[ED];exact Bp _ _
    rw[<-ED];clear ED;have Rb:=S7.size;have De:=U5.trans (Ks.mono U5.size);have ht4:=(Za.1 xF).1;refine(aoj xF (HGg.out _ Ks)).mono ?_;rintro e w6 (⟨rfl,DM⟩|⟨DM,x',rfl,Ss⟩)
    .have hS4:Bl w (W4.setCell ⟨w3.heap.size,0,none⟩ (J I x)):=bS De (by omega)
     have NU:Bl w w6:=hS4.trans (DM.mono De.size);have hcx:=(DM.cell (p:=⟨w3.heap.size,0,none⟩) ht4).trans (ch (Ba xF (J I x)) (i:=0) rfl);clear DM hS4 xF Ks S7 De;dsimp only;go_wp2;go_quiet (fail);go_wp2;refine ZN (Eh rfl _ _ _) rfl ?_;exact⟨Y5 NU _,.inl (by rw[HLD.out,HX0.out];rfl)⟩
    .exact⟨rfl,De.trans (DM.mono De.size),.inr ⟨_,rfl,Ss⟩⟩
   |none=>
    rw[jG]at M_ hld;change Hid (∀W (Lc:Bl wr W),Calls Lp 62 _ _ fun e w'=>e=.returned (.tuple #[J .u8 t,.nilIface])/\Bl W w') at M_;clear jG;go_wp2_with (go_at_call 62;refine(M_.out _ (Zh _ _)).mono ?_;rintro e w3 ⟨rfl,S7⟩);obtain⟨W4,ED⟩:∃W4,W4=w3.alloc (.cells #[J I 0] 152):=⟨_,rfl⟩;have Ks:Bl wr W4:=by rw[ED];exact bA S7
    have xF:W4.heap[w3.heap.size]?=some (.cells #[J I 0] 152 (0,0)):=by rw[ED];exact Bp _ _
    rw[<-ED];clear ED;have Rb:=S7.size;have De:=U5.trans (Ks.mono U5.size);have ht4:=(Za.1 xF).1;refine(aoi xF (HGg.out _ Ks)).mono ?_;rintro e w6 ⟨DM,rfl|⟨x',rfl,Ss⟩⟩
    .have Vf:=Ks.trans (DM.mono Ks.size)
     have hk4:k<=4:=by omega
     have h92:=H92.out _ Vf hk4;clear DM xF Ks S7 De;have H92:=Zd h92;clear h92;obtain⟨hc6,hf6⟩:=E7 Vf;dsimp only;go_wp2_with (go_at_call 63;refine H92.out.mono ?_;rintro e w7 ⟨u1,u2,u3,u4,u5,rfl,NU,xG⟩;obtain⟨p1,t1,rfl,_⟩:=xG.base.val;obtain⟨p2,t2,rfl,_⟩:=xG.Af.val;obtain⟨p3,t3,rfl,_⟩:=xG.hooks.val;obtain⟨p4,t4,rfl,_⟩:=xG.Aa.val;obtain⟨p5,t5,rfl,_⟩:=xG.now.val;have Le:=(NU.block _ (Zl NN Vf.size)).trans ((Vf.block _ NN).trans HGx.out);have x0:=ch (i:=0) Le (v:=.slice q1 d.base.length d1) rfl;have y0:=cf (i:=0) Le;have x1:=ch (i:=1) Le (v:=.slice q2 d.Af.length d2) rfl;have y1:=cf (i:=1) Le;have x2:=ch (i:=2) Le (v:=.slice q3 d.hooks.length d3) rfl;have y2:=cf (i:=2) Le;have x3:=ch (i:=3) Le (v:=.slice q4 d.Aa.length d4) rfl;have y3:=cf (i:=3) Le;have x4:=ch (i:=4) Le (v:=.slice q5 d.now.length d5) rfl;have y4:=cf (i:=4) Le;have x5:=ch (i:=5) Le (v:=.int .u8 (ab 0)) rfl;have y5:=cf (i:=5) Le;have x6:=ch (i:=6) Le (v:=.int .u8 (ab 1)) rfl;have y6:=cf (i:=6) Le;have x7:=ch (i:=7) Le (v:=.int .u8 (ab 2)) rfl;have y7:=cf (i:=7) Le;clear hc6 hf6);have Jn:Bl w w7:=(U5.trans (Vf.mono U5.size)).trans (NU.mono (U5.trans (Vf.mono U5.size)).size);go_roundg (ls.length - (k+1))
     case rel=>
      refine⟨k+1,FH d lk t,Cb w6.heap.size w7,p1,p2,p3,p4,p5,t1,t2,t3,t4,t5,by omega,rfl,by go_num,by rw[<-hf.out,hld.out],HDw.out,?_,?_,?_,?_⟩
      .have hwb:w.heap.size<=w1.heap.size:=Bv.size
       repeat (with_reducible first|exact Jn|(refine bS ?_ (by omega)))
      .exact Ba (Ba (Ba (Ba (Ba (Ba (Ba (Ba Le _) _) _) _) _) _) _) _
      .have BL:∀b,Cb w6.heap.size w7 b->b≠w1.heap.size:=fun b hb e=>by have:=hb.1;have:=Vf.size;omega
       refine xG.Ar ?_
       repeat (with_reducible first|exact CE.refl _ _|refine ahl ?_ BL)
      intro b hb;have:=Vf.size;refine⟨by simpa using hb.2,?_⟩;have:=hb.1;omega
     omega
    exact⟨rfl,De.trans (DM.mono De.size),.inr ⟨_,rfl,Ss⟩⟩
  have e9:Eu c ls=(-1,-1):=by rw[HV.out, <-hf.out,Z7.2 (by omega)];rfl
  have E9:=Zd e9;clear e9 hf hD hR hT S6;go_wp2;refine ZN (Eh rfl _ _ _) rfl ?_;exact⟨U5,.inl (by rw[E9.out,HX0.out];rfl)⟩
 have HE:=Zd (show F2 c ls=BN c by rw[F2,K4 Jz]);have HV:=Zd (show Eu c ls=(0,0) by rw[Eu,HE.out,if_neg Jz]);have ez:=Zd (fun W hB=>c88 (w:=W) (h.later hB) (A3 hS hB));obtain⟨x,hx⟩:∃x,x=BN c:=⟨_,rfl⟩;have Oo:x≠0:=by rw[hx];exact Jz
 have HX:=Zd hx;clear hx Jz;go_enter Lp.func34,n34;go_wp2_with (go_at_call 20;refine(ez.out _ Bg).mono ?_;rintro e w1 ⟨q1,q2,q3,q4,q5,n1,n2,n3,n4,n5,d1,d2,d3,d4,d5,k0,k1,k2,rfl,Bb,_⟩;have Bv:=Bg.trans (Bb.mono Bg.size);rw[<-HX.out]);refine ZN (Eh rfl _ _ _) rfl ?_;refine⟨?_,.inl (by rw[HV.out,HE.out, <-HX.out];rfl)⟩
 repeat (with_reducible first|exact Bv|refine bA ?_|(refine bS ?_ (by omega))|refine bD ?_|refine bN ?_)
def bQ (S:Nat->Prop)(w w':Zb):Prop:=∀p v,S p.block->w.cell? p=some v->w'.cell? p=some v
variable {α:Type}
def Sl.H3 {R R':Zb->List Zf->α->Prop}{l:List α}(h:Sl S R k w v l)(hw:bQ S w w')(hR:∀cs x,R w cs x->R' w' cs x):Sl S R' k w' v l:=by
 obtain⟨a,c,h1,h2,h3,h4⟩:=h;refine⟨a,c,h1,h2,h3,fun i x hx=>?_⟩;obtain⟨b,o,cs,g1,g2,g3,g4,g5⟩:=h4 i x hx;exact⟨b,o,cs,g1,g2,g3,fun j u hu=>hw ⟨b,o+i*k+j,none⟩ u g2 (g4 j u hu),hR _ _ g5⟩
def SI.H3 (h:SI S w v l)(hw:bQ S w w'):SI S w' v l:=Sl.H3 h hw fun _ _ h=>h
def SP.H3 {l:List (Int×Int)}(h:SP S w v l)(hw:bQ S w w'):SP S w' v l:=Sl.H3 h hw fun _ _ h=>h
def RC.H3 (h:RC S w v1 v2 v3 v4 v5 c)(hw:bQ S w w'):RC S w' v1 v2 v3 v4 v5 c:=
 ⟨h.base.H3 hw,h.Af.H3 hw,h.hooks.H3 hw,Sl.H3 h.Aa hw fun _ _ ⟨v2,v3,e,x2,x3⟩=>⟨v2,v3,e,x2.H3 hw,x3.H3 hw⟩,h.now.H3 hw⟩
def Sl.live {R R':Zb->List Zf->α->Prop}{l:List α}(h:Sl S R k w v l)(hk:0<k)(hR:∀cs x,R w cs x->R' w cs x):Sl (fun b=>S b/\b<w.heap.size) R' k w v l:=by
 obtain⟨a,c,h1,h2,h3,h4⟩:=h;refine⟨a,c,h1,h2,h3,fun i x hx=>?_⟩;obtain⟨b,o,cs,g1,g2,g3,g4,g5⟩:=h4 i x hx;exact⟨b,o,cs,g1,⟨g2,ZH w _ (g4 0 _ (zf (by omega)))⟩,g3,g4,hR _ _ g5⟩
def RC.live (h:RC S w v1 v2 v3 v4 v5 c):RC (fun b=>S b/\b<w.heap.size) w v1 v2 v3 v4 v5 c:=
 ⟨Sl.live h.base (by decide) fun _ _ x=>x,Sl.live h.Af (by decide) fun _ _ x=>x,Sl.live h.hooks (by decide) fun _ _ x=>x,Sl.live h.Aa (by decide) fun _ _ ⟨v2,v3,e,x2,x3⟩=>⟨v2,v3,e,Sl.live x2 (by decide) fun _ _ x=>x,Sl.live x3 (by decide) fun _ _ x=>x⟩,Sl.live h.now (by decide) fun _ _ x=>x⟩
def eN (ls:List (List Int)):ls=(Zcq 0 ls.length).map (BM ls):=by
 apply YA;intro i;by_cases hi:i<ls.length
 .rw[BJ hi,YL,List.getElem?_range' hi]
  simp
 rw[ZP (by omega),ZP (by simp;omega)]
def WI (ls:List (List Int))(p:List Int->Bool):ls.filter p=((Zcq 0 ls.length).filter fun i=>p (BM ls i)).map (BM ls):=by
 conv=>lhs;rw[eN ls]
 rw[List.filter_map]
 rfl
end Go.Proofs.Fit
