/- SeamLast: for every list of numbers, on every schedule and without a data race, the law returns true, and the argument reads afterwards as it read before. Conditions: those of the given row alone (the variable errors.errorType starts as the program's text lays it; the card ties that to the text). -/
import Derived.Test.YtlhleofdpmmpnaaGreatDoorQ11
import Derived.Test.YtlhleofdpmmpnaaGreatDoorQ08
import Derived.Lib.MinMax
set_option maxRecDepth 100000
set_option maxHeartbeats 6400000
noncomputable section
set_option linter.all false
open And renaming intro->ZY
open Array renaming toList_setIfInBounds->ZcM,replicate->Yu,getElem?_eq_some_iff->Za,getElem?_setIfInBounds_ne->Zk,getElem?_setIfInBounds_self_of_lt->ZV,mem_of_getElem?->zY
open Bool renaming and_eq_true->ZF
open Go renaming Value->Zf,World->Zb,callFunc->Zz,TypeId->Zs,Program->Zo,undef->Ze,loadVar->Zdd,YieldsIf->ZbF,wpOp_mono->Zcc,wp_region_any->Zd5,execOp->Zby,FuncId->ZaQ,bodyPost_ret->ZN,info_parts->zp,wpList_append_own->Yc,wpQuiet_nil->Z4
open Go.Act renaming put->Zck
open Go.Code renaming region->zU
open Go.Instr renaming field->ZdO
open Go.IntKind renaming wrap_i64->zE
open Go.Lib renaming hid->Zd
open Go.OpenSpec renaming ofChange->ZbV
open Go.Oper renaming semAt_some->Zdk,wp->ZbA,upon_value->Zdi,upon_enter->Zdj,upon_skip->ZcQ
open Go.Proofs.Tryz renaming underlying30->zW,prog->Zc
open Go.Region renaming Mode->YO,ready->zs,free->Za3,noSelect->YF,wanted->Yf
open Go.Result renaming andThen->zu
open Go.RowKit renaming Below->YH
open Go.RowKit.Below renaming refl->Zh
open Go.Sem renaming run_bind->zg
open Go.Value renaming oneCell'->YT,slice->Zy,pointer->ZbT,int->ZL,tuple->YK
open Go.World renaming ownsRow_nil->zq,size_alloc->ZB,block_lt_of_cell?->ZH
open Go.World.ownsRow renaming alloc->Ya
open List renaming range->Yr,getElem?_eq_getElem->zf,getD_eq_getElem?_getD->Y6,pairwise_iff_getElem->ZdK,getElem_of_mem->Zas,ext_getElem?->YA,getElem?_map->YL,length_set->ZcC,getElem?_set_self->Ys,getElem?_set_ne->ZS,getElem?_eq_some_iff->Zm,getElem?_take_of_lt->Z2,getElem?_drop->Yl,getElem?_eq_none->ZP,length_append->ZA,getElem?_append_left->zl,length_cons->zb,length_nil->zR,getElem?_concat_length->Y1,drop_eq_getElem_cons->ZO,length_take->ZcV,take_add_one->ZbH,all_eq_true->Zdm,mem_append->Zab,drop_eq_nil_iff->Z7,mem_of_getElem?->Z3,mem_singleton->Yh,filterMap_cons->Z6,filterMap_nil->zd,getElem?_toArray->ZG,getElem?_cons_succ->ZD,getElem?_cons_zero->ZC
open Nat renaming zero_add->zN,le_refl->Zj,lt_of_lt_of_le->Zl,le_trans->Zr,zero_le->Zp
open Ne renaming symm->Za0
open Option renaming map_some->Zdh
open Option.some renaming inj->ZW
namespace Go.Proofs.Fit
open Go
@[simp] def Lp.func10:=l! Tryz.func3
@[simp] def Lp.call27:=c! Lp.func27
@[simp] def Lp.func51:=l! Tryz.func12
@[simp] def Lp.call51:=c! Lp.func51
@[simp] def Lp.func59:=l! Tryz.func10
@[simp] def Lp.call59:=c! Lp.func59
def n10:Tryz.f3.ntmps=171:=rfl
def n51:Tryz.f12.ntmps=19:=rfl
def n59:Tryz.f10.ntmps=25:=rfl
end Go.Proofs.Fit
namespace Go.Proofs.Fit
open Go Go.RowKit
def aiJ (l:List Int)(a:List Bool):List Bool:=l.foldl (λo x=>o.set x.toNat true) a
def yn (n:Nat):Nat->List (List Int)->List Bool->List Bool
 |_,[],a=>a
 |i,s::r,a=>yn n (i+1) r (if i=n\/a.getD i false=true then aiJ s a else a)
def iV (n:Nat)(l:List (List Int)):Nat->List Bool->List Bool
 |0,a=>a
 |k+1,a=>iV n l k (yn n 0 l a)
def aiK (o:List (List Int))(n:Nat):List Bool:=iV n o o.length (List.replicate o.length false)
def rh (ab:Nat->Nat)(i:Nat):List (List Int)->Nat->Nat
 | []=>ab
 |s::r=>rh (HJ ab i s) (i+1) r
def iW (ab:Nat->Nat)(l:List (List Int)):Nat->Nat->Nat
 |0=>ab
 |n+1=>iW (rh ab 0 l) l n
def ri (l:List (List Int)):Nat->Nat:=iW (λ_=>0) l l.length
def WU (o:List (List Int)):Bool:=(Yr o.length).all λn=>(Yr o.length).all λk=>(aiK o n).getD k false==hasB (ri o n) k
def Lj:List (List Int):=[[],[0],[1],[2],[0,1],[0,2],[1,2],[0,1,2]]
def acD:∀a∈Lj,WU [a.filter (· <1)]=true:=by decide+kernel
def acE:∀a∈Lj,∀b∈Lj,WU [a.filter (· <2),b.filter (· <2)]=true:=by decide+kernel
def acF:∀a∈Lj,∀b∈Lj,∀c∈Lj,WU [a,b,c]=true:=by decide+kernel
variable {l:List Int}
def EM (f:l.Pairwise (· < ·))(e:∀x∈l,0<=x/\x<3):l∈Lj:=by
 have g:∀x:Int,0<=x/\x<3->x=0\/x=1\/x=2:=λx h=>o!
 match l,f,e with
 | [],_,_=>simp[Lj]
 | [a],_,e=>
  rcases g a (e a i!) with rfl|rfl|rfl<;>simp[Lj]
 | [a,b],f,e=>
  have i:a<b:=by simpa using f
  rcases g a (e a i!) with rfl|rfl|rfl<;>rcases g b (e b i!) with rfl|rfl|rfl<;>first|(exfalso;omega)|simp[Lj]
 | [a,b,c],f,e=>
  have i:a<b/\b<c:=by
   simp at f;exact⟨f.1.1,f.2⟩
  have j:=e a i!;have m:=e c i!;obtain rfl:a=0:=o!
  obtain rfl:c=2:=o!
  obtain rfl:b=1:=o!
  simp[Lj]
 |a::b::c::d::r,f,e=>
  exfalso;simp only[List.pairwise_cons]at f;have i:=f.1 b i!;have o:=f.2.1 c i!;have n:=f.2.2.1 d i!;have j:=e a i!;have k:=e d i!;omega
def filter_lt {n:Int}(a:∀x∈l,0<=x/\x<n):l.filter (· <n)=l:=List.filter_eq_self.2 λx h=>by simpa using(a x h).2
def vU {o:List (List Int)}(g:o.length<=3)(e:∀l∈o,l.Pairwise (· < ·))(d:∀l∈o,∀x∈l,0<=x/\x<o.length):WU o=true:=by
 match o,g,e,d with
 | [],_,_,_=>rfl
 | [a],_,e,d=>
  have f:=d a i!;have:=acD a (EM (e a i!) λx h=>by have:=f x h;simp at this;omega);rwa[filter_lt (λx h=>by have:=f x h;simpa using this)]at this
 | [a,b],_,e,d=>
  have f:=d a i!;have i:=d b i!;have:=acE a (EM (e a i!) λx h=>by have:=f x h;simp at this;omega) b (EM (e b i!) λx h=>by have:=i x h;simp at this;omega);rwa[filter_lt (λx h=>by have:=f x h;simpa using this),filter_lt (λx h=>by have:=i x h;simpa using this)]at this
 | [a,b,c],_,e,d=>
  exact acF a (EM (e a i!) λx h=>by have:=d a i! x h;simpa using this) b (EM (e b i!) λx h=>by have:=d b i! x h;simpa using this)
   c (EM (e c i!) λx h=>by have:=d c i! x h;simpa using this)
 |_::_::_::_::_,g,_,_=>simp at g
variable {n i g cap m j t k q:Nat}
def ad7 {number:Nat}(h:CY (Ed n number l) 0 l=0):l.Pairwise (· < ·)/\∀x∈l,0<=x/\x<n:=by
 have a:∀k (a:k<l.length),(0<=l[k]/\l[k]<n)/\(0<k->nth l (k - 1)<l[k]):=λk a=>by
  have:=Gs h k l[k] (zf a);unfold Ed at this;split at this
  .cases this
  next g=>
  split at this
  .cases this
  next f=>
  refine⟨?_,λs=>?_⟩
  .have:=G' (n:=l[k]) (lo:=0) (hi:=(n:Int) - 1) (by cases e:AD l[k] 0 ((n:Int) - 1);rfl;exact absurd (.inl e) g)
   omega
  exact Int.lt_of_not_ge λb=>f ⟨o!,by rw[zN];exact b⟩
 refine⟨?_,λx o=>?_⟩
 .have step:∀i (hi:i+1<l.length),l[i]<l[i+1]:=λi hi=>by
   have:=(a (i+1) hi).2 (Nat.succ_pos _);simpa[nth,Y6,show i<l.length by omega]using this
  have c:∀d i (hi:i+d+1<l.length),l[i]<l[i+d+1]:=by
   intro d
   induction d with
   |zero=>intro i hi;exact step i hi
   |succ d m=>
    intro i hi;have g:=m i o!;have f:=step (i+d+1) o!;have e:l[i+(d+1)+1]=l[i+d+1+1]:=rfl;rw[e];omega
  rw[ZdK];intro i j hi r p;have:=c (j - i - 1) i o!;have e:l[i+(j - i - 1)+1]' o!=l[j]:=by congr 1;omega
  rwa[e]at this
 obtain⟨k,q,rfl⟩:=Zas o;exact(a k q).1
def aaD (l:List Ay):List Ay:=l.map λx=> {x with left:=0}
def abv:∀(l:List Ay) (ab:Nat->Nat) (i:Nat),K6 ab i (aaD l)=K6 ab i l
 | [],_,_=>rfl
 |s::r,ab,i=>abv r (HJ ab i s.over) (i+1)
def abl (l:List Ay):∀(n:Nat) (ab:Nat->Nat),G5 ab (aaD l) n=G5 ab l n
 |0,_=>rfl
 |n+1,ab=>by
  show G5 (K6 ab 0 (aaD l)) (aaD l) n=G5 (K6 ab 0 l) l n;rw[abv,abl l n]
def abx (l:List Ay):Ax (aaD l)=Ax l:=by
 unfold Ax;rw[abl];simp[aaD]
variable {b s:List Ay}
def abn {a:List Ay}(h:aaD a=aaD b):Ax a=Ax b:=by rw[<-abx a,h,abx]
def aaE {a:List Ay}(h:aaD a=aaD b):a.length=b.length:=by
 have:=congrArg List.length h;simpa[aaD]using this
def acj (s:List Ay)(i:Nat):aaD (Kn s i)=aaD s:=by
 unfold aaD Kn;apply YA;intro j;simp only[YL,List.getElem?_modify];cases s[j]? with
 |none=>rfl
 |some x=>by_cases h:i=j<;>simp[h]
def abg:∀(l:List Int) (s:List Ay),aaD (CJ s l)=aaD s
 | [],_=>rfl
 |i::r,s=>(abg r (Kn s i.toNat)).trans (acj s _)
def ac6 {a:List Ay}(h:aaD a=aaD b)(hi:i<a.length): {Aj a i with left:=0}= {Aj b i with left:=0}:=by
 have e:=congrArg (λl=>l[i]?) h;simp only[aaD,YL,Db hi,Db (show i<b.length by rw[<-aaE h];exact hi),Zdh]at e;exact ZW e
variable {w A B w':Zb}
def bU (h:Qb6 w A)(k:Qb6 A B):Qb6 w B:=h.trans (k.mono h.size)
def ad1 (c:A_)(l:List Int):List Int:=if Eg c l=0 then AB (DS c l) else []
def acm:AB 0=[]:=d!
variable {S T:Nat->Prop}
variable {v1 v2 v3 v4 v5 v6 u v u1 u2 u5 u4:Zf}
variable {c D:A_}
def c51 (h:RC S w v1 v2 v3 v4 v5 c)(hl:SI S w v6 l)(Y:Ql6 S w):
  Calls Lp 12 #[.agg #[v1,v2,v3,v4,v5],v6] w λe w'=>∃v,e=.returned (.tuple #[v,.int .i64 (Eg c l)])/\Qb6 w w'/\SI (Cb w w') w' v (ad1 c l):=by
 obtain⟨U,O,T,N,R,M,Q,L,P,K,rfl,rfl,rfl,rfl,rfl,l1,m1,l2,m2,l3,m3,l4,m4,l5,m5⟩:=h.vs;obtain⟨a6,c6,rfl,l6,m6⟩:=hl.val;have IX:maxLen=9223372036854775807:=rfl;have o:YH w w (w.alloc (.cells #[.slice U c.base.length O,.slice T c.Af.length N,.slice R c.hooks.length M,.slice Q c.Aa.length L,.slice P c.now.length K] 28)):=(Zh _ _).alloc (Zj _) _;have i:=Zd (λW a=>ao2 (w:=W) (h.later a) (hl.later a) (A3 Y a));have k:∃t,t<8/\AB t=ad1 c l/\∀(W:Zb) (a:Qb6 w W),Calls Lp 28 #[.agg #[.slice U c.base.length O,.slice T c.Af.length N,.slice R c.hooks.length M,.slice Q c.Aa.length L,.slice P c.now.length K],.slice a6 l.length c6] W λe w'=>∃(u s r q p:Option Addr) (C B A z y d1 d2 d3 d4 I F k1 D:Nat),e=.returned (.tuple #[.agg #[.slice u C d1,.slice s B d2,.slice r A d3,.slice q z d4,.slice p y I,.int .u8 F,.int .u8 k1,.int .u8 D],.int .u8 t,.int .i64 (Eg c l)])/\Qb6 W w':=by
  by_cases f:Eg c l=0
  .obtain⟨m,_⟩:=Bj f
   obtain⟨Jz,ER⟩:=Bj m;have d:=EG Jz;have hn:l.length<=c.Aa.length:=by have:=(Fb ER).1;omega
   refine⟨DS c l,U9 (S3 d.over) (by have:=d.few;omega),by unfold ad1;rw[if_pos f],λW a=>(i.out W a).mono ?_⟩;rintro e w' ⟨g,t,rfl,j,b,_⟩;obtain⟨rfl,rfl⟩:=b f;exact⟨_,_,_,_,_,_,_,_,_,_,_,_,_,_,_,_,_,_,rfl,j⟩
  refine⟨0,o!,by unfold ad1;rw[if_neg f,acm],λW a=>(i.out W a).mono ?_⟩;rintro e w' ⟨g,t,rfl,j,_,b⟩;obtain⟨rfl,rfl⟩:=b f;exact⟨_,_,_,_,_,_,_,_,_,_,_,_,_,_,_,_,_,_,rfl,j⟩
 obtain⟨t,X,J,G⟩:=k;have V:=Zd G;have HT:=Zd J;obtain⟨E,H⟩:=Qnm (Eg c l);rw[<-H]at V⊢;clear G J H;go_enter Lp.func51,n51;go_wp2_with (first|(go_at_call 28;refine(V.out _ o).mono ?_;rintro e w1 ⟨u,s,r,q,p,C,B,A,z,y,d1,d2,d3,d4,I,F,k1,D,rfl,j⟩;have n:=o.trans (j.mono o.size))|(go_at_call 29;refine(abf X).mono ?_;rintro e w2 ⟨v,rfl,De,d,_⟩;have Cj:=(bA n).trans (De.mono (bA n).size);obtain⟨a7,c7,rfl,l7,m7⟩:=d.val));go_ret2;refine⟨_,rfl,Cj,?_⟩;rw[<-HT.out];exact Sl.imp d (λx (b:Cb _ _ x)=>⟨by have Z:=b.1;have h2:=n.size;simp at Z;omega,b.2⟩) λ_ _ x=>x
def fH:Nat->Nat->List (List Int)
 |0,_=> [[]]
 |m+1,n=>((Yr n).drop m).flatMap λlast=>(fH m last).map (· ++ [(last:Int)])
def abI {fn:Func}{p u:Tmp}{ty:Zs}(h:fn.results= #[.cell p ty,.tmp u])(tmps:Array Zf)(P:Zo)(w:Zb):
  (results fn tmps).run P w=((asAddr (tmps.getD p Ze)).run P w).andThen λa w₁=>((Zdd ty a).run P w₁).andThen λv w₂=>.ok (.tuple #[v,tmps.getD u Ze]) w₂:=by
 simp only[results,h];simp[zg,zu]
def aby (h:∃a c,v=.slice a n c/\n<=c/\c<=maxLen):∃n a c,v=.slice a n c:=by
 obtain⟨a,c,e,_⟩:=h;exact⟨n,a,c,e⟩
def ad8 (w:Zb)(v1 v2 v3 v4 v5 a b c:Zf):Sem.run Lp (ZdO 60 (.agg #[v1,v2,v3,v4,v5,a,b,c]) 0) w=.ok (.agg #[v1,v2,v3,v4,v5]) w:=by
 rfl
def ac2 (l:List Ay)(i:Nat)(x:Int):List Ay:=l.set i {Aj l i with left:=x}
def abb (l:List Ay)(i:Nat)(x:Int):(ac2 l i x).length=l.length:=ZcC
def adm {l:List Ay}(hi:i<l.length)(x:Int)(j:Nat):Aj (ac2 l i x) j=if j=i then {Aj l i with left:=x} else Aj l j:=by
 unfold Aj ac2;by_cases h:j=i
 .subst h
  simp[Y6,hi,Aj]
 simp[Y6,h,Za0 h]
def acs {l:List Ay}(hi:i<l.length)(x:Int):aaD (ac2 l i x)=aaD l:=by
 unfold aaD ac2;apply YA;intro j;simp only[YL];by_cases h:i=j
 .subst h
  rw[Ys hi,Db hi]
  rfl
 rw[ZS h]
variable {x:Int}
def En.left {base:Nat}{l:List Ay}(h:En n w base (.slice g l.length cap) l)(hi:i<l.length):
  En n (w.setCell ⟨g,i*5+4,none⟩ (.int .i64 x)) base (.slice g l.length cap) (ac2 l i x):=by
 obtain⟨a,p,o⟩:=h;rcases p.2 with⟨e,_⟩|⟨I,J,H,e,C,m,B,A,z,u⟩
 .cases e
 cases e;have f:=(Ak.refl (λx=>x=g) w).DT (i:=i*5+4) (v:=.int .i64 x);have q:∀x,TT n w x->¬x=g:=λx s e=>TT.not (e▸s) m ⟨d!,d!,d!⟩;have r:=p.1;refine⟨a.set (i*5+4) (.int .i64 x),⟨by simp[r,abb],.inr ⟨g,cap,_,by rw[abb],C,Ba m _,by simpa[abb]using B,A,by simpa[abb]using z,?_⟩⟩,λj y b=>?_⟩
 .simp only[ZcM,List.take_set,abb,u]
 have t:=(Zm.1 b).1;rw[abb]at t;unfold ac2 at b;by_cases c:i=j
 .subst c
  rw[Ys hi]at b;cases b;obtain⟨v2,v3,F,E,D⟩:=o i _ (Db hi);have e:((a.set (i*5+4) (.int .i64 x)).drop (i*5)).take 5=[.int .i64 (Aj l i).low,.int .i64 (Aj l i).high,v2,v3,.int .i64 x]:=by
   have G:((a.set (i*5+4) (.int .i64 x)).drop (i*5)).take 5=(((a.drop (i*5)).take 5).set 4 (.int .i64 x)):=by
    rw[List.drop_set,if_neg o!,List.take_set,show i*5+4 - i*5=4 by omega]
   rw[G,F]
   rfl
  rw[e];exact xR ⟨v2,v3,rfl,E,D⟩ f q
 rw[ZS c]at b;have e:((a.set (i*5+4) (.int .i64 x)).drop (j*5)).take 5=(a.drop (j*5)).take 5:=by
  apply YA;intro k;by_cases d:k<5
  .rw[Z2 d,Yl,Z2 d,Yl,ZS o!]
  rw[ZP j!,ZP j!]
 rw[e];exact xR (o j y b) f q
def CWr.left {u3:Zf}(h:CWr n w u1 u2 u3 (.slice g c.Aa.length cap) u5 c)(hi:i<c.Aa.length):
  CWr n (w.setCell ⟨g,i*5+4,none⟩ (.int .i64 x)) u1 u2 u3 (.slice g c.Aa.length cap) u5 {c with Aa:=ac2 c.Aa i x}:=by
 obtain⟨_,m,l⟩:=h.row.own g rfl;have d:=(Ak.refl (λx=>x=g) w).DT (i:=i*5+4) (v:=.int .i64 x);have f:∀x,TT n w x->¬x=g:=λx k e=>TT.not (e▸k) l ⟨d!,d!,d!⟩;have j:=d.size;exact⟨Rn h.base d f,mL h.Af d f,Rn h.hooks d f,h.row.left hi,Sl.imp (h.now.Ar (d.same λb a e=>a.2 (by rw[e];rfl))) (λb a=>⟨⟨a.1.1,Zl a.1.2 j⟩,a.2⟩) λ_ _ x=>x⟩
def CWr.CN {u3:Zf}(h:CWr n A u1 u2 u3 u4 u5 c)(d:Ak T A B)(a:∀x,n<=x->¬T x):CWr n B u1 u2 u3 u4 u5 c:=
 ⟨Rn h.base d λx h=>a x h.1,mL h.Af d λx h=>a x h.1,Rn h.hooks d λx h=>a x h.1,h.row.CN d (λx h=>a x h.1) (λg f=>a g (h.row.own g f).1),Sl.imp (h.now.Ar (d.same λb e=>a b e.1.1)) (λb e=>⟨⟨e.1.1,Zl e.1.2 d.size⟩,e.2⟩) λ_ _ x=>x⟩
attribute [local go_sem] Zdk
def SL.imp {l:List (List Int)}(h:SL S w v l)(a:∀b,S b->T b):SL T w v l:=Sl.imp h a λ_ _ ⟨u,e,c⟩=>⟨u,e,Sl.imp c a λ_ _ x=>x⟩
def LR (base:Nat)(w:Zb)(v:Zf)(P:List (List Int)):Prop:=∃a,w.ownsRow base 22 1 v P.length a/\∀(i:Nat) (x:List Int),P[i]?=some x->∃u,a[i]?=some u/\SI (J1 3 base w) w u x
def LR.nil (base:Nat)(w:Zb):LR base w () []:=⟨[],zq _ _ _ _,λi x h=>h!⟩
variable {P:List (List Int)}
def LR.sl {base:Nat}(h:LR base w v P):SL (Cb base w) w v P:=by
 obtain⟨a,j,g⟩:=h;refine WM j (Zj _) λi x c=>?_;obtain⟨u,f,e⟩:=g i x c;exact⟨u,f,Sl.imp e (λb d=>d.1) λ_ _ x=>x⟩
def LR.val {base:Nat}(h:LR base w v P):∃a c,v=.slice a P.length c/\P.length<=c/\c<=maxLen:=by
 obtain⟨a,c,e,d,b,_⟩:=h.sl;exact⟨a,c,e,d,b⟩
def LR.snoc {n w1:Zb}{base:Nat}{v':Zf}{x:List Int}{vals:List Zf}(l:A.ownsRow base 22 1 v P.length vals)(D:∀(i:Nat) (x:List Int),P[i]?=some x->∃u,vals[i]?=some u/\SI (J1 3 base A) A u x)
 (j:SI (J1 3 m A) A u x) (q:base<=m) (t:Qb6 A n) (B:n.grownBy w1 v.ownBlock) (F:w1.ownsRow base 22 1 v' (P.length+1) (vals++ [u])):LR base w1 v' (P++ [x]):=by
 have C:Ak (λk=>v.ownBlock=some k) A w1:=(Ak.later t).trans (Ak.grown B λk r=>r);refine⟨vals++ [u],by rw[ZA];exact F,λi y c=>?_⟩;have a:∀u,SI (J1 3 base A) A u y->SI (J1 3 base w1) w1 u y:=λu h=>by
  refine Dx C (λb f h=>?_) h;obtain⟨G,d⟩:=f.2;rcases l.2 with⟨e,_⟩|⟨g,cap,w,e,_,s,_⟩
  .rw[e]at h;cases h
  rw[e]at h;cases h;rw[s]at d;cases d
 by_cases E:i<P.length
 .rw[zl E]at c
  obtain⟨u,j,p⟩:=D i y c;exact⟨u,by rw[zl (Zm.1 j).1];exact j,a u p⟩
 have z:=(Zm.1 c).1;rw[ZA,zb,zR]at z;obtain rfl:i=P.length:=o!
 rw[Y1]at c;cases c;have o:vals.length=P.length:=by have:=l.1;omega
 exact⟨u,by rw[<-o,Y1],a _ (Sl.imp j (λb f=>⟨⟨Zr q f.1.1,f.1.2⟩,f.2⟩) (λ_ _ x=>x))⟩
def Own.typ {base:Nat}(h:Own w base v l):SI (J1 3 base w) w v l:=
 Lg (R:=Ri) d! h λi x a=>by
  rw[Nat.mul_one];obtain⟨b,e⟩:=Zm.1 a;rw[ZO (by simpa using b)];simp[Ri,e]
def take_set {a:Type}{N O:List a}{x:a}(d:j<N.length)(c:j<O.length)(h:N[j]?=some x):(N.take j++O.drop j).set j x=N.take (j+1)++O.drop (j+1):=by
 have b:(N.take j).length=j:=by rw[ZcV];omega
 rw[List.set_append_right _ _ o!,b,Nat.sub_self,ZO c,List.set_cons_zero,ZbH,h];simp
inductive HT
 |leaf
 |one (i:Nat) (r:HT)
 |free (i:Nat) (r:HT)
 |fork (i:Nat) (x:HT) (j:Nat) (y:HT)
def HT.len:HT->Nat
 | .leaf=>0
 | .one _ r=>r.len+1
 | .free _ r=>r.len+1
 | .fork _ x _ _=>x.len+1
section
variable {P:Zo}{ops:Array Oper}{Q:Exit->Act->Zb->Prop}{md:YO}{S:Zb->Prop}{T:Nat->Zb->Prop}
def aaF (P:Zo)(b:Array Oper)(Q:Exit->Act->Zb->Prop)(S:Zb->Prop)(T:Nat->Zb->Prop):HT->Act->Zb->Prop
 | .leaf,a,w=>Q .normal a w
 | .one i r,a,w=>wpOp P b Q i (λa' w'=>T i w'/\aaF P b Q S T r a' w') a w
 | .free i r,a,w=>S w/\∃o v,b[i]?=some o/\ZbF P b S o v a/\aaF P b Q S T r (a.put o.dst v) w
 | .fork i x j y,a,w=>wpOp P b Q i (λa' w'=>T i w'/\aaF P b Q S T x a' w') a w/\wpOp P b Q j (λa' w'=>T j w'/\aaF P b Q S T y a' w') a w
def htB (b:YO)(a:Array Oper)(n:Nat)(lates:List Nat):HT->Array Bool->Bool
 | .leaf,listed=>(zs b a listed).isEmpty
 | .one i r,listed=>decide (zs b a listed=[i])&&htB b a n lates r (listed.setIfInBounds i true)
 | .free i r,listed=>(zs b a listed).contains i&&Za3 b a listed i&&pQ b a n lates i&&htB b a n lates r (listed.setIfInBounds i true)
 | .fork i x j y,listed=>decide (zs b a listed=[i,j])&&decide (x.len=y.len)&&htB b a n lates x (listed.setIfInBounds i true)&&htB b a n lates y (listed.setIfInBounds j true)
def abh {n:Nat}{lates:List Nat}(q:YF ops=true)(l:∀c a d v w,Q (.panic c) (Zck a d v) w->Q (.panic c) a w):
  ∀(t:HT) (listed:Array Bool) (a:Act) (w:Zb),Dn md ops listed->htB md ops n lates t listed=true->aaF P ops Q S (FG lates S) t a w->Cy P md ops Q (FG lates S) t.len listed a w
 | .leaf,_,_,_,_,b,h=>⟨by simpa[htB]using b,h⟩
 | .one i r,listed,a,w,e,b,h=>by
  simp only[htB,ZF,decide_eq_true_eq]at b;refine⟨λm=>(by rw[b.1]at m;cases m),λj u=>?_⟩;have s:=u;rw[b.1]at u;have:j=i:=by simpa using u
  subst this;exact Zcc (λp w' x=>⟨x.1,abh q l r _ p w' (e.step s) b.2 x.2⟩) h
 | .free i r,listed,a,w,e,b,h=>by
  simp only[htB,ZF]at b;obtain⟨F,o,v,E,D,h⟩:=h;have A:i∈zs md ops listed:=by simpa using b.1.1.1
  exact Me (S:=S) (n:=n) (f:=r.len) E q (λc a w x=>l c a o.dst v w x) (λw x=>.inr x) (iw b.1.2) listed a w e b.1.1.2 A D F (abh q l r _ _ w (e.step A) b.2 h)
 | .fork i x j y,listed,a,w,e,b,h=>by
  simp only[htB,ZF,decide_eq_true_eq]at b;obtain⟨⟨⟨B,I⟩,H⟩,G⟩:=b;refine⟨λm=>(by rw[B]at m;cases m),λk g=>?_⟩;have C:=g;rw[B]at g;rcases List.mem_cons.1 g with rfl|g
  .exact Zcc (λp w' z=>⟨z.1,abh q l x _ p w' (e.step C) H z.2⟩) h.1
  have:k=j:=by simpa using g
  subst this;exact Zcc (λp w' z=>⟨z.1,by have:=abh q l y _ p w' (e.step C) G z.2;rwa[<-I]at this⟩) h.2
variable {a:Act}
def abj {id:Nat}{l:List Oper}(n:Nat)(lates:List Nat)(t:HT)(ls:List Nat)(i:P.follows .mixedOrders=true)(g:∀c a d v w,Q (.panic c) (Zck a d v) w->Q (.panic c) a w)
 (b:(YF l.toArray&&decide (t.len+ls.length=l.toArray.size)&&lsB .any l.toArray n lates (htB .any l.toArray n lates t) ls (Yu l.toArray.size false))=true) (j:S w.drew)
 (h:MQ P l.toArray S (λa'=>aaF P l.toArray Q S (FG lates S) t a' w.drew) ls a):(zU id l.toArray true).wp P Q a w:=by
 simp only[ZF,decide_eq_true_eq]at b;refine Zd5 i (JV (T:=FG lates S) _ _ _ _ ?_);have e:Dn .any l.toArray (Yu l.toArray.size false):=λk ok _ f=>by
  rw[show(Yu l.toArray.size false).getD k false=false by unfold Array.getD;split<;>simp]at f;cases f
 have:=Vd b.1.1 g j (λlisted a m p o=>abh b.1.1 g t listed a w.drew m p o) ls _ a e b.2 h;rw[b.1.2]at this;exact this
variable {r:HT}
variable {o:Oper}
def ad9 (b:ops[i]?=some o)(c:o.guard=none)(h:o.wp P a w (λa' w'=>T i w'/\aaF P ops Q S T r a' w') Q):aaF P ops Q S T (.one i r) a w:=by
 unfold aaF wpOp;simp only[b];rw[if_pos (by simp[Yf,c])];exact .inl h
def abo (c:ops[i]?=some o)(d:o.guard=none)(b:(Zby a.eval o).run P w=.ok (.value v) w')(e:T i w')
 (h:aaF P ops Q S T r (a.put o.dst v) w'):aaF P ops Q S T (.one i r) a w:=by
 refine ad9 c d ?_;unfold ZbA;rw[b,Zdi];exact⟨e,h⟩
def ac7 {f:ZaQ}{args:Array Zf}(c:ops[i]?=some o)(d:o.guard=none)(b:(Zby a.eval o).run P w=.ok (.enter f args) w)
 (g:Calls P f args w λe w'=>(∃v,e=.returned v/\T i w'/\aaF P ops Q S T r (a.put o.dst v) w')\/∃x,e=.panicked x/\Q (.panic x) a w'):aaF P ops Q S T (.one i r) a w:=by
 refine ad9 c d ?_;unfold ZbA;rw[b,Zdj];refine g.mono λe w' h=>?_;rcases h with⟨v,rfl,h⟩|⟨x,rfl,h⟩
 .exact h
 exact h
def acf (c:ops[i]?=some o)(d:o.guard=none)(b:(Zby a.eval o).run P w=.ok .skip w')(e:T i w')
 (h:aaF P ops Q S T r (a.put o.dst Ze) w'):aaF P ops Q S T (.one i r) a w:=by
 refine ad9 c d ?_;unfold ZbA;rw[b,ZcQ];exact⟨e,h⟩
def aaZ (e:S w)(c:ops[i]?=some o)(d:o.guard=none)(b:∀w,S w->(Zby a.eval o).run P w=.ok (.value v) w)
 (h:aaF P ops Q S T r (a.put o.dst v) w):aaF P ops Q S T (.free i r) a w:=
 ⟨e,o,v,c,.inl ⟨by simp[Yf,d],b⟩,h⟩
def adn {x y:HT}(c:aaF P ops Q S T (.one i x) a w)(b:aaF P ops Q S T (.one j y) a w):aaF P ops Q S T (.fork i x j y) a w:=⟨c,b⟩
end
def rB (ab:Nat->Nat):Nat->List Bool->Nat->Nat
 |_,[],s=>s
 |i,b::r,s=>rB ab (i+1) r (if b=true then s|||Iv (ab i) i else s)
def vD (o:List (List Int))(D:List Bool)(l:List Int):Bool:=((Yr o.length).all λi=> !(D.getD i false)||l.contains (i:Int))&&l.all λx=>(o.getD x.toNat []).all λy=>l.contains y
def aj3 (n m i:Nat):List (List Int):=(fH m n).drop i++((Yr (n+1)).drop (m+1)).flatMap λk=>fH k n
def WX (o:List (List Int))(D:List Bool):Bool:=(aj3 o.length 0 0).find? (vD o D)==some (AB (rB (ri o) 0 D 0))
def P3:List Bool:=[true,false]
def Hd (b:Bool):b∈P3:=by cases b<;>simp[P3]
def acN:∀a∈Lj,∀d∈P3,WX [a.filter (· <1)] [d]=true:=by decide+kernel
def acO:∀a∈Lj,∀b∈Lj,∀d∈P3,∀e∈P3,WX [a.filter (· <2),b.filter (· <2)] [d,e]=true:=by decide+kernel
def acP:∀a∈Lj,∀b∈Lj,∀c∈Lj,∀d∈P3,∀e∈P3,∀f∈P3,WX [a,b,c] [d,e,f]=true:=by decide+kernel
def least {o:List (List Int)}{D:List Bool}(j:1<=o.length)(k:o.length<=3)(n:D.length=o.length)(i:∀l∈o,l.Pairwise (· < ·))(g:∀l∈o,∀x∈l,0<=x/\x<o.length):WX o D=true:=by
 match o,D,j,k,n,i,g with
 | [a],[d],_,_,_,i,g=>
  have j:=g a i!;have:=acN a (EM (i a i!) λx h=>by have:=j x h;simp at this;omega) d (Hd d);rwa[filter_lt (λx h=>by have:=j x h;simpa using this)]at this
 | [a,b],[d,e],_,_,_,i,g=>
  have j:=g a i!;have m:=g b i!;have:=acO a (EM (i a i!) λx h=>by have:=j x h;simp at this;omega) b (EM (i b i!) λx h=>by have:=m x h;simp at this;omega) d (Hd d) e (Hd e);rwa[filter_lt (λx h=>by have:=j x h;simpa using this),filter_lt (λx h=>by have:=m x h;simpa using this)]at this
 | [a,b,c],[d,e,f],_,_,_,i,g=>
  exact acP a (EM (i a i!) λx h=>by have:=g a i! x h;simpa using this) b (EM (i b i!) λx h=>by have:=g b i! x h;simpa using this)
   c (EM (i c i!) λx h=>by have:=g c i! x h;simpa using this) d (Hd d) e (Hd e) f (Hd f)
 |_::_::_::_::_,_,_,k,_,_,_=>simp at k
def Vu (l:List Int):Ke l l=true:=by simp[Ke]
def B3.aj4 {b:Nat}(h:Qb6 w A)(c:B3 b A B)(d:w<=b):Qb6 w B:=h.trans ((c.CN (K:=λx=>x=b) rfl).below (λx a=>by have:x=b:=a;omega) h.size)
def abK (c:A_)(i:Int):Bool:=decide (0<(Aj c.Aa i.toNat).left)
def ac3:(JU c t=none)↔(AB t).all (abK c)=true:=by
 unfold JU;rw[List.find?_eq_none,Zdm];constructor
 .intro h x a
  have:=h x a;simp[SU,abK]at this⊢;omega
 intro h x a;have:=h x a;simp[SU,abK]at this⊢;omega
def acv (h:Ca c l=0):Eg c l=if(AB (DS c l)).all (abK c)=true then 0 else 12:=by
 unfold Eg;rw[BR h];by_cases a:JU c (DS c l)=none
 .rw[if_pos a,if_pos (ac3.1 a)]
 rw[if_neg a,if_neg λx=>a (ac3.2 x)]
def abq (h:BN c=0)(hi:i<c.Aa.length):0<=(Aj c.Aa i).left/\(Aj c.Aa i).left<=4:=(EG h).left i hi
def abN {n:List Int}(h:BN c=0)(g:aaD s=aaD c.Aa)(hl:∀i,i<s.length->0<=(Aj s i).left/\(Aj s i).left<=4)(F:Ct c n=0):BN {c with Aa:=s,now:=n}=0:=by
 have e:=aaE g;have a:∀i,i<s.length->(Aj s i).low=(Aj c.Aa i).low/\(Aj s i).high=(Aj c.Aa i).high/\(Aj s i).Ap=(Aj c.Aa i).Ap/\(Aj s i).over=(Aj c.Aa i).over:=λi f=>by
  have:=ac6 g f;simp only[Ay.mk.injEq]at this;obtain⟨d,b,l,j,_⟩:=this;exact⟨d,b,l,j⟩
 obtain⟨K,H⟩:=Bj h;obtain⟨J,G⟩:=Bj H;obtain⟨I,p⟩:=Bj G;have r:H0 c.Aa=true:=by
  by_cases q:H0 c.Aa=true
  .exact q
  rw[if_neg q]at p;cases p
 have k1:Dq {c with Aa:=s,now:=n}=0:=K;have D:Di (s.length:Int) 3=0:=by rw[e];exact J
 have C:JP {c with Aa:=s,now:=n}=0:=by
  unfold JP;refine J0 λk x E=>?_;have o:k<s.length:=(Zm.1 E).1;have m:=Gs I k _ (Db (show k<c.Aa.length by omega));rw[zN]at m⊢;obtain⟨d,b,l,j⟩:=a k o;unfold EF at m⊢;show PM (CV ((Aj s k).low,(Aj s k).high) (-2) 2) (PM (Di (Aj s k).Ap.length 2) (PM (CY (Fa c.base.length (Aj s k).Ap) 0 (Aj s k).Ap) (PM (CY (Ed s.length k (Aj s k).over) 0 (Aj s k).over) (Fo 0 4 (Aj s k).left))))=0;rw[d,b,l,j,e];obtain⟨A,z⟩:=Bj m;obtain⟨y,w⟩:=Bj z;obtain⟨v,u⟩:=Bj w;obtain⟨t,z8⟩:=Bj u;rw[BR A,BR y,BR v,BR t];exact Rm (hl k o)
 have B:H0 s=true:=by
  unfold H0 at r⊢;rw[abn g,e];exact r
 have k5:Ct {c with Aa:=s,now:=n} n=0:=by
  obtain⟨M,L⟩:=Fb F;refine iH ⟨by show n.length=s.length;omega,λi f=>?_⟩;show(Aj s i).low<=nth n i/\nth n i<=(Aj s i).high;obtain⟨d,b,_⟩:=a i o!;rw[d,b];exact L i f
 unfold BN;rw[BR k1,BR D,BR C,if_pos B];exact k5
def ac4 {n m:List Int}(a:aaD s=aaD c.Aa)(b:Ct c n=0):Ct {c with Aa:=s,now:=m} n=0:=by
 have f:=aaE a;obtain⟨g,e⟩:=Fb b;refine iH ⟨by show n.length=s.length;omega,λi d=>?_⟩;show(Aj s i).low<=nth n i/\nth n i<=(Aj s i).high;have:=ac6 a (i:=i) o!;simp only[Ay.mk.injEq]at this;rw[this.1,this.2.1];exact e i d
def acK (a:Eg c l=0):BN (FH c l (DS c l))=0:=by
 obtain⟨n,o⟩:=Bj a;obtain⟨d,g⟩:=Bj n;have f:∀x∈AB (DS c l),0<=x/\x<c.Aa.length:=MT (EG d) (by have:=(Fb g).1;omega);have j:=acv n;have r:(AB (DS c l)).all (abK c)=true:=by
  by_cases q:(AB (DS c l)).all (abK c)=true
  .exact q
  rw[if_neg q]at j;rw[j]at a;cases a
 refine abN d (abg _ _) (λi m=>?_) g;rw[O_]at m;have b:=abq d m;by_cases k:(i:Int)∈AB (DS c l)
 .have p:=Zdm.1 r _ k
  simp only[abK,Int.toNat_natCast,decide_eq_true_eq]at p;rcases MZ (AB (DS c l)) c.Aa i (PS _) f with e|e<;>rw[e]<;>omega
 rw[Ld _ _ i f k];exact b
def aaH:A_->Nat->List (List Int)->Int×Int
 |_,_,[]=>(-1,-1)
 |c,k,l::r=>match JU c (DS c l) with
  |some x=>(k,x)
  |none=>aaH (FH c l (DS c l)) (k+1) r
def aci {ls:List (List Int)}(h:k<ls.length):aaH c k (ls.drop k)=(match JU c (DS c (BM ls k)) with
  |some x=>((k:Int),x)
  |none=>aaH (FH c (BM ls k) (DS c (BM ls k))) (k+1) (ls.drop (k+1))):=by
 obtain⟨a,e⟩:=Zm.1 (BJ h);rw[ZO a,e]
 rfl
def abR {ab:Nat->Nat}:∀(ls:List (List Int)) (c:A_) (k:Nat),ab=Ax c.Aa->MY ab c k ls=aaH c k ls
 | [],_,_,_=>rfl
 |l::r,c,k,h=>by
  have e:Cx ab c.now l=DS c l:=by rw[h];rfl
  unfold MY aaH;rw[e];cases JU c (DS c l) with
  |some x=>rfl
  |none=>exact abR r _ _ (by rw[h];exact(abn (abg _ _)).symm)
def ade (t:Nat):(AB t).Pairwise (· < ·):=by
 unfold AB FF;rw[List.pairwise_map];exact(List.Pairwise.filter _ List.pairwise_lt_range).imp λh=>o!
def acL {f:Int->Bool}{k:Int}(c:l.Pairwise (· < ·))(h:l.find? f=some x)(m:k<x)(d:k∈l):f k=false:=by
 obtain⟨_,j,i,e,g⟩:=List.find?_eq_some_iff_append.1 h;subst e;rcases Zab.1 d with a|a
 .simpa using g k a
 rcases List.mem_cons.1 a with b|b
 .omega
 have:=(List.pairwise_append.1 c).2.1;have:=(List.pairwise_cons.1 this).1 k b;omega
def ad3 (B:Ca D l=0)(u:JU D (DS D l)=some x)(H:(k:Int)<x)(a:aaD s=aaD D.Aa)(hl:∀m,m<s.length->(Aj s m).left=if m=k then(Aj D.Aa m).left else 1):Eg {D with Aa:=s} l=0:=by
 obtain⟨b,j⟩:=Bj B;have G:=aaE a;have r:∀y∈AB (DS D l),0<=y/\y<D.Aa.length:=MT (EG b) (by have:=(Fb j).1;omega);have p:Ct D D.now=0:=by
  obtain⟨_,A⟩:=Bj b;obtain⟨_,z⟩:=Bj A;have f:=(Bj z).2;by_cases q:H0 D.Aa=true
  .rwa[if_pos q]at f
  rw[if_neg q]at f;cases f
 have C:BN {D with Aa:=s}=0:=abN (n:=D.now) b a (λi w=>by
  rw[hl i w];split
  .exact abq b o!
  omega) p
 have d:Ca {D with Aa:=s} l=0:=by
  unfold Ca;rw[BR C];exact ac4 (m:=D.now) a j
 have v:DS {D with Aa:=s} l=DS D l:=by
  show Cx (Ax s) D.now l=Cx (Ax D.Aa) D.now l;rw[abn a]
 unfold Eg;rw[BR d,v,if_pos];unfold JU;rw[List.find?_eq_none];intro y g;obtain⟨F,E⟩:=r y g;have c:y.toNat<s.length:=o!
 show¬(decide ((Aj s y.toNat).left<1))=true;rw[hl _ c];by_cases e:y.toNat=k
 .have t:y=(k:Int):=by omega
  have o:SU D y=false:=acL (ade _) u o! g;unfold SU at o;rw[if_pos e];simpa using o
 rw[if_neg e]
 decide
def ad4 (e:Ca D l=0)(h:Eg D l≠0):∃x:Nat,JU D (DS D l)=some (x:Int)/\x<D.Aa.length/\(Aj D.Aa x).left=0/\Eg D l=12:=by
 obtain⟨d,j⟩:=Bj e;have f:∀y∈AB (DS D l),0<=y/\y<D.Aa.length:=MT (EG d) (by have:=(Fb j).1;omega);have b:Eg D l=if JU D (DS D l)=none then 0 else 12:=BR e
 cases a:JU D (DS D l) with
 |none=>rw[b,if_pos a]at h;exact absurd rfl h
 |some y=>
  obtain⟨m,k⟩:=f y (List.mem_of_find?_eq_some a);have c:=List.find?_some a;have g:(y.toNat:Int)=y:=o!
  have n:=abq d (i:=y.toNat) o!;refine⟨y.toNat,by rw[g],o!,?_,by rw[b,if_neg (by rw[a];simp)]⟩;unfold SU at c;have:=of_decide_eq_true c;omega
def adf (f:JP c=0):∀s∈c.Aa,s.over.Pairwise (· < ·)/\∀x∈s.over,0<=x/\x<c.Aa.length:=λs d=>by
 obtain⟨k,a,e⟩:=Zas d;have h:=Gs f k s (by rw[zf a,e]);rw[zN]at h;unfold EF at h;have b:=(Bj (Bj (Bj (Bj h).2).2).2).1;have g:Aj c.Aa k=s:=by
  have:=Db a;rw[zf a,e]at this;exact(ZW this).symm
 rw[g]at b;exact ad7 b
def adg (c:A_)(ls:List (List Int)):Eu c ls=if F2 c ls=0 then aaH c 0 ls else(0,0):=by
 unfold Eu;rw[abR ls c 0 rfl]
def ado {d:A_}{n:List Int}(b:aaD d.Aa=aaD c.Aa)(a:Ct c n=0):Ct d n=0:=by
 have:=ac4 (m:=d.now) b a;exact this
def CD.set {wr:Zb}{r b:Nat}{u3:Zf}{a:Array Zf}(h:CD wr m q r cap u1 u2 u3 c a)(d:b<m):CD (wr.setCell ⟨b,i,none⟩ v) m q r cap u1 u2 u3 c a:=h.Ar (B3.refl b wr).set (.inl d)
def adh (h:SI S w u l)(a:∀b,S b->b≠q):SI S (w.setCell ⟨q,i,none⟩ v) u l:=h.Ar (ahl (CE.refl _ _) a)
structure aa3 (n:Nat)(w:Zb)(u1 u2 u3 u5:Zf)(q cap:Nat)(c:A_):Prop where
 cd:∃m r cur,n<=m/\CD w m q r cap u1 u2 u3 c cur
 now:SI (λb=>q<b/\b<w) w u5 c.now
def adZ (w:Zb)(d b a:Nat)(c:A_)(e:Ending)(w':Zb):Prop:=∃(u1 u2 u3 u5:Zf) (q cap:Nat),e=.returned (.agg #[u1,u2,u3,.slice q c.Aa.length cap,u5,.int .u8 d,.int .u8 b,.int .u8 a])/\Qb6 w w'/\aa3 w w' u1 u2 u3 u5 q cap c
def afa (h:RC S w v1 v2 v3 v4 v5 c)(hl:SI S w v6 l)(hS:Ql6 S w)(ht:t<8)(hx:∀x,x∈AB t->0<=x/\x<c.Aa.length)
 (fU:∀i,i<c.Aa.length->-4<=(Aj c.Aa i).left/\(Aj c.Aa i).left<=4) (ig:c.base.length<=1000) (bi:c.Af.length<=1000) (be:c.hooks.length<=1000) (Xm:c.Aa.length<=1000) (Fy:0<c.Aa.length) (UO:c.now.length<=1000)
 (xB:∀i,i<c.Aa.length->(Aj c.Aa i).Ap.length<=1000/\(Aj c.Aa i).over.length<=1000) (Xc:l.length<=1000) (y u n:Nat):
  Calls Lp 24 #[.agg #[v1,v2,v3,v4,v5,.int .u8 y,.int .u8 u,.int .u8 n],v6,.int .u8 t] w (adZ w y u n (FH c l t)):=by
 obtain⟨X,P,V,O,U,N,R,M,Q,L,rfl,rfl,rfl,rfl,rfl,l1,m1,l2,m2,l3,m3,l4,m4,l5,m5⟩:=h.vs;obtain⟨a6,c6,rfl,l6,m6⟩:=hl.val;have IX:=DJ;have Bg:YH w.heap.size w ((w.alloc (.cells #[.slice X c.base.length P,.slice V c.Af.length O,.slice U c.hooks.length N,.slice R c.Aa.length M,.slice Q c.now.length L,.int .u8 y,.int .u8 u,.int .u8 n] 60)).alloc (.cells #[.slice none 0 0,.slice none 0 0,.slice none 0 0,.slice none 0 0,.slice none 0 0,.int .u8 0,.int .u8 0,.int .u8 0] 60)):=bA (bA (Zh _ _));have bV:=Zd (λW hB=>ao7 (w:=W) (h.later hB) (A3 hS hB) ig bi be Xm Fy UO xB y u n);have bv:=Zd (λW hB=>kt (w:=W) (hl.later hB) Xc);go_enter Lp.func92,n92;go_wp2_with (go_at_call 48;refine(bV.out _ Bg).mono ?_;rintro e w1 ⟨m,q,r,cap,u1,u2,u3,u5,f,rfl,Bb,hm,B,rS⟩;obtain⟨E,d1,rfl,_⟩:=B.base.val;obtain⟨D,d2,rfl,_⟩:=B.Af.val;obtain⟨C,d3,rfl,_⟩:=B.hooks.val;obtain⟨p5,d5,rfl,_⟩:=rS.val;have Bv:=Bg.trans (Bb.mono Bg.size));have kG:=(Bb.block w.heap.size (by simp;omega)).trans (Bf (Bp w (.cells #[.slice X c.base.length P,.slice V c.Af.length O,.slice U c.hooks.length N,.slice R c.Aa.length M,.slice Q c.now.length L,.int .u8 y,.int .u8 u,.int .u8 n] 60)) _);have z:=(Bb.block (w.heap.size+1) (by simp)).trans (Jq w _ _);obtain⟨W2,MX⟩:=Qnm (w1.alloc (.cells #[.slice E c.base.length d1,.slice D c.Af.length d2,.slice C c.hooks.length d3,.slice (some ⟨q,0,none⟩) c.Aa.length cap,.slice p5 c.now.length d5] 28));have Ia:Qb6 w1 W2:=by rw[MX];exact(Zh _ _).alloc (Zj _) _
 have H:W2.heap[w1.heap.size]?=some (.cells #[.slice E c.base.length d1,.slice D c.Af.length d2,.slice C c.hooks.length d3,.slice (some ⟨q,0,none⟩) c.Aa.length cap,.slice p5 c.now.length d5] 28 (0,0)):=by rw[MX];exact Bp _ _
 rw[<-MX];clear MX;have ap:=Bv.trans (Ia.mono Bv.size);refine(bv.out _ ap).mono ?_;rintro e w3 ⟨v,rfl,De,Xf⟩;have hv:SI (Cb W2.heap.size w3) w3 v l:=Xf;obtain⟨J,K,rfl,_⟩:=hv.val;have F:=Ia.trans (De.mono Ia.size);have ai:w1.heap.size<W2.heap.size:=(Za.1 H).1;have xC:=(De.block _ ai).trans H;have n4:=ch (i:=4) xC (v:=.slice p5 c.now.length d5) rfl;have k4:=cf (i:=4) xC;have kH:=B.rw_;have kD:=B.qr;have pW:=B.mq;have ct:w.heap.size+1<m:=by simp at hm;omega
 have lX:w.heap.size<w1.heap.size:=(Za.1 kG).1;obtain⟨W4,ED⟩:=Qnm (w3.setCell ⟨w1.heap.size,4,none⟩ (.slice J l.length K));have Y:B3 w1.heap.size w3 W4:=by rw[ED];exact(B3.refl _ _).set
 have Qn:W4.heap[w1.heap.size]?=some (.cells #[.slice E c.base.length d1,.slice D c.Af.length d2,.slice C c.hooks.length d3,.slice (some ⟨q,0,none⟩) c.Aa.length cap,.slice J l.length K] 28 (0,0)):=by rw[ED];exact Ba xC _
 have WH:Qb6 w W4:=by rw[ED];exact bS (Bv.trans (F.mono Bv.size)) (by omega)
 have am:WW w m q r cap w1.heap.size (.slice E c.base.length d1) (.slice D c.Af.length d2) (.slice C c.hooks.length d3) (.slice J l.length K) #[.slice X c.base.length P,.slice V c.Af.length O,.slice U c.hooks.length N,.slice R c.Aa.length M,.slice Q c.now.length L,.int .u8 y,.int .u8 u,.int .u8 n] c l c.Aa f W4:= {
  below:=WH
  Ee:=(Y.block _ (Zl lX F.size) (by omega)).trans ((F.block _ lX).trans kG)
  res:=(Y.block _ (Zl (Za.1 z).1 F.size) (by omega)).trans ((F.block _ (Za.1 z).1).trans z)
  box:=Qn
  cd:=(B.later F).Ar Y (.inr kH)
  now:=Sl.imp (hv.Ar (Y.same (λb j e=>by have:=j.1;omega))) (λb (j:Cb W2.heap.size w3 b)=>⟨Zl ai j.1,Zl j.2 Y.size⟩) (λ_ _ x=>x)}
 have I:=Zd am;have du:(AB t).length<=3:=Jo t 3;clear am Y Qn WH B rS Bb Ia H ap De hv Xf F xC kG z Bg Bv;go_wp2_with (fail);rw[<-ED];clear ED n4 k4;refine(abf ht).mono ?_;rintro e w5 ⟨v7,rfl,Cj,Z,_⟩;obtain⟨p7,d7,rfl,l7,m7⟩:=Z.val;have Jy:WW w m q r cap w1.heap.size (.slice E c.base.length d1) (.slice D c.Af.length d2) (.slice C c.hooks.length d3) (.slice J l.length K) #[.slice X c.base.length P,.slice V c.Af.length O,.slice U c.hooks.length N,.slice R c.Aa.length M,.slice Q c.now.length L,.int .u8 y,.int .u8 u,.int .u8 n] c l c.Aa f w5:=I.out.later Cj;have HX:=Zd hx;have p9:=Cj.size;have dl:w1.heap.size<W4.heap.size:=(Za.1 I.out.box).1;clear I Cj;dsimp only;go_wp2;go_loopg [18] (AB t).length (λg i wr=>∃(k:Nat) (d:List Ay) (f:Array Zf),k<=(AB t).length/\g=(AB t).length - k/\i=.int .i64 k/\d.length=c.Aa.length/\CJ d ((AB t).drop k)=CJ c.Aa (AB t)/\(∀i,i<c.Aa.length->-4 - (k:Int)<=(Aj d i).left/\(Aj d i).left<=4)/\B3 q w5 wr/\
  WW w m q r cap w1.heap.size (.slice E c.base.length d1) (.slice D c.Af.length d2) (.slice C c.hooks.length d3) (.slice J l.length K) #[.slice X c.base.length P,.slice V c.Af.length O,.slice U c.hooks.length N,.slice R c.Aa.length M,.slice Q c.now.length L,.int .u8 y,.int .u8 u,.int .u8 n] c l d f wr)
 case atStart=>exact⟨0,c.Aa,f,Zp _,rfl,rfl,rfl,rfl,λi hi=>by have:=fU i hi;omega,B3.refl _ _,Jy⟩
 obtain⟨k,d,f,hk,rfl,rfl,an,CP,A,hU,a⟩:=hrel;have hf:=Zd CP;have iD:=Zd an;clear CP an;by_cases Az:k<(AB t).length
 .obtain⟨b,o,rfl,j,hc⟩:=Z.at_ Az
  have OJ:=CE.cell (hU.same (T:=λb=>b≠q) (λ_ h=>h)) (p:=⟨b,o+k,none⟩) (by have:=j.1;simp;omega) hc;clear hc;obtain⟨Oo,MF⟩:=HX.out _ (Rd Az);have Pv:=Zd (eM (s:=d) Az);obtain⟨x,lV⟩:∃x:Nat,nth (AB t) k=x:=⟨(nth (AB t) k).toNat,by omega⟩;rw[lV]at OJ Oo MF Pv;clear lV;have xy:x<c.Aa.length:=by omega
  have G:x<d.length:=by rw[iD.out];exact xy
  have ck:(x:Int)<(d.length:Int):=by omega
  obtain⟨y2,y3,_,_,_,_,e4,_,_⟩:=a.cd.at_ x G;obtain⟨xr,MK⟩:=A x xy;have ba:=Zd A;have HD:=Zd (a.dec G (by omega) (by omega));have HU:=Zd (hU.set (i:=x*5+4) (v:=.int .i64 ((Aj d x).left - 1)));have r4:=ch a.cd.arr e4;have f4:=cf (i:=x*5+4) a.cd.arr;have b3:=ch (i:=3) a.box (v:=.slice (some ⟨q,0,none⟩) d.length cap) rfl;clear a hU A e4;obtain⟨lf,A⟩:=Qnm ((Aj d x).left);dsimp only at r4;rw[<-A]at r4 xr MK HD HU;have ed:=Zd A;clear A;go_wp2;go_roundg ((AB t).length - (k+1))
  case rel=>exact⟨k+1,Kn d x,_,by omega,rfl,by go_num,by rw[Gw];exact iD.out,by rw[<-hf.out,Pv.out];rfl,λi hi=>by
   have:=ba.out i hi;rw[LI G];split
   .have:=ba.out x xy
    show -4 - ((k+1:Nat):Int)<=(Aj d x).left - 1/\(Aj d x).left - 1<=4;omega
   omega,HU.out,HD.out⟩
  omega
 have ac:d=CJ c.Aa (AB t):=by rw[<-hf.out,Z7.2 (by omega)];rfl
 have HK:=Zd ac;clear ac hf;have e1:w.heap.size+1<w1.heap.size:=by omega
 have ci:=Zd (a.cd.now l);have b8:=Zd a.now;have HW:=Zd a.below;obtain⟨t0,t1,t2,t3,t4⟩:=Qc5 a.box;have g0:=ch (i:=0) a.Ee (v:=.slice X c.base.length P) rfl;have g1:=ch (i:=1) a.Ee (v:=.slice V c.Af.length O) rfl;have g2:=ch (i:=2) a.Ee (v:=.slice U c.hooks.length N) rfl;have g3:=ch (i:=3) a.Ee (v:=.slice R c.Aa.length M) rfl;have g4:=ch (i:=4) a.Ee (v:=.slice Q c.now.length L) rfl;have g5:=ch (i:=5) a.Ee (v:=.int .u8 y) rfl;have g6:=ch (i:=6) a.Ee (v:=.int .u8 u) rfl;have g7:=ch (i:=7) a.Ee (v:=.int .u8 n) rfl;obtain⟨h0,h1,h2,h3,h4⟩:=Qf5 a.Ee;have f0:=cf (i:=0) a.res;have f1:=cf (i:=1) a.res;have f2:=cf (i:=2) a.res;have f3:=cf (i:=3) a.res;have f4:=cf (i:=4) a.res;have f5:=cf (i:=5) a.res;have f6:=cf (i:=6) a.res;have f7:=cf (i:=7) a.res;have r0:=ch (i:=0) a.res (v:=.slice none 0 0) rfl;have r1:=ch (i:=1) a.res (v:=.slice none 0 0) rfl;have r2:=ch (i:=2) a.res (v:=.slice none 0 0) rfl;have r3:=ch (i:=3) a.res (v:=.slice none 0 0) rfl;have r4:=ch (i:=4) a.res (v:=.slice none 0 0) rfl;have r5:=ch (i:=5) a.res (v:=.int .u8 0) rfl;have r6:=ch (i:=6) a.res (v:=.int .u8 0) rfl;have r7:=ch (i:=7) a.res (v:=.int .u8 0) rfl;clear a hU A;go_wp2;refine ZN (v:=.agg #[.slice E c.base.length d1,.slice D c.Af.length d2,.slice C c.hooks.length d3,.slice (some ⟨q,0,none⟩) d.length cap,.slice J l.length K,.int .u8 y,.int .u8 u,.int .u8 n]) (by rw[A8 rfl];go_simp) rfl ?_;have bc:FH c l t= { {c with Aa:=d} with now:=l}:=by rw[HK.out];rfl
 rw[bc];have Lc:=HW.out;refine⟨_,_,_,_,_,_,rfl,?_,⟨?cd,?now⟩⟩
 case cd=>
  refine⟨m,?r,?aa4,by omega,?ok⟩
  case ok=>
   repeat (with_reducible first|exact ci.out|(refine CD.set ?_ (by omega)))
 case now=>
  refine Sl.imp (S:=λb=>w1.heap.size<b/\b<wr.heap.size) ?old (λb j=>⟨by have:=j.1;omega,by simpa using j.2⟩) λ_ _ x=>x
  repeat (with_reducible first|exact b8.out|(refine adh ?_ (λb j e=>by have:=j.1;omega)))
 repeat (with_reducible first|exact Lc|(refine bS ?_ (by omega)))
def ae3 (w:Zb)(c:A_)(l:List Int)(e:Ending)(w':Zb):Prop:=∃(u1 u2 u3 u4 u5:Zf),e=.returned (.tuple #[.agg #[u1,u2,u3,u4,u5],.int .i64 (Eg c l)])/\Qb6 w w'/\(Eg c l=0->∃q cap,u4=.slice (some ⟨q,0,none⟩) c.Aa.length cap/\aa3 w w' u1 u2 u3 u5 q cap (FH c l (DS c l)))/\(Eg c l≠0->u1=.slice none 0 0/\u2=.slice none 0 0/\u3=.slice none 0 0/\u4=.slice none 0 0/\u5=.slice none 0 0)
def afb (h:RC S w v1 v2 v3 v4 v5 c)(hl:SI S w v6 l)(T:Ql6 S w)(mA:∀i,i<c.Aa.length->(Aj c.Aa i).over.length<=1000):
  Calls Lp 10 #[.agg #[v1,v2,v3,v4,v5],v6] w (ae3 w c l):=by
 obtain⟨M,H,L,G,K,F,J,E,I,D,rfl,rfl,rfl,rfl,rfl,l1,m1,l2,m2,l3,m3,l4,m4,l5,m5⟩:=h.vs;obtain⟨a6,c6,rfl,l6,m6⟩:=hl.val;have IX:=DJ;have r:YH w w ((w.alloc (.cells #[.slice M c.base.length H,.slice L c.Af.length G,.slice K c.hooks.length F,.slice J c.Aa.length E,.slice I c.now.length D] 28)).alloc (.cells #[(),(),(),(),()] 28)):=bA (bA (Zh _ _));by_cases m:Eg c l=0
 .obtain⟨z,_⟩:=Bj m
  obtain⟨Jz,ER⟩:=Bj z;have k:=EG Jz;obtain⟨UO,_⟩:=Fb ER;have uz:=k.uy;have Q:=k.few;have n8:=k.Fp;have R:=k.PN;have P:=k.hooks;have bP:∀x,x∈AB (DS c l)->0<=x/\x<c.Aa.length:=MT k o!;have Y:DS c l<8:=U9 (S3 k.over) o!;have a:Hid (∀W,Qb6 w W->Calls Lp 28 #[.agg #[.slice M c.base.length H,.slice L c.Af.length G,.slice K c.hooks.length F,.slice J c.Aa.length E,.slice I c.now.length D],.slice a6 l.length c6] W λe w'=>e=.returned (.tuple #[.agg #[.slice M c.base.length H,.slice L c.Af.length G,.slice K c.hooks.length F,.slice J c.Aa.length E,.slice I c.now.length D,.int .u8 (Ax c.Aa 0),.int .u8 (Ax c.Aa 1),.int .u8 (Ax c.Aa 2)],.int .u8 (DS c l),.int .i64 0])/\Qb6 W w'):=Zd λW f=>(ao2 (w:=W) (h.later f) (hl.later f) (A3 T f)).mono (by
   rintro e w' ⟨g,t,rfl,j,n,_⟩;obtain⟨rfl,rfl⟩:=n m;rw[m];exact⟨rfl,j⟩)
  have p:=Zd (λW (f:Qb6 w W)=>afa (w:=W) (l:=l) (t:=DS c l) (h.later f) (hl.later f) (A3 T f) Y bP (λi B=>by have:=k.left i B;omega) o! o! o! o! o! o! (λi B=>⟨by have:=k.Ap i B;omega,mA i B⟩) o! (Ax c.Aa 0) (Ax c.Aa 1) (Ax c.Aa 2));have HZ:=Zd m;obtain⟨k0,Z⟩:∃x,x=Ax c.Aa 0:=⟨_,rfl⟩;obtain⟨k1,u⟩:∃x,x=Ax c.Aa 1:=⟨_,rfl⟩;obtain⟨k2,s⟩:∃x,x=Ax c.Aa 2:=⟨_,rfl⟩;rw[<-Z, <-u, <-s]at a p;obtain⟨t,N⟩:∃x,x=DS c l:=⟨_,rfl⟩;have HT:=Zd N;rw[<-N]at a p;clear m z Jz ER k UO uz Q n8 R P bP Y Z u s N;go_enter Lp.func59,n59;go_wp2_with (first|(go_at_call 28;refine(a.out _ r).mono ?_;rintro e w1 ⟨rfl,j⟩;have A:=r.trans (j.mono r.size);obtain⟨Fl,DR⟩:=bw j;obtain⟨L6,xr⟩:=E7 j)|(go_at_call 24;refine(p.out _ (bA A)).mono ?_;rintro e w2 ⟨u1,u2,u3,u5,q,cap,rfl,X,o⟩;obtain⟨mm,rr,U,O,d⟩:=o.cd;obtain⟨n1,q1,d1,rfl⟩:=(aby d.base.val);obtain⟨n2,q2,d2,rfl⟩:=(aby d.Af.val);obtain⟨n3,q3,d3,rfl⟩:=(aby d.hooks.val);obtain⟨n5,q5,d5,rfl⟩:=(aby o.now.val);obtain⟨NP,MK⟩:=E7 X;have hz:=bI X;have Cj:=(bA A).trans (X.mono (bA A).size)));rw[ad8];go_wp2_with (fail);refine ZN (v:=.tuple #[.agg #[.slice q1 n1 d1,.slice q2 n2 d2,.slice q3 n3 d3,.slice q (FH c l t).Aa.length cap,.slice q5 n5 d5],.int .i64 0]) (by rw[abI rfl];go_simp) rfl ?_;have DM:=Cj;have V:=Zd o.now;rw[ZB]at O;refine⟨_,_,_,_,_,by rw[HZ.out],?_,λ_=>?_,λy=>absurd HZ.out y⟩
  .repeat (with_reducible first|exact Cj|refine bA ?_|(refine bS ?_ o!)|refine bD ?_|refine bN ?_)
  rw[<-HT.out];have TC:=d.mq;refine⟨q,cap,by rw[show(FH c l t).Aa.length=c.Aa.length from O_ _ _],⟨?cd,?now⟩⟩
  case cd=>
   refine⟨mm,rr,U,o!,?ok⟩
   repeat (with_reducible first|exact d|(refine CD.set ?_ o!))
  refine Sl.imp (S:=λb=>q<b/\b<w2) ?old (λb C=>⟨C.1,by simpa using C.2⟩) λ_ _ x=>x
  repeat (with_reducible first|exact V.out|(refine adh ?_ (λb C e=>by have:=C.1;omega)))
 have a:Hid (∀W,Qb6 w W->Calls Lp 28 #[.agg #[.slice M c.base.length H,.slice L c.Af.length G,.slice K c.hooks.length F,.slice J c.Aa.length E,.slice I c.now.length D],.slice a6 l.length c6] W λe w'=>e=.returned (.tuple #[.agg #[(),(),(),(),(),.int .u8 0,.int .u8 0,.int .u8 0],.int .u8 0,.int .i64 (Eg c l)])/\Qb6 W w'):=Zd λW f=>(ao2 (w:=W) (h.later f) (hl.later f) (A3 T f)).mono (by
  rintro e w' ⟨g,t,rfl,j,_,n⟩;obtain⟨rfl,rfl⟩:=n m;exact⟨rfl,j⟩)
 obtain⟨x,n⟩:=Qnm (Eg c l);rw[<-n]at a m;have HX:=Zd n;clear n;go_enter Lp.func59,n59;go_wp2_with (go_at_call 28;refine(a.out _ r).mono ?_;rintro e w1 ⟨rfl,j⟩;have A:=r.trans (j.mono r.size);obtain⟨Fl,DR⟩:=bw j;obtain⟨L6,xr⟩:=E7 j);refine ZN (v:=.tuple #[.agg #[(),(),(),(),()],.int .i64 x]) (by rw[abI rfl];go_simp) rfl ?_;refine⟨_,_,_,_,_,by rw[HX.out],?_,λy=>absurd (HX.out.trans y) m,λ_=>⟨rfl,rfl,rfl,rfl,rfl⟩⟩
 repeat (with_reducible first|exact A|refine bA ?_|(refine bS ?_ o!)|refine bD ?_|refine bN ?_)
def aa3.adp {u3:Zf}(h:aa3 n w u1 u2 u3 u5 q cap c):n<=q/\q<w:=by
 obtain⟨m,r,b,d,a⟩:=h.cd;have:=a.mq;have:=a.qr;have:=a.rw_;omega
def aa3.box {b:Nat}{Y:Zb}{u3:Zf}(h:aa3 n w u1 u2 u3 u5 q cap c)(d:B3 b w Y)(l:b<n\/w<=b):aa3 n Y u1 u2 u3 u5 q cap c:=by
 have k:=h.adp;obtain⟨m,r,f,j,g⟩:=h.cd;have o:=g.rw_;have i:=d.size;exact⟨⟨m,r,f,j,g.Ar d o!⟩,Sl.imp (h.now.Ar (d.same λx a e=>by have:=a.1;have:=a.2;omega)) (λx a=>⟨a.1,Zl a.2 i⟩) λ_ _ x=>x⟩
def aa3.mono {u3:Zf}(h:aa3 n w u1 u2 u3 u5 q cap c)(e:k<=n):aa3 k w u1 u2 u3 u5 q cap c:=by
 obtain⟨m,r,a,d,b⟩:=h.cd;exact⟨⟨m,r,a,o!,b⟩,h.now⟩
structure aa5 (S:Nat->Prop)(w:Zb)(q cap:Nat)(u1 u2 u3 u5:Zf)(c:A_):Prop where
 base:SI S w u1 c.base
 Af:SP S w u2 c.Af
 hooks:SI S w u3 c.hooks
 now:SI S w u5 c.now
 row:∃cur,w.heap[q]?=some (.cells cur 42 (0,0))/\∀i,i<c.Aa.length->∃v2 v3,cur[i*5]?=some (.int .i64 (Aj c.Aa i).low)/\cur[i*5+1]?=some (.int .i64 (Aj c.Aa i).high)/\cur[i*5+2]?=some v2/\cur[i*5+3]?=some v3/\cur[i*5+4]?=some (.int .i64 (Aj c.Aa i).left)/\
  SP S w v2 (Aj c.Aa i).Ap/\SI S w v3 (Aj c.Aa i).over
 pV:c.Aa.length<=cap
 bJ:cap<=maxLen
 nq:¬S q
def aa3.co {u3:Zf}(h:aa3 n w u1 u2 u3 u5 q cap c):aa5 (λb=>b<w.heap.size/\b≠q) w q cap u1 u2 u3 u5 c:=by
 obtain⟨m,r,f,A,a⟩:=h.cd;have z:=a.qr;have y:=a.rw_;have e:∀b,NA m q b->b<w.heap.size/\b≠q:=λb d=>⟨by have:=d.2;omega,by have:=d.2;omega⟩;have g:∀b,NR q r b->b<w.heap.size/\b≠q:=λb d=>⟨by have:=d.2;omega,by have:=d.1;omega⟩;refine⟨a.base.imp e λ_ _ x=>x,a.Af.imp e λ_ _ x=>x,a.hooks.imp e λ_ _ x=>x,h.now.imp (λb d=>⟨d.2,by have:=d.1;omega⟩) λ_ _ x=>x,⟨f,a.arr,λi o=>?_⟩,a.pV,a.bJ,λl=>l.2 rfl⟩;obtain⟨v2,v3,v,u,t,s,p,k,j⟩:=a.at_ i o;exact⟨v2,v3,v,u,t,s,p,k.imp g λ_ _ x=>x,j.imp g λ_ _ x=>x⟩
def aa5.over {u3:Zf}(h:aa5 S w q cap u1 u2 u3 u5 c)(r:SI S w v (Aj c.Aa i).over):aa5 S (w.setCell ⟨q,i*5+3,none⟩ v) q cap u1 u2 u3 u5 c:=by
 obtain⟨z,s,d⟩:=h.row;have y:=(B3.refl q w).set (i:=i*5+3) (v:=v);have a:CE S w (w.setCell ⟨q,i*5+3,none⟩ v):=y.same λx p e=>h.nq (e▸p);refine⟨h.base.Ar a,h.Af.Ar a,h.hooks.Ar a,h.now.Ar a,⟨_,Ba s _,λj u=>?_⟩,h.pV,h.bJ,h.nq⟩;obtain⟨v2,v3,n,m,l,k,g,f,o⟩:=d j u;have t:=(Za.1 k).1;by_cases b:j=i
 .subst b
  refine⟨v2,v,?_,?_,?_,?_,?_,f.Ar a,r.Ar a⟩
  .rw[Zk o!];exact n
  .rw[Zk o!];exact m
  .rw[Zk o!];exact l
  .rw[ZV t]
  rw[Zk o!];exact g
 refine⟨v2,v3,?_,?_,?_,?_,?_,f.Ar a,o.Ar a⟩
 .rw[Zk o!];exact n
 .rw[Zk o!];exact m
 .rw[Zk o!];exact l
 .rw[Zk o!];exact k
 rw[Zk o!];exact g
def aa5.rc {u3:Zf}(h:aa5 S w q cap u1 u2 u3 u5 c):RC (λb=>S b\/b=q) w u1 u2 u3 (.slice q c.Aa.length cap) u5 c:=by
 obtain⟨y,n,e⟩:=h.row;have d:∀b,S b->S b\/b=q:=λb o=>.inl o;refine⟨h.base.imp d λ_ _ x=>x,h.Af.imp d λ_ _ x=>x,h.hooks.imp d λ_ _ x=>x,⟨_,_,rfl,h.pV,h.bJ,λi x f=>?_⟩,h.now.imp d λ_ _ x=>x⟩;have g:=(Zm.1 f).1;have m:x=Aj c.Aa i:=by have:=Db g;rw[f]at this;exact ZW this
 subst m;obtain⟨v2,v3,v,t,s,r,p,l,k⟩:=e i g;refine⟨q,0,[.int .i64 (Aj c.Aa i).low,.int .i64 (Aj c.Aa i).high,v2,v3,.int .i64 (Aj c.Aa i).left],rfl,.inr rfl,rfl,λj u a=>?_,v2,v3,rfl,l.imp d λ_ _ x=>x,k.imp d λ_ _ x=>x⟩;rw[zN];refine ch n ?_
 match j,a with
 |0,a=>cases a;exact v
 |1,a=>cases a;exact t
 |2,a=>cases a;exact s
 |3,a=>cases a;exact r
 |4,a=>cases a;exact p
def aa5.later {W:Zb}{u3:Zf}(h:aa5 S w q cap u1 u2 u3 u5 c)(a:Qb6 w W):aa5 S W q cap u1 u2 u3 u5 c:=by
 obtain⟨d,e,b⟩:=h.row;refine⟨h.base.later a,h.Af.later a,h.hooks.later a,h.now.later a,⟨d,(a.block q (Za.1 e).1).trans e,λi j=>?_⟩,h.pV,h.bJ,h.nq⟩;obtain⟨v2,v3,o,n,m,l,k,g,f⟩:=b i j;exact⟨v2,v3,o,n,m,l,k,g.later a,f.later a⟩
def aa5.cell {u3:Zf}(h:aa5 S w q cap u1 u2 u3 u5 c)(hi:i<c.Aa.length):∃v,w.cell? ⟨q,i*5+3,none⟩=some v/\SI S w v (Aj c.Aa i).over:=by
 obtain⟨f,d,a⟩:=h.row;obtain⟨v2,v3,m,l,k,e,j,g,b⟩:=a i hi;exact⟨v3,ch d e,b⟩
def CT.wr {u3:Zf}(h:CT n w u1 u2 u3 u4 u5 c):CWr n w u1 u2 u3 u4 u5 c:=
 ⟨h.base,h.Af,h.hooks,h.row,Sl.imp h.now (λx a=>⟨a.new,λe=>by
  obtain⟨_,d,b⟩:=h.row.own x e;exact TT.not a b ⟨d!,d!,d!⟩⟩) λ_ _ x=>x⟩
def CWr.aej {u3:Zf}(a:c.Aa.length=m)(h:CWr n w u1 u2 u3 (.slice g m cap) u5 c)(hi:i<m):
  CWr n (w.setCell ⟨g,i*5+4,none⟩ (.int .i64 x)) u1 u2 u3 (.slice g m cap) u5 {c with Aa:=ac2 c.Aa i x}:=by
 subst a;exact h.left hi
def acQ (b:l.Pairwise (· < ·))(a:∀x∈l,0<=x/\x<3):l.length<=3:=(show∀l∈Lj,l.length<=3 by decide) l (EM b a)
def aaG (h:BN c=0):∀i,i<c.Aa.length->(Aj c.Aa i).over.length<=3:=λi d=>by
 have e:=(Bj (Bj h).2).2;have f:=(JQ (Bj (Bj h).2).1).2;have a:=adf (Bj e).1 (Aj c.Aa i) (Z3 (Db d));exact acQ a.1 λx b=>by have:=a.2 x b;omega
def adF (e:H6 c)(f:l.length=c.Aa.length)(b:∀i,i<c.Aa.length->(Aj c.Aa i).low<=nth l i/\((Aj c.Aa i).low<=(Aj c.Aa i).high->nth l i<=(Aj c.Aa i).high)):Ct c l=0:=
 iH ⟨f,λi g=>by
  have a:i<c.Aa.length:=o!
  have d:=(e.seam i a).step;exact⟨(b i a).1,(b i a).2 (by simpa using d.2.1)⟩⟩
def adi (b:H6 c)(d:P.length<=5)(a:∀l∈P,Ct c l=0):F2 c P=0:=by
 unfold F2;rw[BR b.begin,if_neg o!];exact F5 a
def abS {u3:Zf}(s:Eg D l=0->∃q cap,u4=.slice (some ⟨q,0,none⟩) D.Aa.length cap/\aa3 w w' u1 u2 u3 u5 q cap (FH D l (DS D l)))(p:Eg D l≠0->u1=.slice none 0 0/\u2=.slice none 0 0/\u3=.slice none 0 0/\u4=.slice none 0 0/\u5=.slice none 0 0):
  (∃n a c,u1=.slice a n c)/\(∃n a c,u2=.slice a n c)/\(∃n a c,u3=.slice a n c)/\(∃n a c,u4=.slice a n c)/\∃n a c,u5=.slice a n c:=by
 by_cases h:Eg D l=0
 .obtain⟨q,cap,e,d⟩:=s h
  obtain⟨m,r,o,_,b⟩:=d.cd;exact⟨aby b.base.val,aby b.Af.val,aby b.hooks.val,⟨_,_,_,e⟩,aby d.now.val⟩
 obtain⟨k,j,i,g,f⟩:=p h;exact⟨⟨_,_,_,k⟩,⟨_,_,_,j⟩,⟨_,_,_,i⟩,⟨_,_,_,g⟩,⟨_,_,_,f⟩⟩
def aek {Sn:Nat->Prop}{lv:Zf}{A:List Int}(hn:SI Sn w lv A)(E8:∀x,Sn x->x<w.heap.size)(hG:Jr w):Calls Lp 3 #[lv] w (Two w (.bool true)):=by
 obtain⟨la,lc,rfl,_⟩:=hn.val;have IX:maxLen=9223372036854775807:=rfl;have IO:=Zd (fun(W:Zb) (b d:Nat) (h1:SI Sn W (.slice la A.length lc) A) (h2:∀x,Sn x->x<W.heap.size/\x≠b) (h3:BK W b (.slice la A.length lc) d) (h4:d+1000<4611686018427387904)=>show Calls Lp 5 #[.pointer (some ⟨b,0,none⟩),.int .i64 3] W (qL W b (.slice la A.length lc) d 3) from c44 (s:=3) h1 h2 h3 h4 (by decide));go_enter Lp.func10,n10;go_wp2_with (first|(go_at_call 4;refine(c27 _ ⟨_,_,_,rfl⟩ _).mono ?_;rintro e W1 ⟨rfl,hw⟩;(have Bg:Qb6 w W1:=by rw[hw];exact bA (Zh _ _));(have Ue:BK W1 w.heap.size (.slice la A.length lc) 0:=⟨1,by rw[hw];exact Bp _ _⟩);clear hw;obtain⟨b,hb⟩:=Qnm w.heap.size;rw[<-hb]at Ue⊢;have HB:=Zd hb;clear hb)|(go_at_call 5;refine(IO.out _ _ _ (hn.later Bg) (λx t=>⟨by have:=E8 x t;have:=Bg.size;omega,by have:=E8 x t;have:=HB.out;omega⟩) Ue (by omega)).mono ?_;rintro e W2 ⟨c,u1,u2,u3,u4,u5,d2,rfl,M7,MG,yv,hM,M2⟩;obtain⟨a1,c1,a2,c2,a3,c3,a4,c4,a5,c5,rfl,rfl,rfl,rfl,rfl,_⟩:=yv.vs));have GK:b<=w.heap.size/\w.heap.size<=b:=by have:=HB.out;omega
 have DR:=Bg.size;have FD:b<W1.heap.size:=Ue.lt;have EB:=M7.Cn.size;have Bb:=B3.aj4 Bg M7.Cn (by omega);have Xo:=(hn.later Bg).Cn M7.Cn (λx t=>⟨by have:=E8 x t;omega,by have:=E8 x t;omega⟩);obtain⟨X,hX⟩:=Qnm (W2.alloc (.cells #[.slice a1 c.base.length c1,.slice a2 c.Af.length c2,.slice a3 c.hooks.length c3,.slice a4 c.Aa.length c4,.slice a5 c.now.length c5] 28));have Ov:Qb6 W2 X:=by rw[hX];exact bA (Zh _ _)
 have hK:X.heap[W2.heap.size]?=some (.cells #[.slice a1 c.base.length c1,.slice a2 c.Af.length c2,.slice a3 c.hooks.length c3,.slice a4 c.Aa.length c4,.slice a5 c.now.length c5] 28 (0,0)):=by rw[hX];exact Bp _ _
 obtain⟨q,hq⟩:=Qnm W2.heap.size;rw[<-hq]at hK;rw[<-hX, <-hq];have xS:q<X.heap.size:=(Za.1 hK).1;have M9:W2.heap.size<=q/\q<=W2.heap.size:=by omega
 clear hX hq;have Jm:=hM.few;have hS:∀x,Cb W1.heap.size W2 x->x<X.heap.size/\x≠b:=λx t=>⟨by have:=t.2;have:=Ov.size;omega,by have:=t.1;omega⟩;have kv:=Xo.later Ov;have nm:∀x,Sn x->x<X.heap.size/\x≠b:=λx t=>⟨by have:=E8 x t;have:=Ov.size;omega,by have:=E8 x t;omega⟩;refine(abW kv nm ⟨B3.refl _ _,M7.E4.later Ov⟩ (by omega) (by decide)).mono ?_;rintro e W3 ⟨r,d3,rfl,hr,H4,k_,Mk⟩;have iK:r<=5:=hr;have Ev:=k_.E4;have F1:=H4.at_ hK (by omega);have O9:=(yv.later Ov).Ar (H4.same λx t=>(hS x t).2);have rq:=kv.Cn H4 nm;have Bv:=B3.aj4 (Bb.trans (Ov.mono Bb.size)) H4 (by omega);have Rb:=H4.size;have KV:=Ov.size;have HM:=Zd hM;have mB:=hG.later Bv;have No:b<X.heap.size:=by omega
 have lJ:∀x,Cb W1.heap.size W2 x->x<W3.heap.size/\x≠b:=λx t=>⟨by have:=(hS x t).1;omega,(hS x t).2⟩;have ne:∀x,Sn x->x<W3.heap.size/\x≠b:=λx t=>⟨by have:=E8 x t;omega,by have:=E8 x t;omega⟩;have HK:=Zd (show∀W,B3 b W3 W->W.heap[q]?=some (.cells #[.slice a1 c.base.length c1,.slice a2 c.Af.length c2,.slice a3 c.hooks.length c3,.slice a4 c.Aa.length c4,.slice a5 c.now.length c5] 28 (0,0)) from λW hU=>hU.at_ F1 (by omega));have HR:=Zd (show∀W,B3 b W3 W->RC (Cb W1.heap.size W2) W (.slice a1 c.base.length c1) (.slice a2 c.Af.length c2) (.slice a3 c.hooks.length c3) (.slice a4 c.Aa.length c4) (.slice a5 c.now.length c5) c from λW hU=>O9.Ar (hU.same λx t=>(lJ x t).2));have wd:=Zd (show∀W,B3 b W3 W->SI Sn W (.slice la A.length lc) A from λW hU=>rq.Cn hU ne);have iD:=Zd lJ;have ow:=Zd ne;have On:c.Aa.length<=3:=hM.few.2;have mK:=λi (hi:i<c.Aa.length)=>hM.valid.step i hi;have ws:=Zd mK;clear hK F1 Xo yv M7 Ue O9 H4 rq hS lJ ne mK k_ kv nm;obtain⟨AC,GE,GC,GB,GA⟩:=zp Hw;go_wp2;go_loopg [5,6] r (λgg ov i wr=>∃(m d:Nat) (P:List (List Int)),gg=m/\i=.int .i64 (m:Int)/\m+P.length=r/\LR W3.heap.size wr ov P/\(∀l∈P,Ct c l=0)/\B3 b W3 wr/\BK wr b (.slice la A.length lc) d/\d<=3000+20*P.length)
 case atStart=>exact⟨r,d3,[],rfl,rfl,by simp,LR.nil _ _,(λl hl=>by cases hl),B3.refl _ _,Ev,by simp;omega⟩
 obtain⟨m,d,P,lC,rfl,ru,im,rE,hU,hL,hd⟩:=hrel;have lC:=lC.symm;subst lC;have HP:=Zd rE;clear rE;have Lo:=hU.size;by_cases Az:0<m
 .obtain⟨re,ka,rg⟩:=im
  obtain⟨va,vc,rfl,_⟩:=JS ka;have td:=HK.out _ hU;obtain⟨k0,k1,k2,k3,k4⟩:=Qc5 td;have se:P.length<=5:=by omega
  have L1:(0:Int)<(m:Int):=by omega
  have hw:IntKind.i64.wrap ((m:Int) - 1)=((m - 1:Nat):Int):=by rw[zE];omega
  have yx:=Zd (ajk (HR.out _ hU) (λx t=>⟨by have:=(iD.out x t).1;omega,(iD.out x t).2⟩) (wd.out _ hU) (λx t=>⟨by have:=(ow.out x t).1;omega,(ow.out x t).2⟩) hL (by omega) (by omega) λi hi=>by have:=ws.out i hi;omega);go_wp2;refine yx.out.mono ?_;rintro e W5 ⟨v5,l,d5,rfl,cN,xZ,L4,sq,Xc,yV⟩;have GO:=Zd (adF HM.out Xc yV);obtain⟨At,An,rfl,_⟩:=sq.si.val;have Qm:l.length<=3:=by omega
  clear Xc yV;have p9:=cN.size;have i7:=D2 ka cN (by omega:b<W3.heap.size);clear k0 k1 k2 k3 k4 td yx ka;go_wp2_with (at_builtin;refine Yc _ rfl _ _ 30 rfl W3.heap.size 22 AC (.slice none 0 0) 1 24 (Cz zW) (Dz GE) GC GB GA rfl (by decide) _ P.length re rfl (Ya i7 _) ⟨W5.heap.size,0,none⟩ 1 1 [.slice At l.length An] rfl rfl (Dj _ _ _) (by simp[YT]) (by unfold maxLen;omega) (by omega) (by simp;omega) ?_;intro v9 w9 rj r_ HI);have vb:LR W3.heap.size w9 v9 (P++ [l]):=LR.snoc i7 (λi y hi=>by
   obtain⟨u,h1,h2⟩:=rg i y hi;exact⟨u,h1,Dx (T:=λx=>x=b) (cN.CN (K:=λx=>x=b) rfl) (λx t e=>by have:=t.1.1;omega) h2⟩) sq.typ (by omega) (bA (Zh _ _)) r_ rj
  have Em:=J3 i7;have pY:B3 b W3 w9:=((hU.trans cN).below (bA (Zh _ _))).grown r_ λx t=>by have:=(Em x t).1;omega
  have tb:BK w9 b (.slice la A.length lc) d5:=(xZ.later (bA (Zh _ _))).of (r_.block b (xZ.later (bA (Zh _ _))).lt (λe=>by have:=(Em b e.symm).1;omega));have Qs:=Zd (ZY vb (ZY pY tb));have IN:=Zd ru;clear vb pY tb i7 r_ rj HI Em xZ rg ru;go_roundg (m - 1)
  case rel=>exact⟨m - 1,d5,P++ [l],rfl,rfl,by have:=IN.out;rw[ZA];simp;omega,Qs.out.1,(λx t=>by
   rcases Zab.1 t with h|h
   .exact HP.out x h
   rw[Yh.1 h];exact GO.out),Qs.out.2.1,Qs.out.2.2,by rw[ZA];simp;omega⟩
  omega
 have BE:m=0:=by omega
 subst BE;have se:P.length<=5:=by omega
 obtain⟨oa,oc,rfl,_⟩:=im.val;obtain⟨Z,hZ⟩:=Qnm wr;subst hZ;have io:=B3.aj4 Bv hU (by omega);have mj:=hG.later io;have fw:=HK.out _ hU;have vB:=im.sl;have ii:RC (λx=>x<Z.heap.size) Z (.slice a1 c.base.length c1) (.slice a2 c.Af.length c2) (.slice a3 c.hooks.length c3) (.slice a4 c.Aa.length c4) (.slice a5 c.now.length c5) c:=(HR.out _ hU).imp λx t=>by have:=(iD.out x t).1;show x<Z.heap.size;omega
 have ma:SL (λx=>x<Z.heap.size) Z (.slice oa P.length oc) P:=vB.imp λx t=>t.2;have pc:=Zd (adi HM.out se HP.out);have vF:=Zd (show Eu c P=aaH c 0 P by rw[adg,if_pos pc.out]);have ip:=c34 ii ma (λx t=>t) mj (λi hi=>by have:=aaG HM.out.begin i hi;omega);rw[pc.out,vF.out]at ip;obtain⟨an,hA⟩:=Qnm ((aaH c 0 P).1);obtain⟨am,hB⟩:=Qnm ((aaH c 0 P).2);rw[<-hA, <-hB]at ip;have mG:=Zd (show aaH c 0 P=(an,am) by rw[hA,hB]);have yu:=Zd ip;clear ip hA hB im vB;obtain⟨k0,k1,k2,k3,k4⟩:=Qc5 fw;have bi:q<Z.heap.size:=(Za.1 fw).1;go_wp2_with (first|(go_at_call 8;refine yu.out.mono ?_;rintro e Z1 ⟨ct,rfl|⟨In,rfl,Ss⟩⟩;have l_:=(ct.block _ bi).trans fw;obtain⟨Im,If,j2,j3,Id⟩:=Qc5 l_)|(go_at_call 9;refine(aoQ (ii.later ct) (λy (B:y<Z.heap.size)=>by have:=ct.size;omega) (by have:=HM.out.Fp;omega) (by have:=HM.out.PN;have:=HM.out.Fp;omega) (by have:=HM.out.hooks;have:=HM.out.Fp;omega) (by omega) (by have:=HM.out.now.1;omega) (λi hi=>⟨by have:=HM.out.valid.Ap i hi;omega,by have:=aaG HM.out.begin i hi;omega⟩)).mono ?_;rintro e Z2 ⟨w1,w2,w3,w4,w5,rfl,bK,us⟩;have no:=us.rc;obtain⟨b1,n1,b2,n2,b3,n3,b4,n4,b5,n5,rfl,rfl,rfl,rfl,rfl,_⟩:=no.vs))
 case' inr=>exact⟨rfl,bU io ct,.inr ⟨_,rfl,Ss⟩⟩
 have mz:=bU ct bK;obtain⟨X0,uS⟩:=Qnm (Z2.alloc (.cells #[.slice b1 c.base.length n1,.slice b2 c.Af.length n2,.slice b3 c.hooks.length n3,.slice b4 c.Aa.length n4,.slice b5 c.now.length n5] 28));have i6:Qb6 Z2 X0:=by rw[uS];exact bA (Zh _ _)
 have mh:X0.heap[Z2.heap.size]?=some (.cells #[.slice b1 c.base.length n1,.slice b2 c.Af.length n2,.slice b3 c.hooks.length n3,.slice b4 c.Aa.length n4,.slice b5 c.now.length n5] 28 (0,0)):=by rw[uS];exact Bp _ _
 obtain⟨bx,H_⟩:=Qnm Z2.heap.size;have WS:Z2.heap.size<=bx/\bx<=Z2.heap.size:=by omega
 rw[<-uS, <-H_];rw[<-H_]at mh;have vA:=bU mz i6;have Ol:=i6.size;have Of:=mz.size;have rD:=no.later i6;have Iz:=Zd ii;have IF:=Zd ma;have pa:=Zd fw;have yp:=Zd mj;have yq:=Zd io;clear uS H_ k0 k1 k2 k3 k4 Im If j2 j3 Id l_ no us ct bK mz i6 ii ma fw mj io hL hU yu pc vF HK HR wd iD ow ws;go_loopg [11] P.length (λgg i wx=>∃(k:Nat) (D:A_) (T:Nat->Prop) (q1 q2 q3 q4 q5:Option Addr) (d1 d2 d3 d4 d5:Nat),k<=P.length/\gg=P.length - k/\i=.int .i64 k/\aaH D k (P.drop k)=(an,am)/\BN D=0/\aaD D.Aa=aaD c.Aa/\Qb6 Z wx/\wx.heap[bx]?=some (.cells #[.slice q1 D.base.length d1,.slice q2 D.Af.length d2,.slice q3 D.hooks.length d3,.slice q4 D.Aa.length d4,.slice q5 D.now.length d5] 28 (0,0))/\RC T wx (.slice q1 D.base.length d1) (.slice q2 D.Af.length d2) (.slice q3 D.hooks.length d3) (.slice q4 D.Aa.length d4) (.slice q5 D.now.length d5) D/\(∀y,T y->y<wx.heap.size/\y≠bx))
 case atStart=>exact⟨0,c,_,_,_,_,_,_,_,_,_,_,_,Zp _,rfl,rfl,mG.out,HM.out.begin,rfl,vA,mh,rD,λy B=>⟨by have:=B.2;omega,by have:=B.2;omega⟩⟩
 obtain⟨k,D,T,q1,q2,q3,q4,q5,d1,d2,d3,d4,d5,hk,rfl,rfl,wa,pM,rx,U5,gt,lK,lF⟩:=hrel;have xi:=Zd wa;have i9:=Zd pM;have pd:=Zd rx;clear wa pM rx rD mh vA;by_cases G4:k<P.length
 .obtain⟨V,hV⟩:=Qnm wr
  subst hV;obtain⟨b6,o6,v6,ea,Xj,lH,hu⟩:=(IF.out.later U5).at_ G4;subst ea;have kw:=aci (c:=D) G4;have i8:=HP.out _ (Z3 (BJ G4));obtain⟨l,jD⟩:=Qnm (BM P k);rw[<-jD]at kw hu i8;rw[xi.out]at kw;have ww:=Zd kw;have OS:=Zd i8;have pp:=Zd (show Ca D l=0 by unfold Ca;rw[BR i9.out];exact ado pd.out i8);clear jD i8;obtain⟨ua,uc,rfl,_⟩:=hu.val;have IR:=U5.size;have lL:RC (λy=>T y\/y<Z.heap.size) V (.slice q1 D.base.length d1) (.slice q2 D.Af.length d2) (.slice q3 D.hooks.length d3) (.slice q4 D.Aa.length d4) (.slice q5 D.now.length d5) D:=lK.imp λy B=>.inl B;have ky:SI (λy=>T y\/y<Z.heap.size) V (.slice ua l.length uc) l:=Sl.imp hu (λy B=>.inr B) λ_ _ x=>x;have lI:∀y,(T y\/y<Z.heap.size)->y<V.heap.size/\y≠bx:=λy B=>by
   rcases B with B|B
   .exact lF y B
   exact⟨by omega,by omega⟩
  have vG:=Zd lL;have wn:=Zd ky;have ol:=Zd lI;have pt:=Zd (λW (I:Qb6 V W)=>afb (lL.later I) (ky.later I) (λy B=>Zl (lI y B).1 I.size) (λi hi=>by have:=aaG i9.out i hi;omega));have L2:(k:Int)<(P.length:Int):=by omega
  obtain⟨x0,x1,x2,x3,x4⟩:=Qc5 gt;have z0:=λp=>Al p x0;have z1:=λp=>Al p x1;have z2:=λp=>Al p x2;have z3:=λp=>Al p x3;have z4:=λp=>Al p x4;have z5:=λp=>Al p lH;have jn:=Zd lH;have dl:=Zd gt;have pm:=Zd U5;clear x0 x1 x2 x3 x4 lK lF hu lL ky lI;go_wp2
  rename Act->Zb->Prop=>KK
  have GT:∀(o:Nat) (Y:Zb) (N M L p4 F:Option Addr) (R Q O m4 G e1 E e3 J H:Nat),V.heap.size<=o->Qb6 V Y->Y.heap[o]?=some (.cells #[.slice N R e1,.slice M Q E,.slice L O e3,.slice p4 m4 J,.slice F G H] 28 (0,0))->(Eg D l=0->∃g cap,Zy p4 m4 J=.slice (some ⟨g,0,none⟩) D.Aa.length cap/\g≠o/\aa3 V.heap.size Y (.slice N R e1) (.slice M Q E) (.slice L O e3) (.slice F G H) g cap (FH D l (DS D l)))->KK {tmps:=List.toArray ((Zy la A.length lc)::Ze::u2::(ZbT (some {block:=b,off:=0}))::(ZbT (some {block:=q,off:=0}))::(Zy (some {block:=b6,off:=o6}) P.length oc)::(ZL IntKind.i64 0)::(ZL IntKind.i64 an)::(ZL IntKind.i64 am)::(ZL IntKind.i64 0)::(ZbT (some {block:=bx,off:=0}))::(ZL IntKind.i64 ↑k)::(.pointer (some ⟨o,0,none⟩))::(.int .i64 (Eg D l))::u14::u15::u16::u17::u18::u19::(Zy la A.length lc)::(ZbT (some {block:=b,off:=0}))::(ZbT (some {block:=b,off:=0}))::(Value.agg #[Zy a1 c.base.length c1,Zy a2 c.Af.length c2,Zy a3 c.hooks.length c3,Zy a4 c.Aa.length c4,Zy a5 c.now.length c5])::(ZbT (some {block:=b,off:=0}))::(ZL IntKind.i64 ↑r)::(ZL IntKind.i64 0)::(Value.bool false)::u28::u29::u30::u31::u32::u33::u34::u35::(YK #[ZL IntKind.i64 an,ZL IntKind.i64 am,ZL IntKind.i64 0])::(Value.agg #[Zy a1 c.base.length c1,Zy a2 c.Af.length c2,Zy a3 c.hooks.length c3,Zy a4 c.Aa.length c4,Zy a5 c.now.length c5])::(Zy (some {block:=b6,off:=o6}) P.length oc)::(YK #[ZL IntKind.i64 an,ZL IntKind.i64 am,ZL IntKind.i64 0])::(ZL IntKind.i64 an)::(ZL IntKind.i64 am)::(ZL IntKind.i64 0)::(ZL IntKind.i64 0)::(Value.bool false)::(Value.agg #[Zy a1 c.base.length c1,Zy a2 c.Af.length c2,Zy a3 c.hooks.length c3,Zy a4 c.Aa.length c4,Zy a5 c.now.length c5])::(Value.agg #[Zy b1 c.base.length n1,Zy b2 c.Af.length n2,Zy b3 c.hooks.length n3,Zy b4 c.Aa.length n4,Zy b5 c.now.length n5])::(ZL IntKind.i64 ↑k)::(Zy (some {block:=b6,off:=o6}) P.length oc)::(ZL IntKind.i64 ↑P.length)::(Value.bool true)::u51::u52::(.tuple #[.agg #[.slice N R e1,.slice M Q E,.slice L O e3,.slice p4 m4 J,.slice F G H],.int .i64 (Eg D l)])::(.agg #[.slice q1 D.base.length d1,.slice q2 D.Af.length d2,.slice q3 D.hooks.length d3,.slice q4 D.Aa.length d4,.slice q5 D.now.length d5])::(Zy (some {block:=b6,off:=o6}) P.length oc)::(ZL IntKind.i64 ↑k)::(.pointer (some ⟨b6,o6+k,none⟩))::(.slice ua l.length uc)::(.tuple #[.agg #[.slice N R e1,.slice M Q E,.slice L O e3,.slice p4 m4 J,.slice F G H],.int .i64 (Eg D l)])::(.agg #[.slice N R e1,.slice M Q E,.slice L O e3,.slice p4 m4 J,.slice F G H])::(.int .i64 (Eg D l))::u62::u63::u64::u65::u66::u67::u68::u69::u70::u71::u72::u73::u74::u75::u76::u77::u78::u79::u80::u81::u82::u83::u84::u85::u86::u87::u88::u89::u90::u91::u92::u93::u94::u95::u96::u97::u98::u99::u100::u101::u102::u103::u104::u105::u106::u107::u108::u109::u110::u111::u112::u113::u114::u115::u116::u117::u118::u119::u120::u121::u122::u123::u124::u125::u126::u127::u128::u129::u130::u131::u132::u133::u134::u135::u136::u137::u138::u139::u140::u141::u142::u143::u144::u145::u146::u147::u148::u149::u150::u151::u152::u153::u154::u155::u156::u157::u158::u159::u160::u161::Ze::Ze::Ze::Ze::Ze::Ze::Ze::Ze::Ze:: []),defers:=[]} Y:=by
   intro o Y N M L p4 F R Q O m4 G e1 E e3 J H ai ba b8 lE;clear z0 z1 z2 z3 z4 z5 pt;have gt:=dl.out;have vz:=bU pm.out ba;have JT:=ba.size;have vy:=(Za.1 b8).1;by_cases h0:Eg D l=0
   .obtain⟨g,cap,eg,B8,I⟩:=lE h0
    have jp:D.Aa.length=c.Aa.length:=aaE pd.out;rw[jp]at eg;cases eg;clear jp;rw[h0];have B4:=I.adp;have fJ:=I.co;obtain⟨C',ck⟩:=Qnm (FH D l (DS D l));have t9:C'.now=l:=by rw[ck];rfl
    have ml:aaD C'.Aa=aaD c.Aa:=by rw[ck];exact(abg _ _).trans pd.out
    have un:C'.Aa.length=c.Aa.length:=aaE ml;have mp:BN C'=0:=by rw[ck];exact acK h0
    have EQ:aaH C' (k+1) (P.drop (k+1))=(an,am):=by
     have h:=ww.out;have hs:JU D (DS D l)=none:=by
      have:=h0;unfold Eg at this;rw[BR pp.out]at this;cases t:JU D (DS D l) with
      |none=>rfl
      |some x=>rw[t]at this;cases this
     rw[hs]at h;rw[ck];exact h.symm
    rw[<-ck]at I fJ;clear ck I lE;have cL:=Zd (λW (hB:Qb6 Y W)=>show Calls Lp 11 #[.slice F G H,.slice ua l.length uc] W λe w'=>e=.returned (.bool true)/\Qb6 W w' from by
     have:=c46 ((show SI _ Y (.slice F G H) l from t9▸fJ.now).later hB) ((wn.out.later ba).later hB) (λy B=>Zl B.1 hB.size) (λy B=>by have:=(ol.out y B).1;have:=hB.size;omega);rwa[Vu]at this)
    have pi:=Zd un;clear un t9;have M9:q<Z.heap.size:=(Za.1 pa.out).1;have z0:=λp=>Al p (ch (i:=3) b8 (v:=.slice (some ⟨g,0,none⟩) c.Aa.length J) rfl);have z1:=λp=>Al p (ch (i:=4) b8 (v:=.slice F G H) rfl);have z2:=λp=>Al p ((ba.cell (ZH _ _ jn.out)).trans jn.out);have z3:=λp=>Al p (ch (i:=3) ((vz.block _ M9).trans pa.out) (v:=.slice a4 c.Aa.length c4) rfl);go_wp2;refine Av (by kernel_rfl) (by kernel_rfl) ?_
    repeat (first|go_big_quiet_step ((go_at_call 11;exact AV (cL.out _ (AE _ _))))|quiet_step ((go_at_call 11;exact AV (cL.out _ (AE _ _)))))
    refine Z4 ?_;rintro _ ⟨p,rfl⟩;have yw:=AE Y p;obtain⟨YE,gj⟩:=Qnm (calm Y p);rw[<-gj]at yw⊢;clear gj z0 z1 z2 z3 cL;have NX:=bU vz yw;have GS:=bU ba yw;have DA:=(yw.block _ vy).trans b8;have CA:=fJ.later yw;have gj:=yw.size;clear fJ b8 yw;go_wp2;go_loopg [14] c.Aa.length (λgg i wx=>∃j:Nat,j<=c.Aa.length/\gg=c.Aa.length - j/\i=.int .i64 (j:Int)/\aa5 (λb=>b<Y.heap.size/\b≠g) wx g J (.slice N R e1) (.slice M Q E) (.slice L O e3) (.slice F G H) C'/\Qb6 V wx/\Y.heap.size<=wx.heap.size/\wx.heap[o]?=some (.cells #[.slice N R e1,.slice M Q E,.slice L O e3,.slice (some ⟨g,0,none⟩) c.Aa.length J,.slice F G H] 28 (0,0)))
    case atStart=>exact⟨0,Zp _,rfl,rfl,CA,GS,gj,DA⟩
    obtain⟨j,hj,rfl,rfl,du,Qp,C7,C⟩:=hrel;have my:=bU pm.out Qp;have y3:=ch (i:=3) C (v:=.slice (some ⟨g,0,none⟩) c.Aa.length J) rfl;have Ju:=Qp.size;by_cases lp:j<c.Aa.length
    .obtain⟨sb,so,v2,v3,Fm,il,_,_,_,h3,_,_,ho⟩:=((Iz.out.later my).Aa).at_ lp
     subst Fm;have il:sb<Z.heap.size:=il;have mA:(Aj C'.Aa j).over=(Aj c.Aa j).over:=by
      have:=ac6 ml (i:=j) (by have:=pi.out;omega);simp only[Ay.mk.injEq]at this;exact this.2.2.2.1
     obtain⟨va,vc,rfl,_⟩:=ho.val;obtain⟨W4,ED⟩:=Qnm wr.drew;have bv:Qb6 wr W4:=by rw[ED];exact(Zh _ _).drew
     have fK:=du.later bv;have rm:SI (λb=>b<Y.heap.size/\b≠g) W4 (.slice va (Aj c.Aa j).over.length vc) (Aj C'.Aa j).over:=by
      rw[mA];exact Sl.imp (ho.later bv) (λb (hb:b<Z.heap.size)=>⟨by omega,by omega⟩) λ_ _ x=>x
     obtain⟨v0,Xf,_⟩:=fK.cell (i:=j) (by have:=pi.out;omega);obtain⟨Fr,Ph,_⟩:=fK.row;have f4:=cf (i:=j*5+3) Ph;have LZ:(j:Int)<(c.Aa.length:Int):=by omega
     have z0:=λp=>Al p y3;have z1:=λp=>Al p (ch (i:=3) ((my.block _ M9).trans pa.out) (v:=.slice (some ⟨sb,so,none⟩) c.Aa.length c4) rfl);have z2:=λp=>Al p h3;go_wp2;refine abj (S:=λW=>∃p,W=calm wr p) 12 [11] (.one 9 (.one 10 (.one 11 .leaf))) [0,1,2,3,4,5,6,7,8] (by kernel_rfl) (λ_ _ d _ _ h=>by cases d<;>exact h) (by kernel_rfl) (AL (Zh _ _).drew) ?_;refine A4 _ _ (by kernel_rfl) ?_;simp only[Z6,zd,ZG,ZD,ZC]
     repeat (first|go_big_quiet_step (fail)|quiet_step (fail))
     refine Z4 ?_;clear z0 z1 z2;change aaF _ _ _ _ _ _ _ _;rw[<-ED];clear ED;refine abo (v:=.pointer (some ⟨g,j*5,none⟩)) (w':=W4) rfl rfl (by go_simp) (.inr (AL bv)) ?_;refine abo (v:=.pointer (some ⟨g,j*5+3,none⟩)) (w':=W4) rfl rfl (by go_simp) (.inr (AL bv)) ?_;obtain⟨W5,Jy⟩:=Qnm (W4.setCell ⟨g,j*5+3,none⟩ (.slice va (Aj c.Aa j).over.length vc));have C3:aa5 (λb=>b<Y.heap.size/\b≠g) W5 g J (.slice N R e1) (.slice M Q E) (.slice L O e3) (.slice F G H) C':=by rw[Jy];exact fK.over rm
     have Cj:Qb6 V W5:=by rw[Jy];exact bS (bU Qp bv) B4.1
     have Do:Y.heap.size<=W5.heap.size:=by rw[Jy];have:=bv.size;have:=((B3.refl g W4).set (i:=j*5+3) (v:=.slice va (Aj c.Aa j).over.length vc)).size;omega
     have Ks:=(bv.block _ (Za.1 C).1).trans C;have pX:=(((B3.refl g W4).set (i:=j*5+3) (v:=.slice va (Aj c.Aa j).over.length vc)).block o (Za.1 Ks).1 (λe=>B8 e.symm)).trans Ks;rw[<-Jy]at pX;refine acf (w':=W5) rfl rfl (by rw[Jy];go_simp) (.inl rfl) ?_;clear Jy fK rm Xf Ph f4 Ks;unfold aaF
     go_simp
     go_wp2;go_roundg (c.Aa.length - (j+1))
     case rel=>exact⟨j+1,lp,rfl,by go_num,C3,Cj,Do,pX⟩
     omega
    have fu:=du.rc;rw[pi.out]at fu;have bc:=EG mp;have n8:=bc.Fp;have lD:=bc.PN;have lm:=bc.hooks;have fI:=bc.few;have uz:=bc.uy;have AI:=du.row;have NO:g<wr.heap.size:=by
     obtain⟨Fr,Ph,_⟩:=du.row;exact(Za.1 Ph).1
    have y0:=ch (i:=0) C (v:=.slice N R e1) rfl;have y1:=ch (i:=1) C (v:=.slice M Q E) rfl;have y2:=ch (i:=2) C (v:=.slice L O e3) rfl;have y4:=ch (i:=4) C (v:=.slice F G H) rfl;have i5:bx<V.heap.size:=(Za.1 dl.out).1;have ON:=Zd (show Y.heap.size<=wr.heap.size from C7);have pu:=Zd (aoQ fu (λy B=>by rcases B with B|B<;>omega) (by omega) (by omega) (by omega) (by omega) (by omega) (λi hi=>⟨by have:=bc.Ap i hi;omega,by have:=aaG mp i hi;omega⟩));clear bc n8 lD lm fI uz AI du;go_wp2_with (go_at_call 9;refine pu.out.mono ?_;rintro e W6 ⟨w1,w2,w3,w4,w5,rfl,DM,ap⟩;have IV:=ap.rc;obtain⟨h1,t1,h2,t2,h3,t3,h4,t4,h5,t5,rfl,rfl,rfl,rfl,rfl,_⟩:=IV.vs;have Vf:=((bU Qp DM).block _ i5).trans dl.out;obtain⟨x0,x1,x2,x3,x4⟩:=Qc5 Vf;obtain⟨f0,f1,f2,f3,f4⟩:=Qf5 Vf);obtain⟨W7,fi⟩:=Qnm ((((((W6.setCell ⟨bx,0,none⟩ (.slice h1 C'.base.length t1)).setCell ⟨bx,1,none⟩ (.slice h2 C'.Af.length t2)).setCell ⟨bx,2,none⟩ (.slice h3 C'.hooks.length t3)).setCell ⟨bx,3,none⟩ (.slice h4 C'.Aa.length t4)).setCell ⟨bx,4,none⟩ (.slice h5 C'.now.length t5)));have lG:Ak (λy=>y=bx) W6 W7:=by rw[fi];exact(Ak.refl (λy=>y=bx) W6).DT.DT.DT.DT.DT
    have LE:=lG.size;have bi:Z.heap.size<=bx:=by omega
    have GP:Qb6 Z W7:=by rw[fi];exact bS (bS (bS (bS (bS (bU my DM) bi) bi) bi) bi) bi
    have DB:W7.heap[bx]?=some (.cells #[.slice h1 C'.base.length t1,.slice h2 C'.Af.length t2,.slice h3 C'.hooks.length t3,.slice h4 C'.Aa.length t4,.slice h5 C'.now.length t5] 28 (0,0)):=by rw[fi];exact Ba (Ba (Ba (Ba (Ba Vf _) _) _) _) _
    have D0:=IV.Ar (lG.same λy B=>show¬y=bx from by have:=B.1;omega);rw[<-fi];clear fi x0 x1 x2 x3 x4 f0 f1 f2 f3 f4 Vf lG IV ap;go_roundg (P.length - (k+1))
    case rel=>exact⟨k+1,C',_,_,_,_,_,_,_,_,_,_,_,G4,rfl,by go_num,EQ,mp,ml,GP,DB,D0,λy B=>⟨by have:=B.2;omega,by have:=B.1;omega⟩⟩
    omega
   clear lE;obtain⟨x,jt,AT,Oo,Fd⟩:=ad4 pp.out h0;have mt:(an,am)=((k:Int),(x:Int)):=by
    have:=ww.out;rw[jt]at this;exact this
   rw[Fd,(Prod.mk.inj mt).1,(Prod.mk.inj mt).2];have It:=Zd jt;clear mt jt h0;have be:=EG i9.out;have n8:=be.Fp;have lD:=be.PN;have lm:=be.hooks;have fI:=be.few;have uz:=be.uy;have pu:=Zd (λW (I:Qb6 V W)=>aoQ (vG.out.later I) (λy B=>Zl (ol.out y B).1 I.size) (by omega) (by omega) (by omega) (by omega) (by omega) (λi hi=>⟨by have:=be.Ap i hi;omega,by have:=aaG i9.out i hi;omega⟩));have NE:D.Aa.length<=3:=fI.2;clear be n8 lD lm fI uz;obtain⟨sb,so,v2,v3,Fk,il,_,_,_,_,h4,_,_⟩:=(vG.out.later ba).Aa.at_ AT;subst Fk;rw[Oo]at h4;have i5:bx<V.heap.size:=(Za.1 dl.out).1;have rC:=(ba.block _ i5).trans dl.out;have y3:=ch (i:=3) rC (v:=.slice (some ⟨sb,so,none⟩) D.Aa.length d4) rfl;have LU:(x:Int)<(D.Aa.length:Int):=by omega
   have xy:¬(D.Aa.length:Int)<=(x:Int):=by omega
   have LF:¬(x:Int)<0:=by omega
   clear b8 vy Oo;go_wp2;clear h4 y3 rC il;go_loopg [15] x (λgg i wx=>∃s:Nat,s<=x/\gg=x - s/\i=.int .i64 (s:Int)/\Qb6 V wx)
   case atStart=>exact⟨0,Zp _,rfl,rfl,ba⟩
   obtain⟨s,hs,rfl,rfl,fx⟩:=hrel;by_cases NK:s<x
   .have rA:=(fx.block _ i5).trans dl.out
    obtain⟨x0,x1,x2,x3,x4⟩:=Qc5 rA;have A9:(s:Int)<(x:Int):=by omega
    go_wp2_with (go_at_call 9;refine(pu.out _ fx).mono ?_;rintro e W6 ⟨w1,w2,w3,w4,w5,rfl,DM,ap⟩;have IV:=ap.rc;obtain⟨h1,t1,rfl,_⟩:=IV.base.val;obtain⟨h2,t2,rfl,_⟩:=IV.Af.val;obtain⟨h3,t3,rfl,_⟩:=IV.hooks.val;obtain⟨g,t4,rfl,B7⟩:=ap.row.ptr (by omega);obtain⟨h5,t5,rfl,_⟩:=IV.now.val);obtain⟨vE,g9⟩:=Qnm (W6.alloc (.cells #[.slice h1 D.base.length t1,.slice h2 D.Af.length t2,.slice h3 D.hooks.length t3,.slice (some ⟨g,0,none⟩) D.Aa.length t4,.slice h5 D.now.length t5] 28));have mx:Qb6 W6 vE:=by rw[g9];exact bA (Zh _ _)
    have tn:vE.heap[W6.heap.size]?=some (.cells #[.slice h1 D.base.length t1,.slice h2 D.Af.length t2,.slice h3 D.hooks.length t3,.slice (some ⟨g,0,none⟩) D.Aa.length t4,.slice h5 D.now.length t5] 28 (0,0)):=by rw[g9];exact Bp _ _
    have ut:=ap.wr.CN (Ak.later (T:=λ_=>False) mx) (λ_ _ x=>x);have Jx:=bU fx (bU DM mx);have AS:=DM.size;have IS:=fx.size;rw[<-g9];obtain⟨b9,ry⟩:=Qnm W6.heap.size;have B9:g<W6.heap.size:=by
     obtain⟨_,cs,hg⟩:=ap.row.own g rfl;exact(Za.1 hg).1
    rw[<-ry]at tn⊢;have r_:g≠b9:=by omega
    obtain⟨Is,rp⟩:=Qnm wr.heap.size;rw[<-rp]at ut;have DO:V.heap.size<=g:=by omega
    clear g9 x0 x1 x2 x3 x4 ap IV mx DM rA ry rp AS B9 B7;go_wp2;go_loopg [17] D.Aa.length (λgg i wx=>∃(j:Nat) (sm:List Ay),j<=D.Aa.length/\gg=D.Aa.length - j/\i=.int .i64 (j:Int)/\aaD sm=aaD D.Aa/\(∀m,m<sm.length->(Aj sm m).left=if m=s\/j<=m then(Aj D.Aa m).left else 1)/\Qb6 V wx/\CWr Is wx (.slice h1 D.base.length t1) (.slice h2 D.Af.length t2) (.slice h3 D.hooks.length t3) (.slice (some ⟨g,0,none⟩) D.Aa.length t4) (.slice h5 D.now.length t5) {D with Aa:=sm}/\wx.heap[b9]?=some (.cells #[.slice h1 D.base.length t1,.slice h2 D.Af.length t2,.slice h3 D.hooks.length t3,.slice (some ⟨g,0,none⟩) D.Aa.length t4,.slice h5 D.now.length t5] 28 (0,0)))
    case atStart=>exact⟨0,D.Aa,Zp _,rfl,rfl,rfl,λm _=>by rw[if_pos (.inr (Zp _))],Jx,ut,tn⟩
    obtain⟨j,sm,hj,rfl,rfl,TF,xD,Qp,ci,C⟩:=hrel;have o9:=Zd xD;clear xD;have Qh:sm.length=D.Aa.length:=aaE TF;have o8:=Zd Qh;clear Qh;have d3:=ch (i:=3) C (v:=.slice (some ⟨g,0,none⟩) D.Aa.length t4) rfl;by_cases lp:j<D.Aa.length
    .have LZ:(j:Int)<(D.Aa.length:Int):=by omega
     by_cases BY:j=s
     .subst BY
      go_wp2;go_roundg (D.Aa.length - (j+1))
      case rel=>
       refine⟨j+1,sm,lp,rfl,by go_num,TF,λm hm=>?_,Qp,ci,C⟩;rw[o9.out m hm];by_cases e:m=j
       .rw[if_pos (.inl e),if_pos (.inl e)]
       by_cases E:j<=m
       .rw[if_pos (.inr E),if_pos (.inr (by omega))]
       rw[if_neg (by omega),if_neg (by omega)]
      omega
     have li:j<sm.length:=by have:=o8.out;omega
     obtain⟨b2,o2,x2,x3,ee,EC,_,_,_,_,mi,_,_⟩:=ci.rc.Aa.at_ (i:=j) li;cases ee;obtain⟨_,gs,B2⟩:=ci.row.own g rfl;rw[zN]at mi;have f4:=cf (i:=j*5+4) B2;have L3:¬(j:Int)=(s:Int):=by omega
     go_wp2;go_roundg (D.Aa.length - (j+1))
     case rel=>
      refine⟨j+1,ac2 sm j 1,lp,rfl,by go_num,(acs li 1).trans TF,λm hm=>?_,bS Qp DO,CWr.aej (m:=D.Aa.length) o8.out ci lp,(((B3.refl g wr).set (i:=j*5+4) (v:=.int .i64 1)).block b9 (Za.1 C).1 (λe=>r_ e.symm)).trans C⟩;rw[abb]at hm;rw[adm li];by_cases e:m=j
      .rw[if_pos e,if_neg (by omega)]
      rw[if_neg e,o9.out m hm];by_cases E:m=s\/j<=m
      .rw[if_pos E,if_pos (by omega)]
      rw[if_neg E,if_neg (by omega)]
     omega
    have KB:Eg {D with Aa:=sm} l=0:=ad3 pp.out It.out (k:=s) (by omega) TF λm hm=>by
     rw[o9.out m hm];by_cases e:m=s
     .rw[if_pos (.inl e),if_pos e]
     rw[if_neg (by have:=o8.out;omega),if_neg e]
    have fu:RC (λy=>y<wr.heap.size) wr (.slice h1 D.base.length t1) (.slice h2 D.Af.length t2) (.slice h3 D.hooks.length t3) (.slice (some ⟨g,0,none⟩) D.Aa.length t4) (.slice h5 D.now.length t5) {D with Aa:=sm}:=ci.rc.imp λy B=>B.2;have sr:SI (λy=>y<wr.heap.size) wr (.slice ua l.length uc) l:=Sl.imp (wn.out.later Qp) (λy B=>Zl (ol.out y B).1 Qp.size) λ_ _ x=>x;have yr:=Zd (λW (I:Qb6 wr W)=>show Calls Lp 12 #[.agg #[.slice h1 D.base.length t1,.slice h2 D.Af.length t2,.slice h3 D.hooks.length t3,.slice (some ⟨g,0,none⟩) D.Aa.length t4,.slice h5 D.now.length t5],.slice ua l.length uc] W λe w'=>∃v,e=.returned (.tuple #[v,.int .i64 0])/\Qb6 W w'/\∃n a c,v=.slice a n c from by
     have:=c51 (fu.later I) (sr.later I) (λy B=>Zl B I.size);rw[KB]at this;refine this.mono ?_;rintro e w' ⟨v,rfl,hB,hv⟩;exact⟨v,rfl,hB,aby hv.val⟩)
    have z0:=λp=>Al p (ch (i:=0) C (v:=.slice h1 D.base.length t1) rfl);have z1:=λp=>Al p (ch (i:=1) C (v:=.slice h2 D.Af.length t2) rfl);have z2:=λp=>Al p (ch (i:=2) C (v:=.slice h3 D.hooks.length t3) rfl);have z3:=λp=>Al p d3;have z4:=λp=>Al p (ch (i:=4) C (v:=.slice h5 D.now.length t5) rfl);have z5:=λp=>Al p ((Qp.cell (ZH _ _ jn.out)).trans jn.out);have Uh:YH wr.heap.size wr wr.drew:=(Zh _ _).drew;go_wp2;refine abj (S:=λW=>∃p,W=calm wr p) 11 [] (.one 5 (.free 6 (.free 7 (.free 8 (.one 9 (.one 10 .leaf)))))) [0,1,2,3,4] (by kernel_rfl) (λ_ _ d _ _ h=>by cases d<;>exact h) (by kernel_rfl) (AL (Zh _ _).drew) ?_;refine A4 _ _ (by kernel_rfl) ?_;simp only[Z6,zd,ZG,ZD,ZC]
    repeat (first|go_big_quiet_step (fail)|quiet_step (fail))
    refine Z4 ?_;clear z0 z1 z2 z3 z4 z5;change aaF _ _ _ _ _ _ _ _;refine ac7 (f:=12) (args:= #[.agg (Qe6 D h1 t1 h2 t2 h3 t3 (some ⟨g,0,none⟩) t4 h5 t5),.slice ua l.length uc]) rfl rfl (by go_simp) ((yr.out _ Uh).mono ?_);rintro e YB ⟨v,rfl,iX,n7,p8,s8,rfl⟩;have bV:=bU Uh iX;have z:∃p,YB=calm wr p:=AL bV;refine .inl ⟨_,rfl,.inr z,?_⟩;refine aaZ (v:=.tuple #[.slice p8 n7 s8,.int .i64 0]) z rfl rfl (λw _=>by go_simp) ?_;refine aaZ (v:=.slice p8 n7 s8) z rfl rfl (λw _=>by go_simp) ?_;refine aaZ (v:=.int .i64 0) z rfl rfl (λw _=>by go_simp) ?_;refine abo (v:=.slice p8 n7 s8) (w':=YB) rfl rfl (by go_simp) (.inr z) ?_;refine abo (v:=.int .i64 0) (w':=YB) rfl rfl (by go_simp) (.inr z) ?_;unfold aaF
    go_simp
    have HG:=bU Qp bV;clear fu sr yr iX bV z ci C d3;go_wp2;go_roundg (x - (s+1))
    case rel=>exact⟨s+1,NK,rfl,by go_num,HG⟩
    omega
   have vx:=bU pm.out fx;have EI:=yp.out.later vx;have vw:=bU yq.out vx;have A9:¬(s:Int)<(x:Int):=by omega
   go_wp2_with (go_at_call 13;refine(c26 _ EI).mono ?_;rintro e OF ⟨Ui,rfl|⟨In,rfl,Ss⟩⟩)
   .go_ret
    exact⟨bU vw Ui,.inl rfl⟩
   exact⟨rfl,bU vw Ui,.inr ⟨_,rfl,Ss⟩⟩
  refine abj (S:=λW=>∃p,W=calm V p) 12 [] (.fork 5 (.free 6 (.free 7 (.free 8 (.one 9 (.one 10 (.one 11 .leaf)))))) 9 (.one 5 (.free 6 (.free 7 (.free 8 (.one 10 (.one 11 .leaf))))))) [0,1,2,3,4] (by kernel_rfl) (λ_ _ d _ _ h=>by cases d<;>exact h) (by kernel_rfl) (AL (Zh _ _).drew) ?_;refine A4 _ _ (by kernel_rfl) ?_;simp only[Z6,zd,ZG,ZD,ZC]
  repeat (first|go_big_quiet_step (fail)|quiet_step (fail))
  refine Z4 ?_;clear z0 z1 z2 z3 z4 z5;change aaF _ _ _ _ _ _ _ _;have Uh:YH V.heap.size V V.drew:=(Zh _ _).drew;refine adn ?hP ?hQ
  case' hP=>
   refine ac7 (f:=10) (args:= #[.agg (Qe6 D q1 d1 q2 d2 q3 d3 q4 d4 q5 d5),.slice ua l.length uc]) rfl rfl (by go_simp) ((pt.out _ Uh).mono ?_);rintro e YB ⟨u1,u2,u3,u4,u5,rfl,iX,Jw,KJ⟩;obtain⟨⟨R,N,e1,rfl⟩,⟨Q,M,E,rfl⟩,⟨O,L,e3,rfl⟩,⟨m4,p4,J,rfl⟩,⟨G,F,H,rfl⟩⟩:=abS Jw KJ;have bV:=bU Uh iX;have z:∃p,YB=calm V p:=AL bV;refine .inl ⟨_,rfl,.inr z,?_⟩;refine aaZ (v:=.tuple #[.agg #[.slice N R e1,.slice M Q E,.slice L O e3,.slice p4 m4 J,.slice F G H],.int .i64 (Eg D l)]) z rfl rfl (λw _=>by go_simp) ?_;refine aaZ (v:=.agg #[.slice N R e1,.slice M Q E,.slice L O e3,.slice p4 m4 J,.slice F G H]) z rfl rfl (λw _=>by go_simp) ?_;refine aaZ (v:=.int .i64 (Eg D l)) z rfl rfl (λw _=>by go_simp) ?_;obtain⟨YC,gn⟩:=Qnm (YB.alloc (.cells #[.slice none 0 0,.slice none 0 0,.slice none 0 0,.slice none 0 0,.slice none 0 0] 28));have vi:Qb6 YB YC:=by rw[gn];exact bA (Zh _ _)
   have U:YC.heap[YB.heap.size]?=some (.cells #[.slice none 0 0,.slice none 0 0,.slice none 0 0,.slice none 0 0,.slice none 0 0] 28 (0,0)):=by rw[gn];exact Bp _ _
   have iS:=bU bV vi;refine abo (v:=.pointer (some ⟨YB.heap.size,0,none⟩)) (w':=YC) rfl rfl (by rw[gn];go_simp) (.inr (AL iS)) ?_;have fm:B3 YB.heap.size YB YC:=(B3.refl _ _).below vi;have ac:V.heap.size<=YB.heap.size:=bV.size;have fy:∀YD,B3 YB.heap.size YB YD->Eg D l=0->∃g cap,Zy p4 m4 J=.slice (some ⟨g,0,none⟩) D.Aa.length cap/\g≠YB.heap.size/\aa3 V.heap.size YD (.slice N R e1) (.slice M Q E) (.slice L O e3) (.slice F G H) g cap (FH D l (DS D l)):=λYD hU h0=>by
    obtain⟨g,cap,e,I⟩:=Jw h0;exact⟨g,cap,e,by have:=I.adp;omega,I.box hU (.inr (Zj _))⟩
   obtain⟨o,ai⟩:=Qnm YB.heap.size;rw[<-ai]at U ac fm fy⊢;clear gn z ai
  case' hQ=>
   obtain⟨YA,fd⟩:=Qnm (V.drew.alloc (.cells #[.slice none 0 0,.slice none 0 0,.slice none 0 0,.slice none 0 0,.slice none 0 0] 28));have mw:Qb6 V YA:=by rw[fd];exact bA Uh
   have U:YA.heap[V.heap.size]?=some (.cells #[.slice none 0 0,.slice none 0 0,.slice none 0 0,.slice none 0 0,.slice none 0 0] 28 (0,0)):=by rw[fd];exact Bp V.drew _
   refine abo (v:=.pointer (some ⟨V.heap.size,0,none⟩)) (w':=YA) rfl rfl (by rw[fd];go_simp) (.inr (AL mw)) ?_;have AN:YA.heap.size=V.heap.size+1:=by rw[fd,ZB];rfl
   refine ac7 (f:=10) (args:= #[.agg (Qe6 D q1 d1 q2 d2 q3 d3 q4 d4 q5 d5),.slice ua l.length uc]) rfl rfl (by go_simp) ((pt.out _ mw).mono ?_);rintro e YC ⟨u1,u2,u3,u4,u5,rfl,vC,Jw,KJ⟩;obtain⟨⟨R,N,e1,rfl⟩,⟨Q,M,E,rfl⟩,⟨O,L,e3,rfl⟩,⟨m4,p4,J,rfl⟩,⟨G,F,H,rfl⟩⟩:=abS Jw KJ;have iS:=bU mw vC;have z:∃p,YC=calm V p:=AL iS;refine .inl ⟨_,rfl,.inr z,?_⟩;refine aaZ (v:=.tuple #[.agg #[.slice N R e1,.slice M Q E,.slice L O e3,.slice p4 m4 J,.slice F G H],.int .i64 (Eg D l)]) z rfl rfl (λw _=>by go_simp) ?_;refine aaZ (v:=.agg #[.slice N R e1,.slice M Q E,.slice L O e3,.slice p4 m4 J,.slice F G H]) z rfl rfl (λw _=>by go_simp) ?_;refine aaZ (v:=.int .i64 (Eg D l)) z rfl rfl (λw _=>by go_simp) ?_;have U:=(vC.block _ (Za.1 U).1).trans U;have ac:V.heap.size<=V.heap.size:=Zj _;obtain⟨YB,rz⟩:=Qnm YC;have fm:B3 V.heap.size YB YC:=by rw[rz];exact B3.refl _ _
   have fy:∀YD,B3 V.heap.size YB YD->Eg D l=0->∃g cap,Zy p4 m4 J=.slice (some ⟨g,0,none⟩) D.Aa.length cap/\g≠V.heap.size/\aa3 V.heap.size YD (.slice N R e1) (.slice M Q E) (.slice L O e3) (.slice F G H) g cap (FH D l (DS D l)):=λYD hU h0=>by
    rw[rz]at hU;obtain⟨g,cap,e,I⟩:=Jw h0;have I:=I.mono (k:=V.heap.size+1) (by omega);exact⟨g,cap,e,by have:=I.adp;omega,(I.box hU (.inl (by omega))).mono (by omega)⟩
   obtain⟨o,ai⟩:=Qnm V.heap.size;have ac:V.heap.size<=o:=by omega
   have U:YC.heap[o]?=some (.cells #[.slice none 0 0,.slice none 0 0,.slice none 0 0,.slice none 0 0,.slice none 0 0] 28 (0,0)):=by rw[ai];exact U
   have fm:B3 o YB YC:=by rw[ai];exact fm
   have fy:∀YD,B3 o YB YD->Eg D l=0->∃g cap,Zy p4 m4 J=.slice (some ⟨g,0,none⟩) D.Aa.length cap/\g≠o/\aa3 V.heap.size YD (.slice N R e1) (.slice M Q E) (.slice L O e3) (.slice F G H) g cap (FH D l (DS D l)):=by rw[ai];exact fy
   rw[show(⟨V.heap.size,0,none⟩:Addr)=⟨o,0,none⟩ by rw[ai]];clear fd z AN ai
  all_goals
   obtain⟨g0,g1,g2,g3,g4⟩:=Qc5 U;obtain⟨f0,f1,f2,f3,f4⟩:=Qf5 U;obtain⟨YD,ed⟩:=Qnm ((((((YC.setCell ⟨o,0,none⟩ (.slice N R e1)).setCell ⟨o,1,none⟩ (.slice M Q E)).setCell ⟨o,2,none⟩ (.slice L O e3)).setCell ⟨o,3,none⟩ (.slice p4 m4 J)).setCell ⟨o,4,none⟩ (.slice F G H)));have DP:B3 o YB YD:=by rw[ed];exact fm.set.set.set.set.set
   have mv:Qb6 V YD:=by rw[ed];exact bS (bS (bS (bS (bS iS ac) ac) ac) ac) ac
   have Hi:YD.heap[o]?=some (.cells #[.slice N R e1,.slice M Q E,.slice L O e3,.slice p4 m4 J,.slice F G H] 28 (0,0)):=by rw[ed];exact Ba (Ba (Ba (Ba (Ba U _) _) _) _) _
   refine acf (w':=YD) rfl rfl (by rw[ed];go_simp) (.inr (AL mv)) ?_;refine abo (v:=.int .i64 (Eg D l)) (w':=YD) rfl rfl (by go_simp) (.inr (AL mv)) ?_;clear ed g0 g1 g2 g3 g4 f0 f1 f2 f3 f4;unfold aaF
   go_simp
   exact GT o YD _ _ _ _ _ _ _ _ _ _ _ _ _ _ _ ac mv Hi (fy _ DP)
 have iv:=xi.out;rw[Z7.2 (by omega)]at iv;have oT:an= -1:=by cases iv;rfl
 have cu:am= -1:=by cases iv;rfl
 subst oT cu;have S6:=yp.out.later U5;have vd:=bU yq.out U5;clear iv lK lF gt;go_wp2_with (go_at_call 13;refine(c26 _ S6).mono ?_;rintro e V ⟨Ui,rfl|⟨x,rfl,Ss⟩⟩)
 .go_ret
  exact⟨bU vd Ui,.inl rfl⟩
 exact⟨rfl,bU vd Ui,.inr ⟨_,rfl,Ss⟩⟩
end Go.Proofs.Fit
namespace Go.Proofs.YtlhleofdpmmpnaaGreatDoor
open Go Go.Conc Go.RowKit Go.Proofs.Fit
set_option maxRecDepth 100000
def ad6:(Rows.seamLastRow.inPlace==Tryz.prog.inPlace 3)=true:=k!
def ace:(Rows.seamLastRow.unfollowed==Tryz.prog.unfollowed 3)=true:=k!
def acZ:(Rows.seamLastRow.recurses==Tryz.prog.recurses 3)=true:=k!
def adz:(Rows.seamLastRow.named==Tryz.prog.varsNamed 3)=true:=k!
def adA:joinedFacts Zc 3 Tryz.f3 Rows.seamLastSpec Rows.seamLastRow=true:=
 kQ k! k! k! k! k! ad6 ace acZ adz k! k! k! k! k! k! k! k! k! rfl rfl rfl rfl rfl rfl k! k! k!
def adk (os:Os)(a:os.Started)(H:Type)(enc:Zs×Zf->H):ReturnsInLeavingWide {} Tryz.checked os 3 .any (λw args=>(Rows.seamLastSpec.pre enc Zc Tryz.f3 [] false w args/\laidMetH Zc PT w)/\sizedMet enc Zc Tryz.f3 (ZbV Rows.seamLastSpec) false w args)
   (Rows.seamLastSpec.post enc Zc Tryz.f3 false true false false):=
 eO (s:=Rows.seamLastSpec) a rfl rfl Tryz.func3 rfl rfl k! k! rfl k! (λe h=>by
    match e,h with
    | [_],_=>rfl)
   (ChangeSpec.witness_shaped (enc:=enc) (C:=Tryz.checked) (os:=os) (X:=λw _=>laidMetH Zc PT w) false (Vg os) #[()] 8 rfl (World.shaped_of_RefB k! k!) k! k! k! (Ub os _))
   (λW base args e j b i _ c=>qc rfl b i c λw v d g c=>aek g (λx f=>f) c)
def aeV:Rows.SeamLastSaid:=
 OpenClaim.holds_of_wide_leaving 3 Tryz.f3 rfl rfl rfl rfl rfl rfl rfl ⟨rfl,rfl,rfl,rfl,rfl⟩ rfl rfl rfl rfl rfl k! Tryz.func3 adA
  (of_decide_eq_true k!) (by unfold Func.isWrapper;rw[if_neg (by decide+kernel)];exact⟨rfl,rfl⟩) (λc a H b _=>adk c a H b)
def adQ:true=Rows.seamLastRow.goesBy Tryz.pinned.checked.prog:=k!
theorem last_holds:Rows.SeamLastCardSaid:=
 kM [.handle] (true,"9586e77691b63383fe7347e17a6cf5dcab9423d026ffc741b12aea81f40fc786") aeV k! (OpenClaim.laidByTextAt_later rfl rfl qd abD) rfl ⟨rfl,rfl⟩ uI
  (λf fn c d=>by
   obtain rfl:f=3:=ZW ((show Tryz.prog.funcNamed "galloon/galloonlaw02.SeamLast" =some 3 by kernel_rfl).symm.trans c)|>.symm;obtain rfl:fn=Tryz.f3:=(ZW (Tryz.func3.symm.trans d)).symm;exact⟨abE,λj t a=>by
    have b:t∈ [22]:=by simpa using zY a
    have e:([22].all λu=> !Tryz.prog.wantsStandIn u)=true:=k!
    exact(show Tryz.prog.wantsStandIn t=false by simpa using Zdm.1 e t b)⟩)
  adQ
#print axioms last_holds
end Go.Proofs.YtlhleofdpmmpnaaGreatDoor
