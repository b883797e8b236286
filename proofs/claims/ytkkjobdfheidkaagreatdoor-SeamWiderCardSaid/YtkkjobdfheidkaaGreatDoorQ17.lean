/- SeamWider: for all arguments of the row's types, on every schedule and without a data race, the law returns true, and the arguments read afterwards as they read before. Conditions: those of the given row alone (the variable errors.errorType starts as the program's text lays it; the card ties that to the text). -/
import Derived.Test.YtkkjobdfheidkaaGreatDoorQ11
import Derived.Test.YtkkjobdfheidkaaGreatDoorQ10b
import Derived.Test.YtkkjobdfheidkaaGreatDoorQ08
import Derived.Lib.MinMax
set_option maxRecDepth 100000
set_option maxHeartbeats 6400000
noncomputable section
set_option linter.all false
open And renaming intro->ZY
open Array renaming getElem?_eq_some_iff->Za,toList_setIfInBounds->ZcM,replicate_succ->ZaN,replicate_zero->ZaM,replicate->Yu,setIfInBounds_comm->Zdb,getD_eq_getD_getElem?->Yp,mem_of_getElem?->zY
open Bool renaming and_eq_true->ZF,not_eq_true'->ZcF,or_eq_true->ZaK
open Go renaming Value->Zf,World->Zb,callFunc->Zz,TypeId->Zs,callsIn_wide->Zcx,info_parts->zp,undef->Ze,ownsRow_succ->Zay,wpQuiet_nil->Z4,wpList_append_own->Yc,Program->Zo,YieldsIf->ZbF,wpOp_mono->Zcc,wp_region_any->Zd5,execOp->Zby,FuncId->ZaQ,getD_set_ne->Zde,ready_mono->ZbO,mem_ready->ZcY,wp_append_own->Zak,bodyPost_ret->ZN
open Go.Act renaming put->Zck
open Go.Code renaming region->zU
open Go.Fence renaming wide->ZbC
open Go.IntKind renaming wrap_i64->zE
open Go.Lib renaming hid->Zd
open Go.Obj renaming cells->Zbi
open Go.OpenSpec renaming ofChange->ZbV
open Go.Oper renaming semAt_some->Zdk,wp->ZbA,upon_value->Zdi,upon_enter->Zdj,upon_skip->ZcQ
open Go.Proofs.Tryz renaming underlying27->zW,underlying23->Zdg,prog->Zc
open Go.Region renaming Mode->YO,ready->zs,free->Za3,noSelect->YF,wanted->Yf,noSelect_spec->Zdx,binds->Yk
open Go.RowKit renaming Below->YH
open Go.RowKit.Below renaming refl->Zh
open Go.Value renaming oneCell'->YT,int->ZL,slice->Zy,pointer->ZbT,tuple->YK
open Go.World renaming size_alloc->ZB,ownsRow_nil->zq,block_lt_of_cell?->ZH,ownsRow_made->YC
open Go.World.ownsRow renaming alloc->Ya
open List renaming getElem?_eq_getElem->zf,getD_eq_getElem?_getD->Y6,pairwise_iff_getElem->ZdK,getElem_of_mem->Zas,getElem?_map->YL,range->Yr,ext_getElem?->YA,getElem?_eq_none->ZP,getElem?_set_self->Ys,getElem?_set_ne->ZS,drop_eq_nil_iff->Z7,length_set->ZcC,getElem?_eq_some_iff->Zm,getElem?_take_of_lt->Z2,getElem?_drop->Yl,length_append->ZA,getElem?_append_left->zl,length_cons->zb,length_nil->zR,getElem?_concat_length->Y1,size_toArray->Zbm,push_toArray->Zbn,append_toArray->Za4,nil_append->zP,cons_append->Za1,filter_cons->ZbB,length_filter_le->Zac,filterMap_cons->Z6,filterMap_nil->zd,getElem?_toArray->ZG,getElem?_cons_succ->ZD,getElem?_cons_zero->ZC,mem_of_getElem?->Z3,flatMap_append->Zbe,mem_append->Zab,mem_singleton->Yh,take_add_one->ZbH,take_length->ZcU,all_eq_true->Zdm,eq_nil_of_length_eq_zero->YM
open List.cons renaming inj->zL
open Nat renaming zero_add->zN,zero_le->Zp,reduceAdd->ZaF,reduceSub->Zcw,pow_le_pow_right->YX,le_trans->Zr,le_refl->Zj,lt_of_lt_of_le->Zl,mul_le_mul_right->Zd8,not_lt_zero->ZbY,le_of_eq->ZcS
open Ne renaming symm->Za0
open Option renaming map_some->Zdh
open Option.some renaming inj->ZW
open True renaming intro->Yz
namespace Go.Proofs.Fit
open Go
@[simp] def Lp.func13:=l! Tryz.func13
@[simp] def Lp.call27:=c! Lp.func27
@[simp] def Lp.func38:=l! Tryz.func38
@[simp] def Lp.call38:=c! Lp.func38
@[simp] def Lp.func47:=l! Tryz.func47
@[simp] def Lp.call47:=c! Lp.func47
@[simp] def Lp.func64:=l! Tryz.func64
@[simp] def Lp.call64:=c! Lp.func64
@[simp] def Lp.func66:=l! Tryz.func66
@[simp] def Lp.call66:=c! Lp.func66
@[simp] def Lp.func128:=l! Tryz.func128
@[simp] def Lp.call128:=c! Lp.func128
def n13:Tryz.f13.ntmps=188:=rfl
def n38:Tryz.f38.ntmps=70:=rfl
def n47:Tryz.f47.ntmps=56:=rfl
def n64:Tryz.f64.ntmps=28:=rfl
def n66:Tryz.f66.ntmps=34:=rfl
def aq4:Tryz.f128.ntmps=23:=rfl
end Go.Proofs.Fit
namespace Go.Proofs.Fit
open Go Go.RowKit
variable {S T Sn:Nat->Prop}
variable {w W A B w':Zb}
variable {v v1 v2 v3 v4 v5 v6 lv u u1 u2 u4 u5:Zf}
def SS.later {l:List Ay}(h:SS S w v l)(a:Qb6 w W):SS S W v l:=h.Ar (CE.Ec a)
def Lj:List (List Int):=[[],[0],[1],[2],[0,1],[0,2],[1,2],[0,1,2]]
variable {l nums:List Int}
def EM (f:l.Pairwise (· < ·))(e:∀x∈l,0<=x/\x<3):l∈Lj:=by
 have g:∀x:Int,0<=x/\x<3->x=0\/x=1\/x=2:=λx h=>o!
 match l,f,e with
 | [],_,_=>simp[Lj]
 | [a],_,e=>
  rcases g a (e a i!) with rfl|rfl|rfl<;>simp[Lj]
 | [a,b],f,e=>
  have i:a<b:=by simpa using f
  rcases g a (e a i!) with rfl|rfl|rfl<;>rcases g b (e b i!) with rfl|rfl|rfl<;>first|(exfalso;omega)|simp[Lj]
 | [a,b,c],f,e=>
  have i:a<b/\b<c:=by
   simp at f;exact⟨f.1.1,f.2⟩
  have j:=e a i!;have m:=e c i!;obtain rfl:a=0:=o!
  obtain rfl:c=2:=o!
  obtain rfl:b=1:=o!
  simp[Lj]
 |a::b::c::d::r,f,e=>
  exfalso;simp only[List.pairwise_cons]at f;have i:=f.1 b i!;have o:=f.2.1 c i!;have n:=f.2.2.1 d i!;have j:=e a i!;have k:=e d i!;omega
variable {n i g cap k d j q M:Nat}
def aeV {number:Nat}(h:CY (Ed n number l) 0 l=0):l.Pairwise (· < ·)/\∀x∈l,0<=x/\x<n:=by
 have a:∀k (a:k<l.length),(0<=l[k]/\l[k]<n)/\(0<k->nth l (k - 1)<l[k]):=λk a=>by
  have:=Gs h k l[k] (zf a);unfold Ed at this;split at this
  .cases this
  next g=>
  split at this
  .cases this
  next f=>
  refine⟨?_,λs=>?_⟩
  .have:=G' (n:=l[k]) (lo:=0) (hi:=(n:Int) - 1) (by cases e:AD l[k] 0 ((n:Int) - 1);rfl;exact absurd (.inl e) g)
   omega
  exact Int.lt_of_not_ge λb=>f ⟨o!,by rw[zN];exact b⟩
 refine⟨?_,λx o=>?_⟩
 .have step:∀i (hi:i+1<l.length),l[i]<l[i+1]:=λi hi=>by
   have:=(a (i+1) hi).2 (Nat.succ_pos _);simpa[nth,Y6,show i<l.length by omega]using this
  have c:∀d i (hi:i+d+1<l.length),l[i]<l[i+d+1]:=by
   intro d
   induction d with
   |zero=>intro i hi;exact step i hi
   |succ d m=>
    intro i hi;have g:=m i o!;have f:=step (i+d+1) o!;have e:l[i+(d+1)+1]=l[i+d+1+1]:=rfl;rw[e];omega
  rw[ZdK];intro i j hi r p;have:=c (j - i - 1) i o!;have e:l[i+(j - i - 1)+1]' o!=l[j]:=by congr 1;omega
  rwa[e]at this
 obtain⟨k,q,rfl⟩:=Zas o;exact(a k q).1
def ac7 (l:List Ay):List Ay:=l.map λx=> {x with left:=0}
def ad5:∀(l:List Ay) (ab:Nat->Nat) (i:Nat),K6 ab i (ac7 l)=K6 ab i l
 | [],_,_=>rfl
 |s::r,ab,i=>ad5 r (HJ ab i s.over) (i+1)
def ad3 (l:List Ay):∀(n:Nat) (ab:Nat->Nat),G5 ab (ac7 l) n=G5 ab l n
 |0,_=>rfl
 |n+1,ab=>by
  show G5 (K6 ab 0 (ac7 l)) (ac7 l) n=G5 (K6 ab 0 l) l n;rw[ad5,ad3 l n]
def ad6 (l:List Ay):Ax (ac7 l)=Ax l:=by
 unfold Ax;rw[ad3];simp[ac7]
variable {b:List Ay}
def adL {a:List Ay}(h:ac7 a=ac7 b):Ax a=Ax b:=by rw[<-ad6 a,h,ad6]
def adn {a:List Ay}(h:ac7 a=ac7 b):a.length=b.length:=by
 have:=congrArg List.length h;simpa[ac7]using this
def afj {a:List Ay}(h:ac7 a=ac7 b)(hi:i<a.length): {Aj a i with left:=0}= {Aj b i with left:=0}:=by
 have e:=congrArg (λl=>l[i]?) h;simp only[ac7,YL,Db hi,Db (show i<b.length by rw[<-adn h];exact hi),Zdh]at e;exact ZW e
variable {c:A_}
def aev {s:List Ay}{n:List Int}(h:H6 c)(p:ac7 s=ac7 c.Aa)(hl:∀i,i<s.length->0<=(Aj s i).left/\(Aj s i).left<=4)(m:Tc c n):H6 {c with Aa:=s,now:=n}:=by
 have l:=adn p;have a:∀i,i<s.length->(Aj s i).low=(Aj c.Aa i).low/\(Aj s i).high=(Aj c.Aa i).high/\(Aj s i).Ap=(Aj c.Aa i).Ap/\(Aj s i).over=(Aj c.Aa i).over:=λi b=>by
  have:=afj p b;simp only[Ay.mk.injEq]at this;obtain⟨k,j,e,f,_⟩:=this;exact⟨k,j,e,f⟩
 refine⟨h.Fp,h.base,h.PN,h.Af,h.hooks,h.hook,by show 1<=s.length/\s.length<=3;rw[l];exact h.few,λi b=>?_,?_,?_⟩
 .have q:i<s.length:=b
  obtain⟨k,j,e,f⟩:=a i q;have d:=h.seam i o!;show Mh c.base.length s.length i (Aj s i);refine⟨by rw[k,j];exact d.step,by rw[e];exact d.few,by rw[e];exact d.pull,by rw[e];exact d.twice,by rw[f,l];exact d.over,by rw[f];exact d.rising,hl i q⟩
 .rcases h.way with w|w
  .exact .inl λi (b:i<s.length) o (g:o∈(Aj s i).over)=>w i o! o (by rw[<- (a i b).2.2.2];exact g)
  exact .inr λi (b:i<s.length) o (g:o∈(Aj s i).over)=>w i o! o (by rw[<- (a i b).2.2.2];exact g)
 have r:=m.1;refine⟨by show n.length=s.length;omega,λi (b:i<n.length)=>?_⟩;show(Aj s i).low<=nth n i/\nth n i<=(Aj s i).high;rw[(a i o!).1,(a i o!).2.1];exact m.2 i b
def Qr (n:Nat)(m:Nat->Int):List Int:=(Yr n).map m
def EI (n:Nat)(m:Nat->Int):(Qr n m).length=n:=by simp[Qr]
variable {m:Nat->Int}
def rj (h:i<n):nth (Qr n m) i=m i:=by simp[Qr,nth,h]
def lC (l:List Int):l=Qr l.length (λj=>nth l j):=by
 apply YA;intro i;by_cases h:i<l.length
 .rw[Bn h];simp[Qr,h]
 rw[ZP o!,ZP (by rw[EI];omega)]
def rm (h:i<n)(k b:Int):(Qr n m).set i (m i+b*k)=Qr n (K7 m k ((i:Int),b)):=by
 apply YA;intro j;by_cases c:j<n
 .by_cases a:i=j
  .subst a
   rw[Ys (by rw[EI];exact h)];simp[Qr,c,K7]
  rw[ZS a];simp[Qr,c,K7];omega
 rw[ZP (by simp[EI];omega),ZP (by rw[EI];omega)]
structure MG (w:Zb)(xs:Array Zf)(v:Zf)(n:Nat)(m:Nat->Int)(wr:Zb):Prop where
 below:Qb6 w wr
 box:wr.heap[w.heap.size]?=some (.cells xs 26 (0,0))
 own:Own wr (w+1) v (Qr n m)
def MG.later {wr:Zb}{xs:Array Zf}(h:MG w xs v n m wr)(a:Qb6 wr W):MG w xs v n m W:=
 ⟨h.below.trans (a.mono h.below.size),(a.block _ (Za.1 h.box).1).trans h.box,h.own.later a⟩
def MG.row {wr:Zb}{xs:Array Zf}(h:MG w xs (.slice g n cap) n m wr)(hi:i<n):w+1<=g/\∃a,wr.heap[g]?=some (.cells a 3 (0,0))/\a[i]?=some (.int .i64 (m i)):=by
 obtain⟨l,o,a,e,d,c,k,j,b,f⟩:=h.own.val (by rw[EI];omega);rw[EI]at e;cases e;refine⟨d,a,c,?_⟩;rw[b i (by rw[EI];exact hi),rj hi]
def MG.set {wr:Zb}{xs:Array Zf}(h:MG w xs (.slice g n cap) n m wr)(hi:i<n)(k b:Int):MG w xs (.slice g n cap) n (K7 m k ((i:Int),b)) (wr.setCell ⟨g,i,none⟩ (.int .i64 (m i+b*k))):=by
 obtain⟨p,q,c,e,o,l,j,f,d,a⟩:=h.own.val (by rw[EI];omega);rw[EI]at e;cases e;refine⟨bS h.below o!,(AZ o! _).trans h.box,?_⟩;rw[<-rm hi];exact a i _ (by rw[EI];exact hi)
def c47 (h:RC S w v1 v2 v3 v4 v5 c)(s:Fq c)(hl:SI S w v6 l)(hn:l.length<=c.Aa.length)(hb:∀i,i<l.length->-2<=nth l i/\nth l i<=2)(I:Ql6 S w):
  Calls Lp 47 #[.agg #[v1,v2,v3,v4,v5],v6] w λe w'=>∃u,e=.returned u/\Qb6 w w'/\SI (Cb w w') w' u (Cc c l):=by
 obtain⟨U,O,T,M,R,L,a4,A,Q,K,rfl,rfl,rfl,rfl,rfl,l1,m1,l2,m2,l3,m3,l4,m4,l5,m5⟩:=h.vs;obtain⟨a6,c6,rfl,l6,m6⟩:=hl.val;have IX:=DJ;obtain⟨tN,lZ⟩:=s.Fp;have HM:=Zd (show measure c l=Iw (λj=>nth c.base j) (l.zip c.Aa) from rfl);have Bg:YH w w (w.alloc (.cells (Qe6 c U O T M R L a4 A Q K) 26)):=bA (Zh _ _);have be:=Zd (λW (hB:Qb6 w W)=>WO (h.later hB).base o!);have ai:=MP s;have bc:=Zd (lC c.base);go_enter Lp.func47,n47;go_wp2_with (go_at_call 32;refine(be.out _ Bg).mono ?_;rintro e w1 ⟨u,rfl,Bb,J⟩;obtain⟨g,cap,ap,rfl,z,_⟩:=J.val o!);have an:MG w #[.slice U c.base.length O,.slice T c.Af.length M,.slice R c.hooks.length L,.slice a4 c.Aa.length A,.slice Q c.now.length K] (.slice g c.base.length cap) c.base.length (λj=>nth c.base j) w1:=by
  refine⟨Bg.trans (Bb.mono Bg.size),(Bb.block _ i!).trans (Bp _ _),?_⟩;rw[<-bc.out];rw[ZB]at J;exact J
 clear Bb J z;go_loopg [6] l.length (λgg i wr=>∃(k:Nat) (m:Nat->Int),k<=l.length/\gg=l.length - k/\i=.int .i64 k/\Iw m ((l.zip c.Aa).drop k)=measure c l/\(∀j,-(60+16*k)<=m j/\m j<=60+16*k)/\MG w #[.slice U c.base.length O,.slice T c.Af.length M,.slice R c.hooks.length L,.slice a4 c.Aa.length A,.slice Q c.now.length K] (.slice g c.base.length cap) c.base.length m wr)
 case atStart=>exact⟨0,_,Zp _,rfl,rfl,rfl,λj=>by have:=ai j;omega,an⟩
 obtain⟨k,m,hk,rfl,rfl,D,ac,hM⟩:=hrel;have hf:=Zd D;clear D;by_cases Az:k<l.length
 .have V:k<c.Aa.length:=by omega
  have X:=hb k Az;have hd:=Zd (SR (m:=m) Az V);obtain⟨b6,o6,rfl,Xj,xu⟩:=hl.at_ Az;obtain⟨b,o,s2,s3,rfl,UQ,ER,MM,LO,et,mi,Z,ho⟩:=h.Aa.at_ (i:=k) V;obtain⟨a7,c7,rfl,l7,m7⟩:=Z.val;clear ER MM et mi;have Xa:=s.pull k V;have Y:=s.Ap k V;have Jm:=s.few;obtain⟨n,Gc⟩:=Qnm (nth l k);rw[<-Gc]at xu X hd;clear Gc;obtain⟨a,lP⟩:=Qnm ((Aj c.Aa k).Ap);rw[<-lP]at LO Z l7 Xa Y hd;clear lP;have TB:(k:Int)<(l.length:Int):=o!
  have ck:(k:Int)<(c.Aa.length:Int):=o!
  go_wp2;go_loopg [7] a.length (λgg i wx=>∃(j:Nat) (d:Nat->Int),j<=a.length/\gg=a.length - j/\i=.int .i64 j/\CZ d n (a.drop j)=CZ m n a/\(∀i,-(60+16*(k:Int)+8*j)<=d i/\d i<=60+16*(k:Int)+8*j)/\MG w #[.slice U c.base.length O,.slice T c.Af.length M,.slice R c.hooks.length L,.slice (some ⟨b,o,none⟩) c.Aa.length A,.slice Q c.now.length K] (.slice g c.base.length cap) c.base.length d wx)
  case atStart=>exact⟨0,m,Zp _,rfl,rfl,rfl,λi=>by have:=ac i;omega,hM⟩
  obtain⟨j,d,hj,rfl,rfl,D,eA,f⟩:=hrel;have MK:=Zd D;clear D;have ba:=(f.below.cell (p:=⟨b,o+k*5+2,none⟩) (I b UQ)).trans LO;have g3:=ch (i:=3) f.box (v:=.slice (some ⟨b,o,none⟩) c.Aa.length A) rfl;by_cases G4:j<a.length
  .obtain⟨P,o7,rfl,U3,F,E⟩:=Z.at_ G4
   rw[<-f.below.cell (p:=⟨P,o7+j*2,none⟩) (I P U3)]at F;rw[<-f.below.cell (p:=⟨P,o7+j*2+1,none⟩) (I P U3)]at E;have B:=(f.below.cell (p:=⟨b6,o6+k,none⟩) (I b6 Xj)).trans xu;have t:=Zd (PO (m:=d) (n:=n) G4);obtain⟨Oo,MF,H,G⟩:=Xa j G4;obtain⟨q,hq⟩:=Qnm (BV a j);rw[<-hq]at F E t Oo MF H G;clear hq;obtain⟨x',y⟩:=q;obtain⟨x,rfl⟩:∃x:Nat,x'=x:=⟨x'.toNat,by simp only at Oo;omega⟩;dsimp only at F E Oo MF H G;have xy:x<c.base.length:=o!
   have bi:(x:Int)<(c.base.length:Int):=o!
   have ci:(0:Int)<=(x:Int):=o!
   have co:(0:Int)<=(k:Int):=o!
   have LZ:(j:Int)<(a.length:Int):=o!
   have b9:(0:Int)<=(j:Int):=o!
   have bv:=prod_bound ⟨H,G⟩ X;have b8:=eA x;have eB:=f.later (bA (o:=.cells #[.int .i64 x,.int .i64 y] 64) (Zh _ _));go_wp2;obtain⟨C,r⟩:=Qnm (wr.alloc (.cells #[.int .i64 x,.int .i64 y] 64));have e0:C.cell? wr=some (.int .i64 x):=by rw[r];exact cn _ _ _ rfl
   have e1:C.cell? ⟨wr,1,none⟩=some (.int .i64 y):=by rw[r];exact cn _ _ _ rfl
   have e6:C.cell? ⟨b6,o6+k,none⟩=some (.int .i64 n):=by rw[r];exact ca B _
   rw[<-r]at eB;obtain⟨z,ap,Xg,Ox⟩:=eB.row xy;have r0:C.cell? ⟨g,x,none⟩=some (.int .i64 (d x)):=ch Xg Ox;have rf:=cf (i:=x) Xg;rw[<-r];clear r B F E g3 ba;go_still_tail 17,k!;change wpList _ _ _ _ _ C.drew;have am:=(eB.later (Zh _ _).drew).set xy n y;go_wp2;go_roundg (a.length - (j+1))
   case rel=>exact⟨j+1,K7 d n ((x:Int),y),o!,rfl,v!,by rw[<-MK.out,t.out],λi=>by have:=MO (N:=60+16*(k:Int)+8*j) (p:=((x:Int),y)) eA ⟨H,G⟩ X i;omega,am⟩
   omega
  have e2:d=CZ m n a:=by rw[<-MK.out,Z7.2 o!];rfl
  subst e2;go_wp2;go_roundg (l.length - (k+1))
  case rel=>exact⟨k+1,_,o!,rfl,v!,by rw[<-hf.out,hd.out],λi=>by have:=eA i;have:(j:Int)<=2:=o!;omega,f⟩
  omega
 have e1:m=measure c l:=by rw[<-hf.out,Z7.2 j!];rfl
 subst e1;have hs:=hM.own.si;rw[show Qr c.base.length (measure c l)=Cc c l from rfl]at hs;have Lc:=hM.below;go_wp2;go_ret;exact⟨_,rfl,Lc,Sl.imp hs (λx (hx:Cb (w+1) wr x)=>⟨by have:=hx.1;omega,hx.2⟩) (λ_ _ x=>x)⟩
def bU (h:Qb6 w A)(k:Qb6 A B):Qb6 w B:=h.trans (k.mono h.size)
def acQ (l:List Ay)(i:Nat)(x:Int):List Ay:=l.set i {Aj l i with left:=x}
def acK (l:List Ay)(i:Nat)(x:Int):(acQ l i x).length=l.length:=ZcC
def ae5 {l:List Ay}(hi:i<l.length)(x:Int)(j:Nat):Aj (acQ l i x) j=if j=i then {Aj l i with left:=x} else Aj l j:=by
 unfold Aj acQ;by_cases h:j=i
 .subst h
  simp[Y6,hi,Aj]
 simp[Y6,h,Za0 h]
def adi {l:List Ay}(hi:i<l.length)(x:Int):ac7 (acQ l i x)=ac7 l:=by
 unfold ac7 acQ;apply YA;intro j;simp only[YL];by_cases h:i=j
 .subst h
  rw[Ys hi,Db hi]
  rfl
 rw[ZS h]
variable {x:Int}
def En.left {base:Nat}{l:List Ay}(h:En n w base (.slice g l.length cap) l)(hi:i<l.length):
  En n (w.setCell ⟨g,i*5+4,none⟩ (.int .i64 x)) base (.slice g l.length cap) (acQ l i x):=by
 obtain⟨a,p,o⟩:=h;rcases p.2 with⟨e,_⟩|⟨I,J,H,e,C,m,B,A,z,u⟩
 .cases e
 cases e;have f:=(Ak.refl (λx=>x=g) w).DT (i:=i*5+4) (v:=.int .i64 x);have q:∀x,TT n w x->¬x=g:=λx s e=>TT.not (e▸s) m ⟨d!,d!,d!⟩;have r:=p.1;refine⟨a.set (i*5+4) (.int .i64 x),⟨by simp[r,acK],.inr ⟨g,cap,_,by rw[acK],C,Ba m _,by simpa[acK]using B,A,by simpa[acK]using z,?_⟩⟩,λj y b=>?_⟩
 .simp only[ZcM,List.take_set,acK,u]
 have t:=(Zm.1 b).1;rw[acK]at t;unfold acQ at b;by_cases c:i=j
 .subst c
  rw[Ys hi]at b;cases b;obtain⟨v2,v3,F,E,D⟩:=o i _ (Db hi);have e:((a.set (i*5+4) (.int .i64 x)).drop (i*5)).take 5=[.int .i64 (Aj l i).low,.int .i64 (Aj l i).high,v2,v3,.int .i64 x]:=by
   have G:((a.set (i*5+4) (.int .i64 x)).drop (i*5)).take 5=(((a.drop (i*5)).take 5).set 4 (.int .i64 x)):=by
    rw[List.drop_set,if_neg o!,List.take_set,show i*5+4 - i*5=4 by omega]
   rw[G,F]
   rfl
  rw[e];exact xR ⟨v2,v3,rfl,E,D⟩ f q
 rw[ZS c]at b;have e:((a.set (i*5+4) (.int .i64 x)).drop (j*5)).take 5=(a.drop (j*5)).take 5:=by
  apply YA;intro k;by_cases d:k<5
  .rw[Z2 d,Yl,Z2 d,Yl,ZS o!]
  rw[ZP j!,ZP j!]
 rw[e];exact xR (o j y b) f q
attribute [local go_sem] Zdk
def Ev (c:A_)(l:List Int):Bool:=(JU c (DS c l)).isNone
def LU (c:A_):List (List Int):=(EH c).filter (Ev c)
def WV (h:l∈EH c):Tc c l:=Lf _ _ h
variable {e:Zs}
variable {xs:List Zf}
def Tn {base:Nat}(a:Qb6 A B)(h:A.ownsRow base e k v n xs):B.ownsRow base e k v n xs:=CO (T:=λ_=>False) (Ak.later a) (λ_ _ x=>x) h
def AQ.snoc {w1:Zb}{base m g' f ln o:Nat}{p:Option Addr}{a:List (List Int)}{x:List Int}{vals:List Zf}(s:AQ w base a A)(O:w<base)(K:A.heap[w.heap.size]?=some (.cells #[v] 27 (0,0)))(C:A.ownsRow base 22 1 v a.length vals)
 (L:∀(i:Nat) (x:List Int),a[i]?=some x->∃u,vals[i]?=some u/\SI (J1 3 base A) A u x) (r:SI (J1 3 m A) A (.slice p ln o) x) (P:base<=m) (t:(A.alloc (.cells #[.slice p ln o] 22)).grownBy w1 v.ownBlock)
 (N:w1.ownsRow base 22 1 (.slice g' (a.length+1) f) (a.length+1) (vals++ [.slice p ln o])):
  AQ w base (a++ [x]) (w1.setCell w (.slice g' (a.length+1) f))/\Ak (λk=>k=w.heap.size\/base<=k) A (w1.setCell w (.slice g' (a.length+1) f)):=by
 have B:∀k,v.ownBlock=some k->base<=k:=λk c=>(C.lt k c).1;have E:=s.size;have J:w1.heap[w.heap.size]?=some (.cells #[v] 27 (0,0)):=(t.block _ j! (λe=>by have:=B _ e.symm;omega)).trans (Bf K _);have U:A<w1.heap.size:=by have:=t.size;simp at this;omega
 have z:Ak (λk=>v.ownBlock=some k) A w1:=(Ak.later (bA (Zh _ _))).trans (Ak.grown t λk c=>c);have q:∀(T:Nat->Prop),T w.heap.size->Ak T w1 (w1.setCell w (.slice g' (a.length+1) f)):=λT h=>(Ak.refl _ _).set h;refine⟨⟨?_,?_,_,vals++ [.slice p ln o],Ba J _,?_,λi y l=>?_⟩,(z.mono λk c=>.inr (B k c)).trans (q _ (.inl rfl))⟩
 .exact(s.below.trans (z.below (λk c=>by have:=B k c;omega) s.below.size)).trans ((q (λk=>k=w.heap.size) rfl).below (λk c=>o!) o!)
 .have:=(q (λk=>k=w.heap.size) rfl).size
  omega
 .rw[ZA]
  exact CO (q (λk=>k=w.heap.size) rfl) (λb R Q=>o!) N
 have j:∀u,SI (J1 3 base A) A u y->SI (J1 3 base (w1.setCell w (.slice g' (a.length+1) f))) (w1.setCell w (.slice g' (a.length+1) f)) u y:=λu h=>by
  refine Dx (T:=λk=>v.ownBlock=some k\/k=w) ((z.mono λk c=>.inl c).trans (q _ (.inr rfl))) (λb d h=>?_) h;rcases h with h|h
  .obtain⟨S,n⟩:=d.2
   rcases C.2 with⟨e,_⟩|⟨g,cap,H,e,_,G,_⟩
   .rw[e]at h;cases h
   rw[e]at h;cases h;rw[G]at n;cases n
  have:=d.1.1;omega
 by_cases M:i<a.length
 .rw[zl M]at l
  obtain⟨u,r,F⟩:=L i y l;exact⟨u,by rw[zl (Zm.1 r).1];exact r,j u F⟩
 have I:=(Zm.1 l).1;rw[ZA,zb,zR]at I;obtain rfl:i=a.length:=o!
 rw[Y1]at l;cases l;have D:vals.length=a.length:=by have:=C.1;omega
 refine⟨.slice p ln o,by rw[<-D,Y1],j _ (Sl.imp r (λb d=>⟨⟨?_,d.1.2⟩,d.2⟩) (λ_ _ x=>x))⟩;have:=d.1.1;omega
def aiM (h:RC S w v1 v2 v3 v4 v5 c)(hS:Ql6 S w)(X:Fq c):
  CallsIn ZbC 0 Lp 128 #[.agg (AW v1 v2 v3 v4 v5 (Ax c.Aa))] w λe w'=>∃v,e=.returned v/\Qb6 w w'/\SL (Cb w w') w' v (LU c):=by
 obtain⟨F,s,E,r,D,q,C,p,z,m,rfl,rfl,rfl,rfl,rfl,_⟩:=h.vs;have b8:=X.few;have am:=Zd X.uy;have pT:=S3 X.over;obtain⟨ab,DU⟩:=Qnm (Ax c.Aa);have mG:=Zd DU;rw[<-DU]at pT⊢;clear DU;have bv:(AW (.slice F c.base.length s) (.slice E c.Af.length r) (.slice D c.hooks.length q) (.slice C c.Aa.length p) (.slice z c.now.length m) ab).size=8:=rfl;obtain⟨W1,NL⟩:=Qnm (w.alloc (.cells (AW (.slice F c.base.length s) (.slice E c.Af.length r) (.slice D c.hooks.length q) (.slice C c.Aa.length p) (.slice z c.now.length m) ab) 112));refine callsIn_of_wp_marks Lp.func128 rfl trivial ?_ rfl;show Code.wpIn _ _ _ _ _ {tmps:= #[.agg (AW (.slice F c.base.length s) (.slice E c.Af.length r) (.slice D c.hooks.length q) (.slice C c.Aa.length p) (.slice z c.now.length m) ab)]++_,defers:=[]} _;unfold AW;simp only[aq4,Zbm,zb,zR,ZaF,Zcw,ZaN,ZaM,Zbn,Za4,zP,Za1]
 gi_wp2
 refine⟨trivial,rfl,(Zcx (n:=0).2 (ahC (AW (.slice F c.base.length s) (.slice E c.Af.length r) (.slice D c.hooks.length q) (.slice C c.Aa.length p) (.slice z c.now.length m) ab) rfl (by simp[AW,YT]) _)).mono ?_⟩;rintro e V ⟨rfl,P⟩;change V=((w.alloc (.cells (AW (.slice F c.base.length s) (.slice E c.Af.length r) (.slice D c.hooks.length q) (.slice C c.Aa.length p) (.slice z c.now.length m) ab) 112)).alloc (.cells #[()] 27)).alloc (.cells (AW (.slice F c.base.length s) (.slice E c.Af.length r) (.slice D c.hooks.length q) (.slice C c.Aa.length p) (.slice z c.now.length m) ab) 112) at P;rw[<-NL]at P;have DR:W1=w.heap.size+1:=by rw[NL];simp
 have ap:V=w.heap.size+3:=by rw[P];simp;omega
 have Z:Qb6 w W1:=by rw[NL];exact bA (Zh _ _)
 have R:Qb6 W1 V:=by rw[P];exact bA (bA (Zh _ _))
 have lD:W1.heap[w.heap.size]?=some (.cells (AW (.slice F c.base.length s) (.slice E c.Af.length r) (.slice D c.hooks.length q) (.slice C c.Aa.length p) (.slice z c.now.length m) ab) 112 (0,0)):=by rw[NL];exact Bp _ _
 have Ia:V.heap[W1.heap.size]?=some (.cells #[()] 27 (0,0)):=by rw[P];exact Bf (Bp _ _) _
 have iz:V.heap[w.heap.size+1+1]?=some (.cells (AW (.slice F c.base.length s) (.slice E c.Af.length r) (.slice D c.hooks.length q) (.slice C c.Aa.length p) (.slice z c.now.length m) ab) 112 (0,0)):=by rw[P, <-DR,show W1.heap.size+1=(W1.alloc (.cells #[()] 27)).heap.size by simp];exact Bp _ _
 have Ui:Qb6 w V:=Z.trans (R.mono Z.size);have HS:=Zd (show∀W,Qb6 w W->RC S W (.slice F c.base.length s) (.slice E c.Af.length r) (.slice D c.hooks.length q) (.slice C c.Aa.length p) (.slice z c.now.length m) c from λW hB=>h.later hB);have eZ:=qv iz (HS.out V Ui) (λb j=>by have:=hS b j;omega) o! (λi hi=>by have:=X.step i hi;omega);clear P;simp only[ZB];obtain⟨K,hK⟩:∃K:Nat->Prop,K=λk=>S k\/k=w+1+1:=⟨_,rfl⟩;have ju:∀k,K k->k<w.heap.size\/k=w+1+1:=λk h=>by
  rw[hK]at h;rcases h with h|rfl
  .exact .inl (hS k h)
  exact .inr rfl
 rw[<-hK]at eZ;clear hK;have hN:(EH c).length<=125:=by
  have:=H7 c.Aa (λi hi=>by have:=X.step i hi;omega);have M:5^c.Aa.length<=5^3:=YX d! o!;exact Zr this M
 obtain⟨i0,hi,Fl,k9,EB⟩:=zp Hw;have hu:=Cz zW;have HZ:=Zd (show w+1<=W1.heap.size/\W1<=w.heap.size+1/\w+3<=V.heap.size/\V<=w.heap.size+3 by omega);have H:=Zd DR;clear NL DR ap
 gi_wp2
 have kL:=HZ.out;refine Vm (gf:=153) (lb:= #[.pointer (w+1+1:Nat)]) rfl (Go.Proofs.enters_of Lp.func153 k! rfl) eZ (Zj _) (λk hk=>⟨by have:=ju k hk;omega,rfl⟩) (λd A=>AQ W1 (V+6) (d.filter (Ev c)) A) (λA hA hs=>?_) (λd A B h Q=>h.CN (n:=V) o! rfl Q)
  (λu=> {tmps:= #[.agg #[.slice F c.base.length s,.slice E c.Af.length r,.slice D c.hooks.length q,.slice C c.Aa.length p,.slice z c.now.length m,.int .u8 (ab 0),.int .u8 (ab 1),.int .u8 (ab 2)],.pointer w,(),.pointer (w+1:Nat),u,Ze,Ze,.agg #[.slice F c.base.length s,.slice E c.Af.length r,.slice D c.hooks.length q,.slice C c.Aa.length p,.slice z c.now.length m,.int .u8 (ab 0),.int .u8 (ab 1),.int .u8 (ab 2)],.func (.func 153) #[] #[.pointer (w+1+1:Nat)],u,Ze,Ze,Ze,Ze,Ze,Ze,Ze,Ze,Ze,Ze,Ze,Ze,Ze],defers:=[]}) ?assign ?body ?done
 .exact⟨R.trans (hA.mono R.size),o!,_,[],(hA.block _ o!).trans Ia,zq _ _ _ _,λi x hx=>by cases hx⟩
 case assign=>
  rintro l u W' K ⟨ad,n,cc,rfl⟩ hK
  gi_wp2
  exact hK
 case body=>
  intro l d x u A0 A bc Q hz G iA;have g:=bc.CN (n:=V) o! rfl Q;obtain⟨v,a,N,U,DF⟩:=g.box;obtain⟨ad,cc,rfl,lu,mu⟩:=iA.val;have ba:V+6<=A.heap.size:=g.size;have ac:x∈EH c:=G.subset i!;have bi:=G.length_le;rw[ZA,zb,zR]at bi;obtain⟨MF,_⟩:=WV ac;have I:Qb6 w A:=Z.trans (g.below.mono Z.size);have L:A.heap[w.heap.size]?=some (.cells #[.slice F c.base.length s,.slice E c.Af.length r,.slice D c.hooks.length q,.slice C c.Aa.length p,.slice z c.now.length m,.int .u8 (ab 0),.int .u8 (ab 1),.int .u8 (ab 2)] 112 (0,0)):=(g.below.block w o!).trans lD;have kL:=HZ.out;have HI:=Zd g;have O:x.length<=c.now.length:=by have:=am.out;omega
  have M_:=c90 ((HS.out A I).imp (T:=λb=>b<A.heap.size) λb j=>by have:=hS b j;have:=I.size;show b<_;omega) (Sl.imp iA (T:=λb=>b<A.heap.size) (λb j=>j.1.2) λ_ _ x=>x) O (by have:=am.out;omega) (ab:=ab) pT (by rw[mG.out];exact MT X o!) λb j=>j;have J:=Zd (show Ev c x=(JU c (Cx ab c.now x)).isNone by rw[mG.out];rfl);obtain⟨t,ht⟩:=Qnm (Cx ab c.now x);rw[<-ht]at M_ J;clear ht;obtain⟨o,ho⟩:=Qnm (JU c t);rw[<-ho]at M_ J;clear ho;have vw:=Zd ((Zcx (n:=0)).2 M_);have b9:=Zd (ZY MF O);clear M_ G ac MF O;have g0:=ch (i:=0) L rfl;have g1:=ch (i:=1) L rfl;have g2:=ch (i:=2) L rfl;have g3:=ch (i:=3) L rfl;have g4:=ch (i:=4) L rfl;have g5:=ch (i:=5) L rfl;have g6:=ch (i:=6) L rfl;have g7:=ch (i:=7) L rfl;cases o with
  |some i=>
   dsimp only[uv]at vw
   gi_wp2
   refine⟨trivial,rfl,vw.out.mono ?_⟩;rintro e w2 ⟨rfl,f⟩
   gi_wp2
   have Tq:d.filter (Ev c)++ [x].filter (Ev c)=d.filter (Ev c):=by rw[ZbB,J.out];simp
   rw[Tq];refine⟨?_,Ak.later f⟩;obtain⟨v,a,b1,b2,b3⟩:=g.box;exact⟨g.below.trans (f.mono g.below.size),by have:=f.size;omega,v,a,(f.block _ (Za.1 b1).1).trans b1,Tn f b2,λi y hy=>by
    obtain⟨u,Y,M⟩:=b3 i y hy;exact⟨u,Y,Dx (T:=λ_=>False) (Ak.later f) (λ_ _ h=>h) M⟩⟩
  |none=>
   dsimp only[uv]at vw
   gi_wp2
   refine⟨trivial,rfl,vw.out.mono ?_⟩;rintro e w2 ⟨rfl,f⟩;have mJ:AQ W1 (V+6) (d.filter (Ev c)) w2:=by
    obtain⟨v,a,b1,b2,b3⟩:=g.box;exact⟨g.below.trans (f.mono g.below.size),by have:=f.size;omega,v,a,(f.block _ (Za.1 b1).1).trans b1,Tn f b2,λi y hy=>by
     obtain⟨u,Y,M⟩:=b3 i y hy;exact⟨u,Y,Dx (T:=λ_=>False) (Ak.later f) (λ_ _ h=>h) M⟩⟩
   have Hb:SI (J1 3 A0 w2) w2 (.slice ad x.length cc) x:=Dx (T:=λ_=>False) (Ak.later f) (λ_ _ h=>h) iA;clear N U DF;obtain⟨v,a,N,U,DF⟩:=mJ.box;have kb:=ch (i:=0) N (v:=v) rfl;have fb:=cf (i:=0) N;rw[H.out]at kb fb;have G9:=Zac (Ev c) d;have Tq:d.filter (Ev c)++ [x].filter (Ev c)=d.filter (Ev c)++ [x]:=by rw[ZbB,J.out];simp
   gi_wp2_with (gi_at_builtin;refine wpListIn_append_own _ rfl _ _ 27 rfl (V+6) 22 i0 () 1 24 hu (Dz hi) Fl k9 EB rfl d! _ _ _ rfl (U.alloc _) w2 1 1 [.slice ad x.length cc] rfl rfl (cell_one_new _ _ _) (by simp[YT]) u! o! (by have:=f.size;simp;omega) ?_;intro v' w3 Bi AG Gc;obtain⟨g',Ey,rfl⟩:=Zay Bi;have S4:(w2.alloc (.cells #[.slice ad x.length cc] 22)).grownBy w3 v.ownBlock:=AG;have Em:∀k,v.ownBlock=some k->V.heap.size+6<=k:=λk hk=>(U.lt k hk).1;have PZ:w3.heap[W1.heap.size]?=some (.cells #[v] 27 (0,0)):=(S4.block _ (by have:=f.size;simp;omega) (λe=>by have:=Em _ e.symm;omega)).trans (Bf N _);have an:=ch (i:=0) PZ (v:=v) rfl;have be:=cf (i:=0) PZ;rw[H.out]at an be)
   obtain⟨q1,q2⟩:=AQ.snoc mJ o! N U DF Hb (by have:=ba;omega) S4 Bi;rw[H.out]at q1 q2;exact⟨q1,(Ak.later f).trans (q2.mono λk hk=>⟨by unfold Kp;omega,λh=>by have:=ju k h;omega⟩)⟩
 intro A g hD;obtain⟨v,a,N,U,DF⟩:=g.box;have kb:=ch (i:=0) N (v:=v) rfl;rw[H.out]at kb
 gi_wp2
 have Q:Ak (λk=>k=V.heap.size) A (A.putObj V (.deferred none)):=(Ak.refl _ _).put rfl;have ai:=Z.trans (g.below.mono Z.size);have I:YH w w (A.putObj V (.deferred none)):=ai.trans (Q.below (λk hk=>o!) ai.size);have Ox:=CO Q (λb Y M=>o!) U;have gI:∀(i:Nat) (x:List Int),(LU c)[i]?=some x->∃u,a[i]?=some u/\SI (Cb w (A.putObj V (.deferred none))) (A.putObj V (.deferred none)) u x:=λi x hx=>by
  obtain⟨u,Y,M⟩:=DF i x hx;exact⟨u,Y,Sl.imp (Dx Q (λb j h=>by have:=j.1.1;omega) M) (λb j=>⟨by have:=j.1.1;omega,j.1.2⟩) (λ_ _ x=>x)⟩
 refine⟨i!,.inl ⟨_,_,rfl,run_takeDeferred hD,?_⟩⟩;exact⟨_,results_tmp rfl _ _ _,_,rfl,I,WM (ls:=LU c) Ox o! gI⟩
def bV {C:Zb}(h:Qb6 A B)(k:Qb6 B C):Qb6 A C:=h.trans (k.mono h.size)
def SL.imp {l:List (List Int)}(h:SL S w v l)(a:∀b,S b->T b):SL T w v l:=Sl.imp h a λ_ _ ⟨u,e,c⟩=>⟨u,e,Sl.imp c a λ_ _ x=>x⟩
def lF (c:A_)(s:List (Int×Int)):List (List Int):=(LU c).filter λl=>BZ c l s
variable {s:List (Int×Int)}
def c64 (h:RC S w v1 v2 v3 v4 v5 c)(F:SP S w v6 s)(z:Ql6 S w)(Jz:BN c=0)(A:Fs c.base.length s=0):
  Calls Lp 64 #[.agg #[v1,v2,v3,v4,v5],v6] w λe w'=>Qb6 w w'/\((∃a cc,e=.returned (.tuple #[.slice a (lF c s).length cc,.int .i64 0])/\SL (λx=>S x\/Cb w w' x) w' (.slice a (lF c s).length cc) (lF c s))\/∃x,e=.panicked x/\PX x w'):=by
 obtain⟨X,N,U,M,T,L,R,J,Q,I,rfl,rfl,rfl,rfl,rfl,_⟩:=h.vs;obtain⟨a6,c6,rfl,_⟩:=F.val;have r:=EG Jz;have u:=Zd (Ha A);have ai:=Zd A;have Bg:YH w w (w.alloc (.cells (Qe6 c X N U M T L R J Q I) 26)):=bA (Zh _ _);have ez:=Zd (λW k=>Wt (w:=W) (h.later k) (A3 z k) Jz);have E:=Zd (λW (k:Qb6 w W)=>(Zcx (n:=0)).1 (aiM (w:=W) (h.later k) (A3 z k) r));unfold AW at E;have T8:=Zd (λW (k:Qb6 w W)=>abe (w:=W) (h.later k) (F.later k) (A3 z k) (Ax c.Aa 0) (Ax c.Aa 1) (Ax c.Aa 2));rw[A]at T8;clear A;go_enter Lp.func64,n64;go_wp2_with (first|(go_at_call 88;refine(ez.out _ Bg).mono ?_;rintro e w1 ⟨rfl,Bb⟩;have Bv:=Bg.trans (Bb.mono Bg.size))|(go_at_call 101;refine(T8.out _ (bA Bv)).mono ?_;rintro e w2 ⟨rfl,B⟩));obtain⟨l,C⟩:=Qnm (Ax c.Aa);have mG:=Zd C;rw[<-C]at E⊢;rw[<-C]at B;clear C ez T8;obtain⟨V,y⟩:=Qnm (w1.alloc (.cells #[.slice X c.base.length N,.slice U c.Af.length M,.slice T c.hooks.length L,.slice R c.Aa.length J,.slice Q c.now.length I,.int .u8 (l 0),.int .u8 (l 1),.int .u8 (l 2)] 112));rw[<-y]at B;have t:V.heap[w1.heap.size]?=some (.cells #[.slice X c.base.length N,.slice U c.Af.length M,.slice T c.hooks.length L,.slice R c.Aa.length J,.slice Q c.now.length I,.int .u8 (l 0),.int .u8 (l 1),.int .u8 (l 2)] 112 (0,0)):=by rw[y];exact Bp _ _
 have Ui:Qb6 w V:=by rw[y];exact bA Bv
 have o:=(B.block _ (Za.1 t).1).trans t;have P:=bV Ui B;clear y;have k0:=ch (i:=0) o rfl;have k1:=ch (i:=1) o rfl;have k2:=ch (i:=2) o rfl;have k3:=ch (i:=3) o rfl;have k4:=ch (i:=4) o rfl;have k5:=ch (i:=5) o rfl;have k6:=ch (i:=6) o rfl;have k7:=ch (i:=7) o rfl;obtain⟨K,Ig⟩:∃K:Nat->Prop,K=λ_=>False:=⟨_,rfl⟩;have m:¬K w1:=by rw[Ig];exact λx=>x
 clear Ig;have g0:=λp:Tw K w2=>p.cell k0 m;have g1:=λp:Tw K w2=>p.cell k1 m;have g2:=λp:Tw K w2=>p.cell k2 m;have g3:=λp:Tw K w2=>p.cell k3 m;have g4:=λp:Tw K w2=>p.cell k4 m;have g5:=λp:Tw K w2=>p.cell k5 m;have g6:=λp:Tw K w2=>p.cell k6 m;have g7:=λp:Tw K w2=>p.cell k7 m;clear k0 k1 k2 k3 k4 k5 k6 k7;go_wp2;refine B0 (S:=λW=>∃p:Tw K w2,W=p.v) [] [(false,2),(false,4),(false,5),(false,6)] [0,1,3] k! (λ_ _ d _ _ h=>by cases d<;>exact h) k! (A5 (Ak.later (Zh _ _).drew)) ?_;refine A4 _ _ k! ?_;simp only[Z6,zd,ZG,ZD,ZC]
 repeat (first|go_big_quiet_step (fail)|quiet_step (fail))
 refine Z4 ?_;clear g0 g1 g2 g3 g4 g5 g6 g7;change Dl _ _ _ _ _ _ _;have Z:YH w2 w2 w2.drew:=(Zh _ _).drew;have Y:=bV P Z;refine Dd (f:=128) rfl rfl g! ((E.out _ Y).mono ?_);rintro e W3 ⟨v3,rfl,Cj,Vr⟩;obtain⟨x3,y3,rfl,_⟩:=Vr.val;have q:=bV Y Cj;refine⟨_,rfl,.inr (A5 (Ak.later (bV Z Cj))),?_⟩;have ac:=Y.size;have Rb:=q.size;have hN:(LU c).length<=125:=by
  have h1:=Zac (Ev c) (EH c);have h0:=H7 c.Aa (λi G=>by have:=r.step i G;omega);have h2:5^c.Aa.length<=5^3:=YX d! r.few.2;exact Zr h1 (Zr h0 h2)
 have oh:∀i,i<(LU c).length->(BM (LU c) i).length=c.Aa.length/\∀j,j<(BM (LU c) i).length->-2<=nth (BM (LU c) i) j/\nth (BM (LU c) i) j<=2:=λi G=>by
  have hm:BM (LU c) i∈EH c:=(List.mem_filter.1 (Z3 (BJ G))).1;obtain⟨m1,m2⟩:=WV hm;refine⟨o!,λj hj=>?_⟩;have h1:=m2 j hj;have h2:=r.step j o!;omega
 have O:=Zd (xO (S:=λb=>S b\/Cb w W3 b) ((h.later q).imp λb g=>.inl g) r (Vr.imp λb g=>.inr ⟨by have:=g.1;omega,g.2⟩) (Sl.imp (F.later q) (λb g=>.inl g) λ_ _ x=>x) oh (by have:=u.out.1;omega) u.out.2 o! (λb g=>by rcases g with g|g;have:=z b g;omega;exact g.2) (l 0) (l 1) (l 2));refine cE (f:=104) rfl rfl g! (O.out.mono ?_);rintro e W4 ⟨D,⟨v4,rfl,NK⟩|⟨x,rfl,Ss⟩⟩
 .obtain⟨x4,y4,rfl,_⟩:=Sl.val NK
  have H:∃p:Tw K w2,W4=p.v:=A5 (Ak.later (bV (bV Z Cj) D));refine .inl ⟨_,rfl,.inr H,?_⟩;refine Dw (v:=.slice x4 (lF c s).length y4) rfl rfl (by go_simp;rfl) (.inr H) ?_;refine Dw (v:=.int .i64 0) rfl rfl g! (.inr H) ?_;unfold Dl
  go_simp
  go_wp2;go_ret2;exact⟨bV q D,.inl ⟨_,_,rfl,SL.imp NK λb g=>by
   rcases g with(g|g)|g
   .exact .inl g
   .exact .inr ⟨g.1,Zl g.2 D.size⟩
   exact .inr ⟨Zr Rb g.1.1,g.1.2⟩⟩⟩
 exact .inr ⟨x,rfl,rfl,bV q D,.inr ⟨_,rfl,Ss⟩⟩
def Ol (a:H6 c)(hl:Tc c l)(hi:i<c.base.length): -108<=nth (Cc c l) i/\nth (Cc c l) i<=108:=by
 have e:nth (Cc c l) i=measure c l i:=by
  have:=MU (l:=l) hi;rw[Bn (by simp[Cc];exact hi)]at this;exact ZW this
 rw[e];exact Md a.valid (by have:=hl.1;omega) (λk b=>by have:=hl.2 k b;have:=(a.seam k (by have:=hl.1;omega)).step;omega) i
def vA (b:s.length=n)(h:∀p∈s,0<=p.1/\p.1<=p.2/\p.2<=99):Fs n s=0:=by
 unfold Fs;rw[if_neg o!,if_neg o!];exact F5 λp a=>Tb (h p a)
def afN (w:Zb)(b:Nat)(lv:Zf)(d n:Nat)(e:Ending)(w':Zb):Prop:=∃(a:Option Addr) (f:Nat) (s:List (Int×Int)) (c:Nat),e=.returned (.slice a s.length f)/\LW b lv w c w'/\c<=d+100/\SP (TT w w') w' (.slice a s.length f) s/\Fs n s=0
def yr (w:Zb)(b:Nat)(lv:Zf)(d n:Nat)(e:Ending)(w':Zb):Prop:=∃(a:Option Addr) (f:Nat) (s:List (Int×Int)) (c:Nat),e=.returned (.slice a s.length f)/\LW b lv w c w'/\c<=d+100/\SP (Cb w w') w' (.slice a s.length f) s/\Fs n s=0
def ajL {b:Nat}(h:RC S w v1 v2 v3 v4 v5 c)(P:∀x,S x->x<w.heap.size/\x≠b)(hn:SI Sn w lv nums)(E:∀x,Sn x->x<w.heap.size/\x≠b)(F:BK w b lv d)(O:d+1000<4611686018427387904)(L:H6 c):
  Calls Lp 38 #[.pointer b,.agg #[v1,v2,v3,v4,v5]] w (afN w b lv d c.base.length):=by
 obtain⟨a1,c1,a2,c2,a3,c3,a4,c4,a5,c5,rfl,rfl,rfl,rfl,rfl,_⟩:=h.vs;have IX:=DJ;have iW:=L.few;have n8:=L.Fp;obtain⟨W1,NL⟩:=Qnm (w.alloc (.cells (Qe6 c a1 c1 a2 c2 a3 c3 a4 c4 a5 c5) 26));have lD:W1.heap[w.heap.size]?=some (.cells (Qe6 c a1 c1 a2 c2 a3 c3 a4 c4 a5 c5) 26 (0,0)):=by rw[NL];exact Bp _ _
 have Bg:Qb6 w W1:=by rw[NL];exact bA (Zh _ _)
 have GK:=F.lt;have DR:=Bg.size;obtain⟨q,hq⟩:=Qnm w.heap.size;have M9:q<=w.heap.size/\w<=q:=o!
 rw[<-hq]at lD;have T6:=(Za.1 lD).1;obtain⟨K,Ig⟩:∃K:Nat->Prop,K=λx=>x=b:=⟨_,rfl⟩;have fh:K b:=by rw[Ig]
 have Q:¬K q:=by rw[Ig];intro x;omega
 have LP:∀x,x≠b->¬K x:=λx a=>by rw[Ig];exact a
 clear Ig;obtain⟨k0,k1,k2,k3,k4⟩:=Qc5 lD;have g0:=λp:Tw K W1=>p.cell k0 Q;have g1:=λp:Tw K W1=>p.cell k1 Q;have g2:=λp:Tw K W1=>p.cell k2 Q;have g3:=λp:Tw K W1=>p.cell k3 Q;have g4:=λp:Tw K W1=>p.cell k4 Q;clear k0 k1 k2 k3 k4;go_enter Lp.func38,n38;go_wp2;rw[<-NL, <-hq];clear NL hq;refine B0 (S:=λW=>∃p:Tw K W1,W=p.v) [] [(false,3),(false,4),(false,5)] [0,1,2] k! (λ_ _ d _ _ h=>by cases d<;>exact h) k! (A5 (Ak.later (Zh _ _).drew)) ?_;refine A4 _ _ k! ?_;simp only[Z6,zd,ZG,ZD,ZC]
 repeat (first|go_big_quiet_step (fail)|quiet_step (fail))
 refine Z4 ?_;clear g0 g1 g2 g3 g4;change Dl _ _ _ _ _ _ _;have Uh:YH W1 W1 W1.drew:=(Zh _ _).drew;have Un:=bU Bg Uh;have io:=Uh.size;refine Dd (f:=30) rfl rfl g! ((c30 ((h.later Un)) (λx a=>⟨by have:=P x a;omega,(P x a).2⟩) (hn.later Un) (λx a=>⟨by have:=E x a;omega,(E x a).2⟩) (F.later Un) o! o! (λi hi=>by have:=(L.seam i hi).step;omega)).mono ?_);rintro e W3 ⟨v3,l,d3,rfl,H,ct,i6,Qm,Xc,ig⟩;obtain⟨p3,t3,rfl,_⟩:=Qm.val;have Ba:Tc c l:=⟨Xc,λi hi=>⟨(ig i o!).1,(ig i o!).2 (L.seam i o!).step.2.1⟩⟩;have am:Ak K W1 W3:=(Ak.later Uh).trans (H.CN fh);refine⟨_,rfl,.inr (A5 am),?_⟩;have Rb:=H.size;have O9:=((h.later Un).Ar (H.same λx a=>(P x a).2)).imp (T:=λx=>x<W3.heap.size) λx a=>by have:=P x a;show x<_;omega
 have fi:=Zd Ba;refine Dd (f:=47) rfl rfl g! ((c47 O9 L.valid (Sl.imp Qm (T:=λx=>x<W3.heap.size) (λx a=>a.2) λ_ _ x=>x) o! (λi hi=>by have:=fi.out.2 i hi;have:=(L.seam i (by have:=fi.out.1;omega)).step;omega) λx a=>a).mono ?_);rintro e g ⟨u,rfl,De,A⟩;have NN:(Cc c l).length=c.base.length:=by simp[Cc]
 have fu:=Zd (λi (hi:i<c.base.length)=>Ol L Ba hi);obtain⟨G,hG⟩:=Qnm (Cc c l);rw[<-hG]at A NN fu;clear hG;obtain⟨ga,gc,rfl,_⟩:=A.val;rw[NN]at A⊢;have fm:=Zd NN;have ip:=De.size;have fC:Ak K W1 g:=am.uJ De;refine⟨_,rfl,.inr (A5 fC),?_⟩;refine Dw (v:=.slice ga c.base.length gc) rfl rfl g! (.inr (A5 fC)) ?_;have Ks:=(fC.block q T6 Q).trans lD;have ai:B3 b w g:=((B3.refl b w).below Un).trans ((H.below De));have fH:=ct.later De;have f9:=GK;have HE:=Zd (show∀W,B3 b g W->SP S W (.slice a2 c.Af.length c2) c.Af from λW z=>Sl.Ar h.Af ((ai.trans z).same λx a=>(P x a).2) λ_ _ x=>x);have gn:=Zd (show∀W,B3 b g W->SI (Cb W3 g) W (.slice ga c.base.length gc) G from λW z=>A.Ar (z.same λx a e=>by have:=a.1;omega));have tX:=hn.Ar (ai.same λx a=>(E x a).2);have rW:=Zd (λW d lo hi F O j Z=>abV (w:=g) (W:=W) (d:=d) (lo:=lo) (hi:=hi) tX (λx a=>⟨by have:=E x a;omega,(E x a).2⟩) F O j Z);have iG:=Zd (λW d n F O Z=>abW (w:=g) (W:=W) (d:=d) (n:=n) tX (λx a=>⟨by have:=E x a;omega,(E x a).2⟩) F O Z);have gt:=Zd (λW d n F O Z=>abX (w:=g) (W:=W) (d:=d) (n:=n) tX (λx a=>⟨by have:=E x a;omega,(E x a).2⟩) F O Z);have ii:=Zd (λW d s F O j Z=>abY (w:=g) (W:=W) (d:=d) (s:=s) tX (λx a=>⟨by have:=E x a;omega,(E x a).2⟩) F O j Z);unfold Dl;clear O9 am H Uh Un ct A NN ig Xc Ba Qm fC tX f9
 go_simp
 go_wp2;obtain⟨an,ap,be,bc,ba⟩:=zp Wu;go_loopg [6,7] c.base.length (λgg ov i wr=>∃(k dk:Nat) (J:Option Addr) (I:Nat) (s:List (Int×Int)),k<=c.base.length/\gg=c.base.length - k/\i=.int .i64 k/\s.length=k/\ov=.slice J k I/\dk<=d3+5*k/\B3 b g wr/\BK wr b lv dk/\Ih wr g (.slice J k I) s 80/\∀p∈s,0<=p.1/\p.1<=p.2/\p.2<=99)
 case atStart=>exact⟨0,d3,none,0,[],Zp _,rfl,rfl,rfl,rfl,Zj _,B3.refl _ _,fH,zq _ _ _ _,λp hp=>by cases hp⟩
 obtain⟨k,dk,J,I,s,hk,rfl,rfl,bi,rfl,jF,z,oJ,AX,rU⟩:=hrel;have Y:=z.at_ Ks o!;have N:=Zd bi;clear bi;have im:=z.size;by_cases Az:k<c.base.length
 .have T5:k<c.Af.length:=by have:=L.PN;omega
  have fy:k<G.length:=by have:=fm.out;omega
  obtain⟨b1,o1,ee,FD,tN⟩:=((gn.out _ z):SI _ _ _ _)|>λh=>(by rw[<-fm.out]at h;exact h.at_ fy);subst ee;obtain⟨b2,o2,ee,EC,lW,jZ⟩:=(HE.out _ z).at_ T5;subst ee;have fI:=fu.out k Az;have dl:=L.Af _ (Z3 (EE T5));obtain⟨gv,b8⟩:=Qnm (nth G k);obtain⟨el,ci⟩:=Qnm ((BV c.Af k).1);obtain⟨em,b9⟩:=Qnm ((BV c.Af k).2);rw[<-b8]at tN fI;rw[<-ci]at lW dl;rw[<-b9]at jZ dl;clear b8 ci b9;have iV:(k:Int)<(c.base.length:Int):=o!
  have iS:(k:Int)<(c.Af.length:Int):=o!
  have kq:(0:Int)<=(k:Int):=o!
  have f8:¬K b1:=LP b1 (by have:=FD.1;omega);have vB:¬K b2:=LP b2 (P b2 EC).2;have r0:=λp:Tw K wr=>p.cell (ch (i:=1) Y (v:=.slice (some ⟨b2,o2,none⟩) c.Af.length c2) rfl) Q;have r1:=λp:Tw K wr=>p.cell tN f8;have r2:=λp:Tw K wr=>p.cell lW vB;have r3:=λp:Tw K wr=>p.cell jZ vB;go_wp2;refine G7 (S:=λW=>∃p:Tw K wr,W=p.v) 18 [] [(true,10),(false,13),(false,14),(false,15),(false,16),(false,17)] [0,1,2,3,4,5,6,7,8,9,11,12] k! (λ_ _ d _ _ h=>by cases d<;>exact h) k! (A5 (Ak.later (Zh _ _).drew)) ?_;refine A4 _ _ k! ?_;simp only[Z6,zd,ZG,ZD,ZC]
  repeat (first|go_big_quiet_step (fail)|quiet_step (fail))
  refine Z4 ?_;change H2 _ _ _ _ _ _ _ _;obtain⟨V0,tY⟩:=Qnm wr.drew;have mO:Qb6 wr V0:=by rw[tY];exact(Zh _ _).drew
  rw[<-tY];clear tY;have aW:Ak K wr V0:=Ak.later mO;have fd:LW b lv g dk V0:=⟨z.below mO,oJ.later mO⟩;obtain⟨lo,mK⟩:=Qnm (gv - em);have fK: -200<=lo/\lo<=200:=o!
  have X:IntKind.i64.wrap (gv - em)=lo:=by rw[zE,mK];omega
  clear mK;refine Wz (v:=.int .i64 lo) (A5 aW) rfl rfl (λw _=>g!) ?_;clear X;refine Iy (f:=61) rfl rfl g! ((rW.out V0 dk (-3) 3 fd o! o! o!).mono ?_);rintro e V1 ⟨x1,d1,rfl,MF,Na,fq,i8⟩;have Kd:=aW.trans (Na.CN fh);refine⟨_,rfl,.inr (A5 Kd),?_⟩;have WQ:=Kd.uJ (bA (o:=.cells #[.int .i64 0,.int .i64 0,.int .i64 0,.int .i64 (-3+(x1:Int))] 3) (Zh _ _));refine EY (v:=.slice V1 4 4) (w':=V1.alloc (.cells #[.int .i64 0,.int .i64 0,.int .i64 0,.int .i64 (-3+(x1:Int))] 3)) rfl rfl g! (.inr (A5 WQ)) ?_;refine Iy (f:=98) rfl rfl g! ((ii.out V1 _ [0,0,0,-3+(x1:Int)] fq o! i! i!).mono ?_);rintro e t ⟨x2,d2,rfl,mH,Ot,M7,i7⟩;have R:=WQ.trans (Ot.CN fh);refine⟨_,rfl,.inr (A5 R),?_⟩;obtain⟨y,hy,fw⟩:∃y,y=nth [0,0,0,-3+(x1:Int)] x2/\(-3<=y/\y<=3):=⟨_,rfl,by
   have:x2=0\/x2=1\/x2=2\/x2=3:=by simp at mH;omega
   rcases this with rfl|rfl|rfl|rfl<;>simp[nth]<;>omega⟩
  rw[<-hy];clear hy;obtain⟨m,T2⟩:=Qnm (lo+y);have kv: -210<=m/\m<=210:=o!
  have lX:IntKind.i64.wrap (lo+y)=m:=by rw[zE,T2];omega
  clear T2;refine EY (v:=.int .i64 m) (w':=t) rfl rfl g! (.inr (A5 R)) ?_;refine EY (v:=.int .i64 m) (w':=t) rfl rfl g! (.inr (A5 R)) ?_;clear lX fK fw;unfold H2
  go_simp
  have Vn:YH V1 V1 (V1.alloc (.cells #[.int .i64 0,.int .i64 0,.int .i64 0,.int .i64 (-3+(x1:Int))] 3)):=bA (Zh _ _);have vC:B3 b wr t:=((((B3.refl b wr).below mO).trans Na).below Vn).trans Ot;have Cm:=D2 (Fu (D2 (Fu AX mO) Na (by omega:b<g)) Vn) Ot (by omega:b<g);have S5:=z.trans vC;have ka:=vC.size;have z0:=λp:Tw K t=>p.cell (ch (i:=1) (vC.at_ Y o!) (v:=.slice (some ⟨b2,o2,none⟩) c.Af.length c2) rfl) Q;have Ts:=vC.same (T:=λx=>x≠b) (λ_ h=>h);have z2:=λp:Tw K t=>p.cell (Ts.cell (by exact(P b2 EC).2) lW) vB;have z3:=λp:Tw K t=>p.cell (Ts.cell (by exact(P b2 EC).2) jZ) vB;clear r0 r1 r2 r3 aW Kd WQ R Na Ot fd fq AX mO Vn tN lW jZ oJ;go_wp2;refine G7 (S:=λW=>∃p:Tw K t,W=p.v) 18 [] [(true,14),(false,15),(false,16),(false,17)] [0,1,2,3,4,5,6,7,8,9,10,11,12,13] k! (λ_ _ d _ _ h=>by cases d<;>exact h) k! (A5 (Ak.later (Zh _ _).drew)) ?_;refine A4 _ _ k! ?_;simp only[Z6,zd,ZG,ZD,ZC]
  repeat (first|go_big_quiet_step (fail)|quiet_step (fail))
  refine Z4 ?_;change H2 _ _ _ _ _ _ _ _;clear z0 z2 z3;have ry:YH t t t.drew:=(Zh _ _).drew;have R:Ak K t t.drew:=Ak.later ry;have ea:=M7.below ry;obtain⟨ed,ck⟩:=Qnm (em - el);have jt:0<=ed/\ed<=10:=o!
  have X:IntKind.i64.wrap (em - el)=ed:=by rw[zE,ck];omega
  clear ck;refine Wz (v:=.int .i64 ed) (A5 R) rfl rfl (λw _=>g!) ?_;clear X;refine Iy (f:=29) rfl rfl g! ((iG.out _ d2 ed ea o! o!).mono ?_);rintro e V3 ⟨x3,d4,rfl,U4,H,k_,i5⟩;have Ou:=R.trans (H.CN fh);refine⟨_,rfl,.inr (A5 Ou),?_⟩;obtain⟨j,bv⟩:=Qnm (m+(x3:Int));have jp:m<=j/\j<=300:=o!
  have lX:IntKind.i64.wrap (m+(x3:Int))=j:=by rw[zE,bv];omega
  clear bv;refine EY (v:=.int .i64 j) (w':=V3) rfl rfl g! (.inr (A5 Ou)) ?_;refine EY (v:=.int .i64 j) (w':=V3) rfl rfl g! (.inr (A5 Ou)) ?_;clear lX;unfold H2
  go_simp
  have du:=((B3.refl b t).below ry).trans H;have gj:=D2 (Fu Cm ry) H (by omega:b<g);have cN:=S5.trans du;have jn:=du.size;clear R Ou H Cm ry ea M7;go_wp2;refine(gt.out _ d4 8 k_ o! o!).mono ?_;rintro e V4 ⟨rb,d5,rfl,Xp,ld,iX⟩;have rz:=D2 gj Xp (by omega:b<g);have co:=cN.trans Xp;have i9:=Xp.size;have M8:k<=3:=o!
  have rA:V4.ownsRow g 80 2 (.slice J k I) k (s.flatMap λp=> [ZL .i64 p.1,.int .i64 p.2]):=by have:=rz;unfold Ih at this;rwa[N.out]at this
  have iv:IntKind.i64.wrap (j+1)=j+1:=by rw[zE];omega
  cases rb with
  |false=>
   go_wp2_with (at_builtin;refine Yc _ rfl _ _ 23 rfl g 80 an (.agg #[.int .i64 0,.int .i64 0]) 2 16 (Cz Zdg) (Dz ap) be bc ba rfl d! (.slice J k I) k (s.flatMap λp=> [ZL .i64 p.1,.int .i64 p.2]) rfl (Ya rA _) V4 1 1 [.int .i64 (max 0 (min m 99)),.int .i64 (max 0 (min j 99))] rfl rfl (Hc _ _ _) (by intro u A;simp at A;rcases A with rfl|rfl<;>rfl) u! o! j! ?_;intro v9 U r V ac);have Em:=J3 rz;have pY:B3 b g U:=(co.below (bA (Zh _ _))).grown V λx a=>(Em x a).1;have D:BK U b lv d5:=(ld.alloc _).E4.of (V.block b (ld.alloc _).E4.lt (λe=>by have:=(Em b e.symm).1;omega));have C:Ih U g v9 (s++ [(max 0 (min m 99),max 0 (min j 99))]) 80:=by unfold Ih;rw[ZA,N.out,Zbe];exact r
   have B:0<=max 0 (min m 99)/\max 0 (min m 99)<=max 0 (min j 99)/\max 0 (min j 99)<=99:=o!
   obtain⟨g9,fJ,rfl⟩:=Zay r;have M:=Zd (ZY pY (ZY D (ZY C B)));clear pY D C B r V ac Em;go_roundg (c.base.length - (k+1))
   case rel=>exact⟨k+1,d5,_,_,s++ [(max 0 (min m 99),max 0 (min j 99))],Az,rfl,v!,by rw[ZA,N.out];rfl,rfl,o!,M.out.1,M.out.2.1,M.out.2.2.1,λp hp=>by rcases Zab.1 hp with h|h;exact rU p h;rw[Yh.1 h];exact M.out.2.2.2⟩
   case measure=>omega
  |true=>
   go_wp2_with (at_builtin;refine Yc _ rfl _ _ 23 rfl g 80 an (.agg #[.int .i64 0,.int .i64 0]) 2 16 (Cz Zdg) (Dz ap) be bc ba rfl d! (.slice J k I) k (s.flatMap λp=> [ZL .i64 p.1,.int .i64 p.2]) rfl (Ya rA _) V4 1 1 [.int .i64 (max 0 (min m 99)),.int .i64 (max 0 (min (j+1) 99))] rfl rfl (Hc _ _ _) (by intro u A;simp at A;rcases A with rfl|rfl<;>rfl) u! o! j! ?_;intro v9 U r V ac);have Em:=J3 rz;have pY:B3 b g U:=(co.below (bA (Zh _ _))).grown V λx a=>(Em x a).1;have D:BK U b lv d5:=(ld.alloc _).E4.of (V.block b (ld.alloc _).E4.lt (λe=>by have:=(Em b e.symm).1;omega));have C:Ih U g v9 (s++ [(max 0 (min m 99),max 0 (min (j+1) 99))]) 80:=by unfold Ih;rw[ZA,N.out,Zbe];exact r
   have B:0<=max 0 (min m 99)/\max 0 (min m 99)<=max 0 (min (j+1) 99)/\max 0 (min (j+1) 99)<=99:=o!
   obtain⟨g9,fJ,rfl⟩:=Zay r;have M:=Zd (ZY pY (ZY D (ZY C B)));clear pY D C B r V ac Em;go_roundg (c.base.length - (k+1))
   case rel=>exact⟨k+1,d5,_,_,s++ [(max 0 (min m 99),max 0 (min (j+1) 99))],Az,rfl,v!,by rw[ZA,N.out];rfl,rfl,o!,M.out.1,M.out.2.1,M.out.2.2.1,λp hp=>by rcases Zab.1 hp with h|h;exact rU p h;rw[Yh.1 h];exact M.out.2.2.2⟩
   omega
 have fx:k=c.base.length:=o!
 subst fx;have Jv:SP (TT w wr) wr (.slice J c.base.length I) s:=Sl.imp (AX.tt (.inr (.inr rfl))) (λx a=>a.mono o!) λ_ _ x=>x;have HF:=Zd (show afN w b lv d c.base.length (.returned (.slice J c.base.length I)) wr from⟨J,I,s,dk,by rw[N.out],⟨ai.trans z,oJ⟩,o!,by rw[N.out];exact Jv,vA N.out rU⟩);clear Jv AX rU z oJ Y;go_wp2;go_ret;exact HF.out
def c38 {b:Nat}(h:RC S w v1 v2 v3 v4 v5 c)(j:∀x,S x->x<w.heap.size/\x≠b)(g:SI Sn w lv nums)(u:∀x,Sn x->x<w.heap.size/\x≠b)(l:BK w b lv d)(i:d+1000<4611686018427387904)(k:H6 c):
  Calls Lp 38 #[.pointer b,.agg #[v1,v2,v3,v4,v5]] w (yr w b lv d c.base.length):=(ajL h j g u l i k).mono λe w' ⟨a,t,s,r,q,p,o,n,m⟩=>⟨a,t,s,r,q,p,o,Sl.imp n (λx f=>f.new) λ_ _ x=>x,m⟩
def adj:∀(l:List (Int×Int)) (i:Nat) (p:Int×Int),i<l.length->((l.flatMap λp=> [ZL .i64 p.1,.int .i64 p.2]).set (i*2) (.int .i64 p.1)).set (i*2+1) (.int .i64 p.2)=(l.set i p).flatMap λp=> [ZL .i64 p.1,.int .i64 p.2]
 | [],_,_,h=>h!
 |q::r,0,p,_=>rfl
 |q::r,i+1,p,h=>by
  have:=adj r i p (by simpa using h);rw[List.set_cons_succ,List.flatMap_cons,List.flatMap_cons, <-this,show(i+1)*2=i*2+1+1 by omega]
  rfl
def Ih.set {base:Nat}{l:List (Int×Int)}(h:Ih w base (.slice g n cap) l e)(hi:i<l.length)(p:Int×Int):
  Ih ((w.setCell ⟨g,i*2,none⟩ (.int .i64 p.1)).setCell ⟨g,i*2+1,none⟩ (.int .i64 p.2)) base (.slice g n cap) (l.set i p) e:=by
 obtain⟨o,m⟩:=h;rcases m with⟨a,_⟩|⟨r,s,q,a,k,j,f,d,c,b⟩
 .cases a
 cases a;refine⟨?_,.inr ⟨g,cap,_,by rw[ZcC],k,Ba (Ba j _) _,by simpa using f,d,by simpa using c,?_⟩⟩
 .rw[<-adj l i p hi]
  simpa using o
 rw[<-adj l i p hi];simp only[ZcM,ZcC,List.take_set];rw[b]
def adC:∀(l:List (Int×Int)) (i:Nat),i<l.length->(l.flatMap λp=> [ZL .i64 p.1,.int .i64 p.2])[i*2]?=some (.int .i64 (BV l i).1)/\(l.flatMap λp=> [ZL .i64 p.1,.int .i64 p.2])[i*2+1]?=some (.int .i64 (BV l i).2)
 | [],_,h=>h!
 |q::r,0,_=>⟨rfl,rfl⟩
 |q::r,i+1,h=>by
  have:=adC r i (by simpa using h);rw[show(i+1)*2=i*2+1+1 by omega];exact this
def Ih.at_ {base:Nat}{l:List (Int×Int)}(h:Ih w base v l e)(hi:i<l.length):
  ∃g cap b,v=.slice (some ⟨g,0,none⟩) l.length cap/\base<=g/\w.heap[g]?=some (.cells b e (0,0))/\i*2+1<b.size/\w.cell? ⟨g,i*2,none⟩=some (.int .i64 (BV l i).1)/\w.cell? ⟨g,i*2+1,none⟩=some (.int .i64 (BV l i).2):=by
 obtain⟨t,s⟩:=adC l i hi;obtain⟨a,c,n,_,_,k⟩:=JS h;obtain⟨D,m,_,x⟩:=k _ _ t;obtain⟨C,f,_,u⟩:=k _ _ s;rcases h.2 with⟨_,j⟩|⟨g,cap,b,j,r,q,p,z,o,y⟩
 .omega
 rw[j]at n
 injection n with d B A
 rw[m]at d
 injection d with d
 injection d with d
 subst d;rw[m]at f
 injection f with f
 injection f with f
 subst f;refine⟨g,cap,b,j,r,q,?_,x,u⟩;rw[o];have:=Zd8 2 (Zr hi p);omega
def Ih.at2 {base:Nat}{l:List (Int×Int)}(h:Ih w base (.slice g n cap) l e)(hi:i<l.length):
  ∃a,base<=g/\w.heap[g]?=some (.cells a e (0,0))/\i*2+1<a.size/\w.cell? ⟨g,i*2,none⟩=some (.int .i64 (BV l i).1)/\w.cell? ⟨g,i*2+1,none⟩=some (.int .i64 (BV l i).2):=by
 obtain⟨d,f,a,b,c⟩:=h.at_ hi
 injection b with b
 injection b with b
 injection b with b
 subst b;exact⟨a,c⟩
def c66 {a b:List (List Int)}(F:SL S w v a)(E:SL T w u b)(hS:Ql6 S w)(hT:∀x,T x->x<w.heap.size)(DU:∀l∈a,l∈b):
  Calls Lp 66 #[v,u] w λe w'=>e=.returned (.bool true)/\Qb6 w w':=by
 obtain⟨a1,c1,rfl,_⟩:=Sl.val F;obtain⟨a2,c2,rfl,_⟩:=Sl.val E;have IX:=DJ;have HA:=Zd (show∀W,Qb6 w W->SL (λx=>x<W.heap.size) W (.slice a1 a.length c1) a from λW c=>SL.imp (SL.later F c) λx f=>Zl (hS x f) c.size);have HB:=Zd (show∀W,Qb6 w W->SL (λx=>x<W.heap.size) W (.slice a2 b.length c2) b from λW c=>SL.imp (SL.later E c) λx f=>Zl (hT x f) c.size);have mG:=Zd DU;clear F E DU hS hT;go_enter Lp.func66,n66;go_wp2;go_loopg [5] a.length (λG i wr=>∃k:Nat,k<=a.length/\G=a.length - k/\i=.int .i64 k/\Qb6 w wr)
 case atStart=>exact⟨0,Zp _,rfl,rfl,Zh _ _⟩
 obtain⟨k,hk,rfl,rfl,n⟩:=hrel;by_cases L:k<a.length
 .have HM:=Zd (mG.out _ (Z3 (BJ L)))
  obtain⟨b6,Q,u,H,Xj,D,A⟩:=(HA.out _ n).at_ L;subst H;obtain⟨l,X⟩:=Qnm (BM a k);rw[<-X]at A HM;clear X;obtain⟨P,O,rfl,_⟩:=A.val;have J:=Zd (show∀W,Qb6 wr W->SI (λx=>x<W.heap.size) W (.slice P l.length O) l from λW c=>Sl.imp (A.later c) (λx (f:x<wr)=>by have:=c.size;show x<W;omega) λ_ _ x=>x);have K:=Zd (show∀W,Qb6 wr W->W.cell? ⟨b6,Q+k,none⟩=some (.slice P l.length O) from λW c=>(c.cell (p:=⟨b6,Q+k,none⟩) (ZH _ _ D)).trans D);have TB:(k:Int)<(a.length:Int):=o!
  clear A D;obtain⟨Z,hZ⟩:=Qnm wr;subst hZ;go_wp2;go_loopg [6,7] b.length (λG C i wx=>∃j:Nat,j<=b.length/\G=b.length - j/\i=.int .i64 j/\C=.bool ((b.take j).any (Ke l))/\Qb6 Z wx)
  case atStart=>exact⟨0,Zp _,rfl,rfl,rfl,Zh _ _⟩
  obtain⟨j,hj,rfl,rfl,rfl,o⟩:=hrel;by_cases g:j<b.length
  .have d:=Zd (show(b.take (j+1)).any (Ke l)=((b.take j).any (Ke l)||Ke l (BM b j)) by rw[ZbH,BJ g,List.any_append];simp)
   obtain⟨C,s⟩:=Qnm ((b.take j).any (Ke l));rw[<-s]at d⊢;clear s;obtain⟨b7,o7,u2,H,U3,R,B⟩:=(HB.out _ (bV n o)).at_ g;subst H;obtain⟨m,V⟩:=Qnm (BM b j);rw[<-V]at B d;clear V;obtain⟨ai,ac,rfl,_⟩:=B.val;have I:=Zd (λW (c:Qb6 wr W)=>c46 (w:=W) (J.out W (bV o c)) (Sl.imp (B.later c) (T:=λx=>x<W.heap.size) (λx (f:x<wr)=>by have:=c.size;show x<W;omega) λ_ _ x=>x) (λx f=>f) λx f=>f);obtain⟨r,U⟩:=Qnm (Ke l m);rw[<-U]at I d;clear U;have N:=λp=>Al p (K.out _ o);have M:=λp=>Al p R;have LZ:(j:Int)<(b.length:Int):=o!
   clear R B;cases C with
   |true=>
    go_wp2;refine Av k! k! ?_
    repeat (first|go_big_quiet_step (fail)|quiet_step (fail))
    refine Z4 ?_;rintro _ ⟨p,rfl⟩;have q:=AE wr p;obtain⟨Y,y⟩:=Qnm (calm wr p);rw[<-y]at q⊢;clear y N M;go_wp2;go_roundg (b.length - (j+1))
    case rel=>exact⟨j+1,g,rfl,v!,by rw[d.out];rfl,bV o q⟩
    case measure=>omega
   |false=>
    go_wp2;refine Av k! k! ?_
    repeat (first|go_big_quiet_step ((go_at_call 46;exact AV (I.out _ (AE _ _))))|quiet_step ((go_at_call 46;exact AV (I.out _ (AE _ _)))))
    refine Z4 ?_;rintro _ ⟨p,rfl⟩;have q:=AE wr p;obtain⟨Y,y⟩:=Qnm (calm wr p);rw[<-y]at q⊢;clear y N M;go_wp2;go_roundg (b.length - (j+1))
    case rel=>exact⟨j+1,g,rfl,v!,by rw[d.out];rfl,bV o q⟩
    omega
  have t:j=b.length:=o!
  have z:(b.take j).any (Ke l)=true:=by
   rw[t,ZcU,List.any_eq_true];exact⟨l,HM.out,decide_eq_true rfl⟩
  rw[z];clear z t;go_wp2;go_roundg (a.length - (k+1))
  case rel=>exact⟨k+1,L,rfl,v!,bV n o⟩
  omega
 go_wp2;go_ret;exact⟨rfl,n⟩
inductive HT
 |leaf
 |one (i:Nat) (r:HT)
 |free (i:Nat) (r:HT)
 |fork (i:Nat) (x:HT) (j:Nat) (y:HT)
def HT.len:HT->Nat
 | .leaf=>0
 | .one _ r=>r.len+1
 | .free _ r=>r.len+1
 | .fork _ x _ _=>x.len+1
section
variable {P:Zo}{ops:Array Oper}{Q:Exit->Act->Zb->Prop}{md:YO}{S:Zb->Prop}{T:Nat->Zb->Prop}
def acm (P:Zo)(b:Array Oper)(Q:Exit->Act->Zb->Prop)(S:Zb->Prop)(T:Nat->Zb->Prop):HT->Act->Zb->Prop
 | .leaf,a,w=>Q .normal a w
 | .one i r,a,w=>wpOp P b Q i (λa' w'=>T i w'/\acm P b Q S T r a' w') a w
 | .free i r,a,w=>S w/\∃o v,b[i]?=some o/\ZbF P b S o v a/\acm P b Q S T r (a.put o.dst v) w
 | .fork i x j y,a,w=>wpOp P b Q i (λa' w'=>T i w'/\acm P b Q S T x a' w') a w/\wpOp P b Q j (λa' w'=>T j w'/\acm P b Q S T y a' w') a w
def htB (b:YO)(a:Array Oper)(n:Nat)(lates:List Nat):HT->Array Bool->Bool
 | .leaf,listed=>(zs b a listed).isEmpty
 | .one i r,listed=>decide (zs b a listed=[i])&&htB b a n lates r (listed.setIfInBounds i true)
 | .free i r,listed=>(zs b a listed).contains i&&Za3 b a listed i&&pQ b a n lates i&&htB b a n lates r (listed.setIfInBounds i true)
 | .fork i x j y,listed=>decide (zs b a listed=[i,j])&&decide (x.len=y.len)&&htB b a n lates x (listed.setIfInBounds i true)&&htB b a n lates y (listed.setIfInBounds j true)
def acX {n:Nat}{lates:List Nat}(q:YF ops=true)(l:∀c a d v w,Q (.panic c) (Zck a d v) w->Q (.panic c) a w):
  ∀(t:HT) (listed:Array Bool) (a:Act) (w:Zb),Dn md ops listed->htB md ops n lates t listed=true->acm P ops Q S (FG lates S) t a w->Cy P md ops Q (FG lates S) t.len listed a w
 | .leaf,_,_,_,_,b,h=>⟨by simpa[htB]using b,h⟩
 | .one i r,listed,a,w,e,b,h=>by
  simp only[htB,ZF,decide_eq_true_eq]at b;refine⟨λm=>(by rw[b.1]at m;cases m),λj u=>?_⟩;have s:=u;rw[b.1]at u;have:j=i:=by simpa using u
  subst this;exact Zcc (λp w' x=>⟨x.1,acX q l r _ p w' (e.step s) b.2 x.2⟩) h
 | .free i r,listed,a,w,e,b,h=>by
  simp only[htB,ZF]at b;obtain⟨F,o,v,E,D,h⟩:=h;have A:i∈zs md ops listed:=by simpa using b.1.1.1
  exact Me (S:=S) (n:=n) (f:=r.len) E q (λc a w x=>l c a o.dst v w x) (λw x=>.inr x) (iw b.1.2) listed a w e b.1.1.2 A D F (acX q l r _ _ w (e.step A) b.2 h)
 | .fork i x j y,listed,a,w,e,b,h=>by
  simp only[htB,ZF,decide_eq_true_eq]at b;obtain⟨⟨⟨B,I⟩,H⟩,G⟩:=b;refine⟨λm=>(by rw[B]at m;cases m),λk g=>?_⟩;have C:=g;rw[B]at g;rcases List.mem_cons.1 g with rfl|g
  .exact Zcc (λp w' z=>⟨z.1,acX q l x _ p w' (e.step C) H z.2⟩) h.1
  have:k=j:=by simpa using g
  subst this;exact Zcc (λp w' z=>⟨z.1,by have:=acX q l y _ p w' (e.step C) G z.2;rwa[<-I]at this⟩) h.2
variable {a:Act}
def acv {id:Nat}{l:List Oper}(n:Nat)(lates:List Nat)(t:HT)(ls:List Nat)(i:P.follows .mixedOrders=true)(g:∀c a d v w,Q (.panic c) (Zck a d v) w->Q (.panic c) a w)
 (b:(YF l.toArray&&decide (t.len+ls.length=l.toArray.size)&&lsB .any l.toArray n lates (htB .any l.toArray n lates t) ls (Yu l.toArray.size false))=true) (j:S w.drew)
 (h:MQ P l.toArray S (λa'=>acm P l.toArray Q S (FG lates S) t a' w.drew) ls a):(zU id l.toArray true).wp P Q a w:=by
 simp only[ZF,decide_eq_true_eq]at b;refine Zd5 i (JV (T:=FG lates S) _ _ _ _ ?_);have e:Dn .any l.toArray (Yu l.toArray.size false):=λk ok _ f=>by
  rw[show(Yu l.toArray.size false).getD k false=false by unfold Array.getD;split<;>simp]at f;cases f
 have:=Vd b.1.1 g j (λlisted a m p o=>acX b.1.1 g t listed a w.drew m p o) ls _ a e b.2 h;rw[b.1.2]at this;exact this
variable {r:HT}
variable {o:Oper}
def af1 (b:ops[i]?=some o)(c:o.guard=none)(h:o.wp P a w (λa' w'=>T i w'/\acm P ops Q S T r a' w') Q):acm P ops Q S T (.one i r) a w:=by
 unfold acm wpOp;simp only[b];rw[if_pos (by simp[Yf,c])];exact .inl h
def adu (c:ops[i]?=some o)(d:o.guard=none)(b:(Zby a.eval o).run P w=.ok (.value v) w')(e:T i w')
 (h:acm P ops Q S T r (a.put o.dst v) w'):acm P ops Q S T (.one i r) a w:=by
 refine af1 c d ?_;unfold ZbA;rw[b,Zdi];exact⟨e,h⟩
def ad1 {f:ZaQ}{args:Array Zf}(c:ops[i]?=some o)(d:o.guard=none)(b:(Zby a.eval o).run P w=.ok (.enter f args) w)
 (g:Calls P f args w λe w'=>(∃v,e=.returned v/\T i w'/\acm P ops Q S T r (a.put o.dst v) w')\/∃x,e=.panicked x/\Q (.panic x) a w'):acm P ops Q S T (.one i r) a w:=by
 refine af1 c d ?_;unfold ZbA;rw[b,Zdj];refine g.mono λe w' h=>?_;rcases h with⟨v,rfl,h⟩|⟨x,rfl,h⟩
 .exact h
 exact h
def ad0 (c:ops[i]?=some o)(d:o.guard=none)(b:(Zby a.eval o).run P w=.ok .skip w')(e:T i w')
 (h:acm P ops Q S T r (a.put o.dst Ze) w'):acm P ops Q S T (.one i r) a w:=by
 refine af1 c d ?_;unfold ZbA;rw[b,ZcQ];exact⟨e,h⟩
def aca (e:S w)(c:ops[i]?=some o)(d:o.guard=none)(b:∀w,S w->(Zby a.eval o).run P w=.ok (.value v) w)
 (h:acm P ops Q S T r (a.put o.dst v) w):acm P ops Q S T (.free i r) a w:=
 ⟨e,o,v,c,.inl ⟨by simp[Yf,d],b⟩,h⟩
end
section
variable {P:Zo}{ops:Array Oper}{Q:Exit->Act->Zb->Prop}{md:YO}{S:Zb->Prop}{T:Nat->Zb->Prop}
def ivB (b:YO)(a:Array Oper)(p:Array Bool->Nat->Bool)(last:Array Bool->Bool):Nat->Array Bool->Bool
 |0,listed=>(zs b a listed).isEmpty&&last listed
 |f+1,listed=> !(zs b a listed).isEmpty&&(zs b a listed).all λi=>p listed i&&ivB b a p last f (listed.setIfInBounds i true)
def ado {p:Array Bool->Nat->Bool}{last:Array Bool->Bool}{I:Array Bool->Act->Zb->Prop}(c:∀listed i a w,p listed i=true->I listed a w->wpOp P ops Q i (λa' w'=>T i w'/\I (listed.setIfInBounds i true) a' w') a w)
  (d:∀listed a w,last listed=true->I listed a w->Q .normal a w):∀(f:Nat) (listed:Array Bool) (a:Act) (w:Zb),ivB md ops p last f listed=true->I listed a w->Cy P md ops Q T f listed a w
 |0,listed,a,w,b,h=>by
  simp only[ivB,ZF]at b;exact⟨by simpa using b.1,d _ _ _ b.2 h⟩
 |f+1,listed,a,w,b,h=>by
  simp only[ivB,ZF,Zdm]at b;refine⟨λj=>?_,λi hi=>?_⟩
  .have:=b.1
   rw[j]at this;cases this
  obtain⟨g,e⟩:=b.2 i hi;exact Zcc (λa' w' x=>⟨x.1,ado c d f _ a' w' e x.2⟩) (c _ _ _ _ g h)
variable {a:Act}
def adv {id:Nat}{l:List Oper}(ls:List Nat)(g:Nat)(b:Array Bool)(p:Array Bool->Nat->Bool)(last:Array Bool->Bool)(I:Array Bool->Act->Zb->Prop)(j:P.follows .mixedOrders=true)(m:∀c a d v w,Q (.panic c) (Zck a d v) w->Q (.panic c) a w)
 (s:(YF l.toArray&&decide (g+ls.length=l.toArray.size)&&ltB .any l.toArray [] (λL=>L==b) ls (Yu l.toArray.size false))=true) (k:S w.drew) (q:ivB .any l.toArray p last g b=true)
 (n:∀listed i a w,p listed i=true->I listed a w->wpOp P l.toArray Q i (λa' w'=>S w'/\I (listed.setIfInBounds i true) a' w') a w) (y:∀listed a w,last listed=true->I listed a w->Q .normal a w)
 (h:MQ P l.toArray S (λa'=>I b a' w.drew) ls a):(zU id l.toArray true).wp P Q a w:=by
 refine G6 ls g b j m s k ?_;have e:∀(ls:List Nat) (a:Act),MQ P l.toArray S (λa'=>I b a' w.drew) ls a->MQ P l.toArray S (λa'=>Cy P .any l.toArray Q (λ_=>S) g b a' w.drew) ls a:=by
  intro ls
  induction ls with
  |nil=>exact λa h=>ado n y g b a w.drew q h
  |cons i r f=>exact λa ⟨o,v,x,u,t⟩=>⟨o,v,x,u,f _ t⟩
 exact e ls a h
def af4 {listed:Array Bool}(h:(listed.setIfInBounds i true).getD j false=true):j=i\/listed.getD j false=true:=by
 by_cases e:i=j
 .exact .inl e.symm
 rw[Zde false e]at h;exact .inr h
end
section
variable {P:Zo}{ops:Array Oper}{Q:Exit->Act->Zb->Prop}{md:YO}{S aa1:Zb->Prop}{T:Nat->Zb->Prop}{U:Nat->Zb->Zb->Prop}
def acY (P:Zo)(c:YO)(b:Array Oper)(Q:Exit->Act->Zb->Prop)(U:Nat->Zb->Zb->Prop):Nat->Array Bool->Act->Zb->Prop
 |0,listed,a,w=>zs c b listed=[]/\Q .normal a w
 |f+1,listed,a,w=>(zs c b listed=[]->Q .normal a w)/\∀i∈zs c b listed,wpOp P b Q i (λa' w'=>U i w w'/\acY P c b Q U f (listed.setIfInBounds i true) a' w') a w
def adk:∀(f:Nat) (listed:Array Bool) (a:Act) (w:Zb),acY P md ops Q U f listed a w->wpAny P md ops Q f listed a w
 |0,_,_,_,h=>h
 |f+1,_,_,_,h=>⟨h.1,λi hi=>Zcc (λa' w' x=>adk f _ a' w' x.2) (h.2 i hi)⟩
def ad7 {d:Oper}(hi:ops[i]?=some d)(R:YF ops=true)(Y:∀c a w,Q (.panic c) (a.put d.dst v) w->Q (.panic c) a w)
 (F:∀w,S w->U i w w) (M:∀j,MS md ops n j i=true\/∀w w',S w->U j w w'->S w'):
  ∀(f:Nat) (listed:Array Bool) (a:Act) (w:Zb),Dn md ops listed->Za3 md ops listed i=true->i∈zs md ops listed->ZbF P ops S d v a->S w->
   acY P md ops Q U f (listed.setIfInBounds i true) (a.put d.dst v) w->acY P md ops Q U (f+1) listed a w:=by
 have J:=Zdx R;have y:∀(f:Nat) (listed:Array Bool) (a:Act) (w:Zb),Dn md ops listed->(∀j l,ops[j]?=some l->j≠i->listed.getD j true=false->(∀e∈l.after,Yk md e=true->e.on≠i)->d.apart ops l=true)->
   i∈zs md ops listed->ZbF P ops S d v a->S w->acY P md ops Q U f (listed.setIfInBounds i true) (a.put d.dst v) w->acY P md ops Q U (f+1) listed a w:=by
  intro f
  induction f with
  |zero=>
   intro listed a w _ _ m t p H;refine⟨λh=>(by rw[h]at m;cases m),λj q=>?_⟩;by_cases g:j=i
   .subst g;exact t.wpOp hi p ⟨F _ p,H⟩
   .have:=ZbO q g
    rw[H.1]at this;cases this
  |succ f O=>
   intro listed a w u I m t p H;refine⟨λh=>(by rw[h]at m;cases m),λj q=>?_⟩;by_cases g:j=i
   .subst g;exact t.wpOp hi p ⟨F _ p,H⟩
   have h1:=H.2 j (ZbO q g);obtain⟨D,l,s,K⟩:=ZcY.1 q;have r:listed.getD i true=false:=(ZcY.1 m).1;have z:listed.getD i false=false:=Vb r;have L:∀e∈l.after,Yk md e=true->e.on≠i:=λe W X A=>by
    have:=K e W X;rw[A,z]at this;cases this
   have N:∀w',U j w w'->S w':=λw'=>(M j).resolve_left (by
    rw[u.closed r n j λo E=>by rw[s]at E;cases E;exact K]
    decide) w w' p
   have Z:=wpOp_putIf s (I j l s g D L) (λB b=>J i d B b hi) (λB b=>J j l B b s) Y t h1;have eJ:∀k ok,ops[k]?=some ok->k≠i->(listed.setIfInBounds j true).getD k true=false->
     (∀e∈ok.after,Yk md e=true->e.on≠i)->d.apart ops ok=true:=λk ok T TB C KJ=>by
    refine I k ok T TB ?_ KJ;by_cases G:j=k
    .subst G;exact D
    rw[Zde true G]at C;exact C
   refine Zcc (λa' w' x=>⟨x.2.1,O (listed.setIfInBounds j true) a' w' (u.step q) eJ (ZbO m (Za0 g)) x.1 (N _ x.2.1) ?_⟩) Z;rw[Zdb _ _ g];exact x.2.2
 intro f listed a w u V;exact y f listed a w u (Region.free_spec hi V)
def adw (lates a:List Nat)(S aa1:Zb->Prop)(i:Nat)(w:Zb):Prop:=lates.contains i=true\/(S w/\(a.contains i=true->aa1 w))
def aef (a:List Nat)(T:Nat->Zb->Prop)(i:Nat)(w w':Zb):Prop:=(a.contains i=false/\w'=w)\/(a.contains i=true/\T i w')
def huB (c:YO)(a:Array Oper)(n:Nat)(lates b:List Nat):HT->Array Bool->Bool
 | .leaf,listed=>(zs c a listed).isEmpty
 | .one i r,listed=>decide (zs c a listed=[i])&&b.contains i&&huB c a n lates b r (listed.setIfInBounds i true)
 | .free i r,listed=>(zs c a listed).contains i&&Za3 c a listed i&&pQ c a n lates i&& !b.contains i&&huB c a n lates b r (listed.setIfInBounds i true)
 | .fork _ _ _ _,_=>false
def ad8 {n:Nat}{lates e k:List Nat}(s:YF ops=true)(q:∀c a d v w,Q (.panic c) (Zck a d v) w->Q (.panic c) a w):
  ∀(t:HT) (listed:Array Bool) (a:Act) (w:Zb),Dn md ops listed->huB md ops n lates k t listed=true->acm P ops Q S (adw lates e S aa1) t a w->acY P md ops Q (aef k (adw lates e S aa1)) t.len listed a w
 | .leaf,_,_,_,_,b,h=>⟨by simpa[huB]using b,h⟩
 | .one i r,listed,a,w,l,b,h=>by
  simp only[huB,ZF,decide_eq_true_eq]at b;refine⟨λy=>(by rw[b.1.1]at y;cases y),λj g=>?_⟩;have p:=g;rw[b.1.1]at g;have:j=i:=by simpa using g
  subst this;exact Zcc (λD w' x=>⟨.inr ⟨b.1.2,x.1⟩,ad8 s q r _ D w' (l.step p) b.2 x.2⟩) h
 | .free i r,listed,a,w,l,b,h=>by
  simp only[huB,ZF,ZcF]at b;obtain⟨C,o,v,B,z,h⟩:=h;have u:i∈zs md ops listed:=by simpa using b.1.1.1.1
  exact ad7 (S:=S) (n:=n) (f:=r.len) B s (λc a w x=>q c a o.dst v w x) (λw _=>.inl ⟨b.1.2,rfl⟩)
   (λj=>by
    by_cases g:lates.contains j=true
    .exact .inl (Zdm.1 b.1.1.2 j (by simpa using g))
    refine .inr λw w' A m=>?_;rcases m with⟨_,rfl⟩|⟨_,m⟩
    .exact A
    exact(m.resolve_left g).1)
   listed a w l b.1.1.1.2 u z C (ad8 s q r _ _ w (l.step u) b.2 h)
 | .fork _ _ _ _,_,_,_,_,b,_=>by cases b
def l2B (d:YO)(a:Array Oper)(n:Nat)(c:Nat->Bool)(b:List Nat)(next:Array Bool->Bool):List Nat->Array Bool->Bool
 | [],listed=>next listed
 |i::r,listed=>(zs d a listed).contains i&&Za3 d a listed i&&(b.all λj=>c j||MS d a n j i)&& !b.contains i&&l2B d a n c b next r (listed.setIfInBounds i true)
def ad9 {R:Zb->Prop}{n:Nat}{c:Nat->Bool}{b:List Nat}{w:Zb}{next:Array Bool->Bool}{K:Act->Prop}{g:Nat}(A:YF ops=true)(y:∀c a d v w,Q (.panic c) (Zck a d v) w->Q (.panic c) a w)(u:R w)
  (t:∀j w,c j=true->T j w->R w)
  (z:∀listed a,Dn md ops listed->next listed=true->K a->acY P md ops Q (aef b T) g listed a w):
  ∀(ls:List Nat) (listed:Array Bool) (a:Act),Dn md ops listed->l2B md ops n c b next ls listed=true->MQ P ops R K ls a->acY P md ops Q (aef b T) (g+ls.length) listed a w
 | [],listed,a,m,e,h=>z listed a m e h
 |i::r,listed,a,m,e,h=>by
  simp only[l2B,ZF,ZcF]at e;obtain⟨o,v,C,B,h⟩:=h;have q:i∈zs md ops listed:=by simpa using e.1.1.1.1
  exact ad7 (S:=R) (n:=n) (f:=g+r.length) C A (λc a w x=>y c a o.dst v w x) (λw _=>.inl ⟨e.1.2,rfl⟩)
   (λj=>by
    by_cases s:b.contains j=true
    .have l:=Zdm.1 e.1.1.2 j (by simpa using s)
     simp only[ZaK]at l;rcases l with l|l
     .refine .inr λw w' p k=>?_
      rcases k with⟨_,rfl⟩|⟨_,k⟩
      .exact p
      exact t j _ l k
     exact .inl l
    refine .inr λw w' p k=>?_;rcases k with⟨_,rfl⟩|⟨k,_⟩
    .exact p
    exact absurd k s)
   listed a w m e.1.1.1.2 q B u (ad9 A y u t z r _ _ (m.step q) e.2 h)
variable {a:Act}
def ady {id:Nat}{l:List Oper}(n:Nat)(lates b i:List Nat)(t:HT)(e f:List Nat)(z:P.follows .mixedOrders=true)(p:∀c a d v w,Q (.panic c) (Zck a d v) w->Q (.panic c) a w)
 (o:(YF l.toArray&&decide (t.len+f.length+e.length=l.toArray.size)&&l2B .any l.toArray n (λj=> !lates.contains j) i (l2B .any l.toArray n (λj=> !lates.contains j&&b.contains j) i (huB .any l.toArray n lates i t) f) e (Yu l.toArray.size false))=true)
 (A:S w.drew) (y:aa1 w.drew)
 (h:MQ P l.toArray S (λu=>MQ P l.toArray aa1 (λs=>acm P l.toArray Q S (adw lates b S aa1) t s w.drew) f u) e a):(zU id l.toArray true).wp P Q a w:=by
 simp only[ZF,decide_eq_true_eq]at o;refine Zd5 z (adk (U:=aef i (adw lates b S aa1)) _ _ _ _ ?_);have q:Dn .any l.toArray (Yu l.toArray.size false):=λk ok _ x=>by
  rw[show(Yu l.toArray.size false).getD k false=false by unfold Array.getD;split<;>simp]at x;cases x
 have:=ad9 (R:=S) o.1.1 p A (λj w g m=>(m.resolve_left (by simpa using g)).1) (λlisted u r g m=>ad9 (R:=aa1) o.1.1 p y (λj w g m=>by
   simp only[ZF,ZcF]at g;exact(m.resolve_left (by rw[g.1];decide)).2 g.2) (λlisted s r g m=>ad8 o.1.1 p t listed s w.drew r g m) f _ u r g m) e _ a q o.2 h
 rw[o.1.2]at this;exact this
end
def adp {hook m:Int}{p:Int×Int}:∀(n:Nat) (b:Int),NV hook m p n b=true↔∀x,b<=x->x<b+n->Gu hook m x p=true
 |0,b=>⟨λ_ x c a=>absurd a o!,λ_=>rfl⟩
 |n+1,b=>by
  unfold NV;rw[ZF,adp n (b+1)];constructor
  .rintro⟨c,a⟩ x f d
   by_cases e:x=b
   .rw[e];exact c
   exact a x o! o!
  intro h;exact⟨h b (Int.le_refl _) o!,λx f d=>h x o! o!⟩
variable {p:Int×Int}
def ad4 {c a m:Int}{q r t:Int×Int}(f:r.1<=t.1/\t.2<=r.2)(d:∀b,Gu c m b p=true->Gu a m b q=true)(h:F0 c m p r=true):F0 a m q t=true:=by
 unfold F0 at h⊢;rw[adp]at h⊢;intro x g e;exact d x (h x o! o!)
def adM {hook m b:Int}{q:Int×Int}(h:q.1<=p.1/\p.2<=q.2)(a:Gu hook m b p=true):Gu hook m b q=true:=by
 unfold Gu Iu at a⊢;simp only[ZaK,ZF,decide_eq_true_eq]at a⊢;omega
def aeC {k m b:Int}(a:Gu 0 m b p=true):Gu k m b p=true:=by
 unfold Gu Iu at a⊢;simp only[ZaK,ZF,decide_eq_true_eq]at a⊢;omega
def adq {c:A_}{m:Nat->Int}:∀(s:List (Int×Int)) (i:Nat),SV c m i s=true↔∀j,j<s.length->F0 (nth c.hooks (i+j)) (m (i+j)) (BV c.Af (i+j)) (BV s j)=true
 | [],i=>⟨λ_ j a=>absurd a (ZbY _),λ_=>rfl⟩
 |r::s,i=>by
  unfold SV;rw[ZF,adq s (i+1)];constructor
  .rintro⟨d,b⟩ j a
   cases j with
   |zero=>exact d
   |succ j=>rw[show i+(j+1)=i+1+j by omega];exact b j (by simpa using a)
  intro h;exact⟨h 0 (Nat.succ_pos _),λj a=>by have:=h (j+1) (by simpa using a);rw[show i+(j+1)=i+1+j by omega]at this;exact this⟩
def ad2 {d:A_}{t:List (Int×Int)}(b:measure d l=measure c l)(hl:t.length=s.length)
 (h:∀j,j<s.length->F0 (nth c.hooks j) (measure c l j) (BV c.Af j) (BV s j)=true->F0 (nth d.hooks j) (measure c l j) (BV d.Af j) (BV t j)=true) (a:BZ c l s=true):BZ d l t=true:=by
 unfold BZ at a⊢;rw[adq]at a⊢;intro j e;have:=h j o! (by have:=a j o!;rwa[zN]at this);rw[zN,b];exact this
def adg {l:List (Int×Int)}:BV (l.set k p) j=if j=k/\k<l.length then p else BV l j:=by
 unfold BV;by_cases e:j=k
 .subst e
  by_cases a:j<l.length
  .simp[Y6,a]
  simp[Y6,a]
 rw[if_neg (λx=>e x.1),Y6,ZS (λx=>e x.symm),Y6]
def aej {p:Int}:nth (l.set k p) j=if j=k/\k<l.length then p else nth l j:=by
 unfold nth;by_cases e:j=k
 .subst e
  by_cases a:j<l.length
  .simp[Y6,a]
  simp[Y6,a]
 rw[if_neg (λx=>e x.1),Y6,ZS (λx=>e x.symm),Y6]
def aeD (a:(BV s k).1<=x):∀l∈lF c s,l∈lF c (s.set k (x,(BV s k).2)):=λl d=>by
 obtain⟨f,e⟩:=List.mem_filter.1 d;refine List.mem_filter.2 ⟨f,ad2 rfl ZcC (λj g b=>ad4 ?_ (λ_ h=>h) b) e⟩;rw[adg];split
 .next h=>rw[h.1];exact⟨a,Int.le_refl _⟩
 exact⟨Int.le_refl _,Int.le_refl _⟩
def aeF {y:Int}(a:x<=(BV c.Af k).1/\(BV c.Af k).2<=y):∀l∈lF c s,l∈lF {c with Af:=c.Af.set k (x,y)} s:=λl f=>by
 obtain⟨m,i⟩:=List.mem_filter.1 f;refine List.mem_filter.2 ⟨m,ad2 (c:=c) (d:= {c with Af:=c.Af.set k (x,y)}) rfl rfl (λj n e=>ad4 ⟨Int.le_refl _,Int.le_refl _⟩ (λb g=>adM ?_ g) e) i⟩;show(BV (c.Af.set k (x,y)) j).1<=_/\_<=(BV (c.Af.set k (x,y)) j).2;rw[adg];split
 .next h=>rw[h.1];exact a
 exact⟨Int.le_refl _,Int.le_refl _⟩
def adN (m:nth c.hooks k=0):∀l∈lF c s,l∈lF {c with hooks:=c.hooks.set k x} s:=λl f=>by
 obtain⟨i,g⟩:=List.mem_filter.1 f;refine List.mem_filter.2 ⟨i,ad2 (c:=c) (d:= {c with hooks:=c.hooks.set k x}) rfl rfl (λj n e=>ad4 ⟨Int.le_refl _,Int.le_refl _⟩ (λb a=>?_) e) g⟩;show Gu (nth (c.hooks.set k x) j) _ b _=true;rw[aej];split
 .next h=>
  rw[h.1]at a⊢;rw[m]at a;exact aeC a
 exact a
def adl:∀(l:List Int) (a b:List Ay) (m:Nat->Int),ac7 a=ac7 b->Iw m (l.zip a)=Iw m (l.zip b)
 | [],_,_,_,_=>rfl
 |_::_,[],[],_,_=>rfl
 |_::_,[],_::_,_,h=>h!
 |_::_,_::_,[],_,h=>h!
 |x::l,s::a,t::b,m,h=>by
  have e: {s with left:=0}= {t with left:=0}:=(zL h).1;have d:ac7 a=ac7 b:=(zL h).2;have c:s.Ap=t.Ap:=by have:=congrArg Ay.Ap e;exact this
  show Iw (CZ m x s.Ap) (l.zip a)=Iw (CZ m x t.Ap) (l.zip b);rw[c];exact adl l a b _ d
def adr:∀(a b:List Ay),ac7 a=ac7 b->EZ a=EZ b
 | [],[],_=>rfl
 | [],_::_,h=>h!
 |_::_,[],h=>h!
 |s::a,t::b,h=>by
  have c: {s with left:=0}= {t with left:=0}:=(zL h).1;have d:s.low=t.low:=by have:=congrArg Ay.low c;exact this
  have e:s.high=t.high:=by have:=congrArg Ay.high c;exact this
  unfold EZ;rw[d,e,adr a b (zL h).2]
def adO (g:n<c.Aa.length)(u:(Aj c.Aa n).left<=x):∀l∈lF c s,l∈lF {c with Aa:=acQ c.Aa n x} s:=λl o=>by
 obtain⟨t,r⟩:=List.mem_filter.1 o;obtain⟨q,b⟩:=List.mem_filter.1 t;have f:=adi g x;refine List.mem_filter.2 ⟨List.mem_filter.2 ⟨?_,?_⟩,ad2 (c:=c) (d:= {c with Aa:=acQ c.Aa n x}) ?_ rfl (λj v m=>m) r⟩
 .show l∈EZ (acQ c.Aa n x)
  rw[adr _ _ f];exact q
 .unfold Ev at b⊢
  have k:DS {c with Aa:=acQ c.Aa n x} l=DS c l:=by
   show Cx (Ax (acQ c.Aa n x)) c.now l=Cx (Ax c.Aa) c.now l;rw[adL f]
  rw[k];unfold JU at b⊢;rw[Option.isNone_iff_eq_none,List.find?_eq_none]at b⊢;intro i p a;refine b i p ?_;unfold SU at a⊢;rw[decide_eq_true_eq]at a⊢;change(Aj (acQ c.Aa n x) i.toNat).left<1 at a;rw[ae5 g]at a;split at a
  .next e=>rw[e];have:x<1:=a;omega
  exact a
 show Iw (λj=>nth c.base j) (l.zip (acQ c.Aa n x))=Iw (λj=>nth c.base j) (l.zip c.Aa);exact adl _ _ _ _ f
def adP (h:H6 c){e:List (Int×Int)}(hl:e.length=c.Af.length)(d:∀p∈e,-9<=p.1/\p.1<=p.2/\p.2<=9):BN {c with Af:=e}=0:=by
 unfold BN Dq;have m:Di (c.base.length:Int) 3=0:=Oe (by have:=h.Fp;omega);have l:Bc (Fo 1 60) c.base=0:=F5 λx a=>Rm (by have:=h.base x a;omega);have j:Bc (λp=>CV p (-9) 9) e=0:=F5 λp b=>Tb (by have:=d p b;omega);have i:Bc (Fo 0 5) c.hooks=0:=F5 λx a=>Rm (h.hook x a);have g:Di (c.Aa.length:Int) 3=0:=Oe (by have:=h.few;omega);have f:JP {c with Af:=e}=0:=by
  unfold JP;exact J0 λk x a=>by rw[zN];exact h.EF (Zm.1 a).1
 dsimp only;rw[BR m,BR l,if_neg (λx=>x (hl.trans h.PN)),BR j,if_neg (λx=>x h.hooks),BR i,BR g,BR f,if_pos h.H0];exact iH h.now
def adQ (h:H6 c){e:List Int}(hl:e.length=c.hooks.length)(a:∀x∈e,0<=x/\x<=5):H6 {c with hooks:=e}:=
 ⟨h.Fp,h.base,h.PN,h.Af,hl.trans h.hooks,a,h.few,h.seam,h.way,h.now⟩
def B3.aj4 {b:Nat}(h:Qb6 w A)(c:B3 b A B)(d:w<=b):Qb6 w B:=h.trans ((c.CN (K:=λx=>x=b) rfl).below (λx a=>by have:x=b:=a;omega) h.size)
def af5 (f:JP c=0):∀s∈c.Aa,s.over.Pairwise (· < ·)/\∀x∈s.over,0<=x/\x<c.Aa.length:=λs d=>by
 obtain⟨k,a,e⟩:=Zas d;have h:=Gs f k s (by rw[zf a,e]);rw[zN]at h;unfold EF at h;have b:=(Bj (Bj (Bj (Bj h).2).2).2).1;have g:Aj c.Aa k=s:=by
  have:=Db a;rw[zf a,e]at this;exact(ZW this).symm
 rw[g]at b;exact aeV b
structure agc (c:A_):Prop where
 base:c.base.length<=20
 Af:c.Af.length<=20
 hooks:c.hooks.length<=20
 Aa:c.Aa.length<=20
 now:c.now.length<=20
 part:∀i,i<c.Aa.length->(Aj c.Aa i).Ap.length<=20/\(Aj c.Aa i).over.length<=20
def Dis (u v:Zf):Prop:=∀g,u.ownBlock=some g->v.ownBlock=some g->False
def acZ {base:Nat}(h:A.ownsRow base e k v n xs):∀g,v.ownBlock=some g->g<A.heap.size:=λg a=>by
 obtain⟨_,b,h⟩:=J3 h g a;exact(Za.1 h).1
def adz {base n' k':Nat}{e':Zs}{v':Zf}{a:List Zf}(h:A.ownsRow base e k v n xs)(c:B.ownsRow A e' k' v' n' a):Dis v v':=λg b d=>by
 have i:=acZ h g b;have f:=(J3 c g d).1;omega
variable {cs:Array Zf}
def aci {base:Nat}{t:Zs}(h:A.ownsRow base e k v n xs)(d:Ak (λx=>x=q) A B)(b:A.heap[q]?=some (.cells cs t (0,0)))(c:e≠t):B.ownsRow base e k v n xs:=
 Fc h d λx g a f=>by
  subst f;rw[b]at a;cases a;exact c rfl
def adh {base:Nat}(h:A.ownsRow base e k v n xs)(d:Ak (λx=>u.ownBlock=some x) A B)(a:∀g,u.ownBlock=some g->∃cs,A.heap[g]?=some (.cells cs 62 (0,0)))(c:e≠62):B.ownsRow base e k v n xs:=
 Fc h d λx i b f=>by
  obtain⟨cs,a⟩:=a x f;rw[a]at b;cases b;exact c rfl
def acs {base a:Nat}(h:A.ownsRow base e k v n xs)(d:a<=base):A.ownsRow a e k v n xs:=by
 refine⟨h.1,?_⟩;rcases h.2 with b|⟨g,cap,c,b,i,f⟩
 .exact .inl b
 exact .inr ⟨g,cap,c,b,Zr d i,f⟩
structure CSp (n M:Nat)(w:Zb)(u1 u2 u3 u4 u5:Zf)(c:A_):Prop where
 base:Own w n u1 c.base
 Af:Ih w n u2 c.Af 80
 hooks:Own w n u3 c.hooks
 now:Own w n u5 c.now
 row:En M w M u4 c.Aa
 le:n<=M
 l1:∀g,u1.ownBlock=some g->g<M
 l2:∀g,u2.ownBlock=some g->g<M
 l3:∀g,u3.ownBlock=some g->g<M
 l5:∀g,u5.ownBlock=some g->g<M
 d13:Dis u1 u3
 d15:Dis u1 u5
 d35:Dis u3 u5
def adA (w:Zb)(c:A_)(e:Ending)(w':Zb):Prop:=∃u1 u2 u3 u4 u5 M,e=.returned (.agg #[u1,u2,u3,u4,u5])/\Qb6 w w'/\CSp w M w' u1 u2 u3 u4 u5 c
def adR {l:List (Int×Int)}{news:List Zf}(a:news.length=l.length*2)(h:∀i x,l[i]?=some x->(news.drop (i*2)).take 2=[.int .i64 x.1,.int .i64 x.2]):news=l.flatMap λp=> [ZL .i64 p.1,.int .i64 p.2]:=by
 induction l generalizing news with
 |nil=>exact YM (by simpa using a)
 |cons p l c=>
  have b:=h 0 p rfl;rw[Nat.zero_mul,List.drop_zero]at b;rw[List.flatMap_cons, <-b, <-c (news:=news.drop 2) (by rw[List.length_drop,a,zb];omega) λi x d=>by
   rw[List.drop_drop,show 2+i*2=(i+1)*2 by omega];exact h (i+1) x (by simpa using d)]
  exact(List.take_append_drop 2 news).symm
def aib {l:List (Int×Int)}(h:Sl S Rp 2 w v l)(n:l.length<=1000):Calls Lp 40 #[v] w λe w'=>∃u,e=.returned u/\Qb6 w w'/\Ih w' w u l 80:=by
 obtain⟨a,c,rfl,O,N⟩:=h.val;obtain⟨t,C,J,L,K⟩:=zp Wu;have y:=Cz Zdg;cases a with
 |none=>
  have z:l=[]:=by
   cases l with
   |nil=>rfl
   |cons x r=>
    obtain⟨Q,P,m,_,_,E⟩:=h;cases m;obtain⟨b,o,cs,e,_⟩:=E 0 x rfl;cases e
  subst z;go_enter Lp.func40,n40;go_wp2;go_ret;exact⟨_,rfl,bA (Zh _ _),YC w #[] 0 (Zj _) (Zp _) rfl⟩
 |some q=>
  obtain⟨d,g,i,p⟩:=Sl.row h d! q rfl;have m:=row_one d! g i bC;have H:=Zd p;have F:=Zd i;clear p i;go_enter Lp.func40,n40;go_wp2_with (at_builtin;refine Yc _ rfl _ _ 23 rfl w 80 t (.agg #[.int .i64 0,.int .i64 0]) 2 16 y (Dz C) J L K rfl d! _ 0 [] rfl (YC w #[] 0 (Zj _) (Zp _) rfl) q l.length c d rfl g (λj u B=>ca (H.out j u B) _) m u! o! i! ?_;intro M w1 f s I);have D:Qb6 w w1:=Bm (bA (Zh _ _)) s (λk A=>by cases A;exact Zj _) i!;rw[zN,zP]at f;rw[adR g F.out]at f;have G:=Zd f;clear f s I;go_ret;exact⟨_,rfl,D,G.out⟩
structure CRs (w:Zb)(n0 M q:Nat)(xs:Array Zf)(s1 s2 s3 s5:Zf)(c:A_)(k:Nat)(v4:Zf)(wr:Zb):Prop where
 below:Qb6 w wr
 box:wr.heap[w.heap.size]?=some (.cells xs 26 (0,0))
 res:wr.heap[w.heap.size+1]?=some (.cells Qz6 26 (0,0))
 qx:wr.heap[q]?=some (.cells #[s1,s2,s3,v4,s5] 26 (0,0))
 base:Own wr n0 s1 c.base
 Af:Ih wr n0 s2 c.Af 80
 hooks:Own wr n0 s3 c.hooks
 now:Own wr n0 s5 c.now
 row:En M wr M v4 (c.Aa.take k)
 z:M<=wr.heap.size
def ajN (h:RC S w v1 v2 v3 v4 v5 c)(hS:Ql6 S w)(ig:c.base.length<=1000)(bv:c.Af.length<=1000)(bi:c.hooks.length<=1000)(Xm:c.Aa.length<=1000)(UO:c.now.length<=1000)(xB:∀i,i<c.Aa.length->(Aj c.Aa i).Ap.length<=1000/\(Aj c.Aa i).over.length<=1000):
  Calls Lp 33 #[.agg #[v1,v2,v3,v4,v5]] w (adA w c):=by
 obtain⟨a1,c1,a2,c2,a3,c3,a4,c4,a5,c5,rfl,rfl,rfl,rfl,rfl,l1,m1,l2,m2,l3,m3,l4,m4,l5,m5⟩:=h.vs;have IX:=DJ;go_enter Lp.func33,n33;go_wp2;obtain⟨z,Hv⟩:=Qnm ((w.alloc (.cells (Qe6 c a1 c1 a2 c2 a3 c3 a4 c4 a5 c5) 26)).alloc (.cells Qz6 26));have U:Qb6 w z:=by rw[Hv];exact bA (bA (Zh _ _))
 have F1:z.heap[w.heap.size]?=some (.cells (Qe6 c a1 c1 a2 c2 a3 c3 a4 c4 a5 c5) 26 (0,0)):=by rw[Hv];exact Bf (Bp _ _) _
 have O9:z.heap[w.heap.size+1]?=some (.cells Qz6 26 (0,0)):=by rw[Hv];exact Jq _ _ _
 rw[<-Hv];clear Hv;have be:w+1<z.heap.size:=(Za.1 O9).1;refine Code.wp_mono (Q:=λe a' V=>e=.normal/\∃(q:Nat) (F H E D:Option Addr) (d1 d2 d3 G:Nat) (x5 x6 x7 x8 x9 jX Qj ai MH Lx Ly K0 K1:Zf),a'= {tmps:= #[.agg #[.slice a1 c.base.length c1,.slice a2 c.Af.length c2,.slice a3 c.hooks.length c3,.slice a4 c.Aa.length c4,.slice a5 c.now.length c5],.pointer w,.pointer (w+1:Nat),.pointer q,Ze,x5,x6,x7,x8,x9,jX,Qj,ai,MH,Lx,Ly,K0,K1,Ze,Ze,Ze,Ze,Ze,Ze,Ze,Ze,Ze,Ze,Ze,Ze,Ze,Ze,Ze,Ze,Ze,Ze,Ze],defers:=[]}/\w+1<q/\Qb6 z V/\V.heap[q]?=some (.cells #[.slice F c.base.length d1,.slice H c.Af.length d2,.slice E c.hooks.length d3,(),.slice D c.now.length G] 26 (0,0))/\Own V z (.slice F c.base.length d1) c.base/\Ih V z (.slice H c.Af.length d2) c.Af 80/\Own V z (.slice E c.hooks.length d3) c.hooks/\Own V z (.slice D c.now.length G) c.now/\Dis (.slice F c.base.length d1) (.slice E c.hooks.length d3)/\Dis (.slice F c.base.length d1) (.slice D c.now.length G)/\Dis (.slice E c.hooks.length d3) (.slice D c.now.length G)) ?rest ?first
 case first=>
  have z0:=λp=>Al p (ch (i:=0) F1 (v:=.slice a1 c.base.length c1) rfl);have z1:=λp=>Al p (ch (i:=1) F1 (v:=.slice a2 c.Af.length c2) rfl);have z2:=λp=>Al p (ch (i:=2) F1 (v:=.slice a3 c.hooks.length c3) rfl);have z4:=λp=>Al p (ch (i:=4) F1 (v:=.slice a5 c.now.length c5) rfl);refine G6 (S:=λW=>∃p,W=calm z p) [0,1,3,4,6,7,9,10] 7 #[true,true,false,true,true,false,true,true,false,true,true,false,false,false,false] k! (λ_ _ _ _ _ h=>nomatch h.1) k! (AL (Zh _ _).drew) ?_;refine A4 _ _ k! ?_;simp only[Z6,zd,ZG,ZD,ZC]
  repeat (first|go_big_quiet_step (fail)|quiet_step (fail))
  refine Z4 ?_;clear z0 z1 z2 z4;change Cy _ _ _ _ _ _ _ _ _;obtain⟨V,hV⟩:=Qnm z.drew;have b:Qb6 z V:=by rw[hV];exact(Zh _ _).drew
  rw[<-hV];clear hV;have l:=Yz;have r:=Yz;have s:=Yz;have n3:=Yz;have n5:=Yz;refine AK [2,13] k! i! (Ix ?gA2 ?gB2)
  case' gB2=>
   refine EX (v:=.pointer V) (w':=V.alloc (.cells Qz6 26)) rfl rfl g! ?_;obtain⟨o,m⟩:=Qnm (V.alloc (.cells Qz6 26));have a:Qb6 V o:=by rw[m];exact bA (Zh _ _)
   have l:o.heap[V.heap.size]?=some (.cells Qz6 26 (0,0)):=by rw[m];exact Bp _ _
   have C:=b.size;obtain⟨q,y⟩:=Qnm V.heap.size;rw[<-y]at l C
   try (have r:=Fu r a)
   try (have s:=Fu s a)
   try (have n3:=Fu n3 a)
   try (have n5:=Fu n5 a)
   have b:=b.trans (a.mono b.size);rw[<-m, <-y];refine⟨AL b,?_⟩;clear a y m;obtain⟨V,O⟩:∃T,T=o:=⟨_,rfl⟩;subst O;refine AK [2] k! i! (BF ?_)
  all_goals
   refine DK (f:=32) (args:= #[.slice a1 c.base.length c1]) rfl rfl g! ((WO (h.later (U.trans (b.mono U.size))).base ig).mono ?_);rintro e V ⟨u,rfl,a,t⟩;have r:=acs t b.size;obtain⟨F,d1,rfl,_,_⟩:=JS t;clear t
   try (have l:=(a.block _ (Za.1 l).1).trans l)
   try (have s:=Fu s a)
   try (have n3:=Fu n3 a)
   try (have n5:=Fu n5 a)
   have b:=b.trans (a.mono b.size);refine .inl ⟨_,rfl,AL b,?_⟩;clear a
  all_goals first
   |(have kL:=Za.1 l;clear kL;refine AK [5] k! i! (BF ?_))
   |(refine AK [5,13] k! i! (Ix ?gA5 ?gB5)
     case' gB5=>
      refine EX (v:=.pointer V) (w':=V.alloc (.cells Qz6 26)) rfl rfl g! ?_;obtain⟨o,m⟩:=Qnm (V.alloc (.cells Qz6 26));have a:Qb6 V o:=by rw[m];exact bA (Zh _ _)
      have l:o.heap[V.heap.size]?=some (.cells Qz6 26 (0,0)):=by rw[m];exact Bp _ _
      have C:=b.size;obtain⟨q,y⟩:=Qnm V.heap.size;rw[<-y]at l C
      try (have r:=Fu r a)
      try (have s:=Fu s a)
      try (have n3:=Fu n3 a)
      try (have n5:=Fu n5 a)
      have b:=b.trans (a.mono b.size);rw[<-m, <-y];refine⟨AL b,?_⟩;clear a y m;obtain⟨V,O⟩:∃T,T=o:=⟨_,rfl⟩;subst O;refine AK [5] k! i! (BF ?_))
  all_goals
   refine DK (f:=40) (args:= #[.slice a2 c.Af.length c2]) rfl rfl g! ((aib (h.later (U.trans (b.mono U.size))).Af bv).mono ?_);rintro e V ⟨u,rfl,a,t⟩;have s:=acs t b.size;obtain⟨H,d2,rfl,_,_⟩:=JS t;clear t
   try (have l:=(a.block _ (Za.1 l).1).trans l)
   try (have r:=Fu r a)
   try (have n3:=Fu n3 a)
   try (have n5:=Fu n5 a)
   have b:=b.trans (a.mono b.size);refine .inl ⟨_,rfl,AL b,?_⟩;clear a
  all_goals first
   |(have kL:=Za.1 l;clear kL;refine AK [8] k! i! (BF ?_))
   |(refine AK [8,13] k! i! (Ix ?gA8 ?gB8)
     case' gB8=>
      refine EX (v:=.pointer V) (w':=V.alloc (.cells Qz6 26)) rfl rfl g! ?_;obtain⟨o,m⟩:=Qnm (V.alloc (.cells Qz6 26));have a:Qb6 V o:=by rw[m];exact bA (Zh _ _)
      have l:o.heap[V.heap.size]?=some (.cells Qz6 26 (0,0)):=by rw[m];exact Bp _ _
      have C:=b.size;obtain⟨q,y⟩:=Qnm V.heap.size;rw[<-y]at l C
      try (have r:=Fu r a)
      try (have s:=Fu s a)
      try (have n3:=Fu n3 a)
      try (have n5:=Fu n5 a)
      have b:=b.trans (a.mono b.size);rw[<-m, <-y];refine⟨AL b,?_⟩;clear a y m;obtain⟨V,O⟩:∃T,T=o:=⟨_,rfl⟩;subst O;refine AK [8] k! i! (BF ?_))
  all_goals
   refine DK (f:=32) (args:= #[.slice a3 c.hooks.length c3]) rfl rfl g! ((WO (h.later (U.trans (b.mono U.size))).hooks bi).mono ?_);rintro e V ⟨u,rfl,a,t⟩;have n3:=acs t b.size;obtain⟨E,d3,rfl,_,_⟩:=JS t;have N:=adz r t;clear t
   try (have l:=(a.block _ (Za.1 l).1).trans l)
   try (have r:=Fu r a)
   try (have s:=Fu s a)
   try (have n5:=Fu n5 a)
   have b:=b.trans (a.mono b.size);refine .inl ⟨_,rfl,AL b,?_⟩;clear a
  all_goals first
   |(have kL:=Za.1 l;clear kL;refine AK [11] k! i! (BF ?_))
   |(refine AK [11,13] k! i! (Ix ?gA11 ?gB11)
     case' gB11=>
      refine EX (v:=.pointer V) (w':=V.alloc (.cells Qz6 26)) rfl rfl g! ?_;obtain⟨o,m⟩:=Qnm (V.alloc (.cells Qz6 26));have a:Qb6 V o:=by rw[m];exact bA (Zh _ _)
      have l:o.heap[V.heap.size]?=some (.cells Qz6 26 (0,0)):=by rw[m];exact Bp _ _
      have C:=b.size;obtain⟨q,y⟩:=Qnm V.heap.size;rw[<-y]at l C
      try (have r:=Fu r a)
      try (have s:=Fu s a)
      try (have n3:=Fu n3 a)
      try (have n5:=Fu n5 a)
      have b:=b.trans (a.mono b.size);rw[<-m, <-y];refine⟨AL b,?_⟩;clear a y m;obtain⟨V,O⟩:∃T,T=o:=⟨_,rfl⟩;subst O;refine AK [11] k! i! (BF ?_))
  all_goals
   refine DK (f:=32) (args:= #[.slice a5 c.now.length c5]) rfl rfl g! ((WO (h.later (U.trans (b.mono U.size))).now UO).mono ?_);rintro e V ⟨u,rfl,a,t⟩;have n5:=acs t b.size;obtain⟨D,G,rfl,_,_⟩:=JS t;have L:=adz r t;have J:=adz n3 t;clear t
   try (have l:=(a.block _ (Za.1 l).1).trans l)
   try (have r:=Fu r a)
   try (have s:=Fu s a)
   try (have n3:=Fu n3 a)
   have b:=b.trans (a.mono b.size);refine .inl ⟨_,rfl,AL b,?_⟩;clear a
  all_goals first
   |(have kL:=Za.1 l;clear kL;refine AK [12] k! i! (BF ?_)
     refine EX (v:=.agg #[.slice F c.base.length d1,.slice H c.Af.length d2,.slice E c.hooks.length d3,(),.slice D c.now.length G]) (w':=V) rfl rfl g! ?_;refine⟨AL b,?_⟩)
   |(refine AK [12,13] k! i! (Ix ?gA12 ?gB12)
     case' gB12=>
      refine EX (v:=.pointer V) (w':=V.alloc (.cells Qz6 26)) rfl rfl g! ?_;obtain⟨o,m⟩:=Qnm (V.alloc (.cells Qz6 26));have a:Qb6 V o:=by rw[m];exact bA (Zh _ _)
      have l:o.heap[V.heap.size]?=some (.cells Qz6 26 (0,0)):=by rw[m];exact Bp _ _
      have C:=b.size;obtain⟨q,y⟩:=Qnm V.heap.size;rw[<-y]at l C
      try (have r:=Fu r a)
      try (have s:=Fu s a)
      try (have n3:=Fu n3 a)
      try (have n5:=Fu n5 a)
      have b:=b.trans (a.mono b.size);rw[<-m, <-y];refine⟨AL b,?_⟩;clear a y m;obtain⟨V,O⟩:∃T,T=o:=⟨_,rfl⟩;subst O;refine AK [12] k! i! (BF ?_);refine EX (v:=.agg #[.slice F c.base.length d1,.slice H c.Af.length d2,.slice E c.hooks.length d3,(),.slice D c.now.length G]) (w':=V) rfl rfl g! ?_;refine⟨AL b,?_⟩
     case' gA12=>
      refine EX (v:=.agg #[.slice F c.base.length d1,.slice H c.Af.length d2,.slice E c.hooks.length d3,(),.slice D c.now.length G]) (w':=V) rfl rfl g! ?_;refine⟨AL b,?_⟩;refine AK [13] k! i! (BF ?_);refine EX (v:=.pointer V) (w':=V.alloc (.cells Qz6 26)) rfl rfl g! ?_;obtain⟨o,m⟩:=Qnm (V.alloc (.cells Qz6 26));have a:Qb6 V o:=by rw[m];exact bA (Zh _ _)
      have l:o.heap[V.heap.size]?=some (.cells Qz6 26 (0,0)):=by rw[m];exact Bp _ _
      have C:=b.size;obtain⟨q,y⟩:=Qnm V.heap.size;rw[<-y]at l C
      try (have r:=Fu r a)
      try (have s:=Fu s a)
      try (have n3:=Fu n3 a)
      try (have n5:=Fu n5 a)
      have b:=b.trans (a.mono b.size);rw[<-m, <-y];refine⟨AL b,?_⟩;clear a y m;obtain⟨V,O⟩:∃T,T=o:=⟨_,rfl⟩;subst O)
  all_goals
   refine AK [14] k! i! (BF ?_);obtain⟨g0,g1,g2,g3,g4⟩:=Qc5 l;obtain⟨f0,f1,f2,f3,f4⟩:=Qf5 l;obtain⟨o,m⟩:=Qnm (((((V.setCell q (.slice F c.base.length d1)).setCell ⟨q,1,none⟩ (.slice H c.Af.length d2)).setCell ⟨q,2,none⟩ (.slice E c.hooks.length d3)).setCell ⟨q,3,none⟩ ()).setCell ⟨q,4,none⟩ (.slice D c.now.length G));refine Rj (w':=o) rfl rfl (by rw[m];go_simp) ?_;have an:Qb6 z o:=by rw[m];exact bS (bS (bS (bS (bS b C) C) C) C) C
   have hT:Ak (λx=>x=q) V o:=by rw[m];exact(Ak.refl (λx=>x=q) V).DT.DT.DT.DT.DT
   refine⟨AL an,rfl,?_⟩;exact⟨rfl,q,F,H,E,D,d1,d2,d3,G,_,_,_,_,_,_,_,_,_,_,_,_,_,rfl,o!,an,by rw[m];exact Ba (Ba (Ba (Ba (Ba l _) _) _) _) _,aci r hT l d!,aci s hT l d!,aci n3 hT l d!,aci n5 hT l d!,N,L,J⟩
 rintro e a' V ⟨rfl,q,F,H,E,D,d1,d2,d3,G,x5,x6,x7,x8,x9,jX,Qj,ai,MH,Lx,Ly,K0,K1,rfl,C,b,l,r,s,n3,n5,N,L,J⟩;obtain⟨M,hM⟩:=Qnm V.heap.size;have ct:z<=M:=by rw[hM];exact b.size
 have L1:=acZ r;have L2:=acZ s;have L3:=acZ n3;have R:=acZ n5;rw[<-hM]at L1 L2 L3 R;have HD:=Zd (ZY L1 (ZY L2 (ZY L3 (ZY R (ZY N (ZY L J))))));clear L1 L2 L3 R N L J;have b8:CRs w z M q #[.slice a1 c.base.length c1,.slice a2 c.Af.length c2,.slice a3 c.hooks.length c3,.slice a4 c.Aa.length c4,.slice a5 c.now.length c5] (.slice F c.base.length d1) (.slice H c.Af.length d2) (.slice E c.hooks.length d3) (.slice D c.now.length G) c 0 () V:=
  ⟨U.trans (b.mono U.size),(b.block _ (Za.1 F1).1).trans F1,(b.block _ be).trans O9,l,r,s,n3,n5,⟨[],zq _ _ _ _,λi x hx=>by cases hx⟩,ZcS hM⟩
 clear hM b l r s n3 n5 F1 O9 U;dsimp only;go_wp2;go_loopg [4] c.Aa.length (λg i wr=>∃(k:Nat) (v4:Zf),k<=c.Aa.length/\g=c.Aa.length - k/\i=.int .i64 k/\CRs w z M q #[.slice a1 c.base.length c1,.slice a2 c.Af.length c2,.slice a3 c.hooks.length c3,.slice a4 c.Aa.length c4,.slice a5 c.now.length c5] (.slice F c.base.length d1) (.slice H c.Af.length d2) (.slice E c.hooks.length d3) (.slice D c.now.length G) c k v4 wr)
 case atStart=>exact⟨0,_,Zp _,rfl,rfl,b8⟩
 obtain⟨k,v4,hk,rfl,rfl,n⟩:=hrel;obtain⟨sl,NK⟩:=Qnm (c.Aa.take k);have ac:sl.length=k:=by rw[NK];simp;omega
 have Ci:=n.row;rw[<-NK]at Ci;obtain⟨Z,Y,rfl,_⟩:=Ci.val;rw[ac]at n Ci;by_cases Az:k<c.Aa.length
 .obtain⟨b4,o4,s2,s3,rfl,UQ,x0,x1,x2,x3,x4,hp,ho⟩:=h.Aa.at_ (i:=k) Az
  have Ga:∀j u,w.cell? ⟨b4,j,none⟩=some u->wr.cell? ⟨b4,j,none⟩=some u:=λj u t=>(n.below.cell (p:=⟨b4,j,none⟩) (hS b4 UQ)).trans t;replace x0:=Ga _ _ x0;replace x1:=Ga _ _ x1;replace x2:=Ga _ _ x2;replace x3:=Ga _ _ x3;replace x4:=Ga _ _ x4;clear Ga;replace hp:=hp.later n.below;replace ho:=ho.later n.below;obtain⟨Oq,Qm⟩:=xB k Az;obtain⟨sm,Qh⟩:=Qnm (Aj c.Aa k);have ck:=Zd (show c.Aa.take (k+1)=sl++ [sm] by rw[NK,Qh,ZbH,Db Az];rfl);rw[<-Qh]at x0 x1 x4 hp ho Oq Qm;clear Qh NK;obtain⟨low,B,Ap,over,left⟩:=sm;dsimp only at x0 x1 x4 hp ho Oq Qm;obtain⟨a6,c6,rfl,l6,m6⟩:=hp.val;obtain⟨a7,c7,rfl,l7,m7⟩:=ho.val;obtain⟨K,Ig⟩:∃K:Nat->Prop,K=λx=>x≠q/\w+1<x:=⟨_,rfl⟩;have LP:∀x,w.heap.size+1<x->x≠q->K x:=λx hx l=>by rw[Ig];exact⟨l,hx⟩
  have qF:¬K w:=by rw[Ig];intro x;omega
  have l_:¬K (w+1):=by rw[Ig];intro x;omega
  have Tg:¬K q:=by rw[Ig];exact λx=>x.1 rfl
  have Qn:¬K b4:=by rw[Ig];intro x;have:=hS b4 UQ;omega
  clear Ig;have z0:=λp:Tw K wr=>p.cell (ch (i:=3) n.box (v:=.slice (some ⟨b4,o4,none⟩) c.Aa.length c4) rfl) qF;have z1:=λp:Tw K wr=>p.cell (ch (i:=3) n.qx (v:=.slice Z k Y) rfl) Tg;have y0:=λp:Tw K wr=>p.cell x0 Qn;have y1:=λp:Tw K wr=>p.cell x1 Qn;have y2:=λp:Tw K wr=>p.cell x2 Qn;have y3:=λp:Tw K wr=>p.cell x3 Qn;have y4:=λp:Tw K wr=>p.cell x4 Qn;have TB:(k:Int)<(c.Aa.length:Int):=o!
  have du:(0:Int)<=(k:Int):=o!
  have kD:q<wr:=(Za.1 n.qx).1;have kx:=ch (i:=3) n.box (v:=.slice (some ⟨b4,o4,none⟩) c.Aa.length c4) rfl;have bG:=n.below.size;have DR:w+1<wr.heap.size:=(Za.1 n.res).1;have Rb:M<=wr.heap.size:=n.z;go_wp2;clear kx;refine B0 (S:=λW=>∃p:Tw K wr,W=p.v) [11] [(false,7),(false,8),(false,9),(false,10),(false,11)] [0,1,2,3,4,5,6] k! (λ_ _ d _ _ h=>by cases d<;>exact h) k! (A5 (Ak.later (Zh _ _).drew)) ?_;refine A4 _ _ k! ?_;simp only[Z6,zd,ZG,ZD,ZC]
  repeat (first|go_big_quiet_step (fail)|quiet_step (fail))
  refine Z4 ?_;clear z0 z1 y0 y1 y2 y3 y4 x0 x1 x2 x3 x4;change Dl _ _ _ _ _ _ _;have Uh:YH wr wr wr.drew:=(Zh _ _).drew;refine Dd (f:=86) (args:= #[.agg #[.int .i64 low,.int .i64 B,.slice a6 Ap.length c6,.slice a7 over.length c7,.int .i64 left]]) rfl rfl g! ((aoP (hp.later Uh) (ho.later Uh) Oq Qm).mono ?_);rintro e w1 ⟨u2,u3,rfl,Bg,Hb,Lb⟩;have cu:Qb6 wr w1:=Uh.trans (Bg.mono (Zj _));have Kd:Ak K wr w1:=Ak.later cu;refine⟨_,rfl,.inr (A5 Kd),?_⟩;have Hb:SP (TT wr w1) w1 u2 Ap:=Hb;have Lb:SI (TT wr w1) w1 u3 over:=Own.tt Lb;obtain⟨p6,t6,rfl,_⟩:=Hb.val;obtain⟨p7,t7,rfl,_⟩:=Lb.val;obtain⟨uT,uU⟩:=Qnm (w1.alloc (.cells #[.int .i64 low,.int .i64 B,.slice p6 Ap.length t6,.slice p7 over.length t7,.int .i64 left] 62));have Vn:Qb6 w1 uT:=by rw[uU];exact bA (Zh _ _)
  have Jp:=cu.trans (Vn.mono cu.size);have WQ:Ak K wr uT:=Ak.later Jp;refine JZ (v:=.slice w1 1 1) (w':=uT) rfl rfl (by rw[uU];go_simp) (.inr (A5 WQ)) ?_;obtain⟨am,AX,DF⟩:=Ci.later Jp;rw[ac]at AX;obtain⟨i0,hi,eL,k9,ci⟩:=zp eI;have b9:=Cz Tryz.underlying24;refine PW rfl rfl ?_;refine Zak _ _ _ 24 rfl M 62 i0 (.agg #[.int .i64 0,.int .i64 0,(),(),.int .i64 0]) 5 72 b9 (Dz hi) eL k9 ci rfl d! _ k am rfl AX w1 1 1 [.int .i64 low,.int .i64 B,.slice p6 Ap.length t6,.slice p7 over.length t7,.int .i64 left] rfl rfl (by rw[uU];exact Hc _ _ _) (by intro u t;simp at t;rcases t with rfl|rfl|rfl|rfl|rfl<;>rfl) u! o! (by have:=Jp.size;omega) ?_;intro v' w2 Cm AG Gc;have Em:∀g,(Zy Z k Y).ownBlock=some g->M<=g/\∃cs,wr.heap[g]?=some (.cells cs 62 (0,0)):=Ci.own;have Js:Ak (λx=>(Zy Z k Y).ownBlock=some x) uT w2:=Ak.grown AG λg I=>I;have D3:Ak K wr w2:=WQ.trans (Ak.grown AG λg I=>by
   obtain⟨h1,cs,h2⟩:=Em g I;exact LP g o! (λe=>by subst e;rw[n.qx]at h2;cases h2))
  refine⟨.inr (A5 D3),?_⟩;obtain⟨g',Ey,rfl⟩:=Zay Cm;have M9:=(D3.block q kD Tg).trans n.qx;have f3:=cf (i:=3) M9;have e3:=ch (i:=3) M9 (v:=.slice Z k Y) rfl;refine Dw (v:=.pointer (some ⟨q,3,none⟩)) rfl rfl g! (.inr (A5 D3)) ?_;refine K8 (w':=w2.setCell ⟨q,3,none⟩ (.slice g' (k+1) Ey)) rfl rfl g! (.inl rfl) ?_;have bM:CRs w z M q #[.slice a1 c.base.length c1,.slice a2 c.Af.length c2,.slice a3 c.hooks.length c3,.slice (some ⟨b4,o4,none⟩) c.Aa.length c4,.slice a5 c.now.length c5] (.slice F c.base.length d1) (.slice H c.Af.length d2) (.slice E c.hooks.length d3) (.slice D c.now.length G) c (k+1) (.slice g' (k+1) Ey) (w2.setCell ⟨q,3,none⟩ (.slice g' (k+1) Ey)):=by
   have Th:Ak (λx=>x=q) w2 (w2.setCell ⟨q,3,none⟩ (.slice g' (k+1) Ey)):=(Ak.refl (λx=>x=q) w2).DT;have ba:∀x,TT M w2 x->¬x=q:=λx hx e=>TT.not (e▸hx) M9 ⟨d!,d!,d!⟩;have bc:∀ {A:Zb} (hA:∀g cs,wr.heap[g]?=some (Zbi cs 62 (0,0))->A.heap[g]?=some (Zbi cs 62 (0,0))) x,TT M A x->¬(Zy Z k Y).ownBlock=some x:=λhA x hx e=>by
    obtain⟨_,cs,h2⟩:=Em x e;exact TT.not hx (hA x cs h2) ⟨d!,d!,d!⟩
   have P:Ak (λx=>(Zy Z k Y).ownBlock=some x) wr w2:=((Ak.later Jp).mono λ_ x=>x).trans Js;have mW:∀g,(Zy Z k Y).ownBlock=some g->∃cs,wr.heap[g]?=some (.cells cs 62 (0,0)):=λg I=>(Em g I).2;have rK:=bc (A:=uT) (λg cs h=>(Jp.block g (Za.1 h).1).trans h);refine⟨?_,?_,?_,Ba M9 _,aci (adh n.base P mW d!) Th M9 d!,aci (adh n.Af P mW d!) Th M9 d!,aci (adh n.hooks P mW d!) Th M9 d!,aci (adh n.now P mW d!) Th M9 d!,?_,by have:=P.size;simp;omega⟩
   .exact bS ((n.below.trans (Jp.mono n.below.size)).trans (Js.below (λg I=>by have:=(Em g I).1;omega) (by have:=Jp.size;omega))) o!
   .exact(AZ o! _).trans ((D3.block _ o! qF).trans n.box)
   .exact(AZ o! _).trans ((D3.block _ DR l_).trans n.res)
   rw[ck.out];refine En.CN (A:=w2) ?_ Th ba (λg I e=>by
    cases I;subst e;rcases Cm.2 with⟨e,_⟩|⟨g,cap,dl,e,_,h3,_⟩
    .cases e
    cases e;rw[M9]at h3;cases h3)
   rw[show k+1=sl.length+1 by rw[ac]]at*;have xG:Rs (TT M uT) uT [.int .i64 low,.int .i64 B,.slice p6 Ap.length t6,.slice p7 over.length t7,.int .i64 left] ⟨low,B,Ap,over,left⟩:=⟨_,_,rfl,Ug (M6 Hb Vn) Rb,LQ (Ei Lb Vn) Rb⟩;exact En.snoc (λi x hi=>xR (DF i x hi) Js rK) (by have:=AX.1;rw[this,ac]) rfl (xR xG Js rK) Cm
  have co:=Zd bM;clear bM n D3 Js WQ Kd Jp Vn uU Bg cu Hb Lb AX Cm DF AG Gc Em Ci f3 e3 M9 hp ho;unfold Dl
  go_simp
  go_wp2;go_roundg (c.Aa.length - (k+1))
  case rel=>exact⟨k+1,_,Az,rfl,v!,co.out⟩
  omega
 have T5:k=c.Aa.length:=o!
 rw[T5,ZcU]at NK;subst NK;subst T5;have kx:=ch (i:=3) n.box (v:=.slice a4 c.Aa.length c4) rfl;obtain⟨s0,s1,s2,s3,s4⟩:=Qc5 n.qx;obtain⟨f0,f1,f2,f3,f4⟩:=Qf5 n.res;obtain⟨r0,r1,r2,r3,r4⟩:=Qc5 n.res;have kD:q<wr:=(Za.1 n.qx).1;have bG:=n.below.size;have DR:w+1<wr.heap.size:=(Za.1 n.res).1;have HC:=Zd n;have HR:=Zd Ci;clear n Ci;go_wp2;refine ZN (v:=.agg #[.slice F c.base.length d1,.slice H c.Af.length d2,.slice E c.hooks.length d3,.slice Z c.Aa.length Y,.slice D c.now.length G]) (by rw[A8 rfl];go_simp) rfl ?_;have ap:∀X,Qb6 w X->Ak (λx=>x=w.heap.size+1) wr X->adA w c (.returned (.agg #[.slice F c.base.length d1,.slice H c.Af.length d2,.slice E c.hooks.length d3,.slice Z c.Aa.length Y,.slice D c.now.length G])) X:=λX Ov Pc=>by
  have hn:∀x,TT M wr x->¬x=w+1:=λx hx e=>by have:=hx.1;omega
  have mM:w<=z.heap.size:=o!
  have I:∀g,(Zy Z c.Aa.length Y).ownBlock=some g->¬g=w+1:=λg I e=>by have:=(HR.out.own g I).1;omega
  obtain⟨L1,L2,L3,R,N,L,J⟩:=HD.out;exact⟨_,_,_,_,_,M,rfl,Ov,acs (aci HC.out.base Pc HC.out.res d!) mM,acs (aci HC.out.Af Pc HC.out.res d!) mM,acs (aci HC.out.hooks Pc HC.out.res d!) mM,acs (aci HC.out.now Pc HC.out.res d!) mM,HR.out.CN Pc hn I,o!,L1,L2,L3,R,N,L,J⟩
 have Lc:=HC.out.below;refine ap _ ?_ ?_
 .repeat (with_reducible first|exact Lc|(refine bS ?_ o!))
 repeat (with_reducible first|exact Ak.refl _ _|(refine Ak.DT ?_))
def CSp.rc {u3:Zf}(h:CSp n M w u1 u2 u3 u4 u5 c):RC (Cb n w) w u1 u2 u3 u4 u5 c:=
 ⟨h.base.si,Sl.imp (h.Af.tt (.inr (.inr rfl))) (λb a=>a.new) λ_ _ x=>x,h.hooks.si,(h.row.ss (Zj _)).imp (λb a=>⟨Zr h.le a.1,a.2⟩) λ_ _ ⟨v2,v3,e,f,d⟩=>⟨v2,v3,e,Sl.imp f (λb a=>⟨Zr h.le a.1,a.2⟩) λ_ _ x=>x,Sl.imp d (λb a=>⟨Zr h.le a.1,a.2⟩) λ_ _ x=>x⟩,h.now.si⟩
def adT (b:l.Pairwise (· < ·))(a:∀x∈l,0<=x/\x<3):l.length<=3:=(show∀l∈Lj,l.length<=3 by decide) l (EM b a)
def adD (h:BN c=0):∀i,i<c.Aa.length->(Aj c.Aa i).over.length<=3:=λi d=>by
 have e:=(Bj (Bj h).2).2;have f:=(JQ (Bj (Bj h).2).1).2;have a:=af5 (Bj e).1 (Aj c.Aa i) (Z3 (Db d));exact adT a.1 λx b=>by have:=a.2 x b;omega
def H6.small (h:H6 c):agc c:=
 ⟨by have:=h.Fp;omega,by have:=h.PN;have:=h.Fp;omega,by have:=h.hooks;have:=h.Fp;omega,by have:=h.few;omega,by have:=h.now.1;have:=h.few;omega,λi a=>⟨by have:=(h.seam i a).few;omega,by have:=adD h.begin i a;omega⟩⟩
def CSp.CN {u3:Zf}(h:CSp n M A u1 u2 u3 u4 u5 c)(b:Ak T A B)(a:∀x,n<=x->¬T x):CSp n M B u1 u2 u3 u4 u5 c:=
 ⟨CO b a h.base,CO b a h.Af,CO b a h.hooks,CO b a h.now,h.row.CN b (λx d=>a x (Zr h.le d.1)) (λg e=>a g (Zr h.le (h.row.own g e).1)),h.le,h.l1,h.l2,h.l3,h.l5,h.d13,h.d15,h.d35⟩
def CSp.later {u3:Zf}(h:CSp n M A u1 u2 u3 u4 u5 c)(a:Qb6 A B):CSp n M B u1 u2 u3 u4 u5 c:=h.CN (T:=λ_=>False) (Ak.later a) λ_ _ x=>x
def CSp.box {u3:Zf}(h:CSp n M A u1 u2 u3 u4 u5 c)(b:Ak (λx=>x=q) A B)(a:A.heap[q]?=some (.cells cs 26 (0,0))):CSp n M B u1 u2 u3 u4 u5 c:=
 ⟨aci h.base b a d!,aci h.Af b a d!,aci h.hooks b a d!,aci h.now b a d!,h.row.CN b (λx f e=>TT.not (e▸f) a ⟨d!,d!,d!⟩) (λg i e=>by
  obtain⟨_,j,d⟩:=h.row.own g i;subst e;rw[a]at d;cases d),h.le,h.l1,h.l2,h.l3,h.l5,h.d13,h.d15,h.d35⟩
def aa3 (L:Array Bool)(i:Nat):Bool:=L.getD i false
variable {L:Array Bool}
def ac6 (h:aa3 (L.setIfInBounds i true) j=true):j=i\/aa3 L j=true:=af4 h
def afk (h:i<L.size):aa3 (L.setIfInBounds i true) i=true:=by
 unfold aa3;simp[Yp,h]
def af6 (h:j≠i):aa3 (L.setIfInBounds i true) j=aa3 L j:=by
 unfold aa3;exact Zde false (Za0 h)
def upf {a:Type}(f:Nat->a)(k:Nat)(v:a):Nat->a:=λj=>if j=k then v else f j
variable {α:Type}
def acf (f:Nat->α)(k:Nat)(v:α):upf f k v k=v:=if_pos rfl
def acj (f:Nat->α)(v:α)(h:j≠k):upf f k v j=f j:=if_neg h
structure aa4 (M e:Nat)(w:Zb)(u1 u2 u3 u4 u5:Zf)(c:A_):Prop where
 ss:SS (λy=>M<=y/\y<e) w u4 c.Aa
 b1:∀g,u1.ownBlock=some g->g<e
 b2:∀g,u2.ownBlock=some g->g<e
 b3:∀g,u3.ownBlock=some g->g<e
 b5:∀g,u5.ownBlock=some g->g<e
def CqX (n e:Nat)(w:Zb)(x:Zf)(c:A_):Prop:=∃u1 u2 u3 u4 u5 M,x=.agg #[u1,u2,u3,u4,u5]/\CSp n M w u1 u2 u3 u4 u5 c/\aa4 M e w u1 u2 u3 u4 u5 c
def CqX.later {e:Nat}{x:Zf}(h:CqX n e A x c)(b:Qb6 A B):CqX n e B x c:=by
 obtain⟨u1,u2,u3,u4,u5,M,f,d,a⟩:=h;exact⟨u1,u2,u3,u4,u5,M,f,d.later b,a.ss.later b,a.b1,a.b2,a.b3,a.b5⟩
def CqX.box {e:Nat}{x:Zf}(h:CqX n e A x c)(b:Ak (λx=>x=q) A B)(f:A.heap[q]?=some (.cells cs 26 (0,0)))(j:q<n\/e<=q):CqX n e B x c:=by
 obtain⟨u1,u2,u3,u4,u5,M,g,d,a⟩:=h;have:=d.le;exact⟨u1,u2,u3,u4,u5,M,g,d.box b f,a.ss.Ar (b.same λy i=>by show¬y=q;omega),a.b1,a.b2,a.b3,a.b5⟩
def CqX.of {e':Ending}(h:adA w c e' W):∃x,e'=.returned x/\Qb6 w W/\CqX w W W x c:=by
 obtain⟨u1,u2,u3,u4,u5,M,d,b,a⟩:=h;exact⟨_,d,b,u1,u2,u3,u4,u5,M,rfl,a,a.row.ss (Zj _),acZ a.base,acZ a.Af,acZ a.hooks,acZ a.now⟩
def acL {R:Zb->List Zf->α->Prop}{l:List α}(h:Sl S R k w v l):Sl (λy=>S y/\v.ownBlock=some y) R k w v l:=by
 obtain⟨a,c,rfl,g,f,e⟩:=h;refine⟨a,c,rfl,g,f,λi x d=>?_⟩;obtain⟨b,o,cs,rfl,m,j⟩:=e i x d;exact⟨b,o,cs,rfl,⟨m,rfl⟩,j⟩
def adU {l:List Ay}(h:SS S w v l)(a:∀b,S b->T b):SS T w v l:=
 Sl.imp h a λ_ _ ⟨v2,v3,e,d,c⟩=>⟨v2,v3,e,Sl.imp d a λ_ _ x=>x,Sl.imp c a λ_ _ x=>x⟩
section
variable {n M e b g len cap:Nat}{w w':Zb}{u1 u2 u3 u4 u5:Zf}{c:A_}
def af7 (d:CSp n M w u1 (.slice g len cap) u3 u4 u5 c)(f:aa4 M e w u1 (.slice g len cap) u3 u4 u5 c)(i:Ak (λy=>y=b\/y=g) w w')(t:b<n){E:List (Int×Int)}(q:Ih w' n (.slice g len cap) E 80):
  RC (λy=>n<=y/\y<e) w' u1 (.slice g len cap) u3 u4 u5 {c with Af:=E}:=by
 have p:g<M:=d.l2 g rfl;have o:=d.le;obtain⟨_,r,s⟩:=J3 d.Af g rfl;have j:∀ {v:Zf} {l:List Int},Own w n v l->∀x,v.ownBlock=some x->¬(x=b\/x=g):=λh x m e=>by
  obtain⟨u,cs,k⟩:=J3 h x m;rcases e with e|e
  .omega
  rw[e,s]at k;cases k
 refine⟨Sl.imp (acL (d.base.apart i (j d.base)).si) (λy a=>⟨a.1.1,f.b1 y a.2⟩) λ_ _ x=>x,Sl.imp (acL (q.tt (.inr (.inr rfl)))) (λy a=>⟨a.1.1,f.b2 y a.2⟩) λ_ _ x=>x,Sl.imp (acL (d.hooks.apart i (j d.hooks)).si) (λy a=>⟨a.1.1,f.b3 y a.2⟩) λ_ _ x=>x,
  adU (f.ss.Ar (i.same λy a=>o!)) λy a=>⟨o!,a.2⟩,Sl.imp (acL (d.now.apart i (j d.now)).si) (λy a=>⟨a.1.1,f.b5 y a.2⟩) λ_ _ x=>x⟩
def ads (d:CSp n M w u1 u2 (.slice g len cap) u4 u5 c)(i:aa4 M e w u1 u2 (.slice g len cap) u4 u5 c)(j:Ak (λy=>y=b\/y=g) w w')(B:b<n){E:List Int}(q:Own w' n (.slice g len cap) E):
  RC (λy=>n<=y/\y<e) w' u1 u2 (.slice g len cap) u4 u5 {c with hooks:=E}:=by
 have p:g<M:=d.l3 g rfl;have o:=d.le;obtain⟨_,v,z⟩:=J3 d.hooks g rfl;have m:Ih w' n u2 c.Af 80:=by
  refine⟨d.Af.1,d.Af.2.imp id ?_⟩;rintro⟨l,A,u,t,s,k,r⟩;refine⟨l,A,u,t,s,(j.block l (Za.1 k).1 λe=>?_).trans k,r⟩;rcases e with e|e
  .omega
  rw[e,z]at k;cases k
 refine⟨Sl.imp (acL (d.base.apart j (λx f e=>?_)).si) (λy a=>⟨a.1.1,i.b1 y a.2⟩) λ_ _ x=>x,Sl.imp (acL (m.tt (.inr (.inr rfl)))) (λy a=>⟨a.1.1,i.b2 y a.2⟩) λ_ _ x=>x,Sl.imp (acL q.si) (λy a=>⟨a.1.1,i.b3 y a.2⟩) λ_ _ x=>x,
  adU (i.ss.Ar (j.same λy a=>o!)) λy a=>⟨o!,a.2⟩,Sl.imp (acL (d.now.apart j (λx f e=>?_)).si) (λy a=>⟨a.1.1,i.b5 y a.2⟩) λ_ _ x=>x⟩
 .rcases e with e|e
  .have:=(J3 d.base x f).1;omega
  exact d.d13 x f (by rw[e];rfl)
 rcases e with e|e
 .have:=(J3 d.now x f).1;omega
 exact d.d35 x (by rw[e];rfl) f
def aeH (a:CSp n M w u1 u2 u3 (.slice g c.Aa.length cap) u5 c)(hi:i<c.Aa.length):
  RC (Cb n (w.setCell ⟨g,i*5+4,none⟩ (.int .i64 x))) (w.setCell ⟨g,i*5+4,none⟩ (.int .i64 x)) u1 u2 u3 (.slice g c.Aa.length cap) u5 {c with Aa:=acQ c.Aa i x}:=by
 have f:Ak (λy=>y=g) w (w.setCell ⟨g,i*5+4,none⟩ (.int .i64 x)):=(Ak.refl _ _).set rfl;have o:=a.le;obtain⟨p,_⟩:=a.row.own g rfl;have u:=a.row.left (x:=x) hi;have m:Ih (w.setCell ⟨g,i*5+4,none⟩ (.int .i64 x)) n u2 c.Af 80:=by
  refine⟨a.Af.1,a.Af.2.imp id ?_⟩;rintro⟨j,t,s,l,r,k,q⟩;exact⟨j,t,s,l,r,(f.block j (Za.1 k).1 λe=>by have:=a.l2 j (by rw[l];rfl);omega).trans k,q⟩
 exact⟨(a.base.apart f λx b e=>by have:=a.l1 x b;omega).si,Sl.imp (m.tt (.inr (.inr rfl))) (λy d=>d.new) λ_ _ x=>x,(a.hooks.apart f λx b e=>by have:=a.l3 x b;omega).si,adU (u.ss (Zj _)) λy d=>⟨by have:=d.1;omega,d.2⟩,(a.now.apart f λx b e=>by have:=a.l5 x b;omega).si⟩
end
def ade:Array Zf:= #[(),(),(),(),()]
structure aa5 (V:Zb)(c:A_)(L:Array Bool)(x y:Nat->Zf)(n e b:Nat->Nat)(w:Zb):Prop where
 size:L.size=12
 below:Qb6 V w
 cop:∀k,k<3->aa3 L (1+2*k)=true->CqX (n k) (e k) w (x k) c/\V.heap.size<=n k/\n k<=e k/\e k<=w.heap.size
 ord:∀k,k<2->aa3 L (3+2*k)=true->e k<=n (k+1)
 box:∀k,k<3->aa3 L (6+k)=true->y k=.pointer (some ⟨b k,0,none⟩)/\V.heap.size<=b k/\∃cs,w.heap[b k]?=some (.cells cs 26 (0,0))/\(aa3 L (9+k)=false->cs=ade)/\(aa3 L (9+k)=true->x k=.agg cs)
 apart:∀k j,k<3->j<3->aa3 L (6+k)=true->aa3 L (1+2*j)=true->b k<n j\/e j<=b k
 afl:∀k j,k<3->j<3->k≠j->aa3 L (6+k)=true->aa3 L (6+j)=true->b k≠b j
section
variable {V:Zb}{c:A_}{L:Array Bool}{x y:Nat->Zf}{n e b:Nat->Nat}{w w':Zb}{k:Nat}
def aa5.adt (h:aa5 V c L x y n e b w)(a:k<3)(d:aa3 L (6+k)=true):b k<w.heap.size:=by
 obtain⟨_,_,cs,f,_⟩:=h.box k a d;exact(Za.1 f).1
def aa5.call (h:aa5 V c L x y n e b w)(J:k<3)(D:aa3 L (1+2*k)=false)(G:aa3 L (9+k)=false)(hp:∀j,j<k->aa3 L (1+2*j)=true)(E:∀j,j<3->k<j->aa3 L (1+2*j)=false)(o:Qb6 w w')(F:CqX w w' w' v c):
  aa5 V c (L.setIfInBounds (1+2*k) true) (upf x k v) y (upf n k w) (upf e k w') b w':=by
 have C:=o.size;have l:=h.below.size;refine⟨by simp[h.size],h.below.trans (o.mono l),λj g d=>?_,λj g d=>?_,λj g d=>?_,λi j m g d A=>?_,λi j m g I d A=>?_⟩
 .by_cases a:j=k
  .subst a
   rw[acf,acf,acf];exact⟨F,l,C,Zj _⟩
  rw[acj _ _ a,acj _ _ a,acj _ _ a];obtain⟨t,s,p,r⟩:=h.cop j g ((ac6 d).resolve_left o!);exact⟨t.later o,s,p,Zr r C⟩
 .rcases ac6 d with d|d
  .obtain rfl:k=j+1:=by omega
   rw[acf,acj _ _ o!];exact(h.cop j o! (hp j o!)).2.2.2
  have u:j+1≠k:=λf=>by
   rw[<-f,show 1+2*(j+1)=3+2*j by omega,d]at D;cases D
  have z:j≠k:=λf=>by
   have:=E (j+1) o! o!;rw[show 1+2*(j+1)=3+2*j by omega,d]at this;cases this
  rw[acj _ _ u,acj _ _ z];exact h.ord j g d
 .have d:=(ac6 d).resolve_left o!
  obtain⟨t,s,cs,p,r,H⟩:=h.box j g d;refine⟨t,s,cs,(o.block _ (Za.1 p).1).trans p,λf=>r (by rwa[af6 o!]at f),λf=>?_⟩;have f:=(ac6 f).resolve_left o!;have u:j≠k:=λq=>by rw[q,G]at f;cases f
  rw[acj _ _ u];exact H f
 .have B:=(ac6 d).resolve_left o!
  by_cases a:j=k
  .subst a
   rw[acf,acf];exact .inl (h.adt m B)
  rw[acj _ _ a,acj _ _ a];exact h.apart i j m g B ((ac6 A).resolve_left o!)
 exact h.afl i j m g I ((ac6 d).resolve_left o!) ((ac6 A).resolve_left o!)
def aa5.alloc (h:aa5 V c L x y n e b w)(D:k<3)(E:aa3 L (6+k)=false)(B:aa3 L (9+k)=false):
  aa5 V c (L.setIfInBounds (6+k) true) x (upf y k (.pointer w)) n e (upf b k w) (w.alloc (.cells ade 26)):=by
 have r:YH w w (w.alloc (.cells ade 26)):=bA (Zh _ _);have A:=r.size;have o:=h.below.size;refine⟨by simp[h.size],h.below.trans (r.mono o),λj d g=>?_,λj d g=>?_,λj d g=>?_,λi j p d g q=>?_,λi j p d z g q=>?_⟩
 .obtain⟨v,u,t,s⟩:=h.cop j d ((ac6 g).resolve_left o!)
  exact⟨v.later r,u,t,Zr s A⟩
 .exact h.ord j d ((ac6 g).resolve_left o!)
 .by_cases a:j=k
  .subst a
   rw[acf,acf];refine⟨rfl,o,ade,Bp _ _,λ_=>rfl,λl=>?_⟩;have l:=(ac6 l).resolve_left o!;rw[B]at l;cases l
  rw[acj _ _ a,acj _ _ a];obtain⟨v,u,cs,t,s,C⟩:=h.box j d ((ac6 g).resolve_left o!);exact⟨v,u,cs,Bf t _,λl=>s (by rwa[af6 o!]at l),λl=>C ((ac6 l).resolve_left o!)⟩
 .have m:=(ac6 q).resolve_left o!
  by_cases f:i=k
  .subst f
   rw[acf];exact .inr (h.cop j d m).2.2.2
  rw[acj _ _ f];exact h.apart i j p d ((ac6 g).resolve_left o!) m
 by_cases f:i=k
 .subst f
  rw[acf,acj _ _ (Za0 z)];have:=h.adt d ((ac6 q).resolve_left o!);omega
 rw[acj _ _ f];have m:=(ac6 g).resolve_left o!;by_cases a:j=k
 .subst a
  rw[acf];have:=h.adt p m;omega
 rw[acj _ _ a];exact h.afl i j p d z m ((ac6 q).resolve_left o!)
def aa5.store (h:aa5 V c L x y n e b w)(m:k<3)(p:aa3 L (6+k)=true){cs:Array Zf}(F:x k=.agg cs)(l:Ak (λq=>q=b k) w w')(G:w'.heap[b k]?=some (.cells cs 26 (0,0))):aa5 V c (L.setIfInBounds (9+k) true) x y n e b w':=by
 have E:=l.size;obtain⟨D,C,M,u,P,O⟩:=h.box k m p;have R:=(Za.1 u).1;refine⟨by simp[h.size],h.below.trans (l.below (λq Q=>o!) h.below.size),λj d a=>?_,λj d a=>?_,λj d a=>?_,λi j o d a s=>?_,λi j o d N a s=>?_⟩
 .have a:=(ac6 a).resolve_left o!
  obtain⟨K,J,I,H⟩:=h.cop j d a;exact⟨K.box l u (h.apart k j m d p a),J,I,Zr H E⟩
 .exact h.ord j d ((ac6 a).resolve_left o!)
 .have a:=(ac6 a).resolve_left o!
  by_cases g:j=k
  .subst g
   refine⟨D,C,cs,G,λf=>?_,λ_=>F⟩;rw[afk (by rw[h.size];omega)]at f;cases f
  obtain⟨B,A,r,t,z,v⟩:=h.box j d a;refine⟨B,A,r,(l.block _ (Za.1 t).1 (h.afl j k d m g a p)).trans t,λf=>z (by rwa[af6 o!]at f),λf=>v ((ac6 f).resolve_left o!)⟩
 .exact h.apart i j o d ((ac6 a).resolve_left o!) ((ac6 s).resolve_left o!)
 exact h.afl i j o d N ((ac6 a).resolve_left o!) ((ac6 s).resolve_left o!)
end
def af9 (h:Fs n s=0)(g:k<s.length)(l:(BV s k).1<=x/\x<=(BV s k).2):Fs n (s.set k (x,(BV s k).2))=0:=by
 have m:=(Ha h).1;have c:=(Ha h).2;unfold Fs at h⊢;rw[ZcC];split at h
 .cases h
 split at h
 .cases h
 rw[if_neg o!,if_neg o!];refine F5 λp f=>?_;obtain⟨i,b,e⟩:=Zas f;have d:i<s.length:=by simpa using b
 have a:BV (s.set k (x,(BV s k).2)) i=p:=by
  have:=EE b;rw[zf b]at this;rw[<-ZW this,e]
 rw[adg]at a;have j:=c i d;have o:=c k g;split at a
 .rw[<-a]
  exact Tb (by dsimp only;omega)
 rw[<-a];have:=Ef h i _ (EE d);exact this
def afm (h:Fs n s=0)(a:k<s.length):(BV s k).1<=(BV s k).2:=by
 unfold Fs at h;split at h
 .cases h
 split at h
 .cases h
 have:=WB (Ef h k _ (EE a));omega
def afa {base:Nat}(h:w.ownsRow base e k v n xs)(m:0<n):∃q cap a,v=.slice (some ⟨q,0,none⟩) n cap/\base<=q/\w.heap[q]?=some (.cells a e (0,0))/\n<=cap/\cap<=maxLen/\a.toList.take (n*k)=xs:=by
 rcases h.2 with⟨_,l⟩|⟨q,cap,a,d,f,g,i,b,j,c⟩
 .omega
 exact⟨q,cap,a,d,f,g,i,b,c⟩
def adf:∀(l:List (Int×Int)) (i:Nat) (x:Int),i<l.length->(l.flatMap λp=> [ZL .i64 p.1,.int .i64 p.2]).set (i*2) (.int .i64 x)=(l.set i (x,(BV l i).2)).flatMap λp=> [ZL .i64 p.1,.int .i64 p.2]
 | [],_,_,h=>h!
 |q::r,0,x,_=>rfl
 |q::r,i+1,x,h=>by
  have:=adf r i x (by simpa using h);rw[List.set_cons_succ,List.flatMap_cons,List.flatMap_cons,show BV (q::r) (i+1)=BV r i from rfl, <-this,show(i+1)*2=i*2+1+1 by omega]
  rfl
def Ih.aie {base:Nat}{l:List (Int×Int)}(h:Ih w base (.slice g n cap) l e)(hi:i<l.length)(x:Int):
  Ih (w.setCell ⟨g,i*2,none⟩ (.int .i64 x)) base (.slice g n cap) (l.set i (x,(BV l i).2)) e:=by
 obtain⟨o,m⟩:=h;rcases m with⟨a,_⟩|⟨q,r,p,a,k,j,f,d,c,b⟩
 .cases a
 cases a;refine⟨?_,.inr ⟨g,cap,_,by rw[ZcC],k,Ba j _,by simpa using f,d,by simpa using c,?_⟩⟩
 .rw[<-adf l i x hi]
  simpa using o
 rw[<-adf l i x hi];simp only[ZcM,ZcC,List.take_set];rw[b]
def agf (L:Array Bool)(i:Nat):Bool:=
 match i with
 |1=> !aa3 L 1&& !aa3 L 3&& !aa3 L 5&& !aa3 L 9
 |3=>aa3 L 1&& !aa3 L 3&& !aa3 L 5&& !aa3 L 10
 |5=>aa3 L 1&&aa3 L 3&& !aa3 L 5&& !aa3 L 11
 |6=> !aa3 L 6&& !aa3 L 9
 |7=> !aa3 L 7&& !aa3 L 10
 |8=> !aa3 L 8&& !aa3 L 11
 |9=>aa3 L 1&&aa3 L 6&& !aa3 L 9
 |10=>aa3 L 3&&aa3 L 7&& !aa3 L 10
 |11=>aa3 L 5&&aa3 L 8&& !aa3 L 11
 |_=>false
def agh (L:Array Bool):Bool:=aa3 L 1&&aa3 L 3&&aa3 L 5&&aa3 L 6&&aa3 L 7&&aa3 L 8&&aa3 L 9&&aa3 L 10&&aa3 L 11
def aek:Array Bool:= #[true,false,true,false,true,false,false,false,false,false,false,false]
def aa5.start {V:Zb}(i:Qb6 V w)(x y:Nat->Zf)(n e b:Nat->Nat):aa5 V c aek x y n e b w:=by
 have f:∀k,k<3->aa3 aek (1+2*k)=true->False:=λk a h=>by
  obtain rfl|rfl|rfl:k=0\/k=1\/k=2:=o!
  all_goals exact absurd h d!
 have d:∀k,k<3->aa3 aek (6+k)=true->False:=λk a h=>by
  obtain rfl|rfl|rfl:k=0\/k=1\/k=2:=o!
  all_goals exact absurd h d!
 exact⟨rfl,i,λk a h=>(f k a h).elim,λk a h=>(f (k+1) o! (by rwa[show 1+2*(k+1)=3+2*k by omega])).elim,λk a h=>(d k a h).elim,λk j a g h _=>(d k a h).elim,λk j a g _ h _=>(d k a h).elim⟩
def afn (h:agf L i=true):i=1\/i=3\/i=5\/i=6\/i=7\/i=8\/i=9\/i=10\/i=11:=by
 unfold agf at h;split at h<;>first|omega|cases h
def aif (hn:SI Sn w lv nums)(E8:∀x,Sn x->x<w.heap.size)(hG:Jr w):Calls Lp 13 #[lv] w (Two w (.bool true)):=by
 obtain⟨la,lc,rfl,_⟩:=hn.val;have IX:maxLen=9223372036854775807:=rfl;have H44:=Zd (fun(W:Zb) (b d:Nat) (h1:SI Sn W (.slice la nums.length lc) nums) (h2:∀x,Sn x->x<W.heap.size/\x≠b) (h3:BK W b (.slice la nums.length lc) d) (h4:d+1000<4611686018427387904)=>show Calls Lp 44 #[.pointer b,.int .i64 3] W (qL W b (.slice la nums.length lc) d 3) from c44 (s:=3) h1 h2 h3 h4 d!);go_enter Lp.func13,n13;go_wp2_with (first|(go_at_call 27;refine(c27 _ ⟨_,_,_,rfl⟩ _).mono ?_;rintro e W1 ⟨rfl,hw⟩;(have Bg:Qb6 w W1:=by rw[hw];exact bA (Zh _ _));(have Ue:BK W1 w (.slice la nums.length lc) 0:=⟨1,by rw[hw];exact Bp _ _⟩);clear hw;obtain⟨b,hb⟩:=Qnm w.heap.size;rw[<-hb]at Ue⊢;have HB:=Zd hb;clear hb)|(go_at_call 44;refine(H44.out _ _ _ (hn.later Bg) (λx t=>⟨by have:=E8 x t;have:=Bg.size;omega,by have:=E8 x t;have:=HB.out;omega⟩) Ue o!).mono ?_;rintro e W2 ⟨c,u1,u2,u3,u4,u5,d2,rfl,M7,ol,yv,hM,hc3⟩;obtain⟨a1,c1,a2,c2,a3,c3,a4,c4,a5,c5,rfl,rfl,rfl,rfl,rfl,_⟩:=yv.vs));have GK:b<=w.heap.size/\w<=b:=by have:=HB.out;omega
 have DR:=Bg.size;have FD:b<W1:=Ue.lt;have EB:=M7.Cn.size;have Bb:=B3.aj4 Bg M7.Cn o!;have Xo:=(hn.later Bg).Cn M7.Cn (λx t=>⟨by have:=E8 x t;omega,by have:=E8 x t;omega⟩);obtain⟨X,hX⟩:=Qnm (W2.alloc (.cells (Qe6 c a1 c1 a2 c2 a3 c3 a4 c4 a5 c5) 26));have Ov:Qb6 W2 X:=by rw[hX];exact bA (Zh _ _)
 have hK:X.heap[W2.heap.size]?=some (.cells (Qe6 c a1 c1 a2 c2 a3 c3 a4 c4 a5 c5) 26 (0,0)):=by rw[hX];exact Bp _ _
 obtain⟨q,hq⟩:=Qnm W2.heap.size;rw[<-hq]at hK;rw[<-hX, <-hq];have xS:q<X:=(Za.1 hK).1;have M9:W2<=q/\q<=W2.heap.size:=o!
 clear hX hq;have Jm:=hM.few;have hS:∀x,Cb W1 W2 x->x<X.heap.size/\x≠b:=λx t=>⟨by have:=t.2;have:=Ov.size;omega,by have:=t.1;omega⟩;refine(c38 (yv.later Ov) hS (Xo.later Ov) (λx t=>⟨by have:=E8 x t;have:=Ov.size;omega,by have:=E8 x t;omega⟩) (M7.E4.later Ov) o! hM).mono ?_;rintro e W3 ⟨sa,sc,s,d3,rfl,k_,hd3,et,ER⟩;have H4:=k_.Cn;have F1:=H4.at_ hK o!;have O9:=(yv.later Ov).Ar (H4.same λx t=>(hS x t).2);have Bv:=B3.aj4 (Bb.trans (Ov.mono Bb.size)) H4 o!;have Rb:=H4.size;have hzX:=Ov.size;have HM:=Zd hM;have bi:=Zd ER;have hbX:b<X:=o!
 have o9:RC (λx=>x<W3.heap.size/\x≠b) W3 (.slice a1 c.base.length c1) (.slice a2 c.Af.length c2) (.slice a3 c.hooks.length c3) (.slice a4 c.Aa.length c4) (.slice a5 c.now.length c5) c:=O9.imp λx t=>⟨by have:=(hS x t).1;omega,(hS x t).2⟩;have my:SP (λx=>x<W3.heap.size/\x≠b) W3 (.slice sa s.length sc) s:=Sl.imp et (λx t=>⟨t.2,by have:=t.1;omega⟩) λ_ _ x=>x;have mB:=hG.later Bv;have vy:=Zd (c64 o9 my (λx t=>t.1) HM.out.begin bi.out);obtain⟨F,hF⟩:=Qnm (lF c s);have HF:=Zd hF;rw[<-hF]at vy;clear hF;obtain⟨k0,k1,k2,k3,k4⟩:=Qc5 F1;dsimp only;go_wp2;refine vy.out.mono ?_;rintro e O ⟨De,⟨fa,fc,rfl,io⟩|⟨x,rfl,Ss⟩⟩
 rotate_left
 .exact⟨rfl,bU Bv De,.inr ⟨_,rfl,Ss⟩⟩
 clear k0 k1 k2 k3 k4;have hz4:=De.size;have Qn:=(De.block _ (Za.1 F1).1).trans F1;have D0:RC (λx=>x<O.heap.size/\x≠b) O (.slice a1 c.base.length c1) (.slice a2 c.Af.length c2) (.slice a3 c.hooks.length c3) (.slice a4 c.Aa.length c4) (.slice a5 c.now.length c5) c:=(o9.later De).imp λx t=>⟨by have:=t.1;omega,t.2⟩;have mi:SP (λx=>x<O.heap.size/\x≠b) O (.slice sa s.length sc) s:=Sl.imp (my.later De) (λx t=>⟨by have:=t.1;omega,t.2⟩) λ_ _ x=>x;have IY:SL (λx=>x<O.heap.size/\x≠b) O (.slice fa F.length fc) F:=SL.imp io λx t=>by
  rcases t with t|t
  .exact⟨by have:=t.1;omega,t.2⟩
  exact⟨t.2,by have:=t.1;omega⟩
 have tX:=(((Xo.later Ov).Cn H4 λx t=>⟨by have:=E8 x t;omega,by have:=E8 x t;omega⟩).later De);have td:∀x,Sn x->x<O.heap.size/\x≠b:=λx t=>⟨by have:=E8 x t;omega,by have:=E8 x t;omega⟩;have GE:LW b (.slice la nums.length lc) O d3 O:=LW.refl (k_.E4.later De);have WH:=bU Bv De;have hG4:=mB.later De;have b9:q<O.heap.size/\q≠b/\b<O:=⟨o!,o!,o!⟩;have iG:=Zd (λW d n (hL:LW b (.slice la nums.length lc) O d W) (hd:d<4611686018427387904) (h2:n<=1000000)=>abW (n:=n) tX td hL hd h2);have rW:=Zd (λW d lo hi (hL:LW b (.slice la nums.length lc) O d W) (hd:d<4611686018427387904) (h1: -1000000<=lo/\lo<=1000000) (h2: -1000000<=hi/\hi<=1000000)=>abV (lo:=lo) (hi:=hi) tX td hL hd h1 h2);have P3:=Zd D0;have PP:=Zd mi;have HF4:=Zd IY;have HGI:=Zd (ZY HM.out.valid.Fp HM.out.few);clear D0 mi IY io o9 my O9 et k_ Xo tX td Ue M7 yv hK F1 hM ER vy H4;have n8:=HGI.out;obtain⟨K,Ig⟩:∃K:Nat->Prop,K=λk=>k=b:=⟨_,rfl⟩;have Tg:¬K q:=by rw[Ig];exact b9.2.1
 have fh:K b:=by rw[Ig]
 have y0:=λp:Tw K O=>p.cell (ch (i:=0) Qn rfl) Tg;have y3:=λp:Tw K O=>p.cell (ch (i:=3) Qn rfl) Tg;have lX:IntKind.i64.wrap ((c.base.length:Int) - 1)=(c.base.length:Int) - 1:=by rw[zE];omega
 have nj:IntKind.i64.wrap ((c.Aa.length:Int) - 1)=(c.Aa.length:Int) - 1:=by rw[zE];omega
 clear Ig;go_wp2;refine acv (S:=λW=>∃p:Tw K O,W=p.v) 14 [] (.free 3 (.free 4 (.free 9 (.free 10 (.one 5 (.one 11 (.one 12 (.one 13 .leaf)))))))) [0,1,2,6,7,8] k! (λ_ _ d _ _ h=>by cases d<;>exact h) k! (A5 (Ak.later (Zh _ _).drew)) ?_;refine A4 _ _ k! ?_;simp only[Z6,zd,ZG,ZD,ZC]
 repeat (first|go_big_quiet_step (fail)|quiet_step (fail))
 refine Z4 ?_;clear y0 y3;change acm _ _ _ _ _ _ _ _;have aW:∃p:Tw K O,O.drew=p.v:=A5 (Ak.later (Zh _ _).drew);refine aca (v:=.int .i64 (c.base.length:Int)) aW rfl rfl (λw _=>g!) ?_
 go_simp
 refine aca (v:=.int .i64 ((c.base.length:Int) - 1)) aW rfl rfl (λw _=>g!) ?_
 go_simp
 refine aca (v:=.int .i64 (c.Aa.length:Int)) aW rfl rfl (λw _=>g!) ?_
 go_simp
 refine aca (v:=.int .i64 ((c.Aa.length:Int) - 1)) aW rfl rfl (λw _=>g!) ?_
 go_simp
 refine ad1 (f:=29) (args:= #[.pointer b,.int .i64 ((c.base.length:Int) - 1)]) rfl rfl g! ((iG.out _ _ _ (LW.drew GE) o! o!).mono ?_);rintro e aas ⟨k,aav,rfl,kq,UP,pa,hda⟩;have WQ:∃p:Tw K O,aas=p.v:=A5 (pa.Cn.CN fh);refine .inl ⟨_,rfl,.inr WQ,?_⟩
 go_simp
 refine ad1 (f:=29) (args:= #[.pointer b,.int .i64 ((c.Aa.length:Int) - 1)]) rfl rfl g! ((iG.out _ _ _ pa o! o!).mono ?_);rintro e W5 ⟨n,d5,rfl,Vo,Uo,xZ,hd5⟩;have kv:∃p:Tw K O,W5=p.v:=A5 (xZ.Cn.CN fh);refine .inl ⟨_,rfl,.inr kv,?_⟩
 go_simp
 refine adu (v:=.int .i64 k) (w':=W5) rfl rfl g! (.inr kv) ?_;refine adu (v:=.int .i64 n) (w':=W5) rfl rfl g! (.inr kv) ?_;unfold acm
 go_simp
 have hk:k<c.base.length:=o!
 have hn:n<c.Aa.length:=o!
 have p9:=xZ.Cn.size;clear WQ kv aW UP Uo lX nj pa GE;have BE:=PP.out.Cn xZ.Cn (λx t=>t) λ_ _ x=>x;have iD:=Zd (Ha bi.out).1;have RW:=Zd (aib BE (by have:=iD.out;omega));go_wp2;refine RW.out.mono ?_;rintro e W6 ⟨aax,rfl,DM,mz⟩;obtain⟨g,cap,cur,rfl,hg5,NM,TO,nm,tN⟩:=mz.at_ (i:=k) (by have:=iD.out;omega);have hz6:=DM.size;have GC:LW b (.slice la nums.length lc) O d5 W6:=⟨xZ.Cn.below DM,xZ.E4.later DM⟩;have hgb:g<W6:=(Za.1 NM).1;have B7:=afm bi.out (k:=k) (by have:=iD.out;omega);have CA:=(Ha bi.out).2 k (by have:=iD.out;omega);have P4:=Zd mz;obtain⟨lo,mK⟩:∃x,x=(BV s k).1:=⟨_,rfl⟩;obtain⟨hi,ne⟩:∃x,x=(BV s k).2:=⟨_,rfl⟩;rw[<-mK]at nm B7 CA;rw[<-ne]at tN B7 CA;have vi:=Zd (ZY mK ne);clear mK ne mz RW;obtain⟨fI,Ig⟩:∃K:Nat->Prop,K=λk=>k=b:=⟨_,rfl⟩;have pc:¬fI g:=by rw[Ig];show¬g=b;omega
 have No:fI b:=by rw[Ig]
 have y0:=λp:Tw fI W6=>p.cell nm pc;have y1:=λp:Tw fI W6=>p.cell tN pc;have TB:(k:Int)<(s.length:Int):=by have:=iD.out;omega
 have ahJ:(0:Int)<=(k:Int):=o!
 clear Ig;go_wp2;refine acv (S:=λW=>∃p:Tw fI W6,W=p.v) 17 [16] (.one 13 (.free 14 (.free 15 (.one 16 .leaf)))) [0,1,2,3,4,5,6,7,8,9,10,11,12] k! (λ_ _ d _ _ h=>by cases d<;>exact h) k! (A5 (Ak.later (Zh _ _).drew)) ?_;refine A4 _ _ k! ?_;simp only[Z6,zd,ZG,ZD,ZC]
 repeat (first|go_big_quiet_step (fail)|quiet_step (fail))
 refine Z4 ?_;clear y0 y1;change acm _ _ _ _ _ _ _ _;refine ad1 (f:=61) (args:= #[.pointer b,.int .i64 lo,.int .i64 hi]) rfl rfl g! ((rW.out _ _ _ _ (LW.drew GC) o! o! o!).mono ?_);rintro e mt ⟨r,PJ,rfl,hr,du,Fr,hdc⟩;obtain⟨x,t⟩:=Qnm (lo+(r:Int));rw[<-t];have HXX:=Zd (ZY t hr);clear t;have ml:B3 b W6 mt:=⟨du.os,du.tape,du.output,du.size,du.block⟩;have ka:∃p:Tw fI W6,mt=p.v:=A5 (ml.CN No);refine .inl ⟨_,rfl,.inr ka,?_⟩
 go_simp
 refine aca (v:=.pointer (some ⟨g,k*2,none⟩)) ka rfl rfl (λw _=>g!) ?_
 go_simp
 refine aca (v:=.pointer (some ⟨g,k*2,none⟩)) ka rfl rfl (λw _=>g!) ?_
 go_simp
 have tb:=P4.out.Cn ml o!;obtain⟨ajT,_,Mk,ajU,ajV,_⟩:=tb.at2 (i:=k) (by have:=iD.out;omega);have fg:=cf (i:=k*2) Mk;obtain⟨W7,C7⟩:=Qnm (mt.setCell ⟨g,k*2,none⟩ (.int .i64 x));have mv:=Zd C7;clear C7;refine ad0 (w':=W7) rfl rfl (by rw[mv.out];go_simp) (.inl rfl) ?_;unfold acm
 go_simp
 have DA:Ak (λy=>y=g) mt W7:=by rw[mv.out];exact(Ak.refl _ _).set rfl
 have Re:=Zd (show Ih W7 W5 (.slice g s.length cap) (s.set k (x,(BV s k).2)) 80 by rw[mv.out];exact tb.aie (by have:=iD.out;omega) x);have GB:LW b (.slice la nums.length lc) O PJ W7:=by rw[mv.out];exact Fr.D4 b9.2.2 o!
 have jp:=GB.Cn;have T9:=jp.at_ Qn b9.2.1;have hz7:=jp.size;have A9:lo<=x/\x<=hi:=by have:=HXX.out;omega
 have amf:W5<=W7.heap.size:=by have:=DA.size;have:=ml.size;omega
 clear DA ka ml du Fr tb P4 Mk ajU ajV fg GC DM NM TO nm tN pc No hr BE Qn;have DP:RC (λy=>y<W7.heap.size/\y≠b) W7 (.slice a1 c.base.length c1) (.slice a2 c.Af.length c2) (.slice a3 c.hooks.length c3) (.slice a4 c.Aa.length c4) (.slice a5 c.now.length c5) c:=(P3.out.Ar (jp.same λy m=>m.2)).imp λy m=>⟨by have:=m.1;omega,m.2⟩;have Qh:=HM.out.small;have vz:=Zd (λW (R:Qb6 W7 W)=>ajN (DP.later R) (λy m=>Zl m.1 R.size) (by have:=Qh.base;omega) (by have:=Qh.Af;omega) (by have:=Qh.hooks;omega) (by have:=Qh.Aa;omega) (by have:=Qh.now;omega) λi hi=>⟨by have:=(Qh.part i hi).1;omega,by have:=(Qh.part i hi).2;omega⟩);clear DP Qh;obtain⟨z0,z1,z2,z3,z4⟩:=Qz5 T9;go_wp2;refine adv (S:=λW=>∃p,W=calm W7 p) [0,2,4] 9 aek agf agh (λL a w=>∃(N J:Nat->Zf) (D ee bb:Nat->Nat),a= {tmps:=List.toArray ((Zy la nums.length lc)::Ze::(Value.bool false)::(ZbT b)::(ZbT q)::(Zy sa s.length sc)::(Zy fa F.length fc)::(ZL .i64 0)::(ZL .i64 (k:Int))::(ZL .i64 (n:Int))::(Zy g s.length cap)::J 0::J 1::J 2::Ze::Ze::Ze::Ze::Ze::Ze::Ze::(Zy la nums.length lc)::(ZbT b)::(ZbT b)::(Value.agg #[Zy a1 c.base.length c1,Zy a2 c.Af.length c2,Zy a3 c.hooks.length c3,Zy a4 c.Aa.length c4,Zy a5 c.now.length c5])::(ZbT b)::(Value.agg #[Zy a1 c.base.length c1,Zy a2 c.Af.length c2,Zy a3 c.hooks.length c3,Zy a4 c.Aa.length c4,Zy a5 c.now.length c5])::(Zy sa s.length sc)::(YK #[Zy fa F.length fc,ZL .i64 0])::(Value.agg #[Zy a1 c.base.length c1,Zy a2 c.Af.length c2,Zy a3 c.hooks.length c3,Zy a4 c.Aa.length c4,Zy a5 c.now.length c5])::(Zy sa s.length sc)::(YK #[Zy fa F.length fc,ZL .i64 0])::(Zy fa F.length fc)::(ZL .i64 0)::(ZL .i64 0)::(Value.bool false)::(ZbT b)::(ZbT q)::(Zy a1 c.base.length c1)::(ZL .i64 (c.base.length:Int))::(ZL .i64 ((c.base.length:Int) - 1))::(ZL .i64 (k:Int))::(ZbT b)::(ZbT (some ⟨q,3,none⟩))::(Zy a4 c.Aa.length c4)::(ZL .i64 (c.Aa.length:Int))::(ZL .i64 ((c.Aa.length:Int) - 1))::(ZL .i64 (n:Int))::(Zy sa s.length sc)::(Zy g s.length cap)::(Zy g s.length cap)::(ZL .i64 (k:Int))::(ZbT b)::(Zy g s.length cap)::(ZL .i64 (k:Int))::(ZbT (some ⟨g,k*2,none⟩))::(ZbT (some ⟨g,k*2,none⟩))::(ZL .i64 lo)::(Zy g s.length cap)::(ZL .i64 (k:Int))::(ZbT (some ⟨g,k*2,none⟩))::(ZbT (some ⟨g,k*2+1,none⟩))::(ZL .i64 hi)::(ZL .i64 x)::(ZbT (some ⟨g,k*2,none⟩))::(ZbT (some ⟨g,k*2,none⟩))::(Value.agg #[Zy a1 c.base.length c1,Zy a2 c.Af.length c2,Zy a3 c.hooks.length c3,Zy a4 c.Aa.length c4,Zy a5 c.now.length c5])::N 0::(Value.agg #[Zy a1 c.base.length c1,Zy a2 c.Af.length c2,Zy a3 c.hooks.length c3,Zy a4 c.Aa.length c4,Zy a5 c.now.length c5])::N 1::(Value.agg #[Zy a1 c.base.length c1,Zy a2 c.Af.length c2,Zy a3 c.hooks.length c3,Zy a4 c.Aa.length c4,Zy a5 c.now.length c5])::N 2::Ze::Ze::Ze::Ze::Ze::Ze::Ze::Ze::Ze::Ze::Ze::Ze::Ze::Ze::Ze::Ze::Ze::Ze::Ze::Ze::Ze::Ze::Ze::Ze::Ze::Ze::Ze::Ze::Ze::Ze::Ze::Ze::Ze::Ze::Ze::Ze::Ze::Ze::Ze::Ze::Ze::Ze::Ze::Ze::Ze::Ze::Ze::Ze::Ze::Ze::Ze::Ze::Ze::Ze::Ze::Ze::Ze::Ze::Ze::Ze::Ze::Ze::Ze::Ze::Ze::Ze::Ze::Ze::Ze::Ze::Ze::Ze::Ze::Ze::Ze::Ze::Ze::Ze::Ze::Ze::Ze::Ze::Ze::Ze::Ze::Ze::Ze::Ze::Ze::Ze::Ze::Ze::Ze::Ze::Ze::Ze::Ze::Ze::Ze::Ze::Ze::Ze::Ze::Ze::Ze::Ze::Ze::Ze::Ze::Ze::Ze::Ze::Ze::Ze::Ze::Ze:: []),defers:=[]}/\aa5 W7 c L N J D ee bb w) k! (λ_ _ d _ _ h=>by cases d<;>exact h) k! (AL (Zh _ _).drew) k! ?hI ?RV ?start
 case start=>
  refine A4 _ _ k! ?_;simp only[Z6,zd,ZG,ZD,ZC]
  repeat (first|go_big_quiet_step (fail)|quiet_step (fail))
  refine Z4 ?_;exact⟨λ_=>Ze,λ_=>Ze,λ_=>0,λ_=>0,λ_=>0,rfl,aa5.start (Zh _ _).drew _ _ _ _ _⟩
 case hI=>
  rintro L i _ w o ⟨N,J,D,ee,bb,rfl,z⟩;rcases afn o with rfl|rfl|rfl|rfl|rfl|rfl|rfl|rfl|rfl
  .have o:(!aa3 L 1&& !aa3 L 3&& !aa3 L 5&& !aa3 L 9)=true:=o
   simp only[ZF,ZcF]at o;refine DK (f:=33) (args:= #[.agg (Qe6 c a1 c1 a2 c2 a3 c3 a4 c4 a5 c5)]) rfl rfl g! ((vz.out _ z.below).mono ?_);intro e' w' hc;obtain⟨v,rfl,hB,hv⟩:=CqX.of hc;refine .inl ⟨v,rfl,AL (bU z.below hB),upf N 0 v,J,upf D 0 w,upf ee 0 w',bb,rfl,z.call (k:=0) d! (by simpa using o.1.1.1) (by simpa using o.2) (λj hj=>?_) (λj hj xK=>?_) hB hv⟩
   .omega
   obtain rfl|rfl:j=1\/j=2:=o!
   .exact o.1.1.2
   exact o.1.2
  .have o:(aa3 L 1&& !aa3 L 3&& !aa3 L 5&& !aa3 L 10)=true:=o
   simp only[ZF,ZcF]at o;refine DK (f:=33) (args:= #[.agg (Qe6 c a1 c1 a2 c2 a3 c3 a4 c4 a5 c5)]) rfl rfl g! ((vz.out _ z.below).mono ?_);intro e' w' hc;obtain⟨v,rfl,hB,hv⟩:=CqX.of hc;refine .inl ⟨v,rfl,AL (bU z.below hB),upf N 1 v,J,upf D 1 w,upf ee 1 w',bb,rfl,z.call (k:=1) d! (by simpa using o.1.1.2) (by simpa using o.2) (λj hj=>?_) (λj hj xK=>?_) hB hv⟩
   .obtain rfl:j=0:=by omega
    exact o.1.1.1
   obtain rfl:j=2:=o!
   exact o.1.2
  .have o:(aa3 L 1&&aa3 L 3&& !aa3 L 5&& !aa3 L 11)=true:=o
   simp only[ZF,ZcF]at o;refine DK (f:=33) (args:= #[.agg (Qe6 c a1 c1 a2 c2 a3 c3 a4 c4 a5 c5)]) rfl rfl g! ((vz.out _ z.below).mono ?_);intro e' w' hc;obtain⟨v,rfl,hB,hv⟩:=CqX.of hc;refine .inl ⟨v,rfl,AL (bU z.below hB),upf N 2 v,J,upf D 2 w,upf ee 2 w',bb,rfl,z.call (k:=2) d! (by simpa using o.1.2) (by simpa using o.2) (λj hj=>?_) (λj hj xK=>?_) hB hv⟩
   .obtain rfl|rfl:j=0\/j=1:=by omega
    .exact o.1.1.1
    exact o.1.1.2
   omega
  .have o:(!aa3 L 6&& !aa3 L 9)=true:=o
   simp only[ZF,ZcF]at o;refine EX (v:=.pointer w) (w':=w.alloc (.cells ade 26)) rfl rfl (by unfold ade;go_simp) ?_;exact⟨AL (bA z.below),N,upf J 0 (.pointer w),D,ee,upf bb 0 w,rfl,z.alloc (k:=0) d! o.1 o.2⟩
  .have o:(!aa3 L 7&& !aa3 L 10)=true:=o
   simp only[ZF,ZcF]at o;refine EX (v:=.pointer w) (w':=w.alloc (.cells ade 26)) rfl rfl (by unfold ade;go_simp) ?_;exact⟨AL (bA z.below),N,upf J 1 (.pointer w),D,ee,upf bb 1 w,rfl,z.alloc (k:=1) d! o.1 o.2⟩
  .have o:(!aa3 L 8&& !aa3 L 11)=true:=o
   simp only[ZF,ZcF]at o;refine EX (v:=.pointer w) (w':=w.alloc (.cells ade 26)) rfl rfl (by unfold ade;go_simp) ?_;exact⟨AL (bA z.below),N,upf J 2 (.pointer w),D,ee,upf bb 2 w,rfl,z.alloc (k:=2) d! o.1 o.2⟩
  .have o:(aa3 L 1&&aa3 L 6&& !aa3 L 9)=true:=o
   simp only[ZF,ZcF]at o;obtain⟨m,ip,cs,C,hz,_⟩:=z.box 0 d! o.1.2;obtain rfl:=hz o.2;obtain⟨⟨u1,u2,u3,u4,u5,M,H,Q,_⟩,_⟩:=z.cop 0 d! o.1.1;have Q:=Q.rc;obtain⟨q1,m1,q2,m2,q3,m3,q4,m4,q5,m5,rfl,rfl,rfl,rfl,rfl,_⟩:=Q.vs;obtain⟨u,Ga⟩:∃q,q=bb 0:=⟨_,rfl⟩;have oX:=z.adt (k:=0) d! o.1.2;rw[<-Ga]at m ip C oX;rw[m,H];unfold ade at C;obtain⟨g0,g1,g2,g3,g4⟩:=Qc5 C;obtain⟨f0,f1,f2,f3,f4⟩:=Qf5 C;obtain⟨w',rL⟩:=Qnm (((((w.setCell u (.slice q1 c.base.length m1)).setCell ⟨u,1,none⟩ (.slice q2 c.Af.length m2)).setCell ⟨u,2,none⟩ (.slice q3 c.hooks.length m3)).setCell ⟨u,3,none⟩ (.slice q4 c.Aa.length m4)).setCell ⟨u,4,none⟩ (.slice q5 c.now.length m5));have HW:=Zd rL;have bv:=Zd Ga;clear rL Ga;refine Rj (w':=w') rfl rfl (by rw[HW.out];go_simp) ?_;have am:Ak (λq=>q=u) w w':=by rw[HW.out];exact(Ak.refl (λx=>x=u) w).DT.DT.DT.DT.DT
   have Lc:Qb6 W7 w':=z.below.trans (am.below (λq hq=>o!) z.below.size);refine⟨AL Lc,N,J,D,ee,bb,by rw[m,H];rfl,z.store (k:=0) d! o.1.2 H (by rw[<-bv.out];exact am) (by rw[<-bv.out,HW.out];exact Ba (Ba (Ba (Ba (Ba C _) _) _) _) _)⟩
  .have o:(aa3 L 3&&aa3 L 7&& !aa3 L 10)=true:=o
   simp only[ZF,ZcF]at o;obtain⟨m,ip,cs,C,hz,_⟩:=z.box 1 d! o.1.2;obtain rfl:=hz o.2;obtain⟨⟨u1,u2,u3,u4,u5,M,H,Q,_⟩,_⟩:=z.cop 1 d! o.1.1;have Q:=Q.rc;obtain⟨q1,m1,q2,m2,q3,m3,q4,m4,q5,m5,rfl,rfl,rfl,rfl,rfl,_⟩:=Q.vs;obtain⟨u,Ga⟩:∃q,q=bb 1:=⟨_,rfl⟩;have oX:=z.adt (k:=1) d! o.1.2;rw[<-Ga]at m ip C oX;rw[m,H];unfold ade at C;obtain⟨g0,g1,g2,g3,g4⟩:=Qc5 C;obtain⟨f0,f1,f2,f3,f4⟩:=Qf5 C;obtain⟨w',rL⟩:=Qnm (((((w.setCell u (.slice q1 c.base.length m1)).setCell ⟨u,1,none⟩ (.slice q2 c.Af.length m2)).setCell ⟨u,2,none⟩ (.slice q3 c.hooks.length m3)).setCell ⟨u,3,none⟩ (.slice q4 c.Aa.length m4)).setCell ⟨u,4,none⟩ (.slice q5 c.now.length m5));have HW:=Zd rL;have bv:=Zd Ga;clear rL Ga;refine Rj (w':=w') rfl rfl (by rw[HW.out];go_simp) ?_;have am:Ak (λq=>q=u) w w':=by rw[HW.out];exact(Ak.refl (λx=>x=u) w).DT.DT.DT.DT.DT
   have Lc:Qb6 W7 w':=z.below.trans (am.below (λq hq=>o!) z.below.size);refine⟨AL Lc,N,J,D,ee,bb,by rw[m,H];rfl,z.store (k:=1) d! o.1.2 H (by rw[<-bv.out];exact am) (by rw[<-bv.out,HW.out];exact Ba (Ba (Ba (Ba (Ba C _) _) _) _) _)⟩
  have o:(aa3 L 5&&aa3 L 8&& !aa3 L 11)=true:=o;simp only[ZF,ZcF]at o;obtain⟨m,ip,cs,C,hz,_⟩:=z.box 2 d! o.1.2;obtain rfl:=hz o.2;obtain⟨⟨u1,u2,u3,u4,u5,M,H,Q,_⟩,_⟩:=z.cop 2 d! o.1.1;have Q:=Q.rc;obtain⟨q1,m1,q2,m2,q3,m3,q4,m4,q5,m5,rfl,rfl,rfl,rfl,rfl,_⟩:=Q.vs;obtain⟨u,Ga⟩:∃q,q=bb 2:=⟨_,rfl⟩;have oX:=z.adt (k:=2) d! o.1.2;rw[<-Ga]at m ip C oX;rw[m,H];unfold ade at C;obtain⟨g0,g1,g2,g3,g4⟩:=Qc5 C;obtain⟨f0,f1,f2,f3,f4⟩:=Qf5 C;obtain⟨w',rL⟩:=Qnm (((((w.setCell u (.slice q1 c.base.length m1)).setCell ⟨u,1,none⟩ (.slice q2 c.Af.length m2)).setCell ⟨u,2,none⟩ (.slice q3 c.hooks.length m3)).setCell ⟨u,3,none⟩ (.slice q4 c.Aa.length m4)).setCell ⟨u,4,none⟩ (.slice q5 c.now.length m5));have HW:=Zd rL;have bv:=Zd Ga;clear rL Ga;refine Rj (w':=w') rfl rfl (by rw[HW.out];go_simp) ?_;have am:Ak (λq=>q=u) w w':=by rw[HW.out];exact(Ak.refl (λx=>x=u) w).DT.DT.DT.DT.DT
  have Lc:Qb6 W7 w':=z.below.trans (am.below (λq hq=>o!) z.below.size);refine⟨AL Lc,N,J,D,ee,bb,by rw[m,H];rfl,z.store (k:=2) d! o.1.2 H (by rw[<-bv.out];exact am) (by rw[<-bv.out,HW.out];exact Ba (Ba (Ba (Ba (Ba C _) _) _) _) _)⟩
 rintro L _ w8 hl ⟨N,J,D,ee,bb,rfl,z⟩;have hl:(aa3 L 1&&aa3 L 3&&aa3 L 5&&aa3 L 6&&aa3 L 7&&aa3 L 8&&aa3 L 9&&aa3 L 10&&aa3 L 11)=true:=hl;simp only[ZF]at hl;obtain⟨⟨⟨⟨⟨⟨⟨⟨h1,h3⟩,h5⟩,h6⟩,h7⟩,h8⟩,h9⟩,GT⟩,GS⟩:=hl;obtain⟨mC,s8,cs0,Qi,_,Oo⟩:=z.box 0 d! h6;replace Oo:=Oo h9;obtain⟨⟨u01,u02,u03,u04,u05,aaG,mj,fi,ky⟩,ajW,L4,ajX⟩:=z.cop 0 d! h1;obtain rfl:cs0= #[u01,u02,u03,u04,u05]:=by rw[Oo]at mj;exact Value.agg.inj mj
 have ON:=fi.rc;obtain⟨AI,xi,p02,i7,AC,ww,At,ws,An,wn,rfl,rfl,rfl,rfl,rfl,_⟩:=ON.vs;obtain⟨mD,sr,cs1,L6,_,MF⟩:=z.box 1 d! h7;replace MF:=MF GT;obtain⟨⟨u11,u12,u13,u14,u15,aaH,mh,T,rR⟩,ajY,NE,ajZ⟩:=z.cop 1 d! h3;obtain rfl:cs1= #[u11,u12,u13,u14,u15]:=by rw[MF]at mh;exact Value.agg.inj mh
 have OF:=T.rc;obtain⟨im,gj,ii,f9,Sq,b8,gt,f8,gn,fK,rfl,rfl,rfl,rfl,rfl,_⟩:=OF.vs;obtain⟨AN,t9,cs2,NP,_,mH⟩:=z.box 2 d! h8;replace mH:=mH GS;obtain⟨⟨u21,u22,u23,u24,u25,M2,ma,bM,mg⟩,ak0,LR,ak1⟩:=z.cop 2 d! h5;obtain rfl:cs2= #[u21,u22,u23,u24,u25]:=by rw[mH]at ma;exact Value.agg.inj ma
 have On:=bM.rc;obtain⟨z7,wd,yx,vG,yq,vF,p24,vE,yn,vD,rfl,rfl,rfl,rfl,rfl,_⟩:=On.vs;have LF:=z.ord 0 d! h3;have LE:=z.ord 1 d! h5;have Jn:=z.below;rw[mC,mD,AN,mj,mh,ma];obtain⟨b0,Jz⟩:∃q,q=bb 0:=⟨_,rfl⟩;obtain⟨b1,pd⟩:∃q,q=bb 1:=⟨_,rfl⟩;obtain⟨b2,EC⟩:∃q,q=bb 2:=⟨_,rfl⟩;obtain⟨n0,Lo⟩:∃q,q=D 0:=⟨_,rfl⟩;obtain⟨n1,tn⟩:∃q,q=D 1:=⟨_,rfl⟩;obtain⟨n2,sq⟩:∃q,q=D 2:=⟨_,rfl⟩;obtain⟨e0,se⟩:∃q,q=ee 0:=⟨_,rfl⟩;obtain⟨e1,rE⟩:∃q,q=ee 1:=⟨_,rfl⟩;obtain⟨e2,KV⟩:∃q,q=ee 2:=⟨_,rfl⟩;rw[<-Jz, <-pd, <-EC];rw[<-Jz]at Qi s8;rw[<-pd]at L6 sr;rw[<-EC]at NP t9;rw[<-Lo]at fi ajW L4;rw[<-se]at ky L4 ajX;rw[<-tn]at T ajY NE;rw[<-rE]at rR NE ajZ;rw[<-sq]at bM ak0 LR;rw[<-KV]at mg LR ak1;change ee 0<=D 1 at LF;change ee 1<=D 2 at LE;rw[<-tn, <-se]at LF;rw[<-sq, <-rE]at LE;clear z mC mD AN mj mh ma Oo MF mH ON OF On Jz pd EC Lo tn sq se rE KV h1 h3 h5 h6 h7 h8 h9 GT GS z0 z1 z2 z3 z4;have hz8:=Jn.size;have GA:LW b (.slice la nums.length lc) O PJ w8:=⟨jp.below Jn,GB.E4.later Jn⟩;have U3:b<W7:=o!
 have T5:k<c.Af.length:=by have:=HM.out.PN;omega
 obtain⟨ge,aaZ,ce,Y3,hge,iX,ak2,rD,rh⟩:=fi.Af.at_ (i:=k) T5;cases Y3;have BY:=HM.out.Af _ (Z3 (EE T5));obtain⟨el,no⟩:∃x,x=(BV c.Af k).1:=⟨_,rfl⟩;obtain⟨i6,n7⟩:∃x,x=(BV c.Af k).2:=⟨_,rfl⟩;rw[<-no]at rD BY;rw[<-n7]at rh BY;have vx:=Zd (ZY no n7);have amj:=(Za.1 iX).1;clear no n7;obtain⟨fH,Ig⟩:∃K:Nat->Prop,K=λk=>k=b:=⟨_,rfl⟩;have ak5:¬fH b0:=by rw[Ig];show¬b0=b;omega
 have rg:¬fH ge:=by rw[Ig];show¬ge=b;omega
 have re:fH b:=by rw[Ig]
 obtain⟨co,kw⟩:∃K:Nat->Prop,K=λk=>k=b\/k=ge:=⟨_,rfl⟩;have ajg:¬co b0:=by
  rw[kw];rintro(e|e)
  .omega
  have t:=Qi;rw[e,iX]at t;cases t
 have ajh:co ge:=by rw[kw];exact .inr rfl
 have pu:co b:=by rw[kw];exact .inl rfl
 clear Ig kw;have y0:=λp:Tw co w8=>p.cell (ch (i:=1) Qi rfl) ajg;have y1:=λp:Tw fH w8=>p.cell rD rg;have y2:=λp:Tw fH w8=>p.cell rh rg;have To:(k:Int)<(c.Af.length:Int):=o!
 go_wp2;refine ady (S:=λW=>∃p:Tw co w8,W=p.v) (aa1:=λW=>∃p:Tw fH w8,W=p.v) 32 [29,30,31] [13,23] [13,23,28,29,30,31] (.one 13 (.free 14 (.free 15 (.one 23 (.free 24 (.free 25 (.free 26 (.free 27 (.one 28 (.one 29 (.one 30 (.one 31 .leaf)))))))))))) [0,1,2,3,4,5,6,7,8,9,10,12,16,17,18,19,20,22] [11,21] k! (λ_ _ d _ _ h=>by cases d<;>exact h) k! (A5 (Ak.later (Zh _ _).drew)) (A5 (Ak.later (Zh _ _).drew)) ?_;refine A4 _ _ k! ?_;simp only[Z6,zd,ZG,ZD,ZC]
 repeat (first|go_big_quiet_step (fail)|quiet_step (fail))
 refine Z4 ?_;clear y0;refine A4 _ _ k! ?_;simp only[Z6,zd,ZG,ZD,ZC]
 repeat (first|go_big_quiet_step (fail)|quiet_step (fail))
 refine Z4 ?_;clear y1 y2;change acm _ _ _ _ _ _ _ _;refine ad1 (f:=29) (args:= #[.pointer b,.int .i64 2]) rfl rfl g! ((iG.out _ _ _ (LW.drew GA) o! o!).mono ?_);rintro e PB ⟨r1,dd,rfl,Xg,dl,Fm,Pv⟩;have lL:B3 b w8 PB:=⟨dl.os,dl.tape,dl.output,dl.size,dl.block⟩;have jt:∃p:Tw co w8,PB=p.v:=A5 (lL.CN pu);refine .inl ⟨_,rfl,.inr ⟨jt,λ_=>A5 (lL.CN re)⟩,?_⟩
 go_simp
 have mx:IntKind.i64.wrap (el - (r1:Int))=el - (r1:Int):=by rw[zE];omega
 refine aca (v:=.int .i64 (el - (r1:Int))) jt rfl rfl (λw _=>g!) ?_
 go_simp
 refine aca (v:=.int .i64 (max (-9) (el - (r1:Int)))) jt rfl rfl (λw _=>g!) ?_
 go_simp
 obtain⟨U,H⟩:∃x,x=max (-9) (el - (r1:Int)):=⟨_,rfl⟩;rw[<-H];have vd:=Zd (ZY H Xg);clear H mx;refine ad1 (f:=29) (args:= #[.pointer b,.int .i64 2]) rfl rfl g! ((iG.out _ _ _ Fm o! o!).mono ?_);rintro e ut ⟨r2,abo,rfl,Ox,Do,Fk,hde⟩;have ck:B3 b w8 ut:=lL.trans Do;have ea:∃p:Tw co w8,ut=p.v:=A5 (ck.CN pu);refine .inl ⟨_,rfl,.inr ⟨ea,λ_=>A5 (ck.CN re)⟩,?_⟩
 go_simp
 have mx:IntKind.i64.wrap (i6+(r2:Int))=i6+(r2:Int):=by rw[zE];omega
 refine aca (v:=.int .i64 (i6+(r2:Int))) ea rfl rfl (λw _=>g!) ?_
 go_simp
 refine aca (v:=.int .i64 (min 9 (i6+(r2:Int)))) ea rfl rfl (λw _=>g!) ?_
 go_simp
 obtain⟨ai,mw⟩:∃x,x=min 9 (i6+(r2:Int)):=⟨_,rfl⟩;rw[<-mw];have vb:=Zd (ZY mw Ox);clear mw mx;refine aca (v:=.pointer (some ⟨ge,k*2,none⟩)) ea rfl rfl (λw _=>g!) ?_
 go_simp
 refine aca (v:=.pointer (some ⟨ge,k*2,none⟩)) ea rfl rfl (λw _=>g!) ?_
 go_simp
 have JT:=ck.at_ iX o!;have jn:=fi.Af.Cn ck o!;have f0:=cf (i:=k*2) JT;obtain⟨_,_,_,_,c0,_⟩:=jn.at2 (i:=k) T5;obtain⟨W9,C3⟩:=Qnm ((ut.setCell ⟨ge,k*2,none⟩ (.int .i64 U)));have fJ:=Zd C3;clear C3;refine ad0 (w':=W9) rfl rfl (by rw[fJ.out];go_simp) (.inr ⟨by rw[fJ.out];exact A5 ((ck.CN pu).set ajh),λh=>absurd h d!⟩) ?_
 go_simp
 have B4:Ih W9 n0 (.slice ge c.Af.length i7) (c.Af.set k (U,(BV c.Af k).2)) 80:=by rw[fJ.out];exact jn.aie T5 U
 obtain⟨ce9,_,Ju,_,_,c1⟩:=B4.at2 (i:=k) (by rw[ZcC];exact T5);have f1:=cf (i:=k*2+1) Ju;refine adu (v:=.pointer (some ⟨ge,k*2,none⟩)) (w':=W9) rfl rfl g! (.inl rfl) ?_
 go_simp
 refine adu (v:=.pointer (some ⟨ge,k*2+1,none⟩)) (w':=W9) rfl rfl g! (.inl rfl) ?_
 go_simp
 obtain⟨pZ,uD⟩:=Qnm ((W9.setCell ⟨ge,k*2+1,none⟩ (.int .i64 ai)));have lK:=Zd uD;clear uD;refine ad0 (w':=pZ) rfl rfl (by rw[lK.out];go_simp) (.inl rfl) ?_;unfold acm
 go_simp
 have bc:Ak (λy=>y=b\/y=ge) w8 pZ:=by rw[lK.out,fJ.out];exact((ck.CN (K:=λy=>y=b\/y=ge) (.inl rfl)).set (.inr rfl)).set (.inr rfl)
 have IS:Ih pZ n0 (.slice ge c.Af.length i7) (c.Af.set k (U,ai)) 80:=by rw[lK.out,fJ.out];exact jn.set T5 (U,ai)
 have IR:LW b (.slice la nums.length lc) O abo pZ:=by rw[lK.out,fJ.out];exact(Fk.D4 b9.2.2 o!).D4 b9.2.2 o!
 have fd:RC (λy=>n0<=y/\y<e0) pZ (.slice AI c.base.length xi) (.slice ge c.Af.length i7) (.slice AC c.hooks.length ww) (.slice At c.Aa.length ws) (.slice An c.now.length wn) {c with Af:=c.Af.set k (U,ai)}:=af7 fi ky bc o! IS;have alp:ge<e0:=ky.b2 ge rfl;have MF:∀x,n1<=x->¬(x=b\/x=ge):=λx t e=>o!
 replace T:=T.CN bc MF;have aml:=T.le;have lJ:aa4 aaH e1 pZ (.slice im c.base.length gj) (.slice ii c.Af.length f9) (.slice Sq c.hooks.length b8) (.slice gt c.Aa.length f8) (.slice gn c.now.length fK) c:=⟨rR.ss.Ar (bc.same λy m=>o!),rR.b1,rR.b2,rR.b3,rR.b5⟩;replace bM:=bM.CN bc λx t=>MF x o!;have H_:∀ {q:Nat} {cs:Array Zf},w8.heap[q]?=some (.cells cs 26 (0,0))->W7.heap.size<=q->pZ.heap[q]?=some (.cells cs 26 (0,0)):=λ{q cs} h hq=>(bc.block _ (Za.1 h).1 (λe=>by
  rcases e with e|e
  .omega
  rw[e,iX]at h;cases h)).trans h
 replace Qi:=H_ Qi s8;replace L6:=H_ L6 sr;replace NP:=H_ NP t9;have amm:=bc.size;have Of:Ak (λy=>y=b\/W7<=y) W7 pZ:=(Ak.later Jn).trans (bc.mono λy m=>by rcases m with e|e;exact .inl e;exact .inr o!);have kF:=IR.Cn;clear H_ MF bc IS B4 Ju c0 c1 f0 f1 jn JT jt ea dl Do lL ck Fm Fk iX ak2 rD rh fi ky rR ak5 rg re GA;have i9:k<c.hooks.length:=by have:=HM.out.hooks;omega
 obtain⟨I,abx,ch0,Xs,hgh,iW,ak9,aka,pt,akb⟩:=T.hooks.val o!;cases Xs;have akc:=HM.out.hook _ (Z3 (Bn i9));obtain⟨kq,pp⟩:∃x,x=nth c.hooks k:=⟨_,rfl⟩;have NX:=ch (i:=k) iW (pt k i9);rw[<-pp]at NX akc;have HHK:=Zd pp;clear pp;have amq:=(Za.1 iW).1;have akd:(k:Int)<(c.hooks.length:Int):=o!
 have kb:=ch (i:=2) L6 rfl;by_cases hz:kq=0
 case' pos=>
  subst hz;obtain⟨fy,Ig⟩:∃K:Nat->Prop,K=λk=>k=b:=⟨_,rfl⟩;have aqm:¬fy b1:=by rw[Ig];show¬b1=b;omega
  have amr:¬fy I:=by rw[Ig];show¬I=b;omega
  have ake:fy b:=by rw[Ig]
  clear Ig;have y0:=λp:Tw fy pZ=>p.cell (ch (i:=2) L6 rfl) aqm;go_wp2;refine acv (S:=λW=>∃p:Tw fy pZ,W=p.v) 7 [6] (.one 4 (.free 5 (.one 6 .leaf))) [0,1,2,3] k! (λ_ _ d _ _ h=>by cases d<;>exact h) k! (A5 (Ak.later (Zh _ _).drew)) ?_;refine A4 _ _ k! ?_;simp only[Z6,zd,ZG,ZD,ZC]
  repeat (first|go_big_quiet_step (fail)|quiet_step (fail))
  refine Z4 ?_;clear y0;change acm _ _ _ _ _ _ _ _;refine ad1 (f:=61) (args:= #[.pointer b,.int .i64 1,.int .i64 5]) rfl rfl g! ((rW.out _ _ _ _ (LW.drew IR) o! o! o!).mono ?_);rintro e mp ⟨r3,abK,rfl,hr3,ct,Fd,Kq⟩;have i5:B3 b pZ mp:=⟨ct.os,ct.tape,ct.output,ct.size,ct.block⟩;obtain⟨be,AT⟩:∃x,x=1+(r3:Int):=⟨_,rfl⟩;rw[<-AT];have ams:0<=be/\be<=5:=o!
  clear AT;have o8:∃p:Tw fy pZ,mp=p.v:=A5 (i5.CN ake);refine .inl ⟨_,rfl,.inr o8,?_⟩
  go_simp
  refine aca (v:=.pointer (some ⟨I,k,none⟩)) o8 rfl rfl (λw _=>g!) ?_
  go_simp
  have pm:=i5.at_ iW o!;have f0:=cf (i:=k) pm;have c0:=ch (i:=k) pm (pt k i9);have B2:Own mp n1 (.slice I c.hooks.length b8) c.hooks:=T.hooks.Cn i5 o!;obtain⟨B,ba⟩:=Qnm (mp.setCell ⟨I,k,none⟩ (.int .i64 be));have lG:=Zd ba;clear ba;refine ad0 (w':=B) rfl rfl (by rw[lG.out];go_simp) (.inl rfl) ?_;unfold acm
  go_simp
  have ap:Ak (λy=>y=b\/y=I) pZ B:=by rw[lG.out];exact(i5.CN (K:=λy=>y=b\/y=I) (.inl rfl)).set (.inr rfl)
  have IO:Own B n1 (.slice I c.hooks.length b8) (c.hooks.set k be):=by
   obtain⟨_,_,_,e1,_,_,_,_,_,hh⟩:=B2.val o!;cases e1;rw[lG.out];exact hh k be i9
  have an:RC (λy=>n1<=y/\y<e1) B (.slice im c.base.length gj) (.slice ii c.Af.length f9) (.slice I c.hooks.length b8) (.slice gt c.Aa.length f8) (.slice gn c.now.length fK) {c with hooks:=c.hooks.set k be}:=ads T lJ ap o! IO;have us:B3 b O B:=by rw[lG.out];exact(Fd.D4 b9.2.2 o!).Cn
  obtain⟨V,P⟩:=Qnm ( {c with hooks:=c.hooks.set k be});rw[<-P]at an;have EQ:H6 V:=by
   rw[P];exact adQ HM.out ZcC λx t=>by
    obtain⟨i,hi,e⟩:=Zas t;have aX:i<c.hooks.length:=by simpa using hi
    have h1:nth (c.hooks.set k be) i=x:=by
     have:=Bn hi;rw[zf hi]at this;rw[<-ZW this,e]
    rw[aej]at h1;split at h1
    .omega
    rw[<-h1];exact HM.out.hook _ (Z3 (Bn aX))
  have Rg:=Zd (show∀l∈lF c s,l∈lF V s by rw[P];exact adN HHK.out.symm);have RT:=Zd (show V.base.length=c.base.length by rw[P]);clear P i5 B2 pm f0 c0 o8 ct Fd IO;go_wp2
 case' neg=>
  go_wp2;obtain⟨B,ba⟩:=Qnm pZ;have ap:Ak (λy=>y=b\/y=I) pZ B:=by rw[ba];exact Ak.refl _ _
  have us:B3 b O B:=by rw[ba];exact kF
  have an:RC (λy=>n1<=y/\y<e1) B (.slice im c.base.length gj) (.slice ii c.Af.length f9) (.slice I c.hooks.length b8) (.slice gt c.Aa.length f8) (.slice gn c.now.length fK) c:=by
   rw[ba];exact ads T lJ (Ak.refl _ _) (b:=b) o! T.hooks
  obtain⟨V,P⟩:=Qnm c;have EQ:H6 V:=by rw[P];exact HM.out
  have Rg:=Zd (show∀l∈lF c s,l∈lF V s by rw[P];exact λl h=>h);have RT:=Zd (show V.base.length=c.base.length by rw[P]);replace an:RC (λy=>n1<=y/\y<e1) B (.slice im c.base.length gj) (.slice ii c.Af.length f9) (.slice I c.hooks.length b8) (.slice gt c.Aa.length f8) (.slice gn c.now.length fK) V:=by rw[P];exact an
  rw[<-ba];have HCH:=Zd P;clear ba P
 all_goals
  have aww:pZ<=B.heap.size:=ap.size;have amt:I<e1:=lJ.b3 I rfl;have axu:=bM.le;replace bM:=bM.CN ap λy m e=>by rcases e with e|e<;>omega
  replace fd:=fd.Ar (ap.same λy m=>o!);have H_:∀ {q:Nat} {cs:Array Zf},pZ.heap[q]?=some (.cells cs 26 (0,0))->W7.heap.size<=q->B.heap[q]?=some (.cells cs 26 (0,0)):=λ{q cs} h hq=>(ap.block _ (Za.1 h).1 (λe=>by
   rcases e with e|e
   .omega
   rw[e,iW]at h;cases h)).trans h
  replace Qi:=H_ Qi s8;replace L6:=H_ L6 sr;replace NP:=H_ NP t9;have NO:Ak (λy=>y=b\/W7<=y) W7 B:=Of.trans (ap.mono λy m=>by rcases m with e|e;exact .inl e;exact .inr o!);clear H_ ap Of T lJ iW ak9 aka pt akb NX kb;obtain⟨vals,SO,_⟩:=bM.row;obtain⟨gs,bJ,ajT,Z0,amv,iV,_⟩:=afa SO o!;cases Z0;obtain⟨_,_,v2,v3,e3,_,_,_,_,_,x4,_,_⟩:=(bM.row.ss (Zj _)).at_ (i:=n) hn;cases e3;have IX:=(HM.out.seam n hn).left;obtain⟨ln,UO⟩:∃x,x=(Aj c.Aa n).left:=⟨_,rfl⟩;rw[<-UO]at x4 IX;rw[zN]at x4;have cA:=Zd UO;clear UO;have ST:(n:Int)<(c.Aa.length:Int):=o!
  have xX:IntKind.i64.wrap (ln+1)=ln+1:=by rw[zE];omega
  have z0:=λp=>Al p (ch (i:=3) NP rfl);have z1:=λp=>Al p x4;refine acv (S:=λW=>∃p,W=calm B p) 14 [13] (.free 9 (.free 10 (.free 11 (.free 12 (.one 13 .leaf))))) [0,1,2,3,4,5,6,7,8] k! (λ_ _ d _ _ h=>by cases d<;>exact h) k! (AL (Zh _ _).drew) ?_;refine A4 _ _ k! ?_;simp only[Z6,zd,ZG,ZD,ZC]
  repeat (first|go_big_quiet_step (fail)|quiet_step (fail))
  refine Z4 ?_;clear z0 z1;change acm _ _ _ _ _ _ _ _;obtain⟨WD,ow⟩:=Qnm B.drew;have fm:Qb6 B WD:=by rw[ow];exact(Zh _ _).drew
  rw[<-ow];clear ow;have iv:∃p,WD=calm B p:=AL fm;refine aca (v:=.int .i64 (ln+1)) iv rfl rfl (λw _=>g!) ?_
  go_simp
  refine aca (v:=.int .i64 (min 4 (ln+1))) iv rfl rfl (λw _=>g!) ?_
  go_simp
  obtain⟨ac,AS⟩:∃x,x=min 4 (ln+1):=⟨_,rfl⟩;rw[<-AS];have IN:ln<=ac/\0<=ac/\ac<=4:=o!
  clear AS xX;refine aca (v:=.pointer (some ⟨gs,n*5,none⟩)) iv rfl rfl (λw _=>g!) ?_
  go_simp
  refine aca (v:=.pointer (some ⟨gs,n*5+4,none⟩)) iv rfl rfl (λw _=>g!) ?_
  go_simp
  have IF:=(fm.block _ (Za.1 iV).1).trans iV;have f4:=cf (i:=n*5+4) IF;have So:=(fm.cell (p:=⟨gs,n*5+4,none⟩) (Za.1 iV).1).trans x4;obtain⟨E,Iz⟩:=Qnm (WD.setCell ⟨gs,n*5+4,none⟩ (.int .i64 ac));have lm:=Zd Iz;clear Iz;refine ad0 (w':=E) rfl rfl (by rw[lm.out];go_simp) (.inl rfl) ?_;unfold acm
  go_simp
  have DO:RC (Cb n2 E) E (.slice z7 c.base.length wd) (.slice yx c.Af.length vG) (.slice yq c.hooks.length vF) (.slice gs c.Aa.length vE) (.slice yn c.now.length vD) {c with Aa:=acQ c.Aa n ac}:=by rw[lm.out];exact aeH (bM.later fm) hn
  have fx:Ak (λy=>y=gs) B E:=by rw[lm.out];exact(Ak.later fm).set rfl
  replace fd:=fd.Ar (fx.same λy m=>by show¬y=gs;omega);replace an:=an.Ar (fx.same λy m=>by show¬y=gs;omega);have H_:∀ {q:Nat} {cs:Array Zf},B.heap[q]?=some (.cells cs 26 (0,0))->E.heap[q]?=some (.cells cs 26 (0,0)):=λ{q cs} h=>(fx.block _ (Za.1 h).1 (λe=>by
   have e:q=gs:=e;rw[e,iV]at h;cases h)).trans h
  replace Qi:=H_ Qi;replace L6:=H_ L6;replace NP:=H_ NP;have amy:=fx.size;have un:Ak (λy=>y=b\/W7<=y) W7 E:=NO.trans (fx.mono λy m=>by have e:y=gs:=m;exact .inr o!);have bL:B3 b O E:=by rw[lm.out];exact(us.below fm).D4 o!
  have Hd:=(un.block _ (Za.1 T9).1 (λe=>by have:=b9.2.1;rcases e with e|e<;>omega)).trans T9;have hzU:=bL.size;have DB:RC (λy=>y<E.heap.size) E (.slice a1 c.base.length c1) (.slice a2 c.Af.length c2) (.slice a3 c.hooks.length c3) (.slice a4 c.Aa.length c4) (.slice a5 c.now.length c5) c:=(P3.out.Ar (bL.same λy m=>m.2)).imp λy m=>by have:=m.1;show y<_;omega
  have i8:SP (λy=>y<E.heap.size) E (.slice sa s.length sc) s:=Sl.imp (PP.out.Cn bL (λy m=>m) λ_ _ x=>x) (λy m=>by have:=m.1;show y<_;omega) λ_ _ x=>x;have GO:SL (λy=>y<E.heap.size) E (.slice fa F.length fc) F:=SL.imp (HF4.out.Ar (bL.same λy m=>m.2)) λy m=>by have:=m.1;show y<_;omega
  have B8:SP (λy=>y<E.heap.size) E (.slice g s.length cap) (s.set k (x,(BV s k).2)):=Sl.imp (Sl.Ar (S:=λy=>W5.heap.size<=y/\y<W7) (Sl.imp (Re.out.tt (.inr (.inr rfl))) (λy m=>⟨m.1,m.lt⟩) λ_ _ x=>x) (un.same λy m=>o!) λ_ _ x=>x) (λy m=>by show y<_;omega) λ_ _ x=>x;have It:RC (λy=>y<E.heap.size) E (.slice AI c.base.length xi) (.slice ge c.Af.length i7) (.slice AC c.hooks.length ww) (.slice At c.Aa.length ws) (.slice An c.now.length wn) {c with Af:=c.Af.set k (U,ai)}:=fd.imp λy m=>by show y<_;omega
  have Is:RC (λy=>y<E.heap.size) E (.slice im c.base.length gj) (.slice ii c.Af.length f9) (.slice I c.hooks.length b8) (.slice gt c.Aa.length f8) (.slice gn c.now.length fK) V:=an.imp λy m=>by show y<_;omega
  have In:RC (λy=>y<E.heap.size) E (.slice z7 c.base.length wd) (.slice yx c.Af.length vG) (.slice yq c.hooks.length vF) (.slice gs c.Aa.length vE) (.slice yn c.now.length vD) {c with Aa:=acQ c.Aa n ac}:=DO.imp λy m=>m.2;have pi:Qb6 w E:=B3.aj4 WH bL o!;have UV:=hG.later pi;have FD:=af9 bi.out (k:=k) (x:=x) (by have:=iD.out;omega) (by rw[<-vi.out.1, <-vi.out.2];exact A9);have EC:BN {c with Af:=c.Af.set k (U,ai)}=0:=adP HM.out ZcC λp o=>by
   obtain⟨i,hi,e⟩:=Zas o;have aX:i<c.Af.length:=by simpa using hi
   have h1:BV (c.Af.set k (U,ai)) i=p:=by
    have:=EE hi;rw[zf hi]at this;rw[<-ZW this,e]
   rw[adg]at h1;have lW:=vd.out;have jZ:=vb.out;split at h1
   .rw[<-h1]
    dsimp only;omega
   rw[<-h1];have:=HM.out.Af _ (Z3 (EE aX));omega
  have UQ:BN {c with Aa:=acQ c.Aa n ac}=0:=(aev (n:=c.now) HM.out (adi hn ac) (λi hi=>by
   rw[ae5 hn];split
   .exact IN.2
   exact(HM.out.seam i (by rw[acK]at hi;exact hi)).left) HM.out.now).begin
  have HI1:=Zd (show∀l∈F,l∈lF c (s.set k (x,(BV s k).2)) by rw[HF.out];exact aeD (by rw[<-vi.out.1];exact A9.1));have HI2:=Zd (show∀l∈F,l∈lF {c with Af:=c.Af.set k (U,ai)} s by rw[HF.out];exact aeF (by
   rw[<-vx.out.1, <-vx.out.2];have lW:=vd.out;have jZ:=vb.out;omega))
  have HI3:=Zd (show∀l∈F,l∈lF V s by rw[HF.out];exact Rg.out);have HI4:=Zd (show∀l∈F,l∈lF {c with Aa:=acQ c.Aa n ac} s by rw[HF.out];exact adO hn (by rw[<-cA.out];exact IN.1));have rC:=Zd (λW (R:Qb6 E W)=>c64 (DB.later R) (B8.later R) (λy m=>Zl m R.size) HM.out.begin FD);have rB:=Zd (λW (R:Qb6 E W)=>c64 (It.later R) (i8.later R) (λy m=>Zl m R.size) EC bi.out);have rx:=Zd (λW (R:Qb6 E W)=>c64 (Is.later R) (i8.later R) (λy m=>Zl m R.size) EQ.begin (by rw[RT.out];exact bi.out));have ru:=Zd (λW (R:Qb6 E W)=>c64 (In.later R) (i8.later R) (λy m=>Zl m R.size) UQ bi.out);clear DB B8 It Is In i8 FD EC UQ fd an DO bM H_ NO fx un bL us T9 x4 So f4 iV IF iv ST IX To akd Re iG rW vd vb vx;obtain⟨PC,Xn⟩:∃F',F'=lF c (s.set k (x,(BV s k).2)):=⟨_,rfl⟩;rw[<-Xn]at rC HI1;clear Xn;obtain⟨PA,Au⟩:∃F',F'=lF {c with Af:=c.Af.set k (U,ai)} s:=⟨_,rfl⟩;rw[<-Au]at rB HI2;clear Au;obtain⟨Pi,Ww⟩:∃F',F'=lF V s:=⟨_,rfl⟩;rw[<-Ww]at rx HI3;clear Ww;obtain⟨OS,IY⟩:∃F',F'=lF {c with Aa:=acQ c.Aa n ac} s:=⟨_,rfl⟩;rw[<-IY]at ru HI4;clear IY;obtain⟨k0,k1,k2,k3,k4⟩:=Qc5 Hd;go_wp2;refine(rC.out _ (Zh _ _)).mono ?_;rintro e W13 ⟨li,⟨WZ,WY,rfl,xr⟩|⟨x,rfl,Ss⟩⟩
  rotate_left
  .exact⟨rfl,bU pi li,.inr ⟨_,rfl,Ss⟩⟩
  clear k0 k1 k2 k3 k4;have Im:=bU pi li;have amH:=li.size;have rr:Qb6 E W13:=li;have pM:=(rr.block _ (Za.1 Qi).1).trans Qi;obtain⟨k0,k1,k2,k3,k4⟩:=Qc5 pM;go_wp2;refine(rB.out _ (rr)).mono ?_;rintro e W14 ⟨iS,⟨WX,WU,rfl,MK⟩|⟨x,rfl,Ss⟩⟩
  rotate_left
  .exact⟨rfl,bU Im iS,.inr ⟨_,rfl,Ss⟩⟩
  clear k0 k1 k2 k3 k4;have If:=bU Im iS;have amL:=iS.size;have rq:Qb6 E W14:=bU rr iS;have B9:=(rq.block _ (Za.1 L6).1).trans L6;obtain⟨k0,k1,k2,k3,k4⟩:=Qc5 B9;go_wp2;refine(rx.out _ (rq)).mono ?_;rintro e W15 ⟨fw,⟨WP,WF,rfl,cK⟩|⟨x,rfl,Ss⟩⟩
  rotate_left
  .exact⟨rfl,bU If fw,.inr ⟨_,rfl,Ss⟩⟩
  clear k0 k1 k2 k3 k4;have Id:=bU If fw;have amP:=fw.size;have ri:Qb6 E W15:=bU rq fw;have ol:=(ri.block _ (Za.1 NP).1).trans NP;obtain⟨k0,k1,k2,k3,k4⟩:=Qc5 ol;go_wp2;refine(ru.out _ (ri)).mono ?_;rintro e G ⟨ci,⟨Vv,Vu,rfl,io⟩|⟨x,rfl,Ss⟩⟩
  rotate_left
  .exact⟨rfl,bU Id ci,.inr ⟨_,rfl,Ss⟩⟩
  clear k0 k1 k2 k3 k4;have HG:=bU Id ci;have amS:=ci.size;have Hi:Qb6 E G:=bU ri ci;have ER:SL (λy=>y<G.heap.size) G (.slice fa F.length fc) F:=SL.imp (SL.later GO Hi) λy m=>by have m:y<E:=m;show y<_;omega
  have MM:SL (λy=>y<G.heap.size) G (.slice WZ PC.length WY) PC:=SL.imp (SL.later xr (bU iS (bU fw ci))) λy m=>by
   show y<_;rcases m with m|m
   .have m:y<E:=m
    omega
   have:=m.2;omega
  have LO:SL (λy=>y<G.heap.size) G (.slice WX PA.length WU) PA:=SL.imp (SL.later MK (bU fw ci)) λy m=>by
   show y<_;rcases m with m|m
   .have m:y<E:=m
    omega
   have:=m.2;omega
  have et:SL (λy=>y<G.heap.size) G (.slice WP Pi.length WF) Pi:=SL.imp (SL.later cK ci) λy m=>by
   show y<_;rcases m with m|m
   .have m:y<E:=m
    omega
   have:=m.2;omega
  have mi:SL (λy=>y<G.heap.size) G (.slice Vv OS.length Vu) OS:=SL.imp io λy m=>by
   show y<_;rcases m with m|m
   .have m:y<E:=m
    omega
   have:=m.2;omega
  have H66:=Zd (λW (R:Qb6 G W) (v:Zf) (A:List (List Int)) (hv:SL (λy=>y<G.heap.size) G v A) (hi:Hid (∀l∈F,l∈A))=>c66 (SL.later ER R) (SL.later hv R) (λy m=>Zl m R.size) (λy m=>Zl m R.size) hi.out);have fu:=Zh G G;clear xr MK cK io pM B9 ol Qi L6 NP Hd GO rC rB rx ru;go_wp2_with (first|(go_at_call 66;refine(H66.out _ fu _ _ a! a!).mono ?_;rintro e Y ⟨rfl,Vt⟩;have fu:=bU fu Vt)|(go_at_call 26;refine(c26 _ (UV.later (bU Hi fu))).mono ?_;rintro e Z ⟨GP,rfl|⟨x,rfl,Ss⟩⟩))
  .go_ret
   exact⟨bU (bU HG fu) GP,.inl rfl⟩
  exact⟨rfl,bU (bU HG fu) GP,.inr ⟨_,rfl,Ss⟩⟩
end Go.Proofs.Fit
namespace Go.Proofs.YtkkjobdfheidkaaGreatDoor
open Go Go.Conc Go.RowKit Go.Proofs.Fit
set_option maxRecDepth 100000
def aeS:(Rows.seamWiderRow.inPlace==Tryz.prog.inPlace 13)=true:=k!
def adB:(Rows.seamWiderRow.unfollowed==Tryz.prog.unfollowed 13)=true:=k!
def ae3:(Rows.seamWiderRow.recurses==Tryz.prog.recurses 13)=true:=k!
def afz:(Rows.seamWiderRow.named==Tryz.prog.varsNamed 13)=true:=k!
def afJ:joinedFacts Zc 13 Tryz.f13 Rows.seamWiderSpec Rows.seamWiderRow=true:=
 kQ k! k! k! k! k! aeS adB ae3 afz k! k! k! k! k! k! k! k! k! rfl rfl rfl rfl rfl rfl k! k! k!
def afh (os:Os)(a:os.Started)(H:Type)(enc:Zs×Zf->H):ReturnsInLeavingWide {} Tryz.checked os 13 .any (λw args=>(Rows.seamWiderSpec.pre enc Zc Tryz.f13 [] false w args/\laidMetH Zc PT w)/\sizedMet enc Zc Tryz.f13 (ZbV Rows.seamWiderSpec) false w args)
   (Rows.seamWiderSpec.post enc Zc Tryz.f13 false true false false):=
 eO (s:=Rows.seamWiderSpec) a rfl rfl Tryz.func13 rfl rfl k! k! rfl k! (λe h=>by
    match e,h with
    | [_],_=>rfl)
   (ChangeSpec.witness_shaped (enc:=enc) (C:=Tryz.checked) (os:=os) (X:=λw _=>laidMetH Zc PT w) false (Vg os) #[()] 8 rfl (World.shaped_of_RefB k! k!) k! k! k! (Ub os _))
   (λW base args e j b i _ c=>qc rfl b i c λw v d g c=>aif g (λx f=>f) c)
def ajA:Rows.SeamWiderSaid:=
 OpenClaim.holds_of_wide_leaving 13 Tryz.f13 rfl rfl rfl rfl rfl rfl rfl ⟨rfl,rfl,rfl,rfl,rfl⟩ rfl rfl rfl rfl rfl k! Tryz.func13 afJ
  (of_decide_eq_true k!) (by unfold Func.isWrapper;rw[if_neg (by decide+kernel)];exact⟨rfl,rfl⟩) (λc a H b _=>afh c a H b)
def ahR:true=Rows.seamWiderRow.goesBy Tryz.pinned.checked.prog:=k!
theorem wider_holds:Rows.SeamWiderCardSaid:=
 kM [.handle] (true,"d58ada5a772cea19d6c1f322b38be8e13f90afce78f95e9e644b853f050ce369") ajA k! (OpenClaim.laidByTextAt_later rfl rfl qd abD) rfl ⟨rfl,rfl⟩ uI
  (λf fn c d=>by
   obtain rfl:f=13:=ZW ((show Tryz.prog.funcNamed "galloon/galloonlaw02.SeamWider" =some 13 by kernel_rfl).symm.trans c)|>.symm;obtain rfl:fn=Tryz.f13:=(ZW (Tryz.func13.symm.trans d)).symm;exact⟨abE,λj t a=>by
    have b:t∈ [22]:=by simpa using zY a
    have e:([22].all λu=> !Tryz.prog.wantsStandIn u)=true:=k!
    exact(show Tryz.prog.wantsStandIn t=false by simpa using Zdm.1 e t b)⟩)
  ahR
#print axioms wider_holds
end Go.Proofs.YtkkjobdfheidkaaGreatDoor
