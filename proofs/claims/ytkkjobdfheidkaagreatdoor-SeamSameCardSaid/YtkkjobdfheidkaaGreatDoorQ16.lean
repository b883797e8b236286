/- SeamSame: for all arguments of the row's types, on every schedule and without a data race, the law returns true, and the arguments read afterwards as they read before. Conditions: those of the given row alone (the variable errors.errorType starts as the program's text lays it; the card ties that to the text). -/
import Derived.Test.YtkkjobdfheidkaaGreatDoorQ11
import Derived.Test.YtkkjobdfheidkaaGreatDoorQ10b
import Derived.Test.YtkkjobdfheidkaaGreatDoorQ08
import Derived.Lib.MinMax
import Derived.Sort.QuietIn
set_option maxRecDepth 100000
set_option maxHeartbeats 6400000
noncomputable section
set_option linter.all false
open And renaming intro->ZY
open Array renaming getElem?_eq_some_iff->Za,replicate->Yu,replicate_succ->ZaN,replicate_zero->ZaM,mem_of_getElem?->zY
open Bool renaming and_eq_true->ZF,eq_iff_iff->ZcG
open Function renaming comp_def->ZdQ
open Go renaming Value->Zf,World->Zb,callFunc->Zz,TypeId->Zs,info_parts->zp,wpList_append_own->Yc,ownsRow_succ->Zay,wpQuiet_nil->Z4,Program->Zo,YieldsIf->ZbF,wpOp_mono->Zcc,wp_region_any->Zd5,execOp->Zby,FuncId->ZaQ,undef->Ze,run_underlying->Y9,callsIn_wide->Zcx
open Go.Act renaming put->Zck
open Go.Code renaming region->zU
open Go.Fence renaming wide->ZbC
open Go.Instr renaming checkKey->YD,keyThatStays->Yi,sameBits->zH,findKey->Zaj,findNow->ZaJ,findAsking->zX,sameNow->Zbj,mapEntry->ZcK,entryStore->Zch,lookup->Za2
open Go.IntKind renaming wrap_i64->zE
open Go.Lib renaming hid->Zd
open Go.Op renaming equal->Zaa,equalIn->ZaZ
open Go.OpenSpec renaming ofChange->ZbV
open Go.Oper renaming semAt_some->Zdk,wp->ZbA,upon_value->Zdi,upon_enter->Zdj
open Go.Proofs.Tryz renaming underlying22->YE,underlying27->zW,underlying23->Zdg,prog->Zc
open Go.Region renaming Mode->YO,ready->zs,free->Za3,noSelect->YF,wanted->Yf
open Go.Result renaming andThen_ok->Zaw,andThen->zu
open Go.RowKit renaming Below->YH
open Go.RowKit.Below renaming refl->Zh
open Go.Sem renaming run_bind->zg
open Go.Value renaming int->ZL,oneCell'->YT,slice->Zy
open Go.World renaming size_alloc->ZB,ownsRow_nil->zq,block_lt_of_cell?->ZH,putObj_heap_same->Zau,putObj_heap_other->zG
open Go.World.ownsRow renaming alloc->Ya,lt->Zcm
open List renaming range->Yr,ext_getElem?->YA,getElem?_eq_none->ZP,getElem?_set_self->Ys,getElem?_set_ne->ZS,drop_eq_nil_iff->Z7,length_append->ZA,getElem?_append_left->zl,getElem?_eq_some_iff->Zm,length_cons->zb,length_nil->zR,getElem?_concat_length->Y1,nil_append->zP,append_nil->ZaA,take_add_one->ZbH,getElem?_map->YL,flatMap_append->Zbe,drop_eq_getElem_cons->ZO,length_take->ZcV,getD_eq_getElem?_getD->Y6,getElem?_take_of_lt->Z2,take_zero->ZdB,mem_of_getElem?->Z3,length_take_le->ZbW,map_append->Zai,append_assoc->Zae,take_of_length_le->Zb3,take_length->ZcU,filterMap_cons->Z6,filterMap_nil->zd,getElem?_toArray->ZG,getElem?_cons_succ->ZD,getElem?_cons_zero->ZC,mem_append->Zab,mem_singleton->Yh,all_eq_true->Zdm,getElem?_eq_getElem->zf,range'->Zcq,filter_append->ZcW,filter_cons->ZbB,mem_cons_of_mem->zm,mem_cons_self->zC,getElem_of_mem->Zas,size_toArray->Zbm,push_toArray->Zbn,append_toArray->Za4,cons_append->Za1,length_filter_le->Zac
open Nat renaming zero_le->Zp,le_refl->Zj,le_trans->Zr,pow_le_pow_right->YX,lt_of_lt_of_le->Zl,reduceAdd->ZaF,reduceSub->Zcw,le_of_eq->ZcS
open Option.some renaming inj->ZW
open Std.Legacy.Range renaming forIn_eq_forIn_range'->Zdw
namespace Go.Proofs.Fit
open Go
@[simp] def Lp.func15:=l! Tryz.func15
@[simp] def Lp.call27:=c! Lp.func27
@[simp] def Lp.func38:=l! Tryz.func38
@[simp] def Lp.call38:=c! Lp.func38
@[simp] def Lp.func47:=l! Tryz.func47
@[simp] def Lp.call47:=c! Lp.func47
@[simp] def Lp.func66:=l! Tryz.func66
@[simp] def Lp.call66:=c! Lp.func66
@[simp] def Lp.func67:=l! Tryz.func67
@[simp] def Lp.call67:=c! Lp.func67
@[simp] def Lp.func71:=l! Tryz.func71
@[simp] def Lp.call71:=c! Lp.func71
@[simp] def Lp.func130:=l! Tryz.func130
@[simp] def Lp.call130:=c! Lp.func130
def n15:Tryz.f15.ntmps=136:=rfl
def n38:Tryz.f38.ntmps=70:=rfl
def n47:Tryz.f47.ntmps=56:=rfl
def n66:Tryz.f66.ntmps=34:=rfl
def n67:Tryz.f67.ntmps=51:=rfl
def n71:Tryz.f71.ntmps=51:=rfl
def adB:Tryz.f130.ntmps=26:=rfl
end Go.Proofs.Fit
namespace Go.Proofs.Fit
open Go Go.RowKit
def Qr (n:Nat)(m:Nat->Int):List Int:=(Yr n).map m
def EI (n:Nat)(m:Nat->Int):(Qr n m).length=n:=by simp[Qr]
variable {n i g cap k b d clk st:Nat}
variable {m:Nat->Int}
def rj (h:i<n):nth (Qr n m) i=m i:=by simp[Qr,nth,h]
def lC (l:List Int):l=Qr l.length (λj=>nth l j):=by
 apply YA;intro i;by_cases h:i<l.length
 .rw[Bn h];simp[Qr,h]
 rw[ZP o!,ZP (by rw[EI];omega)]
def rm (h:i<n)(k b:Int):(Qr n m).set i (m i+b*k)=Qr n (K7 m k ((i:Int),b)):=by
 apply YA;intro j;by_cases c:j<n
 .by_cases a:i=j
  .subst a
   rw[Ys (by rw[EI];exact h)];simp[Qr,c,K7]
  rw[ZS a];simp[Qr,c,K7];omega
 rw[ZP (by simp[EI];omega),ZP (by rw[EI];omega)]
structure MG (w:Zb)(xs:Array Zf)(v:Zf)(n:Nat)(m:Nat->Int)(wr:Zb):Prop where
 below:Qb6 w wr
 box:wr.heap[w.heap.size]?=some (.cells xs 26 (0,0))
 own:Own wr (w+1) v (Qr n m)
variable {w A B w1 w' W3:Zb}
variable {xs args:Array Zf}
variable {v v1 v2 v3 v4 v5 v6 u v' lv:Zf}
def MG.later {wr W:Zb}(h:MG w xs v n m wr)(a:Qb6 wr W):MG w xs v n m W:=
 ⟨h.below.trans (a.mono h.below.size),(a.block _ (Za.1 h.box).1).trans h.box,h.own.later a⟩
def MG.row {wr:Zb}(h:MG w xs (.slice g n cap) n m wr)(hi:i<n):w+1<=g/\∃a,wr.heap[g]?=some (.cells a 3 (0,0))/\a[i]?=some (.int .i64 (m i)):=by
 obtain⟨l,o,a,e,d,c,k,j,b,f⟩:=h.own.val (by rw[EI];omega);rw[EI]at e;cases e;refine⟨d,a,c,?_⟩;rw[b i (by rw[EI];exact hi),rj hi]
def MG.set {wr:Zb}(h:MG w xs (.slice g n cap) n m wr)(hi:i<n)(k b:Int):MG w xs (.slice g n cap) n (K7 m k ((i:Int),b)) (wr.setCell ⟨g,i,none⟩ (.int .i64 (m i+b*k))):=by
 obtain⟨p,q,c,e,o,l,j,f,d,a⟩:=h.own.val (by rw[EI];omega);rw[EI]at e;cases e;refine⟨bS h.below o!,(AZ o! _).trans h.box,?_⟩;rw[<-rm hi];exact a i _ (by rw[EI];exact hi)
variable {S T Sn:Nat->Prop}
variable {c:A_}
variable {l x nums:List Int}
def c47 (h:RC S w v1 v2 v3 v4 v5 c)(s:Fq c)(hl:SI S w v6 l)(hn:l.length<=c.Aa.length)(hb:∀i,i<l.length->-2<=nth l i/\nth l i<=2)(I:Ql6 S w):
  Calls Lp 47 #[.agg #[v1,v2,v3,v4,v5],v6] w λe w'=>∃u,e=.returned u/\Qb6 w w'/\SI (Cb w w') w' u (Cc c l):=by
 obtain⟨U,O,T,M,R,L,a4,A,Q,K,rfl,rfl,rfl,rfl,rfl,l1,m1,l2,m2,l3,m3,l4,m4,l5,m5⟩:=h.vs;obtain⟨a6,c6,rfl,l6,m6⟩:=hl.val;have IX:=DJ;obtain⟨tN,lZ⟩:=s.Fp;have HM:=Zd (show measure c l=Iw (λj=>nth c.base j) (l.zip c.Aa) from rfl);have Bg:YH w w (w.alloc (.cells (Qe6 c U O T M R L a4 A Q K) 26)):=bA (Zh _ _);have b9:=Zd (λW (hB:Qb6 w W)=>WO (h.later hB).base o!);have an:=MP s;have b8:=Zd (lC c.base);go_enter Lp.func47,n47;go_wp2_with (go_at_call 32;refine(b9.out _ Bg).mono ?_;rintro e w1 ⟨u,rfl,Bb,J⟩;obtain⟨g,cap,bi,rfl,z,_⟩:=J.val o!);have be:MG w #[.slice U c.base.length O,.slice T c.Af.length M,.slice R c.hooks.length L,.slice a4 c.Aa.length A,.slice Q c.now.length K] (.slice g c.base.length cap) c.base.length (λj=>nth c.base j) w1:=by
  refine⟨Bg.trans (Bb.mono Bg.size),(Bb.block _ i!).trans (Bp _ _),?_⟩;rw[<-b8.out];rw[ZB]at J;exact J
 clear Bb J z;go_loopg [6] l.length (λgg i wr=>∃(k:Nat) (m:Nat->Int),k<=l.length/\gg=l.length - k/\i=.int .i64 k/\Iw m ((l.zip c.Aa).drop k)=measure c l/\(∀j,-(60+16*k)<=m j/\m j<=60+16*k)/\MG w #[.slice U c.base.length O,.slice T c.Af.length M,.slice R c.hooks.length L,.slice a4 c.Aa.length A,.slice Q c.now.length K] (.slice g c.base.length cap) c.base.length m wr)
 case atStart=>exact⟨0,_,Zp _,rfl,rfl,rfl,λj=>by have:=an j;omega,be⟩
 obtain⟨k,m,hk,rfl,rfl,D,am,hM⟩:=hrel;have hf:=Zd D;clear D;by_cases Az:k<l.length
 .have V:k<c.Aa.length:=by omega
  have X:=hb k Az;have hd:=Zd (SR (m:=m) Az V);obtain⟨b6,o6,rfl,Xj,xu⟩:=hl.at_ Az;obtain⟨b,o,s2,s3,rfl,UQ,ER,MM,LO,et,mi,Z,ho⟩:=h.Aa.at_ (i:=k) V;obtain⟨a7,c7,rfl,l7,m7⟩:=Z.val;clear ER MM et mi;have Xa:=s.pull k V;have Y:=s.Ap k V;have Jm:=s.few;obtain⟨n,Gc⟩:=Qnm (nth l k);rw[<-Gc]at xu X hd;clear Gc;obtain⟨a,lP⟩:=Qnm ((Aj c.Aa k).Ap);rw[<-lP]at LO Z l7 Xa Y hd;clear lP;have TB:(k:Int)<(l.length:Int):=o!
  have du:(k:Int)<(c.Aa.length:Int):=o!
  go_wp2;go_loopg [7] a.length (λgg i wx=>∃(j:Nat) (d:Nat->Int),j<=a.length/\gg=a.length - j/\i=.int .i64 j/\CZ d n (a.drop j)=CZ m n a/\(∀i,-(60+16*(k:Int)+8*j)<=d i/\d i<=60+16*(k:Int)+8*j)/\MG w #[.slice U c.base.length O,.slice T c.Af.length M,.slice R c.hooks.length L,.slice (some ⟨b,o,none⟩) c.Aa.length A,.slice Q c.now.length K] (.slice g c.base.length cap) c.base.length d wx)
  case atStart=>exact⟨0,m,Zp _,rfl,rfl,rfl,λi=>by have:=am i;omega,hM⟩
  obtain⟨j,d,hj,rfl,rfl,D,eA,f⟩:=hrel;have MK:=Zd D;clear D;have bv:=(f.below.cell (p:=⟨b,o+k*5+2,none⟩) (I b UQ)).trans LO;have g3:=ch (i:=3) f.box (v:=.slice (some ⟨b,o,none⟩) c.Aa.length A) rfl;by_cases G4:j<a.length
  .obtain⟨P,o7,rfl,U3,F,E⟩:=Z.at_ G4
   rw[<-f.below.cell (p:=⟨P,o7+j*2,none⟩) (I P U3)]at F;rw[<-f.below.cell (p:=⟨P,o7+j*2+1,none⟩) (I P U3)]at E;have B:=(f.below.cell (p:=⟨b6,o6+k,none⟩) (I b6 Xj)).trans xu;have t:=Zd (PO (m:=d) (n:=n) G4);obtain⟨Oo,MF,H,G⟩:=Xa j G4;obtain⟨q,hq⟩:=Qnm (BV a j);rw[<-hq]at F E t Oo MF H G;clear hq;obtain⟨x',y⟩:=q;obtain⟨x,rfl⟩:∃x:Nat,x'=x:=⟨x'.toNat,by simp only at Oo;omega⟩;dsimp only at F E Oo MF H G;have xy:x<c.base.length:=o!
   have ci:(x:Int)<(c.base.length:Int):=o!
   have dl:(0:Int)<=(x:Int):=o!
   have fd:(0:Int)<=(k:Int):=o!
   have LZ:(j:Int)<(a.length:Int):=o!
   have ct:(0:Int)<=(j:Int):=o!
   have ck:=prod_bound ⟨H,G⟩ X;have co:=eA x;have eB:=f.later (bA (o:=.cells #[.int .i64 x,.int .i64 y] 64) (Zh _ _));go_wp2;obtain⟨C,r⟩:=Qnm (wr.alloc (.cells #[.int .i64 x,.int .i64 y] 64));have e0:C.cell? wr=some (.int .i64 x):=by rw[r];exact cn _ _ _ rfl
   have e1:C.cell? ⟨wr,1,none⟩=some (.int .i64 y):=by rw[r];exact cn _ _ _ rfl
   have e6:C.cell? ⟨b6,o6+k,none⟩=some (.int .i64 n):=by rw[r];exact ca B _
   rw[<-r]at eB;obtain⟨z,bi,Xg,Ox⟩:=eB.row xy;have r0:C.cell? ⟨g,x,none⟩=some (.int .i64 (d x)):=ch Xg Ox;have rf:=cf (i:=x) Xg;rw[<-r];clear r B F E g3 bv;go_still_tail 17,k!;change wpList _ _ _ _ _ C.drew;have ap:=(eB.later (Zh _ _).drew).set xy n y;go_wp2;go_roundg (a.length - (j+1))
   case rel=>exact⟨j+1,K7 d n ((x:Int),y),o!,rfl,v!,by rw[<-MK.out,t.out],λi=>by have:=MO (N:=60+16*(k:Int)+8*j) (p:=((x:Int),y)) eA ⟨H,G⟩ X i;omega,ap⟩
   omega
  have e2:d=CZ m n a:=by rw[<-MK.out,Z7.2 o!];rfl
  subst e2;go_wp2;go_roundg (l.length - (k+1))
  case rel=>exact⟨k+1,_,o!,rfl,v!,by rw[<-hf.out,hd.out],λi=>by have:=eA i;have:(j:Int)<=2:=o!;omega,f⟩
  omega
 have e1:m=measure c l:=by rw[<-hf.out,Z7.2 j!];rfl
 subst e1;have hs:=hM.own.si;rw[show Qr c.base.length (measure c l)=Cc c l from rfl]at hs;have Lc:=hM.below;go_wp2;go_ret;exact⟨_,rfl,Lc,Sl.imp hs (λx (hx:Cb (w+1) wr x)=>⟨by have:=hx.1;omega,hx.2⟩) (λ_ _ x=>x)⟩
def bU (h:Qb6 w A)(k:Qb6 A B):Qb6 w B:=h.trans (k.mono h.size)
attribute [local go_sem] Zdk
def WV (h:l∈EH c):Tc c l:=Lf _ _ h
def Tn {e:Zs}{base:Nat}{xs:List Zf}(a:Qb6 A B)(h:A.ownsRow base e k v n xs):B.ownsRow base e k v n xs:=CO (T:=λ_=>False) (Ak.later a) (λ_ _ x=>x) h
def bV {C:Zb}(h:Qb6 A B)(k:Qb6 B C):Qb6 A C:=h.trans (k.mono h.size)
def SL.imp {l:List (List Int)}(h:SL S w v l)(a:∀b,S b->T b):SL T w v l:=Sl.imp h a λ_ _ ⟨u,e,c⟩=>⟨u,e,Sl.imp c a λ_ _ x=>x⟩
def LR (base:Nat)(w:Zb)(v:Zf)(P:List (List Int)):Prop:=∃a,w.ownsRow base 22 1 v P.length a/\∀(i:Nat) (x:List Int),P[i]?=some x->∃u,a[i]?=some u/\SI (J1 3 base w) w u x
def LR.nil (base:Nat)(w:Zb):LR base w () []:=⟨[],zq _ _ _ _,λi x h=>h!⟩
variable {P:List (List Int)}
def LR.later {base:Nat}(h:LR base A v P)(b:Qb6 A B):LR base B v P:=by
 obtain⟨a,g,f⟩:=h;refine⟨a,Tn b g,λi x c=>?_⟩;obtain⟨u,e,d⟩:=f i x c;exact⟨u,e,Dx (T:=λ_=>False) (Ak.later b) (λ_ _ x=>x) d⟩
def LR.sl {base:Nat}(h:LR base w v P):SL (Cb base w) w v P:=by
 obtain⟨a,j,g⟩:=h;refine WM j (Zj _) λi x c=>?_;obtain⟨u,f,e⟩:=g i x c;exact⟨u,f,Sl.imp e (λb d=>d.1) λ_ _ x=>x⟩
def LR.val {base:Nat}(h:LR base w v P):∃a c,v=.slice a P.length c/\P.length<=c/\c<=maxLen:=by
 obtain⟨a,c,e,d,b,_⟩:=h.sl;exact⟨a,c,e,d,b⟩
variable {vals:List Zf}
def LR.snoc {n:Zb}{base m:Nat}(l:A.ownsRow base 22 1 v P.length vals)(D:∀(i:Nat) (x:List Int),P[i]?=some x->∃u,vals[i]?=some u/\SI (J1 3 base A) A u x)
 (j:SI (J1 3 m A) A u x) (q:base<=m) (t:Qb6 A n) (B:n.grownBy w1 v.ownBlock) (F:w1.ownsRow base 22 1 v' (P.length+1) (vals++ [u])):LR base w1 v' (P++ [x]):=by
 have C:Ak (λk=>v.ownBlock=some k) A w1:=(Ak.later t).trans (Ak.grown B λk r=>r);refine⟨vals++ [u],by rw[ZA];exact F,λi y c=>?_⟩;have a:∀u,SI (J1 3 base A) A u y->SI (J1 3 base w1) w1 u y:=λu h=>by
  refine Dx C (λb f h=>?_) h;obtain⟨G,d⟩:=f.2;rcases l.2 with⟨e,_⟩|⟨g,cap,w,e,_,s,_⟩
  .rw[e]at h;cases h
  rw[e]at h;cases h;rw[s]at d;cases d
 by_cases E:i<P.length
 .rw[zl E]at c
  obtain⟨u,j,p⟩:=D i y c;exact⟨u,by rw[zl (Zm.1 j).1];exact j,a u p⟩
 have z:=(Zm.1 c).1;rw[ZA,zb,zR]at z;obtain rfl:i=P.length:=o!
 rw[Y1]at c;cases c;have o:vals.length=P.length:=by have:=l.1;omega
 exact⟨u,by rw[<-o,Y1],a _ (Sl.imp j (λb f=>⟨⟨Zr q f.1.1,f.1.2⟩,f.2⟩) (λ_ _ x=>x))⟩
def Ju (s:Ay)(p:List Int):List (List Int):=(IU s.low s.high).map λn=>p++ [n]
def Vt (s:Ay):∀l:List Ay,EZ (l++ [s])=(EZ l).flatMap (Ju s)
 | []=>by simp only[zP,EZ,Ju,List.flatMap_cons,List.flatMap_nil,ZaA,List.map_cons,List.map_nil];exact List.map_eq_flatMap.symm
 |t::r=>by
  show((IU t.low t.high).flatMap λn=>(EZ (r++ [s])).map (n:: ·))=((IU t.low t.high).flatMap λn=>(EZ r).map (n:: ·)).flatMap (Ju s);rw[Vt s r,List.flatMap_assoc]
  congr 1
  funext n
  rw[List.map_flatMap,List.flatMap_map]
  congr 1
  funext p
  simp[Ju,ZdQ]
def rq {s:Ay}{p:List Int}{q:Nat}(h:q<(s.high+1 - s.low).toNat):(Ju s p).take (q+1)=(Ju s p).take q++ [p++ [s.low+(q:Int)]]:=by
 unfold Ju IU;rw[List.map_map,ZbH,YL,List.getElem?_range h]
 rfl
def iX (s:Ay)(p:List Int):(Ju s p).length=(s.high+1 - s.low).toNat:=by simp[Ju,IU]
def lG {f:List Int->List (List Int)}{l:List (List Int)}(h:k<l.length):(l.take (k+1)).flatMap f=(l.take k).flatMap f++f (BM l k):=by
 rw[ZbH,BJ h,Zbe];simp
def Own.typ {base:Nat}(h:Own w base v l):SI (J1 3 base w) w v l:=
 Lg (R:=Ri) d! h λi x a=>by
  rw[Nat.mul_one];obtain⟨b,e⟩:=Zm.1 a;rw[ZO (by simpa using b)];simp[Ri,e]
def c71 (h:RC S w v1 v2 v3 v4 v5 c)(hS:Ql6 S w)(Jm:c.Aa.length<=3)(B_:∀i,i<c.Aa.length->-2<=(Aj c.Aa i).low/\(Aj c.Aa i).high<=2):
  Calls Lp 71 #[.agg #[v1,v2,v3,v4,v5]] w λe w'=>∃a cc,e=.returned (.slice a (EH c).length cc)/\Qb6 w w'/\SL (Cb w w') w' (.slice a (EH c).length cc) (EH c):=by
 obtain⟨a1,c1,a2,c2,a3,c3,K,D,a5,c5,rfl,rfl,rfl,rfl,rfl,_⟩:=h.vs;have IX:=DJ;obtain⟨i3,co,fm,fi,fd⟩:=zp KY;obtain⟨bv,fJ,fI,fH,fy⟩:=zp Hw;obtain⟨W1,NL⟩:=Qnm (w.alloc (.cells (Qe6 c a1 c1 a2 c2 a3 c3 K D a5 c5) 26));have lD:W1.heap[w.heap.size]?=some (.cells (Qe6 c a1 c1 a2 c2 a3 c3 K D a5 c5) 26 (0,0)):=by rw[NL];exact Bp _ _
 have Bg:Qb6 w W1:=by rw[NL];exact bA (Zh _ _)
 go_enter Lp.func71,n71;go_wp2;rw[<-NL];obtain⟨W2,M⟩:=Qnm (W1.alloc (.cells #[()] 22));have DR:W1=w.heap.size+1:=by rw[NL];simp
 have Bb:Qb6 w W2:=by rw[M];exact bA Bg
 have Ia:W2.heap[w.heap.size]?=some (.cells (Qe6 c a1 c1 a2 c2 a3 c3 K D a5 c5) 26 (0,0)):=by rw[M];exact Bf lD _
 have du:SL (Cb w W2) W2 (.slice (w+1:Nat) (EZ (c.Aa.take 0)).length 1) (EZ (c.Aa.take 0)):=by
  refine⟨_,_,rfl,Zj _,o!,λi x E=>?_⟩;have:i=0/\x=[]:=by
   match i,E with
   |0,E=>cases E;exact⟨rfl,rfl⟩
  obtain⟨rfl,rfl⟩:=this;refine⟨_,0,[.slice none 0 0],rfl,⟨o!,by rw[M];simp;omega⟩,rfl,λj u hj=>?_,_,rfl,none,0,rfl,Zj _,Zp _,λi x E=>by cases E⟩
  match j,hj with
  |0,hj=>cases hj;rw[M, <-DR];exact cn _ _ _ rfl
 have gt:w<W2.heap.size:=(Za.1 Ia).1;have fK:=Zd (show∀W,Qb6 w W->SS S W (.slice K c.Aa.length D) c.Aa from λW hB=>(h.later hB).Aa);have qO:=Zd B_;rw[<-M];clear NL M lD Bg DR B_;go_loopg [3,4] c.Aa.length (λgg ov i wr=>∃(k:Nat) (oa:Option Addr) (oc:Nat),k<=c.Aa.length/\gg=c.Aa.length - k/\i=.int .i64 k/\ov=.slice oa (EZ (c.Aa.take k)).length oc/\Qb6 w wr/\wr.heap[w.heap.size]?=some (.cells (Qe6 c a1 c1 a2 c2 a3 c3 K D a5 c5) 26 (0,0))/\SL (Cb w wr) wr (.slice oa (EZ (c.Aa.take k)).length oc) (EZ (c.Aa.take k)))
 case atStart=>exact⟨0,_,_,Zp _,rfl,rfl,rfl,Bb,Ia,du⟩
 obtain⟨k,oa,oc,hk,rfl,rfl,rfl,Jp,r,d⟩:=hrel;have U4:=ch (i:=3) r (v:=.slice K c.Aa.length D) rfl;by_cases Az:k<c.Aa.length
 .have L:=Zd (show EZ (c.Aa.take (k+1))=(EZ (c.Aa.take k)).flatMap (Ju (Aj c.Aa k)) by rw[ZbH,Db Az];exact Vt _ _)
  have dl:(EZ (c.Aa.take k)).length<=125:=by
   have h0:=H7 (c.Aa.take k) (λi H=>by
    rw[ZcV]at H;have:=qO.out i o!;rwa[show Aj (c.Aa.take k) i=Aj c.Aa i by simp[Aj,Y6,Z2 (show i<k by omega)]])
   have h2:5^(c.Aa.take k).length<=5^3:=YX d! (by rw[ZcV];omega);exact Zr h0 h2
  obtain⟨mK,X⟩:=qO.out k Az;have uR:=Zd (show∀x∈EZ (c.Aa.take k),x.length<=k from λx E=>by have:=(Lf _ _ E).1;rw[ZcV]at this;omega);obtain⟨O,hO⟩:=Qnm (EZ (c.Aa.take k));rw[<-hO]at dl d L uR⊢;clear hO;obtain⟨s,hs⟩:=Qnm (Aj c.Aa k);have A:=Zd (show∀W,Qb6 w W->∃b o,K=some ⟨b,o,none⟩/\W.cell? ⟨b,o+k*5,none⟩=some (.int .i64 s.low)/\W.cell? ⟨b,o+k*5+1,none⟩=some (.int .i64 s.high) from λW hB=>by
   obtain⟨b,o,_,_,e,_,x1,x2,_⟩:=(fK.out W hB).at_ Az;rw[hs];exact⟨b,o,e,x1,x2⟩)
  rw[<-hs]at L mK X;clear hs;obtain⟨m,hm⟩:=Qnm ((s.high+1 - s.low).toNat);have HM:=Zd hm;have b8:m<=5:=o!
  have uY:(m:Int)<=s.high+1 - s.low\/m=0:=o!
  obtain⟨t,vx⟩:=Qnm s.low;obtain⟨H,J⟩:=Qnm s.high;have gj:=Zd vx;have V:∀q:Nat,q<m↔t+(q:Int)<=H:=λq=>o!
  rw[<-vx, <-J]at A;rw[<-vx]at mK;rw[<-J]at X;clear vx J hm uY;obtain⟨b4,o4,ea,_,_⟩:=A.out _ Jp;subst ea;have TB:(k:Int)<(c.Aa.length:Int):=o!
  obtain⟨Y,hY⟩:=Qnm wr;subst hY;have f8:=Zd d;clear d;go_wp2;go_loopg [5,6] O.length (λgg lv i wx=>∃j:Nat,j<=O.length/\gg=O.length - j/\i=.int .i64 j/\((O.take j).flatMap (Ju s)).length=j*m/\LR Y wx lv ((O.take j).flatMap (Ju s))/\Qb6 Y wx)
  case atStart=>exact⟨0,Zp _,rfl,rfl,i!,by rw[ZdB];exact LR.nil _ _,Zh _ _⟩
  obtain⟨j,hj,rfl,rfl,UO,l,Qp⟩:=hrel;have am:=(Qp.block _ (Za.1 r).1).trans r;have be:=bU Jp Qp;obtain⟨lv,lc,rfl,_⟩:=l.val;by_cases lp:j<O.length
  .have z:=Zd (lG (f:=Ju s) lp)
   obtain⟨b6,o6,u,ee,Xj,lH,hu⟩:=(f8.out.later Qp).at_ lp;subst ee;have HP:=Zd (uR.out _ (Z3 (BJ lp)));obtain⟨p,hp⟩:=Qnm (BM O j);rw[<-hp]at HP;rw[<-hp]at hu z;clear hp;obtain⟨pa,pc,rfl,Xa,ii⟩:=hu.val;have lO:p.length<=3:=by
    have:=HP.out;omega
   obtain⟨_,_,ea,dL,_⟩:=A.out _ be;cases ea;have U4:=ch (i:=3) am (v:=.slice (some ⟨b4,o4,none⟩) c.Aa.length D) rfl;have ck:(j:Int)<(O.length:Int):=o!
   obtain⟨G,hG⟩:=Qnm ((O.take j).flatMap (Ju s));rw[<-hG]at l z UO⊢;have HG:=Zd hG;clear hG;obtain⟨Z,hZ⟩:=Qnm wr;subst hZ;have HU:=Zd hu;have gn:=Zd lH;have im:j*m<=125*5:=Nat.mul_le_mul o! b8;clear hu lH;go_wp2;go_loopg [5,7] m (λgg lv n wy=>∃q:Nat,q<=m/\gg=m - q/\n=.int .i64 (t+q)/\LR Y wy lv (G++(Ju s p).take q)/\YH Y Z wy)
   case atStart=>exact⟨0,Zp _,rfl,i!,by rw[ZdB,ZaA];exact l,Zh _ _⟩
   obtain⟨q,hq,rfl,rfl,g,y⟩:=hrel;have vy:Qb6 Y wr:=Qp.trans y;have ct:=(vy.block _ (Za.1 r).1).trans r;have fx:=bU Jp vy;have U4:=ch (i:=3) ct (v:=.slice (some ⟨b4,o4,none⟩) c.Aa.length D) rfl;obtain⟨_,_,ea,_,lS⟩:=A.out _ fx;cases ea;by_cases F:q<m
   .have b9:t+(q:Int)<=H:=(V q).1 F
    have bi:=Zd (rq (s:=s) (p:=p) (q:=q) (by rw[<-HM.out];exact F));rw[<-gj.out]at bi;obtain⟨Q,hQ⟩:=Qnm (G++(Ju s p).take q);have HQ:=Zd hQ;have io:Q.length<=125*5+5:=by rw[hQ,ZA];have:=ZbW q (Ju s p);omega
    rw[<-hQ]at g;clear hQ;obtain⟨vb,vd,rfl,me,gI⟩:=g.val;have lI:=(y.cell (p:=⟨b6,o6+j,none⟩) Xj.2).trans gn.out;have Hb:SI (Cb w Y) wr (.slice pa p.length pc) p:=HU.out.Ar λb C _=>y.block b C.2;obtain⟨vals,U,R⟩:=g;have P:=vy.size;have uA:IntKind.i64.wrap (t+(q:Int)+1)=t+(q:Int)+1:=by rw[zE];omega
    go_wp2_with (first|(go_at_call 32;refine(WO Hb o!).mono ?_;rintro e w1 ⟨u1,rfl,Bg,I⟩;obtain⟨ua,uc,rfl,_⟩:=I.si.val;have DR:=Bg.size)|(at_builtin;refine Yc _ rfl _ _ 22 rfl wr 3 i3 (.int .i64 0) 1 8 (Cz YE) (Dz co) fm fi fd rfl d! (.slice ua p.length uc) p.length (p.map (ZL .i64)) rfl (Ya I _) w1 1 1 [.int .i64 (t+(q:Int))] rfl rfl (Dj _ _ _) (by simp[YT]) u! o! j! ?_;intro v2 w2 gI lZ fw;have N:Qb6 wr w2:=Bm (bA Bg) lZ (λb C=>(Zcm I b C).1) j!;obtain⟨g2,bJ,rfl⟩:=Zay gI;have vz:=Tn N U;have EB:=N.size)|(at_builtin;refine Yc _ rfl _ _ 27 rfl Y 22 bv () 1 24 (Cz zW) (Dz fJ) fI fH fy rfl d! (.slice vb Q.length vd) Q.length vals rfl (Ya vz _) w2 1 1 [.slice g2 (p.length+1) bJ] rfl rfl (Dj _ _ _) (by simp[YT]) u! o! j! ?_;intro v3 w3 Vr l9 fu));have an:Own w2 wr (.slice g2 (p.length+1) bJ) (p++ [t+(q:Int)]):=by unfold Own;rw[ZA,Zai];exact gI
    have ap:LR Y w3 v3 (Q++ [p++ [t+(q:Int)]]):=LR.snoc vz (λi x H=>by
     obtain⟨u,h1,h2⟩:=R i x H;exact⟨u,h1,Dx (T:=λ_=>False) (Ak.later N) (λ_ _ x=>x) h2⟩) an.typ P (bA (Zh _ _)) l9 Vr
    have Bv:YH Y Z w3:=Bm ((y.trans (N.mono P)).alloc o! _) l9 (λb C=>(Zcm vz b C).1) j!;have Qs:=Zd (ZY ap Bv);clear ap Bv an Vr l9 fu gI lZ fw vz U R N;go_roundg (m - (q+1))
    case rel=>exact⟨q+1,F,rfl,v!,by rw[bi.out, <-Zae, <-HQ.out];exact Qs.out.1,Qs.out.2⟩
    omega
   have TC:q=m:=o!
   subst TC;have b9:¬t+(q:Int)<=H:=λx=>by have:=(V q).2 x;omega
   have B:(Ju s p).take q=Ju s p:=Zb3 (by rw[iX, <-HM.out];exact Zj _);rw[B, <-z.out]at g;have f9:=Zd g;have cA:=Zd (show((O.take (j+1)).flatMap (Ju s)).length=(j+1)*q by rw[z.out,ZA,iX, <-HM.out,UO,Nat.add_mul,Nat.one_mul]);clear g B;go_wp2;go_roundg (O.length - (j+1))
   case rel=>exact⟨j+1,lp,rfl,v!,cA.out,f9.out,vy⟩
   omega
  have ck:j=O.length:=o!
  have B:O.take j=O:=Zb3 o!;rw[B, <-L.out]at l⊢;have HL:=Zd (l.sl.imp (T:=Cb w wr) λb C=>⟨Zr Jp.size C.1,C.2⟩);clear l B UO;go_wp2;go_roundg (c.Aa.length - (k+1))
  case rel=>exact⟨k+1,_,_,Az,rfl,v!,rfl,be,am,HL.out⟩
  omega
 have ci:k=c.Aa.length:=o!
 have B:EZ (c.Aa.take k)=EH c:=by rw[ci,ZcU];rfl
 rw[B]at d⊢;have HO:=Zd d;clear d B;go_wp2;go_ret;exact⟨_,_,rfl,Jp,HO.out⟩
def Ol (a:H6 c)(hl:Tc c l)(hi:i<c.base.length): -108<=nth (Cc c l) i/\nth (Cc c l) i<=108:=by
 have e:nth (Cc c l) i=measure c l i:=by
  have:=MU (l:=l) hi;rw[Bn (by simp[Cc];exact hi)]at this;exact ZW this
 rw[e];exact Md a.valid (by have:=hl.1;omega) (λk b=>by have:=hl.2 k b;have:=(a.seam k (by have:=hl.1;omega)).step;omega) i
def vA {s:List (Int×Int)}(b:s.length=n)(h:∀p∈s,0<=p.1/\p.1<=p.2/\p.2<=99):Fs n s=0:=by
 unfold Fs;rw[if_neg o!,if_neg o!];exact F5 λp a=>Tb (h p a)
def adj (w:Zb)(b:Nat)(lv:Zf)(d n:Nat)(e:Ending)(w':Zb):Prop:=∃(a:Option Addr) (f:Nat) (s:List (Int×Int)) (c:Nat),e=.returned (.slice a s.length f)/\LW b lv w c w'/\c<=d+100/\SP (TT w w') w' (.slice a s.length f) s/\Fs n s=0
def yr (w:Zb)(b:Nat)(lv:Zf)(d n:Nat)(e:Ending)(w':Zb):Prop:=∃(a:Option Addr) (f:Nat) (s:List (Int×Int)) (c:Nat),e=.returned (.slice a s.length f)/\LW b lv w c w'/\c<=d+100/\SP (Cb w w') w' (.slice a s.length f) s/\Fs n s=0
def aek (h:RC S w v1 v2 v3 v4 v5 c)(P:∀x,S x->x<w.heap.size/\x≠b)(hn:SI Sn w lv nums)(E:∀x,Sn x->x<w.heap.size/\x≠b)(F:BK w b lv d)(O:d+1000<4611686018427387904)(L:H6 c):
  Calls Lp 38 #[.pointer b,.agg #[v1,v2,v3,v4,v5]] w (adj w b lv d c.base.length):=by
 obtain⟨a1,c1,a2,c2,a3,c3,a4,c4,a5,c5,rfl,rfl,rfl,rfl,rfl,_⟩:=h.vs;have IX:=DJ;have i9:=L.few;have n8:=L.Fp;obtain⟨W1,NL⟩:=Qnm (w.alloc (.cells (Qe6 c a1 c1 a2 c2 a3 c3 a4 c4 a5 c5) 26));have lD:W1.heap[w.heap.size]?=some (.cells (Qe6 c a1 c1 a2 c2 a3 c3 a4 c4 a5 c5) 26 (0,0)):=by rw[NL];exact Bp _ _
 have Bg:Qb6 w W1:=by rw[NL];exact bA (Zh _ _)
 have GK:=F.lt;have DR:=Bg.size;obtain⟨q,hq⟩:=Qnm w.heap.size;have M9:q<=w.heap.size/\w<=q:=o!
 rw[<-hq]at lD;have T6:=(Za.1 lD).1;obtain⟨K,Ig⟩:∃K:Nat->Prop,K=λx=>x=b:=⟨_,rfl⟩;have fh:K b:=by rw[Ig]
 have Q:¬K q:=by rw[Ig];intro x;omega
 have LP:∀x,x≠b->¬K x:=λx a=>by rw[Ig];exact a
 clear Ig;obtain⟨k0,k1,k2,k3,k4⟩:=Qc5 lD;have g0:=λp:Tw K W1=>p.cell k0 Q;have g1:=λp:Tw K W1=>p.cell k1 Q;have g2:=λp:Tw K W1=>p.cell k2 Q;have g3:=λp:Tw K W1=>p.cell k3 Q;have g4:=λp:Tw K W1=>p.cell k4 Q;clear k0 k1 k2 k3 k4;go_enter Lp.func38,n38;go_wp2;rw[<-NL, <-hq];clear NL hq;refine B0 (S:=λW=>∃p:Tw K W1,W=p.v) [] [(false,3),(false,4),(false,5)] [0,1,2] k! (λ_ _ d _ _ h=>by cases d<;>exact h) k! (A5 (Ak.later (Zh _ _).drew)) ?_;refine A4 _ _ k! ?_;simp only[Z6,zd,ZG,ZD,ZC]
 repeat (first|go_big_quiet_step (fail)|quiet_step (fail))
 refine Z4 ?_;clear g0 g1 g2 g3 g4;change Dl _ _ _ _ _ _ _;have Uh:YH W1 W1 W1.drew:=(Zh _ _).drew;have Un:=bU Bg Uh;have iW:=Uh.size;refine Dd (f:=30) rfl rfl g! ((c30 ((h.later Un)) (λx a=>⟨by have:=P x a;omega,(P x a).2⟩) (hn.later Un) (λx a=>⟨by have:=E x a;omega,(E x a).2⟩) (F.later Un) o! o! (λi hi=>by have:=(L.seam i hi).step;omega)).mono ?_);rintro e W3 ⟨v3,l,d3,rfl,H,fi,jt,Qm,Xc,ig⟩;obtain⟨p3,t3,rfl,_⟩:=Qm.val;have Ba:Tc c l:=⟨Xc,λi hi=>⟨(ig i o!).1,(ig i o!).2 (L.seam i o!).step.2.1⟩⟩;have ap:Ak K W1 W3:=(Ak.later Uh).trans (H.CN fh);refine⟨_,rfl,.inr (A5 ap),?_⟩;have Rb:=H.size;have O9:=((h.later Un).Ar (H.same λx a=>(P x a).2)).imp (T:=λx=>x<W3.heap.size) λx a=>by have:=P x a;show x<_;omega
 have fy:=Zd Ba;refine Dd (f:=47) rfl rfl g! ((c47 O9 L.valid (Sl.imp Qm (T:=λx=>x<W3.heap.size) (λx a=>a.2) λ_ _ x=>x) o! (λi hi=>by have:=fy.out.2 i hi;have:=(L.seam i (by have:=fy.out.1;omega)).step;omega) λx a=>a).mono ?_);rintro e g ⟨u,rfl,De,A⟩;have NN:(Cc c l).length=c.base.length:=by simp[Cc]
 have fI:=Zd (λi (hi:i<c.base.length)=>Ol L Ba hi);obtain⟨G,hG⟩:=Qnm (Cc c l);rw[<-hG]at A NN fI;clear hG;obtain⟨ga,gc,rfl,_⟩:=A.val;rw[NN]at A⊢;have fH:=Zd NN;have i5:=De.size;have fC:Ak K W1 g:=ap.uJ De;refine⟨_,rfl,.inr (A5 fC),?_⟩;refine Dw (v:=.slice ga c.base.length gc) rfl rfl g! (.inr (A5 fC)) ?_;have Ks:=(fC.block q T6 Q).trans lD;have an:B3 b w g:=((B3.refl b w).below Un).trans ((H.below De));have f9:=fi.later De;have im:=GK;have HE:=Zd (show∀W,B3 b g W->SP S W (.slice a2 c.Af.length c2) c.Af from λW z=>Sl.Ar h.Af ((an.trans z).same λx a=>(P x a).2) λ_ _ x=>x);have ip:=Zd (show∀W,B3 b g W->SI (Cb W3 g) W (.slice ga c.base.length gc) G from λW z=>A.Ar (z.same λx a e=>by have:=a.1;omega));have tX:=hn.Ar (an.same λx a=>(E x a).2);have rW:=Zd (λW d lo hi F O j Z=>abV (w:=g) (W:=W) (d:=d) (lo:=lo) (hi:=hi) tX (λx a=>⟨by have:=E x a;omega,(E x a).2⟩) F O j Z);have iG:=Zd (λW d n F O Z=>abW (w:=g) (W:=W) (d:=d) (n:=n) tX (λx a=>⟨by have:=E x a;omega,(E x a).2⟩) F O Z);have iv:=Zd (λW d n F O Z=>abX (w:=g) (W:=W) (d:=d) (n:=n) tX (λx a=>⟨by have:=E x a;omega,(E x a).2⟩) F O Z);have iS:=Zd (λW d s F O j Z=>abY (w:=g) (W:=W) (d:=d) (s:=s) tX (λx a=>⟨by have:=E x a;omega,(E x a).2⟩) F O j Z);unfold Dl;clear O9 ap H Uh Un fi A NN ig Xc Ba Qm fC tX im
 go_simp
 go_wp2;obtain⟨be,bi,b9,b8,bv⟩:=zp Wu;go_loopg [6,7] c.base.length (λgg ov i wr=>∃(k dk:Nat) (J:Option Addr) (I:Nat) (s:List (Int×Int)),k<=c.base.length/\gg=c.base.length - k/\i=.int .i64 k/\s.length=k/\ov=.slice J k I/\dk<=d3+5*k/\B3 b g wr/\BK wr b lv dk/\Ih wr g (.slice J k I) s 80/\∀p∈s,0<=p.1/\p.1<=p.2/\p.2<=99)
 case atStart=>exact⟨0,d3,none,0,[],Zp _,rfl,rfl,rfl,rfl,Zj _,B3.refl _ _,f9,zq _ _ _ _,λp hp=>by cases hp⟩
 obtain⟨k,dk,J,I,s,hk,rfl,rfl,ci,rfl,jF,z,oJ,AX,rU⟩:=hrel;have Y:=z.at_ Ks o!;have N:=Zd ci;clear ci;have iV:=z.size;by_cases Az:k<c.base.length
 .have T5:k<c.Af.length:=by have:=L.PN;omega
  have f8:k<G.length:=by have:=fH.out;omega
  obtain⟨b1,o1,ee,FD,tN⟩:=((ip.out _ z):SI _ _ _ _)|>λh=>(by rw[<-fH.out]at h;exact h.at_ f8);subst ee;obtain⟨b2,o2,ee,EC,lW,jZ⟩:=(HE.out _ z).at_ T5;subst ee;have gj:=fI.out k Az;have fm:=L.Af _ (Z3 (EE T5));obtain⟨gv,co⟩:=Qnm (nth G k);obtain⟨el,dl⟩:=Qnm ((BV c.Af k).1);obtain⟨em,ct⟩:=Qnm ((BV c.Af k).2);rw[<-co]at tN gj;rw[<-dl]at lW fm;rw[<-ct]at jZ fm;clear co dl ct;have i8:(k:Int)<(c.base.length:Int):=o!
  have i7:(k:Int)<(c.Af.length:Int):=o!
  have kq:(0:Int)<=(k:Int):=o!
  have ii:¬K b1:=LP b1 (by have:=FD.1;omega);have vB:¬K b2:=LP b2 (P b2 EC).2;have r0:=λp:Tw K wr=>p.cell (ch (i:=1) Y (v:=.slice (some ⟨b2,o2,none⟩) c.Af.length c2) rfl) Q;have r1:=λp:Tw K wr=>p.cell tN ii;have r2:=λp:Tw K wr=>p.cell lW vB;have r3:=λp:Tw K wr=>p.cell jZ vB;go_wp2;refine G7 (S:=λW=>∃p:Tw K wr,W=p.v) 18 [] [(true,10),(false,13),(false,14),(false,15),(false,16),(false,17)] [0,1,2,3,4,5,6,7,8,9,11,12] k! (λ_ _ d _ _ h=>by cases d<;>exact h) k! (A5 (Ak.later (Zh _ _).drew)) ?_;refine A4 _ _ k! ?_;simp only[Z6,zd,ZG,ZD,ZC]
  repeat (first|go_big_quiet_step (fail)|quiet_step (fail))
  refine Z4 ?_;change H2 _ _ _ _ _ _ _ _;obtain⟨V0,tY⟩:=Qnm wr.drew;have mO:Qb6 wr V0:=by rw[tY];exact(Zh _ _).drew
  rw[<-tY];clear tY;have aW:Ak K wr V0:=Ak.later mO;have fx:LW b lv g dk V0:=⟨z.below mO,oJ.later mO⟩;obtain⟨lo,mK⟩:=Qnm (gv - em);have gt: -200<=lo/\lo<=200:=o!
  have X:IntKind.i64.wrap (gv - em)=lo:=by rw[zE,mK];omega
  clear mK;refine Wz (v:=.int .i64 lo) (A5 aW) rfl rfl (λw _=>g!) ?_;clear X;refine Iy (f:=61) rfl rfl g! ((rW.out V0 dk (-3) 3 fx o! o! o!).mono ?_);rintro e V1 ⟨x1,d1,rfl,MF,Na,fq,kv⟩;have Kd:=aW.trans (Na.CN fh);refine⟨_,rfl,.inr (A5 Kd),?_⟩;have WQ:=Kd.uJ (bA (o:=.cells #[.int .i64 0,.int .i64 0,.int .i64 0,.int .i64 (-3+(x1:Int))] 3) (Zh _ _));refine EY (v:=.slice V1 4 4) (w':=V1.alloc (.cells #[.int .i64 0,.int .i64 0,.int .i64 0,.int .i64 (-3+(x1:Int))] 3)) rfl rfl g! (.inr (A5 WQ)) ?_;refine Iy (f:=98) rfl rfl g! ((iS.out V1 _ [0,0,0,-3+(x1:Int)] fq o! i! i!).mono ?_);rintro e t ⟨x2,d2,rfl,mH,Ot,M7,ka⟩;have R:=WQ.trans (Ot.CN fh);refine⟨_,rfl,.inr (A5 R),?_⟩;obtain⟨y,hy,fJ⟩:∃y,y=nth [0,0,0,-3+(x1:Int)] x2/\(-3<=y/\y<=3):=⟨_,rfl,by
   have:x2=0\/x2=1\/x2=2\/x2=3:=by simp at mH;omega
   rcases this with rfl|rfl|rfl|rfl<;>simp[nth]<;>omega⟩
  rw[<-hy];clear hy;obtain⟨m,T2⟩:=Qnm (lo+y);have lF: -210<=m/\m<=210:=o!
  have lX:IntKind.i64.wrap (lo+y)=m:=by rw[zE,T2];omega
  clear T2;refine EY (v:=.int .i64 m) (w':=t) rfl rfl g! (.inr (A5 R)) ?_;refine EY (v:=.int .i64 m) (w':=t) rfl rfl g! (.inr (A5 R)) ?_;clear lX gt fJ;unfold H2
  go_simp
  have Vn:YH V1 V1 (V1.alloc (.cells #[.int .i64 0,.int .i64 0,.int .i64 0,.int .i64 (-3+(x1:Int))] 3)):=bA (Zh _ _);have vC:B3 b wr t:=((((B3.refl b wr).below mO).trans Na).below Vn).trans Ot;have Cm:=D2 (Fu (D2 (Fu AX mO) Na (by omega:b<g)) Vn) Ot (by omega:b<g);have S5:=z.trans vC;have lE:=vC.size;have z0:=λp:Tw K t=>p.cell (ch (i:=1) (vC.at_ Y o!) (v:=.slice (some ⟨b2,o2,none⟩) c.Af.length c2) rfl) Q;have Ts:=vC.same (T:=λx=>x≠b) (λ_ h=>h);have z2:=λp:Tw K t=>p.cell (Ts.cell (by exact(P b2 EC).2) lW) vB;have z3:=λp:Tw K t=>p.cell (Ts.cell (by exact(P b2 EC).2) jZ) vB;clear r0 r1 r2 r3 aW Kd WQ R Na Ot fx fq AX mO Vn tN lW jZ oJ;go_wp2;refine G7 (S:=λW=>∃p:Tw K t,W=p.v) 18 [] [(true,14),(false,15),(false,16),(false,17)] [0,1,2,3,4,5,6,7,8,9,10,11,12,13] k! (λ_ _ d _ _ h=>by cases d<;>exact h) k! (A5 (Ak.later (Zh _ _).drew)) ?_;refine A4 _ _ k! ?_;simp only[Z6,zd,ZG,ZD,ZC]
  repeat (first|go_big_quiet_step (fail)|quiet_step (fail))
  refine Z4 ?_;change H2 _ _ _ _ _ _ _ _;clear z0 z2 z3;have ry:YH t t t.drew:=(Zh _ _).drew;have R:Ak K t t.drew:=Ak.later ry;have fw:=M7.below ry;obtain⟨ed,du⟩:=Qnm (em - el);have lm:0<=ed/\ed<=10:=o!
  have X:IntKind.i64.wrap (em - el)=ed:=by rw[zE,du];omega
  clear du;refine Wz (v:=.int .i64 ed) (A5 R) rfl rfl (λw _=>g!) ?_;clear X;refine Iy (f:=29) rfl rfl g! ((iG.out _ d2 ed fw o! o!).mono ?_);rintro e V3 ⟨x3,d4,rfl,U4,H,k_,jp⟩;have Ou:=R.trans (H.CN fh);refine⟨_,rfl,.inr (A5 Ou),?_⟩;obtain⟨j,ck⟩:=Qnm (m+(x3:Int));have li:m<=j/\j<=300:=o!
  have lX:IntKind.i64.wrap (m+(x3:Int))=j:=by rw[zE,ck];omega
  clear ck;refine EY (v:=.int .i64 j) (w':=V3) rfl rfl g! (.inr (A5 Ou)) ?_;refine EY (v:=.int .i64 j) (w':=V3) rfl rfl g! (.inr (A5 Ou)) ?_;clear lX;unfold H2
  go_simp
  have fu:=((B3.refl b t).below ry).trans H;have io:=D2 (Fu Cm ry) H (by omega:b<g);have cN:=S5.trans fu;have ky:=fu.size;clear R Ou H Cm ry fw M7;go_wp2;refine(iv.out _ d4 8 k_ o! o!).mono ?_;rintro e V4 ⟨rb,d5,rfl,Xp,ld,jn⟩;have rz:=D2 io Xp (by omega:b<g);have fd:=cN.trans Xp;have kw:=Xp.size;have M8:k<=3:=o!
  have rA:V4.ownsRow g 80 2 (.slice J k I) k (s.flatMap λp=> [ZL .i64 p.1,.int .i64 p.2]):=by have:=rz;unfold Ih at this;rwa[N.out]at this
  have i6:IntKind.i64.wrap (j+1)=j+1:=by rw[zE];omega
  cases rb with
  |false=>
   go_wp2_with (at_builtin;refine Yc _ rfl _ _ 23 rfl g 80 be (.agg #[.int .i64 0,.int .i64 0]) 2 16 (Cz Zdg) (Dz bi) b9 b8 bv rfl d! (.slice J k I) k (s.flatMap λp=> [ZL .i64 p.1,.int .i64 p.2]) rfl (Ya rA _) V4 1 1 [.int .i64 (max 0 (min m 99)),.int .i64 (max 0 (min j 99))] rfl rfl (Hc _ _ _) (by intro u A;simp at A;rcases A with rfl|rfl<;>rfl) u! o! j! ?_;intro v9 U r V am);have Em:=J3 rz;have pY:B3 b g U:=(fd.below (bA (Zh _ _))).grown V λx a=>(Em x a).1;have D:BK U b lv d5:=(ld.alloc _).E4.of (V.block b (ld.alloc _).E4.lt (λe=>by have:=(Em b e.symm).1;omega));have C:Ih U g v9 (s++ [(max 0 (min m 99),max 0 (min j 99))]) 80:=by unfold Ih;rw[ZA,N.out,Zbe];exact r
   have B:0<=max 0 (min m 99)/\max 0 (min m 99)<=max 0 (min j 99)/\max 0 (min j 99)<=99:=o!
   obtain⟨g9,gn,rfl⟩:=Zay r;have M:=Zd (ZY pY (ZY D (ZY C B)));clear pY D C B r V am Em;go_roundg (c.base.length - (k+1))
   case rel=>exact⟨k+1,d5,_,_,s++ [(max 0 (min m 99),max 0 (min j 99))],Az,rfl,v!,by rw[ZA,N.out];rfl,rfl,o!,M.out.1,M.out.2.1,M.out.2.2.1,λp hp=>by rcases Zab.1 hp with h|h;exact rU p h;rw[Yh.1 h];exact M.out.2.2.2⟩
   case measure=>omega
  |true=>
   go_wp2_with (at_builtin;refine Yc _ rfl _ _ 23 rfl g 80 be (.agg #[.int .i64 0,.int .i64 0]) 2 16 (Cz Zdg) (Dz bi) b9 b8 bv rfl d! (.slice J k I) k (s.flatMap λp=> [ZL .i64 p.1,.int .i64 p.2]) rfl (Ya rA _) V4 1 1 [.int .i64 (max 0 (min m 99)),.int .i64 (max 0 (min (j+1) 99))] rfl rfl (Hc _ _ _) (by intro u A;simp at A;rcases A with rfl|rfl<;>rfl) u! o! j! ?_;intro v9 U r V am);have Em:=J3 rz;have pY:B3 b g U:=(fd.below (bA (Zh _ _))).grown V λx a=>(Em x a).1;have D:BK U b lv d5:=(ld.alloc _).E4.of (V.block b (ld.alloc _).E4.lt (λe=>by have:=(Em b e.symm).1;omega));have C:Ih U g v9 (s++ [(max 0 (min m 99),max 0 (min (j+1) 99))]) 80:=by unfold Ih;rw[ZA,N.out,Zbe];exact r
   have B:0<=max 0 (min m 99)/\max 0 (min m 99)<=max 0 (min (j+1) 99)/\max 0 (min (j+1) 99)<=99:=o!
   obtain⟨g9,gn,rfl⟩:=Zay r;have M:=Zd (ZY pY (ZY D (ZY C B)));clear pY D C B r V am Em;go_roundg (c.base.length - (k+1))
   case rel=>exact⟨k+1,d5,_,_,s++ [(max 0 (min m 99),max 0 (min (j+1) 99))],Az,rfl,v!,by rw[ZA,N.out];rfl,rfl,o!,M.out.1,M.out.2.1,M.out.2.2.1,λp hp=>by rcases Zab.1 hp with h|h;exact rU p h;rw[Yh.1 h];exact M.out.2.2.2⟩
   omega
 have fK:k=c.base.length:=o!
 subst fK;have Jv:SP (TT w wr) wr (.slice J c.base.length I) s:=Sl.imp (AX.tt (.inr (.inr rfl))) (λx a=>a.mono o!) λ_ _ x=>x;have HF:=Zd (show adj w b lv d c.base.length (.returned (.slice J c.base.length I)) wr from⟨J,I,s,dk,by rw[N.out],⟨an.trans z,oJ⟩,o!,by rw[N.out];exact Jv,vA N.out rU⟩);clear Jv AX rU z oJ Y;go_wp2;go_ret;exact HF.out
def c38 (h:RC S w v1 v2 v3 v4 v5 c)(j:∀x,S x->x<w.heap.size/\x≠b)(g:SI Sn w lv nums)(u:∀x,Sn x->x<w.heap.size/\x≠b)(l:BK w b lv d)(i:d+1000<4611686018427387904)(k:H6 c):
  Calls Lp 38 #[.pointer b,.agg #[v1,v2,v3,v4,v5]] w (yr w b lv d c.base.length):=(aek h j g u l i k).mono λe w' ⟨a,t,s,r,q,p,o,n,m⟩=>⟨a,t,s,r,q,p,o,Sl.imp n (λx f=>f.new) λ_ _ x=>x,m⟩
def aca {lo hi n:Int}(h:lo<=n/\n<=hi):n∈IU lo hi:=by
 unfold IU;rw[List.mem_map];exact⟨(n - lo).toNat,by rw[List.mem_range];omega,o!⟩
def ac3:∀(s:List Ay) (l:List Int),l.length=s.length->(∀i,i<l.length->(Aj s i).low<=nth l i/\nth l i<=(Aj s i).high)->l∈EZ s
 | [],l,h,_=>by
  obtain rfl:l=[]:=List.length_eq_zero_iff.1 h;simp[EZ]
 |s::r,[],h,_=>h!
 |s::r,x::t,h,a=>by
  unfold EZ;rw[List.mem_flatMap];exact⟨x,aca (a 0 (Nat.succ_pos _)),List.mem_map.2 ⟨t,ac3 r t (by simpa using h) λi b=>a (i+1) (Nat.succ_lt_succ b),rfl⟩⟩
def c66 {a b:List (List Int)}(F:SL S w v a)(E:SL T w u b)(hS:Ql6 S w)(hT:∀x,T x->x<w.heap.size)(DU:∀l∈a,l∈b):
  Calls Lp 66 #[v,u] w λe w'=>e=.returned (.bool true)/\Qb6 w w':=by
 obtain⟨a1,c1,rfl,_⟩:=Sl.val F;obtain⟨a2,c2,rfl,_⟩:=Sl.val E;have IX:=DJ;have HA:=Zd (show∀W,Qb6 w W->SL (λx=>x<W.heap.size) W (.slice a1 a.length c1) a from λW c=>SL.imp (SL.later F c) λx f=>Zl (hS x f) c.size);have HB:=Zd (show∀W,Qb6 w W->SL (λx=>x<W.heap.size) W (.slice a2 b.length c2) b from λW c=>SL.imp (SL.later E c) λx f=>Zl (hT x f) c.size);have mG:=Zd DU;clear F E DU hS hT;go_enter Lp.func66,n66;go_wp2;go_loopg [5] a.length (λG i wr=>∃k:Nat,k<=a.length/\G=a.length - k/\i=.int .i64 k/\Qb6 w wr)
 case atStart=>exact⟨0,Zp _,rfl,rfl,Zh _ _⟩
 obtain⟨k,hk,rfl,rfl,n⟩:=hrel;by_cases L:k<a.length
 .have HM:=Zd (mG.out _ (Z3 (BJ L)))
  obtain⟨b6,Q,u,H,Xj,D,A⟩:=(HA.out _ n).at_ L;subst H;obtain⟨l,X⟩:=Qnm (BM a k);rw[<-X]at A HM;clear X;obtain⟨P,O,rfl,_⟩:=A.val;have J:=Zd (show∀W,Qb6 wr W->SI (λx=>x<W.heap.size) W (.slice P l.length O) l from λW c=>Sl.imp (A.later c) (λx (f:x<wr)=>by have:=c.size;show x<W;omega) λ_ _ x=>x);have K:=Zd (show∀W,Qb6 wr W->W.cell? ⟨b6,Q+k,none⟩=some (.slice P l.length O) from λW c=>(c.cell (p:=⟨b6,Q+k,none⟩) (ZH _ _ D)).trans D);have TB:(k:Int)<(a.length:Int):=o!
  clear A D;obtain⟨Z,hZ⟩:=Qnm wr;subst hZ;go_wp2;go_loopg [6,7] b.length (λG C i wx=>∃j:Nat,j<=b.length/\G=b.length - j/\i=.int .i64 j/\C=.bool ((b.take j).any (Ke l))/\Qb6 Z wx)
  case atStart=>exact⟨0,Zp _,rfl,rfl,rfl,Zh _ _⟩
  obtain⟨j,hj,rfl,rfl,rfl,o⟩:=hrel;by_cases g:j<b.length
  .have d:=Zd (show(b.take (j+1)).any (Ke l)=((b.take j).any (Ke l)||Ke l (BM b j)) by rw[ZbH,BJ g,List.any_append];simp)
   obtain⟨C,s⟩:=Qnm ((b.take j).any (Ke l));rw[<-s]at d⊢;clear s;obtain⟨b7,o7,u2,H,U3,R,B⟩:=(HB.out _ (bV n o)).at_ g;subst H;obtain⟨m,V⟩:=Qnm (BM b j);rw[<-V]at B d;clear V;obtain⟨an,am,rfl,_⟩:=B.val;have I:=Zd (λW (c:Qb6 wr W)=>c46 (w:=W) (J.out W (bV o c)) (Sl.imp (B.later c) (T:=λx=>x<W.heap.size) (λx (f:x<wr)=>by have:=c.size;show x<W;omega) λ_ _ x=>x) (λx f=>f) λx f=>f);obtain⟨r,U⟩:=Qnm (Ke l m);rw[<-U]at I d;clear U;have N:=λp=>Al p (K.out _ o);have M:=λp=>Al p R;have LZ:(j:Int)<(b.length:Int):=o!
   clear R B;cases C with
   |true=>
    go_wp2;refine Av k! k! ?_
    repeat (first|go_big_quiet_step (fail)|quiet_step (fail))
    refine Z4 ?_;rintro _ ⟨p,rfl⟩;have q:=AE wr p;obtain⟨Y,y⟩:=Qnm (calm wr p);rw[<-y]at q⊢;clear y N M;go_wp2;go_roundg (b.length - (j+1))
    case rel=>exact⟨j+1,g,rfl,v!,by rw[d.out];rfl,bV o q⟩
    case measure=>omega
   |false=>
    go_wp2;refine Av k! k! ?_
    repeat (first|go_big_quiet_step ((go_at_call 46;exact AV (I.out _ (AE _ _))))|quiet_step ((go_at_call 46;exact AV (I.out _ (AE _ _)))))
    refine Z4 ?_;rintro _ ⟨p,rfl⟩;have q:=AE wr p;obtain⟨Y,y⟩:=Qnm (calm wr p);rw[<-y]at q⊢;clear y N M;go_wp2;go_roundg (b.length - (j+1))
    case rel=>exact⟨j+1,g,rfl,v!,by rw[d.out];rfl,bV o q⟩
    omega
  have t:j=b.length:=o!
  have z:(b.take j).any (Ke l)=true:=by
   rw[t,ZcU,List.any_eq_true];exact⟨l,HM.out,decide_eq_true rfl⟩
  rw[z];clear z t;go_wp2;go_roundg (a.length - (k+1))
  case rel=>exact⟨k+1,L,rfl,v!,bV n o⟩
  omega
 go_wp2;go_ret;exact⟨rfl,n⟩
inductive HT
 |leaf
 |one (i:Nat) (r:HT)
 |free (i:Nat) (r:HT)
 |fork (i:Nat) (x:HT) (j:Nat) (y:HT)
def HT.len:HT->Nat
 | .leaf=>0
 | .one _ r=>r.len+1
 | .free _ r=>r.len+1
 | .fork _ x _ _=>x.len+1
section
variable {P:Zo}{ops:Array Oper}{Q:Exit->Act->Zb->Prop}{md:YO}{S:Zb->Prop}{T:Nat->Zb->Prop}
def aaz (P:Zo)(b:Array Oper)(Q:Exit->Act->Zb->Prop)(S:Zb->Prop)(T:Nat->Zb->Prop):HT->Act->Zb->Prop
 | .leaf,a,w=>Q .normal a w
 | .one i r,a,w=>wpOp P b Q i (λa' w'=>T i w'/\aaz P b Q S T r a' w') a w
 | .free i r,a,w=>S w/\∃o v,b[i]?=some o/\ZbF P b S o v a/\aaz P b Q S T r (a.put o.dst v) w
 | .fork i x j y,a,w=>wpOp P b Q i (λa' w'=>T i w'/\aaz P b Q S T x a' w') a w/\wpOp P b Q j (λa' w'=>T j w'/\aaz P b Q S T y a' w') a w
def htB (md:YO)(a:Array Oper)(n:Nat)(lates:List Nat):HT->Array Bool->Bool
 | .leaf,listed=>(zs md a listed).isEmpty
 | .one i r,listed=>decide (zs md a listed=[i])&&htB md a n lates r (listed.setIfInBounds i true)
 | .free i r,listed=>(zs md a listed).contains i&&Za3 md a listed i&&pQ md a n lates i&&htB md a n lates r (listed.setIfInBounds i true)
 | .fork i x j y,listed=>decide (zs md a listed=[i,j])&&decide (x.len=y.len)&&htB md a n lates x (listed.setIfInBounds i true)&&htB md a n lates y (listed.setIfInBounds j true)
def aaE {n:Nat}{lates:List Nat}(q:YF ops=true)(l:∀c a d v w,Q (.panic c) (Zck a d v) w->Q (.panic c) a w):
  ∀(t:HT) (listed:Array Bool) (a:Act) (w:Zb),Dn md ops listed->htB md ops n lates t listed=true->aaz P ops Q S (FG lates S) t a w->Cy P md ops Q (FG lates S) t.len listed a w
 | .leaf,_,_,_,_,b,h=>⟨by simpa[htB]using b,h⟩
 | .one i r,listed,a,w,e,b,h=>by
  simp only[htB,ZF,decide_eq_true_eq]at b;refine⟨λm=>(by rw[b.1]at m;cases m),λj u=>?_⟩;have s:=u;rw[b.1]at u;have:j=i:=by simpa using u
  subst this;exact Zcc (λp w' x=>⟨x.1,aaE q l r _ p w' (e.step s) b.2 x.2⟩) h
 | .free i r,listed,a,w,e,b,h=>by
  simp only[htB,ZF]at b;obtain⟨F,o,v,E,D,h⟩:=h;have A:i∈zs md ops listed:=by simpa using b.1.1.1
  exact Me (S:=S) (n:=n) (f:=r.len) E q (λc a w x=>l c a o.dst v w x) (λw x=>.inr x) (iw b.1.2) listed a w e b.1.1.2 A D F (aaE q l r _ _ w (e.step A) b.2 h)
 | .fork i x j y,listed,a,w,e,b,h=>by
  simp only[htB,ZF,decide_eq_true_eq]at b;obtain⟨⟨⟨B,I⟩,H⟩,G⟩:=b;refine⟨λm=>(by rw[B]at m;cases m),λk g=>?_⟩;have C:=g;rw[B]at g;rcases List.mem_cons.1 g with rfl|g
  .exact Zcc (λp w' z=>⟨z.1,aaE q l x _ p w' (e.step C) H z.2⟩) h.1
  have:k=j:=by simpa using g
  subst this;exact Zcc (λp w' z=>⟨z.1,by have:=aaE q l y _ p w' (e.step C) G z.2;rwa[<-I]at this⟩) h.2
variable {a:Act}
def aaF {id:Nat}{l:List Oper}(n:Nat)(lates:List Nat)(t:HT)(ls:List Nat)(i:P.follows .mixedOrders=true)(g:∀c a d v w,Q (.panic c) (Zck a d v) w->Q (.panic c) a w)
 (b:(YF l.toArray&&decide (t.len+ls.length=l.toArray.size)&&lsB .any l.toArray n lates (htB .any l.toArray n lates t) ls (Yu l.toArray.size false))=true) (j:S w.drew)
 (h:MQ P l.toArray S (λa'=>aaz P l.toArray Q S (FG lates S) t a' w.drew) ls a):(zU id l.toArray true).wp P Q a w:=by
 simp only[ZF,decide_eq_true_eq]at b;refine Zd5 i (JV (T:=FG lates S) _ _ _ _ ?_);have e:Dn .any l.toArray (Yu l.toArray.size false):=λk ok _ f=>by
  rw[show(Yu l.toArray.size false).getD k false=false by unfold Array.getD;split<;>simp]at f;cases f
 have:=Vd b.1.1 g j (λlisted a m p o=>aaE b.1.1 g t listed a w.drew m p o) ls _ a e b.2 h;rw[b.1.2]at this;exact this
variable {r:HT}
variable {o:Oper}
def adk (b:ops[i]?=some o)(c:o.guard=none)(h:o.wp P a w (λa' w'=>T i w'/\aaz P ops Q S T r a' w') Q):aaz P ops Q S T (.one i r) a w:=by
 unfold aaz wpOp;simp only[b];rw[if_pos (by simp[Yf,c])];exact .inl h
def abN (c:ops[i]?=some o)(d:o.guard=none)(b:(Zby a.eval o).run P w=.ok (.value v) w')(e:T i w')
 (h:aaz P ops Q S T r (a.put o.dst v) w'):aaz P ops Q S T (.one i r) a w:=by
 refine adk c d ?_;unfold ZbA;rw[b,Zdi];exact⟨e,h⟩
variable {f:ZaQ}
def abn (c:ops[i]?=some o)(d:o.guard=none)(b:(Zby a.eval o).run P w=.ok (.enter f args) w)
 (g:Calls P f args w λe w'=>(∃v,e=.returned v/\T i w'/\aaz P ops Q S T r (a.put o.dst v) w')\/∃x,e=.panicked x/\Q (.panic x) a w'):aaz P ops Q S T (.one i r) a w:=by
 refine adk c d ?_;unfold ZbA;rw[b,Zdj];refine g.mono λe w' h=>?_;rcases h with⟨v,rfl,h⟩|⟨x,rfl,h⟩
 .exact h
 exact h
def aaH (e:S w)(c:ops[i]?=some o)(d:o.guard=none)(b:∀w,S w->(Zby a.eval o).run P w=.ok (.value v) w)
 (h:aaz P ops Q S T r (a.put o.dst v) w):aaz P ops Q S T (.free i r) a w:=
 ⟨e,o,v,c,.inl ⟨by simp[Yf,d],b⟩,h⟩
end
section
variable {P:Zo}{ops:Array Oper}{Q:Exit->Act->Zb->Prop}{S:Zb->Prop}{T:Nat->Zb->Prop}
variable {r:HT}
variable {o:Oper}
variable {a:Act}
def abj (e:S w)(d:ops[i]?=some o)(b:Yf o (yielded ops a.tmps)=true)(c:∀w,S w->(Zby a.eval o).run P w=.ok (.value v) w)
 (h:aaz P ops Q S T r (a.put o.dst v) w):aaz P ops Q S T (.free i r) a w:=⟨e,o,v,d,.inl ⟨b,c⟩,h⟩
def aaG (d:S w)(c:ops[i]?=some o)(b:Yf o (yielded ops a.tmps)=false)
 (h:aaz P ops Q S T r (a.put o.dst Ze) w):aaz P ops Q S T (.free i r) a w:=⟨d,o,Ze,c,.inr ⟨b,rfl⟩,h⟩
def aaZ (c:ops[i]?=some o)(b:Yf o (yielded ops a.tmps)=false)(d:T i w)
 (h:aaz P ops Q S T r (a.put o.dst Ze) w):aaz P ops Q S T (.one i r) a w:=by
 unfold aaz wpOp;simp only[c];rw[if_neg (by rw[b];decide)];exact⟨d,h⟩
variable {f:ZaQ}
def abb (d:ops[i]?=some o)(b:Yf o (yielded ops a.tmps)=true)(c:(Zby a.eval o).run P w=.ok (.enter f args) w)
 (g:Calls P f args w λe w'=>(∃v,e=.returned v/\T i w'/\aaz P ops Q S T r (a.put o.dst v) w')\/∃x,e=.panicked x/\Q (.panic x) a w'):aaz P ops Q S T (.one i r) a w:=by
 unfold aaz wpOp;simp only[d];rw[if_pos b];refine .inl ?_;unfold ZbA;rw[c,Zdj];refine g.mono λe w' h=>?_;rcases h with⟨v,rfl,h⟩|⟨x,rfl,h⟩
 .exact h
 exact h
end
def ace (a b:List Int):Bool:=(Yr a.length).all λi=>decide (nth a i=nth b i)
def acf {a b:List Int}(h:a.length=b.length):ace a b=Ke a b:=by
 unfold ace Ke;rw[ZcG,Zdm,decide_eq_true_eq];constructor
 .intro g
  apply List.ext_getElem h;intro i c d;have j:=of_decide_eq_true (g i (List.mem_range.2 c));have f:=Bn c;have e:=Bn d;rw[zf c]at f;rw[zf d]at e;rw[ZW f,ZW e,j]
 rintro rfl i _;exact decide_eq_true rfl
end Go.Proofs.Fit
namespace Go.Proofs.Fit
open Go
section
variable {F:Fence}{n:Nat}{P:Zo}{ops:Array Oper}{md:YO}{C:Zb->Prop}
def abR (a:Array Oper):Bool:=a.all λo=>match o.op with| .defer _=>false|_=>true
variable {i g cap k b d clk st:Nat}
variable {o:Oper}
def abS (h:abR ops=true)(a:ops[i]?=some o):∀c,o.op≠ .defer c:=by
 intro c d;obtain⟨b,e⟩:=Za.1 a;have:=Array.all_eq_true.1 h i b;rw[e,d]at this;cases this
variable {a:Act}
variable {aa1:Exit->Act->Zb->Prop}
variable {w A B w1 w' W3:Zb}
def adE {K:Act->Prop}{j:Act->Zb->Prop}(q:∀c,o.op≠ .defer c)(d:C w)(h:∀a w',C w'->K a->j a w')
 (t:o.askedIn F P a C) (p:o.quietIn F n P a C K):o.wpIn F n P a w j aa1:=by
 obtain⟨v,l,g⟩:=p;refine⟨t w d,?_⟩;rw[Oper.semAt_eq _ _ _ q];have b:=l w d;unfold Oper.quietAtIn at b
 revert b
 generalize (Zby a.eval o).run P w=r;intro b;rcases r with⟨x,w'⟩|⟨x,w'⟩
 .cases x with
  |value u=>obtain⟨rfl,rfl⟩:=b;exact h _ _ d g
  |skip=>obtain⟨rfl,e⟩:=b;rw[Oper.uponIn_skip, <-e];exact h _ _ d g
  |enter f i=>obtain⟨rfl,m,s⟩:=b;exact⟨m,s.mono λe x y=>by obtain⟨rfl,k⟩:=y;exact h _ _ k g⟩
  |_=>exact b.elim
 .exact b.elim
def adn {Q:Act->Prop}(m:abR ops=true)(k:∀a w,C w->Q a->aa1 .normal a w)(b:Nat):∀(listed:Array Bool) (a:Act) (w:Zb),C w->
  wpAnyQIn F n P md ops C Q b listed a->wpAnyIn F n P md ops aa1 b listed a w:=by
 induction b with
 |zero=>exact λ_ a w d h=>⟨h.1,k a w d h.2⟩
 |succ b e=>
  intro listed a w d h;refine⟨λq=>k a w d (h.1 q),λi p=>?_⟩;have c:=h.2 i p;unfold qOpIn at c;unfold wpOpIn
  match f:ops[i]? with
  |none=>rw[f]at c;exact e _ _ _ d c
  |some o=>
   rw[f]at c;obtain⟨j,c⟩:=c;by_cases g:Yf o (yielded ops a.tmps)=true
   .simp only[g,if_true]at c⊢
    exact adE (abS m f) d (λr w' l=>e _ r w' l) j c
   simp only[g]at c⊢;exact⟨j w d,e _ _ _ d c⟩
def abI {id:Nat}{Q:Exit->Act->Zb->Prop}{l:List Oper}(d:abR l.toArray=true)(e:P.follows .mixedOrders=true)(b:Region.lexB .any l.toArray=true)(f:C w.drew)
 (h:wpQuietIn F n P l.toArray C (λa'=>∀w',C w'->Q .normal a' w') l a):(zU id l.toArray true).wpIn F n P Q a w:=by
 simp only[Region.lexB,ZF]at b;refine wpIn_region_any e (adn (Q:=λa'=>∀w',C w'->Q .normal a' w') d (λ_ w' c h=>h w' c) _ _ _ _ f ?_);have:=wpAnyQIn_lex (F:=F) (n:=n) (C:=C) (md:=.any) b.1 l 0 (Yu l.toArray.size false) a i! (by simpa using b.2) h;simpa using this
end
end Go.Proofs.Fit
namespace Go.Proofs.Fit
open Go Go.RowKit
def aaA (k:Int×Int×Int):Zf:=.agg #[.int .i64 k.1,.int .i64 k.2.1,.int .i64 k.2.2]
def u150:Lp.underlying 150=some (.array 3 3):=Cz Tryz.underlying150
def u164:Lp.underlying 164=some (.map 150 27):=Cz Tryz.underlying164
def adl (w:Zb)(k k':Int×Int×Int):(Zaa 150 (aaA k) (aaA k')).run Lp w=.ok (decide (k=k')) w:=by
 obtain⟨a,b,c⟩:=k;obtain⟨x,y,z⟩:=k';obtain⟨o,i,p,r,q⟩:=zp KY;have l:Lp.cellsOf 3=1:=k!
 have j:∀w a b,(ZaZ 9999 3 (.int .i64 a) (.int .i64 b)).run Lp w=.ok (a==b) w:=λw a b=>run_equalIn_int w 9998 3 .i64 .i64 a b u3;have g:=λw (a b c:Int)=>P2 w #[.int .i64 a,.int .i64 b,.int .i64 c] 0 a rfl;have f:=λw (a b c:Int)=>P2 w #[.int .i64 a,.int .i64 b,.int .i64 c] 1 b rfl;have e:=λw (a b c:Int)=>P2 w #[.int .i64 a,.int .i64 b,.int .i64 c] 2 c rfl;unfold Zaa Op.maxDepth aaA;rw[run_equalIn_array w 9999 _ _ u150 (Dz i),l,show Yr 3=[0,1,2] from rfl];by_cases n:a=x<;>by_cases m:b=y<;>by_cases d:c=z<;>simp[Op.eqItems,zg,g,f,e,j,n,m,d]
def abg (w:Zb)(e:Bool)(k:Int×Int×Int):(YD e 10000 150 (aaA k)).run Lp w=.ok () w:=by
 obtain⟨a,b,c⟩:=k;have j:∀w,(sizeOf 3).run Lp w=.ok 1 w:=λw=>k!
 have i:=λw (a b c:Int)=>P2 w #[.int .i64 a,.int .i64 b,.int .i64 c] 0 a rfl;have g:=λw (a b c:Int)=>P2 w #[.int .i64 a,.int .i64 b,.int .i64 c] 1 b rfl;have f:=λw (a b c:Int)=>P2 w #[.int .i64 a,.int .i64 b,.int .i64 c] 2 c rfl;have d:=λw v=>qy w e 9998 v;simp only[ZaF]at d;unfold YD aaA;simp only[zg,Y9 u150,Zaw];simp only[Zdw,Std.Legacy.Range.size,Nat.sub_zero,Nat.add_one_sub_one,Nat.div_one];rw[show Zcq 0 3=[0,1,2] from rfl];simp[zg,j,i,g,f,d,zu]
def ad1 (w:Zb)(k:Int×Int×Int):(Yi (aaA k) (aaA k)).run Lp w=.ok (aaA k) w:=by
 have h:zH 10000 (aaA k) (aaA k)=true:=by simp[aaA,zH]
 simp[Yi,h]
def abo (w:Zb)(k:Int×Int×Int):(Zaj 150 (aaA k) []).run Lp w=.ok none w:=by
 unfold Zaj;simp only[zg,Y9 u150,Zaw];simp[ZaJ,zX]
def abl (w:Zb)(k:Int×Int×Int)(v:Zf)(st:Nat):(Zaj 150 (aaA k) [{key:=aaA k,val:=v,born:=st}]).run Lp w=.ok (some (0,v)) w:=by
 unfold Zaj;simp only[zg,Y9 u150,Zaw];simp[ZaJ,Zbj,zX,zg,adl]
variable {w A B w1 w' W3:Zb}
variable {n i g cap k b d clk st:Nat}
variable {es:Array MapEntry}
def abh (a:w.heap[b]?=some (.map es clk)):(getObj b).run Lp w=.ok (.map es clk) w:=by simp[getObj,Sem.run,a]
def abU (a:w.heap[b]?=some (.map es clk))(o:Obj):(setObj b o).run Lp w=.ok () (w.putObj b o):=by simp[setObj,Sem.run,a,World.putObj]
def acL (k:Int×Int×Int)(a:w.heap[b]?=some (.map #[] clk)):
  (ZcK 164 (.map (some b)) (aaA k)).run Lp w=.ok (.tuple #[(),goInt clk]) (w.putObj b (.map #[{key:=aaA k,val:=.slice none 0 0,born:=clk}] (clk+1))):=by
 simp[ZcK,zg,Y9 u164,abh a,abg,abo,abU a,zu]
variable {v v1 v2 v3 v4 v5 v6 u v' lv:Zf}
def acQ (k:Int×Int×Int)(a:w.heap[b]?=some (.map #[{key:=aaA k,val:=v,born:=st}] clk)):
  (ZcK 164 (.map (some b)) (aaA k)).run Lp w=.ok (.tuple #[v,goInt st]) (w.putObj b (.map #[{key:=aaA k,val:=v,born:=st}] clk)):=by
 simp[ZcK,zg,Y9 u164,abh a,abg,abl,ad1,abU a,zu]
def ac4 {k:Int×Int×Int}(a:w.heap[b]?=some (.map #[{key:=aaA k,val:=v,born:=st}] clk)):
  (Zch 164 (.map (some b)) (goInt st) u).run Lp w=.ok () (w.putObj b (.map #[{key:=aaA k,val:=u,born:=st}] clk)):=by
 simp[Zch,zg,abh a,abU a,goInt,asInt,asIntOf,zu]
def adf (k:Int×Int×Int)(a:w.heap[b]?=some (.map #[] clk)):(Za2 164 (.map (some b)) (aaA k) false).run Lp w=.ok () w:=by
 simp[Za2,zg,Y9 u164,abh a,abg,abo,zu]
def ad2 (k:Int×Int×Int)(a:w.heap[b]?=some (.map #[{key:=aaA k,val:=v,born:=st}] clk)):(Za2 164 (.map (some b)) (aaA k) false).run Lp w=.ok v w:=by
 simp[Za2,zg,Y9 u164,abh a,abg,abl,zu]
variable {S T Sn:Nat->Prop}
def aev {a b:List Int}(J:SI S w v a)(I:SI T w v' b)(Z:Ql6 S w)(Y:∀b,T b->b<w.heap.size):
  Calls Lp 130 #[v,v'] w λe w'=>e=.returned (.bool (Ke a b))/\Qb6 w w':=by
 obtain⟨a1,c1,rfl,l1,m1⟩:=J.val;obtain⟨a2,c2,rfl,l2,m2⟩:=I.val;have IX:=DJ;obtain⟨D,d⟩:∃x,x=Ke a b:=⟨_,rfl⟩;have HL:=Zd (show a.length≠b.length->D=false from λh=>by rw[d];exact decide_eq_false λe=>h (by rw[e]));have HB:=Zd (show a.length=b.length->(∃i,i<a.length/\nth a i≠nth b i)->D=false from λ_ ⟨i,C,BL⟩=>by rw[d];exact decide_eq_false λe=>BL (by rw[e]));have HA:=Zd (show a.length=b.length->(∀i,i<a.length->nth a i=nth b i)->D=true from λW h=>by rw[d, <-acf W];unfold ace;rw[Zdm];exact λi C=>decide_eq_true (h i (List.mem_range.1 C)));rw[<-d];clear d;by_cases c:a.length=b.length
 case neg=>
  have s:((a.length:Int) !=(b.length:Int))=true:=j!
  have E:=Zd (HL.out c);go_enter Lp.func130,adB;go_wp2;go_ret;exact⟨by rw[E.out];rfl,Zh _ _⟩
 have s:((a.length:Int) !=(b.length:Int))=false:=j!
 have g:=Zd c;obtain⟨n,U⟩:=Qnm a.length;clear c;clear U n;go_enter Lp.func130,adB;go_wp2;clear s;go_loopg [13] a.length (λgg i wr=>∃k:Nat,k<=a.length/\gg=a.length - k/\i=.int .i64 k/\(∀j,j<k->nth a j=nth b j)/\Qb6 w wr)
 case atStart=>exact⟨0,Zp _,rfl,rfl,λj H=>absurd H o!,Zh _ _⟩
 obtain⟨k,hk,rfl,rfl,l,t⟩:=hrel;have r:=Zd l;clear l;obtain⟨V,X⟩:=Qnm wr;subst X;by_cases F:k<a.length
 .obtain⟨M,R,rfl,FD,o⟩:=J.at_ F
  obtain⟨L,Q,rfl,EC,m⟩:=I.at_ (show k<b.length by have:=g.out;omega);have o:=(t.cell (p:=⟨M,R+k,none⟩) (Z M FD)).trans o;have m:=(t.cell (p:=⟨L,Q+k,none⟩) (Y L EC)).trans m;obtain⟨x,B⟩:=Qnm (nth a k);obtain⟨y,A⟩:=Qnm (nth b k);rw[<-B]at o;rw[<-A]at m;have z:=Zd (ZY B A);clear B A;have TB:(k:Int)<(a.length:Int):=o!
  have am:(k:Int)<(b.length:Int):=by have:=g.out;omega
  have kq:(0:Int)<=(k:Int):=o!
  have P:=λu=>Al u o;have O:=λu=>Al u m;by_cases f:x=y
  case' pos=>
   have s:(x !=y)=false:=by simpa using f
  case' neg=>
   have s:(x !=y)=true:=by simpa using f
  all_goals
   have q:=Zd f;clear f;go_wp2;refine Av k! k! ?_
   repeat (first|go_big_quiet_step (fail)|quiet_step (fail))
   refine Z4 ?_;rintro _ ⟨p,rfl⟩;have G:=AE V p;obtain⟨V2,K⟩:=Qnm (calm V p);rw[<-K]at G⊢;have N:=bU t G;clear K P O o m;go_wp2
  .go_ret
   exact⟨by rw[HB.out g.out ⟨k,F,by rw[<-z.out.1, <-z.out.2];exact q.out⟩];rfl,N⟩
  go_roundg (a.length - (k+1))
  case rel=>exact⟨k+1,F,rfl,v!,λj H=>by
   by_cases e:j=k
   .rw[e, <-z.out.1, <-z.out.2];exact q.out
   exact r.out j o!,N⟩
  omega
 have E:=Zd (HA.out g.out λi C=>r.out i o!);go_wp2;go_ret;exact⟨by rw[E.out];rfl,t⟩
def acs (c:A_)(p:List Int):List (List Int):=(EZ (c.Aa.drop p.length)).map (p++ ·)
def ad4 (c:A_):acs c []=EH c:=by simp[acs,EH]
variable {c:A_}
def ad5 (a:Fq c)(p:List Int):(acs c p).length<=125:=by
 unfold acs;rw[List.length_map];have f:=H7 (c.Aa.drop p.length) (λi b=>by
  rw[List.length_drop]at b;have:=a.step (p.length+i) o!;have e:Aj (c.Aa.drop p.length) i=Aj c.Aa (p.length+i):=by simp[Aj]
  rw[e];omega)
 have d:5^(c.Aa.drop p.length).length<=5^3:=YX d! (by rw[List.length_drop];have:=a.few;omega);exact Zr f d
def LR2 (b base:Nat)(w:Zb)(v:Zf)(P:List (List Int)):Prop:=∃a,w.ownsRow b 22 1 v P.length a/\∀(i:Nat) (x:List Int),P[i]?=some x->∃u,a[i]?=some u/\SI (J1 3 base w) w u x
def LR2.nil (a base:Nat)(w:Zb):LR2 a base w () []:=⟨[],zq _ _ _ _,λi x h=>h!⟩
variable {P:List (List Int)}
def LR2.aa2 {c base:Nat}(h:LR2 c base w v P)(f:base<=c):LR base w v P:=by
 obtain⟨a,d,k⟩:=h;exact⟨a,⟨d.1,d.2.imp id λ⟨g,cap,b,e,j,i⟩=>⟨g,cap,b,e,Zr f j,i⟩⟩,k⟩
def Vu (l:List Int):Ke l l=true:=by simp[Ke]
def B3.aj4 (h:Qb6 w A)(c:B3 b A B)(d:w<=b):Qb6 w B:=h.trans ((c.CN (K:=λx=>x=b) rfl).below (λx a=>by have:x=b:=a;omega) h.size)
variable {p:List Int->Bool}
def Vv {A:List (List Int)}(h:k<A.length)(hp:p (BM A k)=true):(A.filter p)[((A.take k).filter p).length]?=some (BM A k):=by
 have e:A=A.take k++BM A k::A.drop (k+1):=by
  obtain⟨b,a⟩:=Zm.1 (BJ h);rw[<-a,List.getElem_cons_drop,List.take_append_drop]
 conv=>lhs;rw[e]
 rw[ZcW,ZbB,if_pos hp,List.take_left' j!];simp
def P4 {A:List (List Int)}(h:k<A.length):((A.take (k+1)).filter p).length=((A.take k).filter p).length+if p (BM A k)=true then 1 else 0:=by
 rw[ZbH,BJ h,ZcW,ZA];cases a:p (BM A k)<;>simp[a]
def LR.mono {base c:Nat}(h:LR base w v P)(l:c<=base):LR c w v P:=by
 obtain⟨a,m,o⟩:=h;refine⟨a,⟨m.1,m.2.imp id λ⟨g,cap,j,e,f,d⟩=>⟨g,cap,j,e,Zr l f,d⟩⟩,λi x n=>?_⟩;obtain⟨u,f,d⟩:=o i x n;exact⟨u,f,Sl.imp d (λb k=>⟨⟨Zr l k.1.1,k.1.2⟩,k.2⟩) λ_ _ x=>x⟩
def aav (c:A_)(l x:List Int):Bool:=Ke (Cc c x) (Cc c l)&& !Ke x l
def aaD (c:A_)(l:List Int):List (List Int):=if Ca c l=0 then(EH c).filter (aav c l) else []
def abq (w:Zb)(P:List (List Int))(x:Int)(e:Ending)(w':Zb):Prop:=∃v,e=.returned (.tuple #[v,.int .i64 x])/\Qb6 w w'/\LR w w' v P
def acv {x:Int}(a:Qb6 w w')(h:LR w w' v P):abq w P x (.returned (.tuple #[v,.int .i64 x])) w':=⟨v,rfl,a,h⟩
end Go.Proofs.Fit
namespace Go.Proofs.Fit
open Go
def abK {n:Int}{k:Nat}:∀(l:List (Int×Int)) (m:Nat->Int),(∀p∈l,p.1<(k:Int))->CZ m n l k=m k
 | [],_,_=>rfl
 |p::r,m,h=>by
  show CZ (K7 m n p) n r k=m k;rw[abK r _ λq a=>h q (zm _ a)];unfold K7;rw[if_neg (by have:=h p (zC ..);omega)]
def ac6 {k:Nat}:∀(l:List (Int×Ay)) (m:Nat->Int),(∀x∈l,∀p∈x.2.Ap,p.1<(k:Int))->Iw m l k=m k
 | [],_,_=>rfl
 |x::r,m,h=>by
  show Iw (CZ m x.1 x.2.Ap) r k=m k;rw[ac6 r _ λq a=>h q (zm _ a),abK _ _ (h x (zC ..))]
variable {c:A_}
variable {n i g cap k b d clk st:Nat}
def aaC (g:Fq c)(l:List Int)(o:c.base.length<=k):measure c l k=0:=by
 unfold measure;rw[ac6 _ _ λx f p n=>?_]
 .unfold nth
  simp[ZP o]
 have m:=(List.of_mem_zip f).2;obtain⟨i,b,e⟩:=Zas m;obtain⟨j,a,s⟩:=Zas n;have d:Aj c.Aa i=x.2:=by
  have:=Db b;rw[zf b]at this;rw[<-ZW this,e]
 have r:=g.pull i b j (by rw[d];exact a);have q:BV (Aj c.Aa i).Ap j=p:=by
  rw[d];have:=EE a;rw[zf a]at this;rw[<-ZW this,s]
 rw[q]at r;omega
def aaB (c:A_)(l:List Int):Int×Int×Int:=(measure c l 0,measure c l 1,measure c l 2)
def ad6 (d:Fq c)(x l:List Int):decide (aaB c x=aaB c l)=Ke (Cc c x) (Cc c l):=by
 unfold Ke;rw[decide_eq_decide];constructor
 .intro h
  unfold Cc;refine List.map_congr_left λi a=>?_;have a:=List.mem_range.1 a;have:=d.Fp.2;simp only[aaB,Prod.mk.injEq]at h;have e:i=0\/i=1\/i=2:=o!
  rcases e with rfl|rfl|rfl
  .exact h.1
  .exact h.2.1
  exact h.2.2
 intro h;have b:∀i,measure c x i=measure c l i:=λi=>by
  by_cases a:i<c.base.length
  .have:=congrArg (·[i]?) h
   simpa[Cc,a]using this
  rw[aaC d _ o!,aaC d _ o!]
 simp[aaB,b]
def abv (a:Fq c)(x l:List Int):aav c l x=(decide (aaB c x=aaB c l)&& !Ke x l):=by rw[ad6 a];rfl
end Go.Proofs.Fit
namespace Go.Proofs.Fit
open Go Go.RowKit
variable {S T Sn:Nat->Prop}
variable {w A B w1 w' W3:Zb}
variable {v v1 v2 v3 v4 v5 v6 u v' lv:Zf}
variable {c:A_}
variable {l x nums:List Int}
def aeC (h:RC S w v1 v2 v3 v4 v5 c)(hl:SI S w v6 l)(m:Ql6 S w)(f:Ca c l≠0):
  Calls Lp 67 #[.agg #[v1,v2,v3,v4,v5],v6] w (abq w (aaD c l) (Ca c l)):=by
 obtain⟨A,s,z,r,y,q,v,p,u,o,rfl,rfl,rfl,rfl,rfl,Z,Q,Y,P,X,O,V,N,U,M⟩:=h.vs;obtain⟨t,n,rfl,T,L⟩:=hl.val;have IX:=DJ;obtain⟨W1,g⟩:=Qnm ((w.alloc (.cells (Qe6 c A s z r y q v p u o) 26)).alloc (.cells #[.slice t l.length n] 22));have k:Qb6 w W1:=by rw[g];exact bA (bA (Zh _ _))
 have i:=Zd (λW d=>pF (w:=W) (h.later d) (hl.later d) (A3 m d));have j:=Zd (show aaD c l=[] by unfold aaD;rw[if_neg f]);obtain⟨x,a⟩:=Qnm (Ca c l);obtain⟨R,b⟩:=Qnm (aaD c l);rw[<-b]at j;have hq:(x !=0)=true:=by simpa[a]using f
 have B:=Zd a;rw[<-a, <-b];clear f a b;go_enter Lp.func67,n67;go_wp2;rw[<-g];clear g;refine(i.out _ k).mono ?_;rintro e W2 ⟨I,H,G,F,E,K,J,n3,n4,n5,d1,d2,d3,d4,d5,k0,k1,k2,rfl,D,_⟩;have C:=bU k D;rw[<-B.out];clear i;go_wp2;go_ret2;rw[j.out];refine acv (?_:Qb6 w _) ((LR2.nil _ _ _).aa2 (Zj _))
 repeat (with_reducible first|exact C|refine bA ?_|(refine bS ?_ o!)|refine bD ?_|refine bN ?_)
attribute [local go_sem] Zdk
variable {n i g cap k b d clk st:Nat}
variable {f:ZaQ}
variable {xs args:Array Zf}
def aax {F:Fence}{P:Zo}{p:Cp}(h:CallsIn F n P f args (calm w p) λe w'=>e=.returned v/\YH (calm w p).heap.size (calm w p) w'):
  CallsIn F n P f args (calm w p) λe c=>e=.returned v/\∃q,c=calm w q:=
 h.mono λ_ _ ⟨a,b⟩=>⟨a,AL ((AE w p).trans (b.mono (AE w p).size))⟩
structure aa3 (W3:Zb)(base m:Nat)(G:Int×Int×Int)(P:List (List Int))(A:Zb):Prop where
 below:Qb6 W3 A
 size:base<=A.heap.size
 aci:A.heap[m+1]?=some (.cells #[.map (some m)] 164 (0,0))
 map:(P=[]/\∃clk,A.heap[m]?=some (.map #[] clk))\/∃v vals st clk,A.heap[m]?=some (.map #[{key:=aaA G,val:=v,born:=st}] clk)/\A.ownsRow base 22 1 v P.length vals/\∀(i:Nat) (x:List Int),P[i]?=some x->∃u,vals[i]?=some u/\SI (J1 3 base A) A u x
variable {P:List (List Int)}
def aa3.CN {base m:Nat}{G:Int×Int×Int}(h:aa3 W3 base m G P A)(z:m=W3)(a:Ak T A B)(l:∀b,base<=b->¬T b)(g:∀b,T b->W3.heap.size+2<=b):aa3 W3 base m G P B:=by
 have j:=λ{k:Nat} {o:Obj} (e:A.heap[k]?=some o)=>(Za.1 e).1;refine⟨h.below.trans (a.below (λk q=>by have:=g k q;omega) h.below.size),Zr h.size a.size,(a.block _ (j h.aci) (λd=>by have:=g _ d;omega)).trans h.aci,?_⟩;rcases h.map with⟨y,clk,f⟩|⟨v,c,st,clk,f,w,t⟩
 .exact .inl ⟨y,clk,(a.block _ (j f) (λd=>by have:=g _ d;omega)).trans f⟩
 refine .inr ⟨v,c,st,clk,(a.block _ (j f) (λd=>by have:=g _ d;omega)).trans f,CO a l w,λi x r=>?_⟩;obtain⟨u,n,p⟩:=t i x r;exact⟨u,n,Dx a (λb s=>l b s.1.1) p⟩
def acK {base:Nat}(h:LR base A v P)(d:Ak T A B)(c:∀b,base<=b->¬T b):LR base B v P:=by
 obtain⟨a,l,k⟩:=h;refine⟨a,CO d c l,λi y e=>?_⟩;obtain⟨u,j,g⟩:=k i y e;exact⟨u,j,Dx d (λb f=>c b f.1.1) g⟩
variable {vals:List Zf}
def aa3.snoc {base m g' q ln j:Nat}{l:Option Addr}{G:Int×Int×Int}{o:Obj}(g:aa3 W3 base m G P A)(L:m=W3)(s:m+2<=base)(D:A.ownsRow base 22 1 v P.length vals)(J:∀(i:Nat) (x:List Int),P[i]?=some x->∃u,vals[i]?=some u/\SI (J1 3 base A) A u x)
 (F:SI (J1 3 n A) A (.slice l ln j) x) (B:base<=n) (C:((A.alloc (.cells #[.slice l ln j] 22)).putObj m o).grownBy w1 v.ownBlock) (K:w1.ownsRow base 22 1 (.slice g' (P.length+1) q) (P.length+1) (vals++ [.slice l ln j])):
  aa3 W3 base m G (P++ [x]) (w1.putObj m (.map #[{key:=aaA G,val:=.slice g' (P.length+1) q,born:=st}] clk))/\Ak (λk=>k=m\/base<=k) A (w1.putObj m (.map #[{key:=aaA G,val:=.slice g' (P.length+1) q,born:=st}] clk)):=by
 have t:=(Za.1 g.aci).1;have r:∀b,base<=b->¬b=m:=λb M=>o!
 have p:Ak (λk=>k=m) A ((A.alloc (.cells #[.slice l ln j] 22)).putObj m o):=(Ak.later (T:=λk=>k=m) (bA (Zh _ _))).put rfl;have I:∀k,v.ownBlock=some k->base<=k:=λk a=>(D.lt k a).1;have f:Ak (λk=>v.ownBlock=some k) ((A.alloc (.cells #[.slice l ln j] 22)).putObj m o) w1:=Ak.grown C λk a=>a;have H:LR base w1 (.slice g' (P.length+1) q) (P++ [x]):=LR.snoc (CO p r D) (λi y E=>by
  obtain⟨u,z,w⟩:=J i y E;exact⟨u,z,Dx p (λb s=>r b s.1.1) w⟩) (Dx p (λb s=>r b (Zr B s.1.1)) F) B (Zh _ _) C K
 have e:Ak (λk=>k=m) w1 (w1.putObj m (.map #[{key:=aaA G,val:=.slice g' (P.length+1) q,born:=st}] clk)):=(Ak.refl _ _).put rfl;have c:=((p.mono (U:=λk=>k=m\/base<=k) λk a=>.inl a).trans (f.mono λk a=>.inr (I k a))).trans (e.mono λk a=>.inl a);refine⟨⟨g.below.trans (c.below (λk a=>o!) g.below.size),Zr g.size c.size,(c.block _ t o!).trans g.aci,.inr ?_⟩,c⟩;obtain⟨d,z,w⟩:=acK H e r;exact⟨_,d,st,clk,Zau (by have:=p.size;have:=f.size;omega),z,w⟩
def aeD (h:RC S w v1 v2 v3 v4 v5 c)(hl:SI S w v6 l)(hS:Ql6 S w)(h0:Ca c l=0):
  CallsIn ZbC 0 Lp 67 #[.agg #[v1,v2,v3,v4,v5],v6] w (abq w (aaD c l) 0):=by
 obtain⟨J,D,I,z,H,y,G,t,F,s,rfl,rfl,rfl,rfl,rfl,_⟩:=h.vs;obtain⟨a6,c6,rfl,_⟩:=hl.val;have IX:=DJ;obtain⟨Jz,ER⟩:=Bj h0;have Q:=EG Jz;obtain⟨W1,NL⟩:=Qnm ((w.alloc (.cells (Qe6 c J D I z H y G t F s) 26)).alloc (.cells #[.slice a6 l.length c6] 22));have Bg:Qb6 w W1:=by rw[NL];exact bA (bA (Zh _ _))
 have lD:W1.heap[w.heap.size+1]?=some (.cells #[.slice a6 l.length c6] 22 (0,0)):=by rw[NL,show w.heap.size+1=(w.alloc (.cells (Qe6 c J D I z H y G t F s) 26)).heap.size by simp];exact Bp _ _
 have Ie:=Zd (λW hB=>Zcx (n:=0).2 (pF (w:=W) (h.later hB) (hl.later hB) (A3 hS hB)));have HE:=Zd (show aaD c l=(EH c).filter (aav c l) by unfold aaD;rw[if_pos h0]);have HA:=Zd h0;have HB:=Zd Jz;clear h0;refine callsIn_of_wp_marks Lp.func67 rfl trivial ?_ rfl;show Code.wpIn _ _ _ _ _ {tmps:= #[.agg #[.slice J c.base.length D,.slice I c.Af.length z,.slice H c.hooks.length y,.slice G c.Aa.length t,.slice F c.now.length s],.slice a6 l.length c6]++_,defers:=[]} _;simp only[n67,Zbm,zb,zR,ZaF,Zcw,ZaN,ZaM,Zbn,Za4,zP,Za1]
 gi_wp2
 rw[<-NL];clear NL;refine⟨trivial,rfl,(Ie.out _ Bg).mono ?_⟩;rintro e R ⟨q1,q2,q3,q4,q5,n1,n2,n3,n4,n5,d1,d2,d3,d4,d5,k0,k1,k2,rfl,Z,hx⟩;have hx:=hx HB.out;rw[HA.out,hx];clear hx;obtain⟨W3,Hv⟩:=Qnm (R.alloc (.cells (AW (.slice J c.base.length D) (.slice I c.Af.length z) (.slice H c.hooks.length y) (.slice G c.Aa.length t) (.slice F c.now.length s) (Ax c.Aa)) 112));have b9:=Zd Hv;unfold AW at Hv⊢
 gi_wp2
 rw[<-Hv];clear Hv;have iz:W3.heap[R.heap.size]?=some (.cells #[.slice J c.base.length D,.slice I c.Af.length z,.slice H c.hooks.length y,.slice G c.Aa.length t,.slice F c.now.length s,.int .u8 (Ax c.Aa 0),.int .u8 (Ax c.Aa 1),.int .u8 (Ax c.Aa 2)] 112 (0,0)):=by rw[b9.out];exact Bp _ _
 have Ks:=Bf (Bf iz (.map #[] 0)) (.cells #[.map (some W3.heap.size)] 164);have g0:=ch (i:=0) Ks rfl;have g1:=ch (i:=1) Ks rfl;have g2:=ch (i:=2) Ks rfl;have g3:=ch (i:=3) Ks rfl;have g4:=ch (i:=4) Ks rfl;have g5:=ch (i:=5) Ks rfl;have g6:=ch (i:=6) Ks rfl;have g7:=ch (i:=7) Ks rfl;change(_:Act->Zb->Prop) _ (W3.alloc (.map #[] 0))
 gi_wp2
 refine⟨trivial,rfl,(Zcx (n:=0).2 (ahC (AW (.slice J c.base.length D) (.slice I c.Af.length z) (.slice H c.hooks.length y) (.slice G c.Aa.length t) (.slice F c.now.length s) (Ax c.Aa)) rfl (by simp[AW,YT]) _)).mono ?_⟩;rintro e V ⟨rfl,hV⟩;clear g0 g1 g2 g3 g4 g5 g6 g7;change V=((W3.alloc (.map #[] 0)).alloc (.cells #[.map (some W3.heap.size)] 164)).alloc (.cells (AW (.slice J c.base.length D) (.slice I c.Af.length z) (.slice H c.hooks.length y) (.slice G c.Aa.length t) (.slice F c.now.length s) (Ax c.Aa)) 112) at hV;have Rb:W3=R.heap.size+1:=by rw[b9.out,ZB]
 have ck:V=W3.heap.size+3:=by rw[hV];simp
 have bv:Qb6 W3 V:=by rw[hV];exact bA (bA (bA (Zh _ _)))
 have f8:=bU Bg Z;have bi:Qb6 R W3:=by rw[b9.out];exact bA (Zh _ _)
 have rp:=bU f8 bi;have Ui:=bU rp bv;have fJ:V.heap[W3.heap.size]?=some (.map #[] 0):=by rw[hV];exact Bf (Bf (Bp _ _) _) _
 have fI:V.heap[W3.heap.size+1]?=some (.cells #[.map (some W3.heap.size)] 164 (0,0)):=by rw[hV,show W3.heap.size+1=(W3.alloc (.map #[] 0)).heap.size by simp];exact Bf (Bp _ _) _
 have pX:V.heap[W3.heap.size+1+1]?=some (.cells (AW (.slice J c.base.length D) (.slice I c.Af.length z) (.slice H c.hooks.length y) (.slice G c.Aa.length t) (.slice F c.now.length s) (Ax c.Aa)) 112 (0,0)):=by rw[hV,show W3.heap.size+1+1=((W3.alloc (.map #[] 0)).alloc (.cells #[.map (some W3.heap.size)] 164)).heap.size by simp];exact Bp _ _
 have ip:=Q.few;have eZ:=qv pX (h.later Ui) (λb d=>by have:=hS b d;have:=Ui.size;omega) o! (λi hi=>by have:=Q.step i hi;omega);have hN:(EH c).length<=125:=by rw[<-ad4];exact ad5 Q _
 clear hV;simp only[ZB];obtain⟨K,a⟩:∃K:Nat->Prop,K=λk=>S k\/k=W3+1+1:=⟨_,rfl⟩;have ju:∀k,K k->k<w.heap.size\/k=W3+1+1:=λk h=>by
  rw[a]at h;rcases h with h|rfl
  .exact .inl (hS k h)
  exact .inr rfl
 rw[<-a]at eZ;clear a;have gj:w+2<=R.heap.size:=by have:=Z.size;have:=(Za.1 lD).1;omega
 have HZ:=Zd (show w+2<=R.heap.size/\W3=R.heap.size+1/\V=W3.heap.size+3 from⟨gj,Rb,ck⟩);clear Rb ck
 gi_wp2
 have kL:=HZ.out;refine Vm (gf:=153) (lb:= #[.pointer (W3+1+1:Nat)]) rfl (Go.Proofs.enters_of Lp.func153 k! rfl) eZ (Zj _) (λk hk=>⟨by have:=ju k hk;omega,rfl⟩) (λf A=>aa3 W3 (V+6) W3 (aaB c l) (f.filter (aav c l)) A) (λA hA hs=>?_) (λf A B h hT=>h.CN rfl hT (λb h1 h2=>by unfold Kp at h2;omega) (λb d=>by unfold Kp at d;omega))
  (λu=> {tmps:= #[.agg #[.slice J c.base.length D,.slice I c.Af.length z,.slice H c.hooks.length y,.slice G c.Aa.length t,.slice F c.now.length s],.slice a6 l.length c6,.pointer w,.pointer (w+1:Nat),(),.int .i64 0,.pointer R,.int .i64 0,.pointer (W3+1:Nat),u,Ze,.tuple #[.agg #[.slice J c.base.length D,.slice I c.Af.length z,.slice H c.hooks.length y,.slice G c.Aa.length t,.slice F c.now.length s,.int .u8 (Ax c.Aa 0),.int .u8 (Ax c.Aa 1),.int .u8 (Ax c.Aa 2)],.int .i64 0],.agg #[.slice J c.base.length D,.slice I c.Af.length z,.slice H c.hooks.length y,.slice G c.Aa.length t,.slice F c.now.length s],.slice a6 l.length c6,.tuple #[.agg #[.slice J c.base.length D,.slice I c.Af.length z,.slice H c.hooks.length y,.slice G c.Aa.length t,.slice F c.now.length s,.int .u8 (Ax c.Aa 0),.int .u8 (Ax c.Aa 1),.int .u8 (Ax c.Aa 2)],.int .i64 0],.agg #[.slice J c.base.length D,.slice I c.Af.length z,.slice H c.hooks.length y,.slice G c.Aa.length t,.slice F c.now.length s,.int .u8 (Ax c.Aa 0),.int .u8 (Ax c.Aa 1),.int .u8 (Ax c.Aa 2)],.int .i64 0,.int .i64 0,.bool false,Ze,.map (some W3.heap.size),.agg #[.slice J c.base.length D,.slice I c.Af.length z,.slice H c.hooks.length y,.slice G c.Aa.length t,.slice F c.now.length s,.int .u8 (Ax c.Aa 0),.int .u8 (Ax c.Aa 1),.int .u8 (Ax c.Aa 2)],.func (.func 153) #[] #[.pointer (W3+1+1:Nat)],u,Ze,Ze,Ze,Ze,Ze,Ze,Ze,Ze,Ze,Ze,Ze,Ze,Ze,Ze,Ze,Ze,Ze,Ze,Ze,Ze,Ze,Ze,Ze,Ze,Ze,Ze,Ze],defers:=[]}) ?assign ?body ?done
 .exact⟨bv.trans (hA.mono bv.size),o!,(hA.block _ o!).trans fI,.inl ⟨rfl,0,(hA.block _ o!).trans fJ⟩⟩
 case assign=>
  rintro ln u W' K ⟨ad,n,cc,rfl⟩ a;clear kL
  gi_wp2
  exact a
 case body=>
  intro ln f x u A0 A be hT hz U iA;have M:aa3 W3 (V+6) W3 (aaB c l) (f.filter (aav c l)) A:=be.CN rfl hT (λb h1 h2=>by unfold Kp at h2;omega) (λb d=>by unfold Kp at d;omega);obtain⟨ad,cc,rfl,lu,mu⟩:=iA.val;have fu:x∈EH c:=U.subset i!;have co:=iH (WV fu);have m:Qb6 w A:=bU rp M.below;have q:A.heap[R.heap.size]?=some (.cells #[.slice J c.base.length D,.slice I c.Af.length z,.slice H c.hooks.length y,.slice G c.Aa.length t,.slice F c.now.length s,.int .u8 (Ax c.Aa 0),.int .u8 (Ax c.Aa 1),.int .u8 (Ax c.Aa 2)] 112 (0,0)):=(M.below.block R o!).trans iz;have HI:=Zd M;have fH:RC (λb=>b<A.heap.size) A (.slice J c.base.length D) (.slice I c.Af.length z) (.slice H c.hooks.length y) (.slice G c.Aa.length t) (.slice F c.now.length s) c:=(h.later m).imp λb d=>by have:=hS b d;have:=m.size;show b<_;omega
  have ct:SI (λb=>b<A.heap.size) A (.slice ad x.length cc) x:=Sl.imp iA (λb d=>d.1.2) λ_ _ x=>x;have H1:=Zd ((Zcx (n:=0)).2 (ah4 fH Q ct (ZcS (Fb co).1) (S0 Q co) (λb d=>d) (Ax c.Aa 0) (Ax c.Aa 1) (Ax c.Aa 2)));have Y:=Zd kL;have ci:=Zd (show V+6<=A0.heap.size/\f.length<=125 from⟨be.size,by have:=U.length_le;rw[ZA]at this;omega⟩);have Lb:=iA;have g0:=ch (i:=0) q rfl;have g1:=ch (i:=1) q rfl;have g2:=ch (i:=2) q rfl;have g3:=ch (i:=3) q rfl;have g4:=ch (i:=4) q rfl;have g5:=ch (i:=5) q rfl;have g6:=ch (i:=6) q rfl;have g7:=ch (i:=7) q rfl;clear kL be iA hz U hT
  gi_wp2
  refine⟨trivial,rfl,H1.out.mono ?_⟩;rintro e A1 ⟨rfl,oT⟩;clear g0 g1 g2 g3 g4 g5 g6 g7
  gi_wp2
  obtain⟨O,aT⟩:=Qnm (A1.alloc (.cells #[.int .i64 (measure c x 0),.int .i64 (measure c x 1),.int .i64 (measure c x 2)] 150));have f9:Qb6 A1 O:=by rw[aT];exact bA (Zh _ _)
  have Vf:O.heap[A1.heap.size]?=some (.cells #[.int .i64 (measure c x 0),.int .i64 (measure c x 1),.int .i64 (measure c x 2)] 150 (0,0)):=by rw[aT];exact Bp _ _
  have o:Qb6 A O:=oT.trans (f9.mono oT.size);rw[<-aT];clear aT;have N:Qb6 w O:=bU m o;have X:=Zd (λW (L:Qb6 O W)=>(Zcx (n:=0)).2 (ah4 ((h.later (bU N L)).imp (T:=λb=>b<W.heap.size) λb d=>by have:=hS b d;have:=(bU N L).size;show b<_;omega) Q (Sl.imp (T:=λb=>b<W.heap.size) (hl.later (bU N L)) (λb d=>by have:=hS b d;have:=(bU N L).size;show b<_;omega) λ_ _ x=>x) (ZcS (Fb ER).1) (S0 Q ER) (λb d=>d) (Ax c.Aa 0) (Ax c.Aa 1) (Ax c.Aa 2)));have am:=Zd (λW (L:Qb6 O W)=>(Zcx (n:=0)).2 (aev (S:=λb=>b<W.heap.size) (T:=λb=>b<W.heap.size) (w:=W) (Sl.imp (ct.later (o.trans (L.mono o.size))) (λb d=>by have:=o.size;have:=L.size;show b<_;omega) λ_ _ x=>x) (Sl.imp (hl.later (bU N L)) (λb d=>by have:=hS b d;have:=(bU N L).size;show b<_;omega) λ_ _ x=>x) (λb d=>d) (λb d=>d)));have E:=(o.block _ (Za.1 q).1).trans q;have an:=((bU Z (bU bi (M.below.trans (o.mono M.below.size)))).block _ (Za.1 lD).1).trans lD;have z0:=λp=>Al p (ch (i:=0) E rfl);have z1:=λp=>Al p (ch (i:=1) E rfl);have z2:=λp=>Al p (ch (i:=2) E rfl);have z3:=λp=>Al p (ch (i:=3) E rfl);have z4:=λp=>Al p (ch (i:=4) E rfl);have z5:=λp=>Al p (ch (i:=5) E rfl);have z6:=λp=>Al p (ch (i:=6) E rfl);have z7:=λp=>Al p (ch (i:=7) E rfl);have y0:=λp=>Al p (ch (i:=0) Vf rfl);have y1:=λp=>Al p (ch (i:=1) Vf rfl);have y2:=λp=>Al p (ch (i:=2) Vf rfl);have x0:=λp=>Al p (ch (i:=0) an rfl);obtain⟨r,hr⟩:=Qnm (decide (aaB c x=aaB c l));have du:∀W,(ZaZ 10000 150 (.agg #[.int .i64 (measure c x 0),.int .i64 (measure c x 1),.int .i64 (measure c x 2)]) (.agg #[.int .i64 (measure c l 0),.int .i64 (measure c l 1),.int .i64 (measure c l 2)])).run Lp W=.ok r W:=λW=>by rw[hr];exact adl W (aaB c x) (aaB c l)
  have dl:∀W,(eqGuard .eql 150 (.tmp 27) (.tmp 30) (.agg #[.int .i64 (measure c x 0),.int .i64 (measure c x 1),.int .i64 (measure c x 2)]) (.agg #[.int .i64 (measure c l 0),.int .i64 (measure c l 1),.int .i64 (measure c l 2)])).run Lp W=.ok () W:=λW=>by
   have h1:Lp.eqGuardType Lp.depth 150=false:=k!
   simp[eqGuard,zg,h1,zu]
  have HR:=Zd hr;clear hr;refine abI (C:=λW=>∃p,W=calm O p) k! k! k! (AL (Zh _ _).drew) ?_
  repeat
   refine wpQuietIn_step (λ_ _ _ _=>trivial) (λK a=>?_)
   go_simp
   first
    |(refine a _ ?_;clear a K)
    |(refine⟨_,λ_=>⟨rfl,aax (X.out _ (AE _ _))⟩,a _ ?_⟩;clear a K)
    |(refine⟨_,λ_=>⟨rfl,aax (am.out _ (AE _ _))⟩,a _ ?_⟩;clear a K)
  have yw:=λp=>AE O p;cases r with
  |false=>
   repeat
    refine wpQuietIn_step (λ_ _ _ _=>trivial) (λK a=>?_)
    go_simp
    first
     |(refine a _ ?_;clear a K)
     |(refine⟨_,λ_=>⟨rfl,aax (X.out _ (AE _ _))⟩,a _ ?_⟩;clear a K)
     |(refine⟨_,λ_=>⟨rfl,aax (am.out _ (AE _ _))⟩,a _ ?_⟩;clear a K)
   refine wpQuietIn_nil ?_;rintro _ ⟨p,rfl⟩;have Tq:f.filter (aav c l)++ [x].filter (aav c l)=f.filter (aav c l):=by rw[ZbB,abv Q, <-HR.out];simp
   have g:YH A A (calm O p):=o.trans ((AE O p).mono o.size);have mJ:=M.CN rfl (Ak.later (T:=λ_=>False) g) (λ_ _ h=>h) (λ_ h=>h.elim);clear z0 z1 z2 z3 z4 z5 z6 z7 y0 y1 y2 x0 du dl
   gi_wp2
   exact Ak.later g
  |true=>
   obtain⟨r2,Ox⟩:∃r,r=Ke x l:=⟨_,rfl⟩;rw[<-Ox]at am;have fi:=Zd Ox;clear Ox
   repeat
    refine wpQuietIn_step (λ_ _ _ _=>trivial) (λK a=>?_)
    go_simp
    first
     |(refine a _ ?_;clear a K)
     |(refine⟨_,λ_=>⟨rfl,aax (X.out _ (AE _ _))⟩,a _ ?_⟩;clear a K)
     |(refine⟨_,λ_=>⟨rfl,aax (am.out _ (AE _ _))⟩,a _ ?_⟩;clear a K)
   refine wpQuietIn_nil ?_;rintro _ ⟨p,rfl⟩;have g:YH A A (calm O p):=o.trans ((AE O p).mono o.size);have mJ:=M.CN rfl (Ak.later (T:=λ_=>False) g) (λ_ _ h=>h) (λ_ h=>h.elim);clear z0 z1 z2 z3 z4 z5 z6 z7 x0 du dl;cases r2 with
   |true=>
    have Tq:f.filter (aav c l)++ [x].filter (aav c l)=f.filter (aav c l):=by rw[ZbB,abv Q, <-HR.out, <-fi.out];simp
    clear y0 y1 y2
    gi_wp2
    exact Ak.later g
   |false=>
    have Tq:f.filter (aav c l)++ [x].filter (aav c l)=f.filter (aav c l)++ [x]:=by rw[ZbB,abv Q, <-HR.out, <-fi.out];simp
    have fm:=Zd Tq;clear Tq;obtain⟨B,hB⟩:=Qnm (calm O p);have u0:=y0 p;have u1:=y1 p;have u2:=y2 p;rw[<-hB]at mJ g u0 u1 u2⊢;clear y0 y1 y2 hB;have m0:=ch (i:=0) mJ.aci rfl;have Hb:SI (J1 3 A0 B) B (.slice ad x.length cc) x:=Dx (T:=λ_=>False) (Ak.later g) (λ_ _ h=>h) Lb;obtain⟨P,hP⟩:=Qnm (f.filter (aav c l));have iv:P.length<=f.length:=by rw[hP];exact Zac _ _
    have im:=Zd hP;rw[<-hP]at fm mJ;clear hP;have hG:aaB c x=aaB c l:=of_decide_eq_true HR.out.symm;obtain⟨v,vals,st,clk,he,Ci,DF⟩:∃v vals st clk,(ZcK 164 (.map (some W3.heap.size)) (.agg #[.int .i64 (measure c x 0),.int .i64 (measure c x 1),.int .i64 (measure c x 2)])).run Lp (B.alloc (.cells #[.slice ad x.length cc] 22))=.ok (.tuple #[v,.int .i64 ((st:Nat):Int)]) ((B.alloc (.cells #[.slice ad x.length cc] 22)).putObj W3 (.map #[{key:=aaA (aaB c l),val:=v,born:=st}] clk))/\B.ownsRow (V+6) 22 1 v P.length vals/\∀(i:Nat) (x:List Int),P[i]?=some x->∃u,vals[i]?=some u/\SI (J1 3 (V+6) B) B u x:=by
     rw[<-hG];rcases mJ.map with⟨ap,clk,hm⟩|⟨v,vals,st,clk,hm,Ci,DF⟩
     .subst ap
      exact⟨_,_,_,_,acL (aaB c x) (Bf hm _),zq _ _ _ _,λi x hx=>by cases hx⟩
     rw[<-hG]at hm;exact⟨_,_,_,_,acQ (aaB c x) (Bf hm _),Ci,DF⟩
    obtain⟨B2,Z⟩:=Qnm ((B.alloc (.cells #[.slice ad x.length cc] 22)).putObj W3 (.map #[{key:=aaA (aaB c l),val:=v,born:=st}] clk));have io:=Zd Z;rw[<-Z]at he;have Gv:=(Za.1 mJ.aci).1;have D3:Ak (λk=>k=W3.heap.size) B B2:=by rw[Z];exact(Ak.later (T:=λk=>k=W3.heap.size) (bA (Zh _ _))).put rfl
    have U6:B2.heap[W3.heap.size]?=some (.map #[{key:=aaA (aaB c l),val:=v,born:=st}] clk):=by rw[Z];exact Zau (by rw[ZB];omega)
    have gt:=CO D3 (λb h1 h2=>by have:=Y.out;omega) Ci;have fx:∀j u,[Zy ad x.length cc][j]?=some u->B2.cell? ((B:Addr).add j)=some u:=λj u hj=>by
     have e:B2.heap[B.heap.size]?=some (.cells #[.slice ad x.length cc] 22 (0,0)):=by
      rw[Z,zG o!];exact Bp _ _
     match j,hj with
     |0,hj=>cases hj;exact ch e rfl
    have EB:=D3.size;have fd:=mJ.size;clear Z;obtain⟨i0,hi,Fl,DR,ii⟩:=zp Hw;have fw:=Cz zW;have iS:=Zd hG;clear hG;have b8:=Zd (ZY Gv (ZY EB fd));clear EB fd Gv
    gi_wp2_with (gi_at_builtin;refine wpListIn_append_own _ rfl _ _ 27 rfl (V+6) 22 i0 () 1 24 fw (Dz hi) Fl DR ii rfl d! _ _ _ rfl gt B 1 1 [.slice ad x.length cc] rfl rfl fx (by simp[YT]) (by unfold maxLen;have:=ci.out;omega) (by have:=ci.out;omega) (by have:=b8.out;omega) ?_;intro v' w3 Bi AG Gc;obtain⟨g',Ey,rfl⟩:=Zay Bi;have S4:B2.grownBy w3 v.ownBlock:=AG;have eB:w3.heap[W3.heap.size]?=some (.map #[{key:=aaA (aaB c l),val:=v,born:=st}] clk):=(S4.block _ (by have:=b8.out;omega) (λe=>by have:=(Ci.lt _ e.symm).1;have:=Y.out;have:=b8.out;omega)).trans U6;have fy:=ac4 (u:=.slice g' (P.length+1) Ey) eB;simp only[goInt]at fy)
    have kL:=Y.out;obtain⟨q1,q2⟩:=aa3.snoc (st:=st) (clk:=clk) mJ rfl o! Ci DF Hb (by have:=ci.out;omega) (by rw[<-io.out];exact S4) Bi;rw[<-im.out,fm.out];exact⟨q1,(Ak.later g).trans (q2.mono λk hk=>⟨by unfold Kp;omega,λh=>by have:=ju k h;omega⟩)⟩
 intro A M hD;have m:Qb6 w A:=bU rp M.below;have q:A.heap[R.heap.size]?=some (.cells #[.slice J c.base.length D,.slice I c.Af.length z,.slice H c.hooks.length y,.slice G c.Aa.length t,.slice F c.now.length s,.int .u8 (Ax c.Aa 0),.int .u8 (Ax c.Aa 1),.int .u8 (Ax c.Aa 2)] 112 (0,0)):=(M.below.block R o!).trans iz;have an:=((bU Z (bU bi M.below)).block _ (Za.1 lD).1).trans lD;have X:=Zd (λW (L:Qb6 A W)=>(Zcx (n:=0)).2 (ah4 ((h.later (bU m L)).imp (T:=λb=>b<W.heap.size) λb d=>by have:=hS b d;have:=(bU m L).size;show b<_;omega) Q (Sl.imp (T:=λb=>b<W.heap.size) (hl.later (bU m L)) (λb d=>by have:=hS b d;have:=(bU m L).size;show b<_;omega) λ_ _ x=>x) (ZcS (Fb ER).1) (S0 Q ER) (λb d=>d) (Ax c.Aa 0) (Ax c.Aa 1) (Ax c.Aa 2)));obtain⟨v,gn,hL⟩:∃v,(∀p,(Za2 164 (.map (some W3.heap.size)) (.agg #[.int .i64 (measure c l 0),.int .i64 (measure c l 1),.int .i64 (measure c l 2)]) false).run Lp (calm A p)=.ok v (calm A p))/\LR (V+6) A v ((EH c).filter (aav c l)):=by
  rcases M.map with⟨ap,clk,hm⟩|⟨v,vals,st,clk,hm,Ci,DF⟩
  .rw[ap]
   exact⟨_,λp=>adf (aaB c l) (((AE A p).block _ (Za.1 hm).1).trans hm),LR.nil _ _⟩
  exact⟨v,λp=>ad2 (aaB c l) (((AE A p).block _ (Za.1 hm).1).trans hm),vals,Ci,DF⟩
 rw[<-HE.out]at hL;have z0:=λp=>Al p (ch (i:=0) q rfl);have z1:=λp=>Al p (ch (i:=1) q rfl);have z2:=λp=>Al p (ch (i:=2) q rfl);have z3:=λp=>Al p (ch (i:=3) q rfl);have z4:=λp=>Al p (ch (i:=4) q rfl);have z5:=λp=>Al p (ch (i:=5) q rfl);have z6:=λp=>Al p (ch (i:=6) q rfl);have z7:=λp=>Al p (ch (i:=7) q rfl);have x0:=λp=>Al p (ch (i:=0) an rfl);have y0:=λp=>Al p (ch (i:=0) M.aci rfl);have Y:=Zd kL;clear kL
 gi_wp2
 refine abI (C:=λW=>∃p,W=calm A p) k! k! k! (AL (Zh _ _).drew) ?_
 repeat
  refine wpQuietIn_step (λ_ _ _ _=>trivial) (λK a=>?_)
  go_simp
  first
   |(refine a _ ?_;clear a K)
   |(refine⟨_,λ_=>⟨rfl,aax (X.out _ (AE _ _))⟩,a _ ?_⟩;clear a K)
 refine wpQuietIn_nil ?_;rintro _ ⟨p,rfl⟩;have yw:=AE A p;clear z0 z1 z2 z3 z4 z5 z6 z7 x0 y0 gn
 gi_wp2
 have kL:=Y.out;have mg:(calm A p).heap[V.heap.size]?=some (.deferred (some [])):=(yw.block _ (Za.1 hD).1).trans hD;have fK:=hL.later yw;have hT:Ak (λk=>k=V.heap.size) (calm A p) ((calm A p).putObj V (.deferred none)):=(Ak.refl _ _).put rfl;have g:YH w w ((calm A p).putObj V (.deferred none)):=(bU m yw).trans (hT.below (λk hk=>o!) (bU m yw).size);refine⟨i!,.inl ⟨_,_,rfl,run_takeDeferred mg,?_⟩⟩;exact⟨_,results_tmp2 rfl _ _ _,acv g ((acK fK hT (λb h1 h2=>o!)).mono o!)⟩
def c67 (h:RC S w v1 v2 v3 v4 v5 c)(hl:SI S w v6 l)(b:Ql6 S w):Calls Lp 67 #[.agg #[v1,v2,v3,v4,v5],v6] w (abq w (aaD c l) (Ca c l)):=by
 by_cases a:Ca c l=0
 .rw[a];exact Zcx.1 (aeD h hl b a)
 exact aeC h hl b a
def acY (a:Fq c)(h:Ke (Cc c x) (Cc c l)=true):measure c x=measure c l:=by
 have h:=of_decide_eq_true h
 funext i
 by_cases b:i<c.base.length
 .have:=congrArg (·[i]?) h
  simpa[Cc,b]using this
 rw[aaC a _ o!,aaC a _ o!]
def abx (a b:List Int):Ke a b=Ke b a:=by
 unfold Ke;rw[decide_eq_decide];exact⟨Eq.symm,Eq.symm⟩
def acZ (c:A_)(x l:List Int):aav c x l=aav c l x:=by
 unfold aav;rw[abx (Cc c l),abx l]
def adr (h:SI T w u x)(e:∀b,T b->b<w.heap.size):SL (λb=>b<(w.alloc (.cells #[u] 22)).heap.size) (w.alloc (.cells #[u] 22)) (.slice w 1 1) [x]:=by
 refine⟨_,_,rfl,Zj _,d!,λi y c=>?_⟩
 match i,c with
 |0,c=>
  cases c;exact⟨w,0,[u],rfl,i!,rfl,(λj z a=>by match j,a with|0,a=>cases a;exact ch (Bp _ _) rfl),u,rfl,Sl.imp (h.later (bA (Zh _ _))) (λb d=>by have:=e b d;simp;omega) λ_ _ x=>x⟩
def adJ (hn:SI Sn w lv nums)(E8:∀x,Sn x->x<w.heap.size)(hG:Jr w):Calls Lp 15 #[lv] w (Two w (.bool true)):=by
 obtain⟨la,lc,rfl,_⟩:=hn.val;have IX:maxLen=9223372036854775807:=rfl;have rr:=Zd (fun(W:Zb) (b d:Nat) (h1:SI Sn W (.slice la nums.length lc) nums) (h2:∀x,Sn x->x<W.heap.size/\x≠b) (h3:BK W b (.slice la nums.length lc) d) (h4:d+1000<4611686018427387904)=>show Calls Lp 44 #[.pointer b,.int .i64 3] W (qL W b (.slice la nums.length lc) d 3) from c44 (s:=3) h1 h2 h3 h4 d!);go_enter Lp.func15,n15;go_wp2_with (first|(go_at_call 27;refine(c27 _ ⟨_,_,_,rfl⟩ _).mono ?_;rintro e W1 ⟨rfl,hw⟩;(have Bg:Qb6 w W1:=by rw[hw];exact bA (Zh _ _));(have Ue:BK W1 w (.slice la nums.length lc) 0:=⟨1,by rw[hw];exact Bp _ _⟩);clear hw;obtain⟨b,hb⟩:=Qnm w.heap.size;rw[<-hb]at Ue⊢;have HB:=Zd hb;clear hb)|(go_at_call 44;refine(rr.out _ _ _ (hn.later Bg) (λx a=>⟨by have:=E8 x a;have:=Bg.size;omega,by have:=E8 x a;have:=HB.out;omega⟩) Ue o!).mono ?_;rintro e W2 ⟨c,u1,u2,u3,u4,u5,d2,rfl,M7,mz,yv,hM,tb⟩;obtain⟨L,E,J,D,I,C,H,B,F,z,rfl,rfl,rfl,rfl,rfl,_⟩:=yv.vs));have GK:b<=w.heap.size/\w<=b:=by have:=HB.out;omega
 have DR:=Bg.size;have FD:b<W1:=Ue.lt;have EB:=M7.Cn.size;have Bb:=B3.aj4 Bg M7.Cn o!;have Xo:=(hn.later Bg).Cn M7.Cn (λx a=>⟨by have:=E8 x a;omega,by have:=E8 x a;omega⟩);obtain⟨X,hX⟩:=Qnm (W2.alloc (.cells (Qe6 c L E J D I C H B F z) 26));have Ov:Qb6 W2 X:=by rw[hX];exact bA (Zh _ _)
 have hK:X.heap[W2.heap.size]?=some (.cells (Qe6 c L E J D I C H B F z) 26 (0,0)):=by rw[hX];exact Bp _ _
 obtain⟨q,hq⟩:=Qnm W2.heap.size;rw[<-hq]at hK;rw[<-hX, <-hq];have xS:q<X:=(Za.1 hK).1;have M9:W2<=q/\q<=W2.heap.size:=o!
 clear hX hq;have Jm:=hM.few;have hS:∀x,Cb W1 W2 x->x<X.heap.size/\x≠b:=λx a=>⟨by have:=a.2;have:=Ov.size;omega,by have:=a.1;omega⟩;have ci:=Xo.later Ov;have R:∀x,Sn x->x<X.heap.size/\x≠b:=λx a=>⟨by have:=E8 x a;have:=Ov.size;omega,by have:=E8 x a;omega⟩;have b8:=yv.later Ov;have qN:=M7.E4.later Ov;have O:=Zd hM;have se:=Ov.size;have mt:=Zd (λW d (Q:LW b (.slice la nums.length lc) X d W) (hd:d+c.Aa.length<4611686018427387904)=>c30 (b8.Ar (Q.Cn.same λx a=>(hS x a).2)) (λx a=>⟨Zl (hS x a).1 Q.Cn.size,(hS x a).2⟩) (ci.Cn Q.Cn R) (Li Q.Cn R) Q.E4 hd o! λi hi=>by have:=(O.out.valid.step i hi);omega);have mp:=Zd (λW d (Q:LW b (.slice la nums.length lc) X d W) (hd:d+1000<4611686018427387904)=>c38 (b8.Ar (Q.Cn.same λx a=>(hS x a).2)) (λx a=>⟨Zl (hS x a).1 Q.Cn.size,(hS x a).2⟩) (ci.Cn Q.Cn R) (Li Q.Cn R) Q.E4 hd O.out);obtain⟨K,Ig⟩:∃K:Nat->Prop,K=λk=>k=b:=⟨_,rfl⟩;have Tg:¬K q:=by rw[Ig];show¬q=b;omega
 have fh:K b:=by rw[Ig]
 have y0:=λp:Tw K X=>p.cell (ch (i:=0) hK rfl) Tg;have y1:=λp:Tw K X=>p.cell (ch (i:=1) hK rfl) Tg;have y2:=λp:Tw K X=>p.cell (ch (i:=2) hK rfl) Tg;have y3:=λp:Tw K X=>p.cell (ch (i:=3) hK rfl) Tg;have y4:=λp:Tw K X=>p.cell (ch (i:=4) hK rfl) Tg;clear Ig;refine aaF (S:=λW=>∃p:Tw K X,W=p.v) 8 [] (.one 2 (.one 5 (.one 6 (.one 7 .leaf)))) [0,1,3,4] k! (λ_ _ d _ _ h=>by cases d<;>exact h) k! (A5 (Ak.later (Zh _ _).drew)) ?_;refine A4 _ _ k! ?_;simp only[Z6,zd,ZG,ZD,ZC]
 repeat (first|go_big_quiet_step (fail)|quiet_step (fail))
 refine Z4 ?_;clear y0 y1 y2 y3 y4;change aaz _ _ _ _ _ _ _ _;refine abn (f:=30) (args:= #[.pointer b,.agg #[.slice L c.base.length E,.slice J c.Af.length D,.slice I c.hooks.length C,.slice H c.Aa.length B,.slice F c.now.length z]]) rfl rfl g! ((mt.out _ _ (LW.drew (LW.refl qN)) o!).mono ?_);rintro e lE ⟨v9,own,pt,rfl,iV,lm,mx,hO,gn,fx⟩;have P:LW b (.slice la nums.length lc) X pt lE:=LW.step (LW.drew (LW.refl qN)) iV lm;obtain⟨oa,oc,rfl,_⟩:=hO.val;have N:=Zd (show Tc c own from⟨gn,λi hi=>⟨(fx i o!).1,(fx i o!).2 (by have:=O.out.valid.step i o!;omega)⟩⟩);clear gn fx;have WQ:∃p:Tw K X,lE=p.v:=A5 (P.Cn.CN fh);refine .inl ⟨_,rfl,.inr WQ,?_⟩;refine abn (f:=38) (args:= #[.pointer b,.agg #[.slice L c.base.length E,.slice J c.Af.length D,.slice I c.hooks.length C,.slice H c.Aa.length B,.slice F c.now.length z]]) rfl rfl g! ((mp.out _ _ P o!).mono ?_);rintro e W3 ⟨sa,sc,s,d3,rfl,b9,my,Uh,ER⟩;have H4:B3 b X W3:=P.Cn.trans b9.Cn;have re:=Zd ER;clear ER;have bv:∃p:Tw K X,W3=p.v:=A5 (H4.CN fh);refine .inl ⟨_,rfl,.inr bv,?_⟩;refine abN (v:=.slice oa own.length oc) (w':=W3) rfl rfl g! (.inr bv) ?_;refine abN (v:=.slice sa s.length sc) (w':=W3) rfl rfl g! (.inr bv) ?_;unfold aaz
 go_simp
 have Rb:=H4.size;have rE:=P.Cn.size;have F1:=H4.at_ hK o!;have O9:=b8.Ar (H4.same λx a=>(hS x a).2);have Bv:=B3.aj4 (Bb.trans (Ov.mono Bb.size)) H4 o!;have gt:SI (λx=>x<W3.heap.size) W3 (.slice oa own.length oc) own:=Sl.imp (hO.Cn b9.Cn λx a=>by have:=a.1;have:=a.2;have h3:X.drew=X.heap.size:=rfl;exact⟨o!,o!⟩) (λx a=>by have h2:=a.2;have:=b9.Cn.size;show x<W3;omega) λ_ _ x=>x;have mI:=Zd (show∀W,Qb6 W3 W->RC (λx=>x<W.heap.size) W (.slice L c.base.length E) (.slice J c.Af.length D) (.slice I c.hooks.length C) (.slice H c.Aa.length B) (.slice F c.now.length z) c from λW j=>(O9.later j).imp λx a=>by have:=a.2;have:=j.size;show x<W;omega);have pu:=Zd (show∀W,Qb6 W3 W->SP (λx=>x<W.heap.size) W (.slice sa s.length sc) s from λW j=>Sl.imp (Uh.later j) (λx a=>by have:=a.2;have:=j.size;show x<W;omega) λ_ _ x=>x);have Y:=Zd (show∀W,Qb6 W3 W->SI (λx=>x<W.heap.size) W (.slice oa own.length oc) own from λW j=>Sl.imp (gt.later j) (λx a=>by have a:x<W3:=a;have:=j.size;show x<W;omega) λ_ _ x=>x);have HK:=Zd (show∀W,Qb6 W3 W->W.heap[q]?=some (.cells (Qe6 c L E J D I C H B F z) 26 (0,0)) from λW j=>(j.block _ (Za.1 F1).1).trans F1);have mB:=hG.later Bv;have f9:=Zd (λW (j:Qb6 W3 W)=>c71 (mI.out W j) (λx a=>a) (by have:=O.out.few;omega) (λi hi=>by have:=(O.out.seam i hi).step;omega));have i6:=O.out.asked N.out;have gj:=Zd (λW (j:Qb6 W3 W) x (a:Ca c x=0) (v:Zf) (hv:SI (λy=>y<W.heap.size) W v x)=>show Calls Lp 67 #[.agg #[.slice L c.base.length E,.slice J c.Af.length D,.slice I c.hooks.length C,.slice H c.Aa.length B,.slice F c.now.length z],v] W (abq W ((EH c).filter (aav c x)) 0) from by
  have:=c67 (mI.out W j) hv λy hy=>hy;rw[a]at this;rwa[show aaD c x=(EH c).filter (aav c x) by unfold aaD;rw[if_pos a]]at this)
 have ml:=Zd (λW (j:Qb6 W3 W) x (a:Ca c x=0) (v:Zf) (hv:SI (λy=>y<W.heap.size) W v x)=>show Calls Lp 62 #[.agg #[.slice L c.base.length E,.slice J c.Af.length D,.slice I c.hooks.length C,.slice H c.Aa.length B,.slice F c.now.length z],v,.slice sa s.length sc] W λe w'=>e=.returned (.tuple #[.bool (BZ c x s),.int .i64 0])/\Qb6 W w' from by
  have:=c62 (mI.out W j) hv (pu.out W j) λy hy=>hy;have yJ:Oa c x s=0:=by unfold Oa;rw[BR a];exact re.out
  have mw:Mf c x s=BZ c x s:=by unfold Mf;rw[if_pos yJ]
  rwa[yJ,mw]at this)
 have s9:(EH c).length<=125:=by
  have h0:=H7 c.Aa (λi hi=>by have:=(O.out.seam i hi).step;omega);have h2:5^c.Aa.length<=5^3:=YX d! o!;exact Zr h0 h2
 have lL:=Zd (λl (h:l∈EH c)=>WV h);have lJ:=Zd (show own∈EH c from ac3 _ _ N.out.1 N.out.2);have mh:=Zd i6;obtain⟨A,hA⟩:=Qnm (EH c);obtain⟨G,dl⟩:=Qnm (A.filter (aav c own));rw[<-hA]at f9 s9 lL gj lJ;have fK:=Zd dl;have fw:=Zd (gj.out W3 (Zh _ _) own mh.out _ (Y.out W3 (Zh _ _)));rw[<-dl]at fw;clear hA dl my H4 qN hK Xo yv M7 Ue mz hM Uh O9 hO gt lm P b9 WQ bv mx iV i6 mt mp b8 ci R;obtain⟨k0,k1,k2,k3,k4⟩:=Qc5 F1;go_wp2;refine fw.out.mono ?_;rintro e W4 ⟨_,rfl,De,ct⟩;obtain⟨ga,gc,rfl,_⟩:=ct.val;have Qn:=HK.out W4 De;have li:=Zd (ml.out W4 De own mh.out _ (Y.out W4 De));clear k0 k1 k2 k3 k4;obtain⟨k0,k1,k2,k3,k4⟩:=Qc5 Qn;go_wp2;refine li.out.mono ?_;rintro e W5 ⟨rfl,Cj⟩;have fI:=bU De Cj;have fG:=HK.out W5 fI;clear k0 k1 k2 k3 k4;obtain⟨k0,k1,k2,k3,k4⟩:=Qc5 fG;obtain⟨is,co⟩:∃x,x=BZ c own s:=⟨_,rfl⟩;have rh:=Zd co;rw[<-co];clear co;go_wp2;refine(f9.out _ fI).mono ?_;rintro e W6 ⟨aa,ac,rfl,DM,io⟩;have fH:=bU fI DM;have sr:=De.size;have p9:=Cj.size;have sq:=DM.size;have HA:=Zd (show∀W,Qb6 W6 W->SL (λx=>x<W.heap.size) W (.slice aa A.length ac) A from λW j=>SL.imp (SL.later io j) λx a=>by have:=a.2;have:=j.size;show x<W;omega);have HC:=Zd (show∀W,Qb6 W6 W->SL (λx=>x<W.heap.size) W (.slice ga G.length gc) G from λW j=>SL.imp (SL.later ct.sl (bU (bU Cj DM) j)) λx a=>by have:=a.2;have:=j.size;show x<W;omega);have s8:G.length<=A.length:=by rw[fK.out];exact Zac _ _
 have no:=mB.later fH;have n7:=bU Bv fH;clear io ct k0 k1 k2 k3 k4 F1 Qn fG f9 fw li;go_wp2;go_loopg [12,13] A.length (λgg ai i wr=>∃k:Nat,k<=A.length/\gg=A.length - k/\i=.int .i64 k/\ai=.int .i64 (((A.take k).filter (aav c own)).length:Nat)/\Qb6 W6 wr)
 case atStart=>exact⟨0,Zp _,rfl,rfl,rfl,Zh _ _⟩
 obtain⟨k,hk,rfl,rfl,rfl,m⟩:=hrel;have o:=bU fH m;have ne:=HK.out _ o;have rD:=m.size;by_cases Az:k<A.length
 .have am:=Zd (P4 (p:=aav c own) Az)
  have fJ:=Zd (λh=>Vv (p:=aav c own) Az h);have HL:=Zd (lL.out _ (Z3 (BJ Az)));obtain⟨n1,Vl⟩:∃n,n=((A.take k).filter (aav c own)).length:=⟨_,rfl⟩;have td:n1<=125:=by rw[Vl];have:=Zac (aav c own) (A.take k);have:=ZbW k A;omega
  rw[<-Vl, <-fK.out]at fJ;rw[<-Vl]at am⊢;clear Vl;obtain⟨b6,o6,u,ee,Xj,lH,hu⟩:=(HA.out _ m).at_ Az;subst ee;obtain⟨l,hl⟩:=Qnm (BM A k);rw[<-hl]at hu am fJ HL;clear hl;obtain⟨ua,uc,rfl,_⟩:=hu.val;obtain⟨V,hV⟩:=Qnm wr;subst hV;have U:=Zd (show∀W,Qb6 V W->SI (λx=>x<W.heap.size) W (.slice ua l.length uc) l from λW j=>Sl.imp (hu.later j) (λx (a:x<V)=>by have:=j.size;show x<W;omega) λ_ _ x=>x);have f8:=Zd (show∀W,Qb6 V W->W.cell? ⟨b6,o6+k,none⟩=some (.slice ua l.length uc) from λW j=>(j.cell (p:=⟨b6,o6+k,none⟩) (ZH _ _ lH)).trans lH);have TB:(k:Int)<(A.length:Int):=o!
  have ma:=Zd (O.out.asked HL.out);have cL:=Zd (λW (j:Qb6 V W)=>c46 (w:=W) (U.out W j) (Y.out W (bU o j)) (λx a=>a) λx a=>a);have ri:=Zd (λW (j:Qb6 V W)=>c47 (mI.out _ (bU o j)) O.out.valid (U.out _ j) (by have:=HL.out.1;omega) (λi hi=>by have:=HL.out.2 i hi;have:=(O.out.seam i (by have:=HL.out.1;omega)).step;omega) λx a=>a);have pm:=Zd (λW (j:Qb6 V W)=>c47 (mI.out _ (bU o j)) O.out.valid (Y.out _ (bU o j)) (by have:=N.out.1;omega) (λi hi=>by have:=N.out.2 i hi;have:=(O.out.seam i (by have:=N.out.1;omega)).step;omega) λx a=>a);obtain⟨z0,z1,z2,z3,z4⟩:=Qz5 ne;have z5:=λp=>Al p lH;clear hu lH;go_wp2;refine aaF (S:=λW=>∃p,W=calm V p) 19 [] (.one 5 (.free 6 (.free 7 (.free 8 (.free 9 (.free 10 (.free 11 (.free 13 (.free 14 (.one 12 (.one 15 (.one 16 (.free 17 (.free 18 .leaf)))))))))))))) [0,1,2,3,4] k! (λ_ _ d _ _ h=>by cases d<;>exact h) k! (AL (Zh _ _).drew) ?_;refine A4 _ _ k! ?_;simp only[Z6,zd,ZG,ZD,ZC]
  repeat (first|go_big_quiet_step (fail)|quiet_step (fail))
  refine Z4 ?_;change aaz _ _ _ _ _ _ _ _;have Uh:YH V V V.drew:=(Zh _ _).drew;refine abn (f:=46) (args:= #[.slice ua l.length uc,.slice oa own.length oc]) rfl rfl g! ((cL.out _ Uh).mono ?_);rintro e V1 ⟨rfl,pi⟩;have g:=bU Uh pi;obtain⟨r,hr⟩:=Qnm (Ke l own);have lF:=Zd hr;rw[<-hr];clear hr;refine .inl ⟨_,rfl,.inr (AL g),?_⟩;refine aaH (v:=.bool r) (AL g) rfl rfl (by rintro _ ⟨p,rfl⟩;go_simp) ?_
  go_simp
  cases r with
  |true=>
   have an:=Zd (show aav c own l=false by unfold aav;rw[<-lF.out];simp);refine aaG (AL g) rfl (by unfold Yf yielded;go_simp) ?_
   go_simp
   refine aaG (AL g) rfl (by unfold Yf yielded;go_simp) ?_
   go_simp
   refine aaG (AL g) rfl (by unfold Yf yielded;go_simp) ?_
   go_simp
   refine aaG (AL g) rfl (by unfold Yf yielded;go_simp) ?_
   go_simp
   refine aaG (AL g) rfl (by unfold Yf yielded;go_simp) ?_
   go_simp
   refine aaG (AL g) rfl (by unfold Yf yielded;go_simp) ?_
   go_simp
   refine aaG (AL g) rfl (by unfold Yf yielded;go_simp) ?_
   go_simp
   refine aaZ rfl (by unfold Yf yielded;go_simp) (.inr (AL g)) ?_
   go_simp
   refine aaZ rfl (by unfold Yf yielded;go_simp) (.inr (AL g)) ?_
   go_simp
   refine aaZ rfl (by unfold Yf yielded;go_simp) (.inr (AL g)) ?_
   go_simp
   refine aaG (AL g) rfl (by unfold Yf yielded;go_simp) ?_
   go_simp
   refine aaH (v:=.bool true) (AL g) rfl rfl (by rintro _ ⟨p,rfl⟩;go_simp) ?_;unfold aaz
   go_simp
   have rC:=Zd (show((A.take (k+1)).filter (aav c own)).length=n1 by rw[am.out,if_neg (by rw[an.out];decide)];rfl);clear z0 z1 z2 z3 z4 z5;go_wp2;go_roundg (A.length - (k+1))
   case rel=>exact⟨k+1,Az,rfl,v!,by rw[rC.out],bU m g⟩
   case measure=>omega
  |false=>
   refine abj (v:=.agg #[.slice L c.base.length E,.slice J c.Af.length D,.slice I c.hooks.length C,.slice H c.Aa.length B,.slice F c.now.length z]) (AL g) rfl (by unfold Yf yielded;go_simp) (by rintro _ ⟨p,rfl⟩;go_simp) ?_
   go_simp
   refine abj (v:=.slice (some ⟨b6,o6,none⟩) A.length ac) (AL g) rfl (by unfold Yf yielded;go_simp) (by rintro _ ⟨p,rfl⟩;go_simp) ?_
   go_simp
   refine abj (v:=.int .i64 k) (AL g) rfl (by unfold Yf yielded;go_simp) (by rintro _ ⟨p,rfl⟩;go_simp) ?_
   go_simp
   refine abj (v:=.pointer (some ⟨b6,o6+k,none⟩)) (AL g) rfl (by unfold Yf yielded;go_simp) (by rintro _ ⟨p,rfl⟩;go_simp) ?_
   go_simp
   refine abj (v:=.slice ua l.length uc) (AL g) rfl (by unfold Yf yielded;go_simp) (by rintro _ ⟨p,rfl⟩;go_simp) ?_
   go_simp
   refine abj (v:=.agg #[.slice L c.base.length E,.slice J c.Af.length D,.slice I c.hooks.length C,.slice H c.Aa.length B,.slice F c.now.length z]) (AL g) rfl (by unfold Yf yielded;go_simp) (by rintro _ ⟨p,rfl⟩;go_simp) ?_
   go_simp
   refine abj (v:=.slice oa own.length oc) (AL g) rfl (by unfold Yf yielded;go_simp) (by rintro _ ⟨p,rfl⟩;go_simp) ?_
   go_simp
   refine abb (f:=47) (args:= #[.agg (Qe6 c L E J D I C H B F z),.slice ua l.length uc]) rfl (by unfold Yf yielded;go_simp) g! ((ri.out _ g).mono ?_);rintro e V2 ⟨g1,rfl,pd,kG⟩;have gF:=bU g pd;refine .inl ⟨_,rfl,.inr (AL gF),?_⟩
   go_simp
   refine abb (f:=47) (args:= #[.agg (Qe6 c L E J D I C H B F z),.slice oa own.length oc]) rfl (by unfold Yf yielded;go_simp) g! ((pm.out _ gF).mono ?_);rintro e V3 ⟨g2,rfl,fu,T3⟩;have iS:=bU gF fu;refine .inl ⟨_,rfl,.inr (AL iS),?_⟩
   go_simp
   refine abb (f:=46) (args:= #[g1,g2]) rfl (by unfold Yf yielded;go_simp) g! ((c46 (kG.later fu) T3 (λb hb=>Zl hb.2 fu.size) (λb hb=>hb.2)).mono ?_);rintro e V4 ⟨rfl,o9⟩;have Wq:=bU iS o9;obtain⟨r2,Ox⟩:∃r,r=Ke (Cc c l) (Cc c own):=⟨_,rfl⟩;have rg:=Zd Ox;have an:=Zd (show aav c own l=r2 by unfold aav;rw[<-lF.out, <-Ox];simp);rw[<-Ox];clear Ox kG T3;refine .inl ⟨_,rfl,.inr (AL Wq),?_⟩
   go_simp
   refine abj (v:=.bool (!r2)) (AL Wq) rfl (by unfold Yf yielded;go_simp) (by rintro _ ⟨p,rfl⟩;go_simp) ?_
   go_simp
   refine aaH (v:=.bool (!r2)) (AL Wq) rfl rfl (by rintro _ ⟨p,rfl⟩;go_simp) ?_;unfold aaz
   go_simp
   clear z0 z1 z2 z3 z4 z5;cases r2 with
   |false=>
    have rC:=Zd (show((A.take (k+1)).filter (aav c own)).length=n1 by rw[am.out,if_neg (by rw[an.out];decide)];rfl);go_wp2;go_roundg (A.length - (k+1))
    case rel=>exact⟨k+1,Az,rfl,v!,by rw[rC.out],bU m Wq⟩
    case measure=>omega
   |true=>
    have ck:aav c own l=true:=an.out;have L6:=fJ.out ck;have rC:=Zd (show((A.take (k+1)).filter (aav c own)).length=n1+1 by rw[am.out,if_pos ck]);obtain⟨ii,ol⟩:=Zm.1 L6;have MF:BM G n1=l:=by have:=BJ ii;rw[L6]at this;exact(ZW this).symm
    have o8:=bU m Wq;obtain⟨b7,o7,u2,ee,U3,lI,Hb⟩:=(HC.out _ o8).at_ ii;subst ee;rw[MF]at Hb;obtain⟨rB,rx,rfl,_⟩:=Hb.val;have fy:=Zd (λW (j:Qb6 V4 W)=>c46 (w:=W) (Sl.imp (Hb.later j) (T:=λx=>x<W.heap.size) (λx (a:x<V4)=>by have:=j.size;show x<W;omega) λ_ _ x=>x) (U.out W (bU Wq j)) (λx a=>a) λx a=>a);rw[Vu]at fy;have wB:(n1:Int)<(G.length:Int):=o!
    have tn:¬(G.length:Int)<=(n1:Int):=o!
    have ky:=f8.out _ Wq;have z0:=λp=>Al p lI;have z1:=λp=>Al p ky;clear L6 ol MF Hb ck;go_wp2;refine Av k! k! ?_
    repeat (first|go_big_quiet_step ((go_at_call 46;exact AV (fy.out _ (AE _ _))))|quiet_step ((go_at_call 46;exact AV (fy.out _ (AE _ _)))))
    refine Z4 ?_;rintro _ ⟨p,rfl⟩;have kw:=AE V4 p;obtain⟨V5,kv⟩:=Qnm (calm V4 p);rw[<-kv]at kw⊢;clear kv z0 z1 lI ky;have bi:=bU Wq kw;have Jy:=bU o bi;have fG:=HK.out _ Jy;have im:BZ c l s=is:=by rw[rh.out];unfold BZ;rw[acY O.out.valid rg.out.symm]
    have fm:=Zd (λW (j:Qb6 V5 W)=>ml.out W (bU Jy j) l ma.out _ (U.out W (bU bi j)));rw[im]at fm;clear im;obtain⟨z0,z1,z2,z3,z4⟩:=Qz5 fG;have z5:=λp=>Al p (f8.out _ bi);go_wp2;refine Av k! k! ?_
    repeat (first|go_big_quiet_step ((go_at_call 62;exact AV (fm.out _ (AE _ _))))|quiet_step ((go_at_call 62;exact AV (fm.out _ (AE _ _)))))
    refine Z4 ?_;rintro _ ⟨p,rfl⟩;have ka:=AE V5 p;obtain⟨V6,jt⟩:=Qnm (calm V5 p);rw[<-jt]at ka⊢;clear jt z0 z1 z2 z3 z4 z5;have be:=bU bi ka;have ip:=bU o be;have JB:=HK.out _ ip;have jp:=Zd (λW (j:Qb6 V6 W)=>gj.out W (bU ip j) l ma.out _ (U.out W (bU be j)));have lK:=Zd (show∀y∈ [own],y∈A.filter (aav c l) from λy hy=>by
     rw[Yh.1 hy];refine List.mem_filter.2 ⟨lJ.out,?_⟩;rw[acZ];exact an.out)
    obtain⟨M,iW⟩:=Qnm (A.filter (aav c l));rw[<-iW]at jp lK;clear iW;obtain⟨z0,z1,z2,z3,z4⟩:=Qz5 JB;have z5:=λp=>Al p (f8.out _ be);go_wp2;refine aaF (S:=λW=>∃p,W=calm V6 p) 11 [] (.one 5 (.free 6 (.free 7 (.free 8 (.one 9 (.one 10 .leaf)))))) [0,1,2,3,4] k! (λ_ _ d _ _ h=>by cases d<;>exact h) k! (AL (Zh _ _).drew) ?_;refine A4 _ _ k! ?_;simp only[Z6,zd,ZG,ZD,ZC]
    repeat (first|go_big_quiet_step (fail)|quiet_step (fail))
    refine Z4 ?_;clear z0 z1 z2 z3 z4 z5;change aaz _ _ _ _ _ _ _ _;have fi:YH V6 V6 V6.drew:=(Zh _ _).drew;refine abn (f:=67) (args:= #[.agg (Qe6 c L E J D I C H B F z),.slice ua l.length uc]) rfl rfl g! ((jp.out _ fi).mono ?_);rintro e V7 ⟨vb,rfl,ow,fd⟩;obtain⟨ba,bc,rfl,_⟩:=fd.val;have jn:=bU fi ow;have t:∃p,V7=calm V6 p:=AL jn;refine .inl ⟨_,rfl,.inr t,?_⟩;refine aaH (v:=.tuple #[.slice ba M.length bc,.int .i64 0]) t rfl rfl (λw _=>g!) ?_;refine aaH (v:=.slice ba M.length bc) t rfl rfl (λw _=>g!) ?_;refine aaH (v:=.int .i64 0) t rfl rfl (λw _=>g!) ?_;refine abN (v:=.slice ba M.length bc) (w':=V7) rfl rfl g! (.inr t) ?_;refine abN (v:=.int .i64 0) (w':=V7) rfl rfl g! (.inr t) ?_;unfold aaz
    go_simp
    have iv:=bU be jn;obtain⟨V8,ap⟩:=Qnm (V7.alloc (.cells #[.slice oa own.length oc] 22));have i9:Qb6 V7 V8:=by rw[ap];exact bA (Zh _ _)
    have h1:SL (λx=>x<V8.heap.size) V8 (.slice V7 1 1) [own]:=by rw[ap];exact adr (Y.out _ (bU o iv)) λx a=>a
    have h2:SL (λx=>x<V8.heap.size) V8 (.slice ba M.length bc) M:=SL.imp (fd.later i9).sl λx a=>a.2;have mj:=Zd (c66 h1 h2 (λx a=>a) (λx a=>a) lK.out);have i8:=bU m (bU iv i9);clear h1 h2 t fd fi;cases is with
    |true=>
     go_wp2;rw[<-ap];refine mj.out.mono ?_;rintro e pp ⟨rfl,du⟩;go_wp2;go_roundg (A.length - (k+1))
     case rel=>exact⟨k+1,Az,rfl,v!,by rw[rC.out];go_num,bU i8 du⟩
     case measure=>omega
    |false=>
     go_wp2;rw[<-ap];refine mj.out.mono ?_;rintro e pp ⟨rfl,du⟩;go_wp2;go_roundg (A.length - (k+1))
     case rel=>exact⟨k+1,Az,rfl,v!,by rw[rC.out];go_num,bU i8 du⟩
     omega
 have mv:k=A.length:=o!
 subst mv;have L6:((A.take A.length).filter (aav c own)).length=G.length:=by rw[ZcU, <-fK.out]
 rw[L6];have nm:=no.later m;have i7:=bU n7 m;go_wp2_with (go_at_call 26;refine(c26 _ nm).mono ?_;rintro e Z ⟨i5,rfl|⟨x,rfl,Ss⟩⟩)
 .go_ret
  exact⟨bU i7 i5,.inl rfl⟩
 exact⟨rfl,bU i7 i5,.inr ⟨_,rfl,Ss⟩⟩
end Go.Proofs.Fit
namespace Go.Proofs.YtkkjobdfheidkaaGreatDoor
open Go Go.Conc Go.RowKit Go.Proofs.Fit
set_option maxRecDepth 100000
def ad0:(Rows.seamSameRow.inPlace==Tryz.prog.inPlace 15)=true:=k!
def ac2:(Rows.seamSameRow.unfollowed==Tryz.prog.unfollowed 15)=true:=k!
def acj:(Rows.seamSameRow.recurses==Tryz.prog.recurses 15)=true:=k!
def adh:(Rows.seamSameRow.named==Tryz.prog.varsNamed 15)=true:=k!
def adi:joinedFacts Zc 15 Tryz.f15 Rows.seamSameSpec Rows.seamSameRow=true:=
 kQ k! k! k! k! k! ad0 ac2 acj adh k! k! k! k! k! k! k! k! k! rfl rfl rfl rfl rfl rfl k! k! k!
def ad8 (os:Os)(a:os.Started)(H:Type)(enc:Zs×Zf->H):ReturnsInLeavingWide {} Tryz.checked os 15 .any (λw args=>(Rows.seamSameSpec.pre enc Zc Tryz.f15 [] false w args/\laidMetH Zc PT w)/\sizedMet enc Zc Tryz.f15 (ZbV Rows.seamSameSpec) false w args)
   (Rows.seamSameSpec.post enc Zc Tryz.f15 false true false false):=
 eO (s:=Rows.seamSameSpec) a rfl rfl Tryz.func15 rfl rfl k! k! rfl k! (λe h=>by
    match e,h with
    | [_],_=>rfl)
   (ChangeSpec.witness_shaped (enc:=enc) (C:=Tryz.checked) (os:=os) (X:=λw _=>laidMetH Zc PT w) false (Vg os) #[()] 8 rfl (World.shaped_of_RefB k! k!) k! k! k! (Ub os _))
   (λW base args e j b i _ c=>qc rfl b i c λw v d g c=>adJ g (λx f=>f) c)
def ae3:Rows.SeamSameSaid:=
 OpenClaim.holds_of_wide_leaving 15 Tryz.f15 rfl rfl rfl rfl rfl rfl rfl ⟨rfl,rfl,rfl,rfl,rfl⟩ rfl rfl rfl rfl rfl k! Tryz.func15 adi
  (of_decide_eq_true k!) (by unfold Func.isWrapper;rw[if_neg (by decide+kernel)];exact⟨rfl,rfl⟩) (λc a H b _=>ad8 c a H b)
def adA:true=Rows.seamSameRow.goesBy Tryz.pinned.checked.prog:=k!
theorem same_holds:Rows.SeamSameCardSaid:=
 kM [.handle] (true,"d58ada5a772cea19d6c1f322b38be8e13f90afce78f95e9e644b853f050ce369") ae3 k! (OpenClaim.laidByTextAt_later rfl rfl qd abD) rfl ⟨rfl,rfl⟩ uI
  (λf fn c d=>by
   obtain rfl:f=15:=ZW ((show Tryz.prog.funcNamed "galloon/galloonlaw02.SeamSame" =some 15 by kernel_rfl).symm.trans c)|>.symm;obtain rfl:fn=Tryz.f15:=(ZW (Tryz.func15.symm.trans d)).symm;exact⟨abE,λj t a=>by
    have b:t∈ [22]:=by simpa using zY a
    have e:([22].all λu=> !Tryz.prog.wantsStandIn u)=true:=k!
    exact(show Tryz.prog.wantsStandIn t=false by simpa using Zdm.1 e t b)⟩)
  adA
#print axioms same_holds
end Go.Proofs.YtkkjobdfheidkaaGreatDoor
