/- SeamFewest: for every list of numbers, on every schedule and without a data race, the law returns true, and the list reads afterwards as before. Conditions: those of the given row alone. -/
import Derived.Test.YtkkjobdfheidkaaGreatDoorQ11
import Derived.Test.YtkkjobdfheidkaaGreatDoorQ08
import Derived.Lib.MinMax
set_option maxRecDepth 100000
set_option maxHeartbeats 6400000
noncomputable section
set_option linter.all false
open And renaming intro->ZY
open Array renaming getElem?_eq_some_iff->Za,replicate_succ->ZaN,replicate_zero->ZaM,mem_of_getElem?->zY
open Bool renaming eq_iff_iff->ZcG,or_eq_true->ZaK,and_eq_true->ZF
open Go renaming Value->Zf,World->Zb,callFunc->Zz,TypeId->Zs,callsIn_wide->Zcx,info_parts->zp,undef->Ze,ownsRow_succ->Zay,wpQuiet_nil->Z4,wpList_append_own->Yc,below_drewN->Y5,bodyPost_ret->ZN
open Go.Ending renaming returned->Zbx
open Go.Fence renaming wide->ZbC
open Go.IntKind renaming wrap_i64->zE,i64->J
open Go.Lib renaming hid->Zd
open Go.OpenSpec renaming ofChange->ZbV
open Go.Oper renaming semAt_some->Zdk
open Go.Proofs.Tryz renaming underlying27->zW,underlying23->Zdg,prog->Zc
open Go.RowKit.Below renaming refl->Zh
open Go.Value renaming oneCell'->YT,int->ZL,slice->U,int->I
open Go.World renaming size_alloc->ZB,ownsRow_nil->zq,block_lt_of_cell?->ZH
open Go.World.ownsRow renaming alloc->Ya
open List renaming range->Yr,ext_getElem?->YA,getElem?_eq_none->ZP,getElem?_set_self->Ys,getElem?_set_ne->ZS,drop_eq_nil_iff->Z7,length_append->ZA,getElem?_append_left->zl,getElem?_eq_some_iff->Zm,length_cons->zb,length_nil->zR,getElem?_concat_length->Y1,size_toArray->Zbm,push_toArray->Zbn,append_toArray->Za4,nil_append->zP,cons_append->Za1,filter_cons->ZbB,length_filter_le->Zac,filterMap_cons->Z6,filterMap_nil->zd,getElem?_toArray->ZG,getElem?_cons_succ->ZD,getElem?_cons_zero->ZC,mem_of_getElem?->Z3,flatMap_append->Zbe,mem_append->Zab,mem_singleton->Yh,drop_eq_getElem_cons->ZO,take_add_one->ZbH,take_of_length_le->Zb3,mem_cons_of_mem->zm,mem_cons_self->zC,take_length->ZcU,all_eq_true->Zdm
open Nat renaming zero_le->Zp,le_refl->Zj,reduceAdd->ZaF,reduceSub->Zcw,pow_le_pow_right->YX,le_trans->Zr,lt_of_lt_of_le->Zl,le_of_succ_le->Zbb,two_pow_pos->Zdz
open Option.some renaming inj->ZW
namespace Go.Proofs.Fit
open Go
@[simp] def Lp.func20:Lp.funcs[20]?=some Tryz.f20:=(AP.same 20 rfl rfl).trans Tryz.func20
@[simp] def Lp.call27 (args:Array Zf)(w:Zb):(Zz 27 args).run Lp w=.ok (.enter 27 args) w:=Ao Lp 27 Lp.func27 rfl rfl args w
@[simp] def Lp.func38:Lp.funcs[38]?=some Tryz.f38:=(AP.same 38 rfl rfl).trans Tryz.func38
@[simp] def Lp.call38 (args:Array Zf)(w:Zb):(Zz 38 args).run Lp w=.ok (.enter 38 args) w:=Ao Lp 38 Lp.func38 rfl rfl args w
@[simp] def Lp.func47:Lp.funcs[47]?=some Tryz.f47:=(AP.same 47 rfl rfl).trans Tryz.func47
@[simp] def Lp.call47 (args:Array Zf)(w:Zb):(Zz 47 args).run Lp w=.ok (.enter 47 args) w:=Ao Lp 47 Lp.func47 rfl rfl args w
@[simp] def Lp.func51:Lp.funcs[51]?=some Tryz.f51:=(AP.same 51 rfl rfl).trans Tryz.func51
@[simp] def Lp.call51 (args:Array Zf)(w:Zb):(Zz 51 args).run Lp w=.ok (.enter 51 args) w:=Ao Lp 51 Lp.func51 rfl rfl args w
@[simp] def Lp.func64:Lp.funcs[64]?=some Tryz.f64:=(AP.same 64 rfl rfl).trans Tryz.func64
@[simp] def Lp.call64 (args:Array Zf)(w:Zb):(Zz 64 args).run Lp w=.ok (.enter 64 args) w:=Ao Lp 64 Lp.func64 rfl rfl args w
@[simp] def Lp.func77:Lp.funcs[77]?=some Tryz.f77:=(AP.same 77 rfl rfl).trans Tryz.func77
@[simp] def Lp.call77 (args:Array Zf)(w:Zb):(Zz 77 args).run Lp w=.ok (.enter 77 args) w:=Ao Lp 77 Lp.func77 rfl rfl args w
@[simp] def Lp.func79:Lp.funcs[79]?=some Tryz.f79:=(AP.same 79 rfl rfl).trans Tryz.func79
@[simp] def Lp.call79 (args:Array Zf)(w:Zb):(Zz 79 args).run Lp w=.ok (.enter 79 args) w:=Ao Lp 79 Lp.func79 rfl rfl args w
@[simp] def Lp.func128:Lp.funcs[128]?=some Tryz.f128:=(AP.same 128 rfl rfl).trans Tryz.func128
@[simp] def Lp.call128 (args:Array Zf)(w:Zb):(Zz 128 args).run Lp w=.ok (.enter 128 args) w:=Ao Lp 128 Lp.func128 rfl rfl args w
@[simp] def Lp.func137:Lp.funcs[137]?=some Tryz.f137:=(AP.same 137 rfl rfl).trans Tryz.func137
@[simp] def Lp.call137 (args:Array Zf)(w:Zb):(Zz 137 args).run Lp w=.ok (.enter 137 args) w:=Ao Lp 137 Lp.func137 rfl rfl args w
@[simp] def Lp.func138:Lp.funcs[138]?=some Tryz.f138:=(AP.same 138 rfl rfl).trans Tryz.func138
@[simp] def Lp.call138 (args:Array Zf)(w:Zb):(Zz 138 args).run Lp w=.ok (.enter 138 args) w:=Ao Lp 138 Lp.func138 rfl rfl args w
def n20:Tryz.f20.ntmps=131:=rfl
def n38:Tryz.f38.ntmps=70:=rfl
def n47:Tryz.f47.ntmps=56:=rfl
def n51:Tryz.f51.ntmps=19:=rfl
def n64:Tryz.f64.ntmps=28:=rfl
def n77:Tryz.f77.ntmps=88:=rfl
def n79:Tryz.f79.ntmps=35:=rfl
def aq4:Tryz.f128.ntmps=23:=rfl
def ac7:Tryz.f137.ntmps=24:=rfl
def ad9:Tryz.f138.ntmps=28:=rfl
end Go.Proofs.Fit
namespace Go.Proofs.Fit
open Go Go.RowKit
def Qr (n:Nat)(m:Nat->Int):List Int:=(Yr n).map m
def EI (n:Nat)(m:Nat->Int):(Qr n m).length=n:=by simp[Qr]
variable {n i g cap k b n1 n2 k1 k2:Nat}
variable {m:Nat->Int}
def rj (h:i<n):nth (Qr n m) i=m i:=by simp[Qr,nth,h]
def lC (l:List Int):l=Qr l.length (fun j=>nth l j):=by
 apply YA;intro i;by_cases h:i<l.length
 .rw[Bn h];simp[Qr,h]
 rw[ZP (by omega),ZP (by rw[EI];omega)]
def rm (h:i<n)(k b:Int):(Qr n m).set i (m i+b*k)=Qr n (K7 m k ((i:Int),b)):=by
 apply YA;intro j;by_cases hj:j<n
 .by_cases hij:i=j
  .subst hij
   rw[Ys (by rw[EI];exact h)];simp[Qr,hj,K7]
  rw[ZS hij];simp[Qr,hj,K7];omega
 rw[ZP (by simp[EI];omega),ZP (by rw[EI];omega)]
structure MG (w:Zb)(xs:Array Zf)(v:Zf)(n:Nat)(m:Nat->Int)(wr:Zb):Prop where
 below:Bl w wr
 box:wr.heap[w.heap.size]?=some (.cells xs 26 (0,0))
 own:Own wr (w.heap.size+1) v (Qr n m)
variable {w A B:Zb}
variable {xs:Array Zf}
variable {v v1 v2 v3 v4 v5 v6 lv:Zf}
def MG.later {wr W:Zb}(h:MG w xs v n m wr)(hB:Bl wr W):MG w xs v n m W:=
 ⟨h.below.trans (hB.mono h.below.size),(hB.block _ (Za.1 h.box).1).trans h.box,h.own.later hB⟩
def MG.row {wr:Zb}(h:MG w xs (U (some ⟨g,0,none⟩) n cap) n m wr)(hi:i<n):w.heap.size+1<=g/\∃cur,wr.heap[g]?=some (.cells cur 3 (0,0))/\cur[i]?=some (.int J (m i)):=by
 obtain⟨g',Ey,cur,e,h1,h2,h3,h4,h5,h6⟩:=h.own.val (by rw[EI];omega);rw[EI]at e;cases e;refine⟨h1,cur,h2,?_⟩;rw[h5 i (by rw[EI];exact hi),rj hi]
def MG.set {wr:Zb}(h:MG w xs (U (some ⟨g,0,none⟩) n cap) n m wr)(hi:i<n)(k b:Int):MG w xs (U (some ⟨g,0,none⟩) n cap) n (K7 m k ((i:Int),b)) (wr.setCell ⟨g,i,none⟩ (.int J (m i+b*k))):=by
 obtain⟨g',Ey,cur,e,h1,h2,h3,h4,h5,h6⟩:=h.own.val (by rw[EI];omega);rw[EI]at e;cases e;refine⟨bS h.below (by omega),(AZ (by omega) _).trans h.box,?_⟩;rw[<-rm hi];exact h6 i _ (by rw[EI];exact hi)
variable {S T Sn:Nat->Prop}
variable {c:A_}
variable {l nums a:List Int}
def c47 (h:RC S w v1 v2 v3 v4 v5 c)(hv:Fq c)(hl:SI S w v6 l)(hn:l.length<=c.Aa.length)(hb:∀i,i<l.length->-2<=nth l i/\nth l i<=2)(hS:∀b,S b->b<w.heap.size):
  Calls Lp 47 #[.agg #[v1,v2,v3,v4,v5],v6] w fun e w'=>∃u,e=.returned u/\Bl w w'/\SI (Cb w.heap.size w') w' u (Cc c l):=by
 obtain⟨a1,c1,rfl,l1,m1⟩:=h.base.val;obtain⟨a2,c2,rfl,l2,m2⟩:=h.Af.val;obtain⟨a3,c3,rfl,l3,m3⟩:=h.hooks.val;obtain⟨a4,c4,rfl,l4,m4⟩:=h.Aa.val;obtain⟨a5,c5,rfl,l5,m5⟩:=h.now.val;obtain⟨a6,c6,rfl,l6,m6⟩:=hl.val;have IX:=DJ;obtain⟨tN,lZ⟩:=hv.Fp;have HM:=Zd (show measure c l=Iw (fun j=>nth c.base j) (l.zip c.Aa) from rfl);have Bg:Bl w (w.alloc (.cells #[U a1 c.base.length c1,U a2 c.Af.length c2,U a3 c.hooks.length c3,U a4 c.Aa.length c4,U a5 c.now.length c5] 26)):=bA (Zh _ _);have H32:=Zd (fun W (hB:Bl w W)=>WO (h.later hB).base (by omega));have hbb:=MP hv;have HRB:=Zd (lC c.base);go_enter Lp.func47,n47;go_wp2_with (go_at_call 32;refine(H32.out _ Bg).mono ?_;rintro e w1 ⟨u,rfl,Bb,hO⟩;obtain⟨g,cap,cur,rfl,hgb,_⟩:=hO.val (by omega));have hM4:MG w #[U a1 c.base.length c1,U a2 c.Af.length c2,U a3 c.hooks.length c3,U a4 c.Aa.length c4,U a5 c.now.length c5] (U (some ⟨g,0,none⟩) c.base.length cap) c.base.length (fun j=>nth c.base j) w1:=by
  refine⟨Bg.trans (Bb.mono Bg.size),(Bb.block _ (by simp)).trans (Bp _ _),?_⟩;rw[<-HRB.out];rw[ZB]at hO;exact hO
 clear Bb hO hgb;go_loopg [6] l.length (fun gg i wr=>∃(k:Nat) (m:Nat->Int),k<=l.length/\gg=l.length - k/\i=.int J k/\Iw m ((l.zip c.Aa).drop k)=measure c l/\(∀j,-(60+16*k)<=m j/\m j<=60+16*k)/\MG w #[U a1 c.base.length c1,U a2 c.Af.length c2,U a3 c.hooks.length c3,U a4 c.Aa.length c4,U a5 c.now.length c5] (U (some ⟨g,0,none⟩) c.base.length cap) c.base.length m wr)
 case atStart=>exact⟨0,_,Zp _,rfl,rfl,rfl,fun j=>by have:=hbb j;omega,hM4⟩
 obtain⟨k,m,hk,rfl,rfl,CP,hbd,hM⟩:=hrel;have hf:=Zd CP;clear CP;by_cases Az:k<l.length
 .have Xm:k<c.Aa.length:=by omega
  have mr:=hb k Az;have hd:=Zd (SR (m:=m) Az Xm);obtain⟨b6,o6,rfl,Xj,xu⟩:=hl.at_ Az;obtain⟨b,o,s2,s3,rfl,UQ,ER,MM,LO,et,mi,hp,ho⟩:=h.Aa.at_ (i:=k) Xm;obtain⟨a7,c7,rfl,l7,m7⟩:=hp.val;clear ER MM et mi;have Xa:=hv.pull k Xm;have hpn:=hv.Ap k Xm;have Jm:=hv.few;obtain⟨n,Gc⟩:∃n,n=nth l k:=⟨_,rfl⟩;rw[<-Gc]at xu mr hd;clear Gc;obtain⟨ps,lP⟩:∃ps,ps=(Aj c.Aa k).Ap:=⟨_,rfl⟩;rw[<-lP]at LO hp l7 Xa hpn hd;clear lP;have TB:(k:Int)<(l.length:Int):=by omega
  have aym:(k:Int)<(c.Aa.length:Int):=by omega
  go_wp2;go_loopg [7] ps.length (fun gg i wx=>∃(j:Nat) (mm:Nat->Int),j<=ps.length/\gg=ps.length - j/\i=.int J j/\CZ mm n (ps.drop j)=CZ m n ps/\(∀i,-(60+16*(k:Int)+8*j)<=mm i/\mm i<=60+16*(k:Int)+8*j)/\MG w #[U a1 c.base.length c1,U a2 c.Af.length c2,U a3 c.hooks.length c3,U (some ⟨b,o,none⟩) c.Aa.length c4,U a5 c.now.length c5] (U (some ⟨g,0,none⟩) c.base.length cap) c.base.length mm wx)
  case atStart=>exact⟨0,m,Zp _,rfl,rfl,rfl,fun i=>by have:=hbd i;omega,hM⟩
  obtain⟨j,mm,hj,rfl,rfl,CP,eA,U6⟩:=hrel;have MK:=Zd CP;clear CP;have aq5:=(U6.below.cell (p:=⟨b,o+k*5+2,none⟩) (hS b UQ)).trans LO;have g3:=ch (i:=3) U6.box (v:=.slice (some ⟨b,o,none⟩) c.Aa.length c4) rfl;by_cases G4:j<ps.length
  .obtain⟨b7,o7,rfl,U3,p1,p2⟩:=hp.at_ G4
   rw[<-U6.below.cell (p:=⟨b7,o7+j*2,none⟩) (hS b7 U3)]at p1;rw[<-U6.below.cell (p:=⟨b7,o7+j*2+1,none⟩) (hS b7 U3)]at p2;have aiL:=(U6.below.cell (p:=⟨b6,o6+k,none⟩) (hS b6 Xj)).trans xu;have hpd:=Zd (PO (m:=mm) (n:=n) G4);obtain⟨Oo,MF,mC,mD⟩:=Xa j G4;obtain⟨q,hq⟩:∃q,q=BV ps j:=⟨_,rfl⟩;rw[<-hq]at p1 p2 hpd Oo MF mC mD;clear hq;obtain⟨x',y⟩:=q;obtain⟨x,rfl⟩:∃x:Nat,x'=x:=⟨x'.toNat,by simp only at Oo;omega⟩;dsimp only at p1 p2 Oo MF mC mD;have xy:x<c.base.length:=by omega
   have hxi:(x:Int)<(c.base.length:Int):=by omega
   have ayn:(0:Int)<=(x:Int):=by omega
   have ahJ:(0:Int)<=(k:Int):=by omega
   have LZ:(j:Int)<(ps.length:Int):=by omega
   have ayo:(0:Int)<=(j:Int):=by omega
   have hpr:=prod_bound ⟨mC,mD⟩ mr;have hmx:=eA x;have eB:=U6.later (bA (o:=.cells #[.int J x,.int J y] 64) (Zh _ _));go_wp2;obtain⟨W5,Jy⟩:∃W5,W5=wr.alloc (.cells #[.int J x,.int J y] 64):=⟨_,rfl⟩;have e0:W5.cell? ⟨wr.heap.size,0,none⟩=some (.int J x):=by rw[Jy];exact cn _ _ _ rfl
   have e1:W5.cell? ⟨wr.heap.size,1,none⟩=some (.int J y):=by rw[Jy];exact cn _ _ _ rfl
   have e6:W5.cell? ⟨b6,o6+k,none⟩=some (.int J n):=by rw[Jy];exact ca aiL _
   rw[<-Jy]at eB;obtain⟨hgb,cur,Xg,Ox⟩:=eB.row xy;have r0:W5.cell? ⟨g,x,none⟩=some (.int J (mm x)):=ch Xg Ox;have rf:=cf (i:=x) Xg;rw[<-Jy];clear Jy aiL p1 p2 g3 aq5;go_still_tail 17,(by kernel_rfl);change wpList _ _ _ _ _ W5.drew;have hM6:=(eB.later (Zh _ _).drew).set xy n y;go_wp2;go_roundg (ps.length - (j+1))
   case rel=>exact⟨j+1,K7 mm n ((x:Int),y),by omega,rfl,by go_num,by rw[<-MK.out,hpd.out],fun i=>by have:=MO (N:=60+16*(k:Int)+8*j) (p:=((x:Int),y)) eA ⟨mC,mD⟩ mr i;omega,hM6⟩
   omega
  have e2:mm=CZ m n ps:=by rw[<-MK.out,Z7.2 (by omega)];rfl
  subst e2;go_wp2;go_roundg (l.length - (k+1))
  case rel=>exact⟨k+1,_,by omega,rfl,by go_num,by rw[<-hf.out,hd.out],fun i=>by have:=eA i;have:(j:Int)<=2:=(by omega);omega,U6⟩
  omega
 have e1:m=measure c l:=by rw[<-hf.out,Z7.2 (by simp;omega)];rfl
 subst e1;have hs:=hM.own.si;rw[show Qr c.base.length (measure c l)=Cc c l from rfl]at hs;have Lc:=hM.below;go_wp2;go_ret;exact⟨_,rfl,Lc,Sl.imp hs (fun x (hx:Cb (w.heap.size+1) wr x)=>⟨by have:=hx.1;omega,hx.2⟩) (fun _ _ x=>x)⟩
def bU (h:Bl w A)(k:Bl A B):Bl w B:=h.trans (k.mono h.size)
def abg (c:A_)(l:List Int):List Int:=if Eg c l=0 then AB (DS c l) else []
def abo:AB 0=[]:=by decide
def c51 (h:RC S w v1 v2 v3 v4 v5 c)(hl:SI S w v6 l)(hS:∀b,S b->b<w.heap.size):
  Calls Lp 51 #[.agg #[v1,v2,v3,v4,v5],v6] w fun e w'=>∃v,e=.returned (.tuple #[v,.int J (Eg c l)])/\Bl w w'/\SI (Cb w.heap.size w') w' v (abg c l):=by
 obtain⟨a1,c1,rfl,l1,m1⟩:=h.base.val;obtain⟨a2,c2,rfl,l2,m2⟩:=h.Af.val;obtain⟨a3,c3,rfl,l3,m3⟩:=h.hooks.val;obtain⟨a4,c4,rfl,l4,m4⟩:=h.Aa.val;obtain⟨a5,c5,rfl,l5,m5⟩:=h.now.val;obtain⟨a6,c6,rfl,l6,m6⟩:=hl.val;have IX:=DJ;have Bg:Bl w (w.alloc (.cells #[U a1 c.base.length c1,U a2 c.Af.length c2,U a3 c.hooks.length c3,U a4 c.Aa.length c4,U a5 c.now.length c5] 26)):=(Zh _ _).alloc (Zj _) _;have ahe:=Zd (fun W hB=>ao2 (w:=W) (h.later hB) (hl.later hB) (A3 hS hB));have key:∃t,t<8/\AB t=abg c l/\∀(W:Zb) (hB:Bl w W),Calls Lp 119 #[.agg #[U a1 c.base.length c1,U a2 c.Af.length c2,U a3 c.hooks.length c3,U a4 c.Aa.length c4,U a5 c.now.length c5],U a6 l.length c6] W fun e w'=>∃(q1 q2 q3 q4 q5:Option Addr) (n1 n2 n3 n4 n5 d1 d2 d3 d4 d5 k0 k1 k2:Nat),e=.returned (.tuple #[.agg #[U q1 n1 d1,U q2 n2 d2,U q3 n3 d3,U q4 n4 d4,U q5 n5 d5,I .u8 k0,I .u8 k1,I .u8 k2],I .u8 t,.int J (Eg c l)])/\Bl W w':=by
  by_cases h0:Eg c l=0
  .obtain⟨ha0,_⟩:=Bj h0
   obtain⟨Jz,ER⟩:=Bj ha0;have hv:=EG Jz;have hn:l.length<=c.Aa.length:=by have:=(Fb ER).1;omega
   refine⟨DS c l,U9 (S3 hv.over) (by have:=hv.few;omega),by unfold abg;rw[if_pos h0],fun W hB=>(ahe.out W hB).mono ?_⟩;rintro e w' ⟨g,t,rfl,Bb,hx,_⟩;obtain⟨rfl,rfl⟩:=hx h0;exact⟨_,_,_,_,_,_,_,_,_,_,_,_,_,_,_,_,_,_,rfl,Bb⟩
  refine⟨0,by omega,by unfold abg;rw[if_neg h0,abo],fun W hB=>(ahe.out W hB).mono ?_⟩;rintro e w' ⟨g,t,rfl,Bb,_,hx⟩;obtain⟨rfl,rfl⟩:=hx h0;exact⟨_,_,_,_,_,_,_,_,_,_,_,_,_,_,_,_,_,_,rfl,Bb⟩
 obtain⟨t,pK,cI,hK⟩:=key;have HK:=Zd hK;have HT:=Zd cI;obtain⟨E,hE⟩:∃E,E=Eg c l:=⟨_,rfl⟩;rw[<-hE]at HK⊢;clear hK cI hE;go_enter Lp.func51,n51;go_wp2_with (first|(go_at_call 119;refine(HK.out _ Bg).mono ?_;rintro e w1 ⟨q1,q2,q3,q4,q5,n1,n2,n3,n4,n5,d1,d2,d3,d4,d5,k0,k1,k2,rfl,Bb⟩;have Bv:=Bg.trans (Bb.mono Bg.size))|(go_at_call 120;refine(abf pK).mono ?_;rintro e w2 ⟨v,rfl,De,hv,_⟩;have Cj:=(bA Bv).trans (De.mono (bA Bv).size);obtain⟨a7,c7,rfl,l7,m7⟩:=hv.val));go_ret2;refine⟨_,rfl,Cj,?_⟩;rw[<-HT.out];exact Sl.imp hv (fun x (hx:Cb _ _ x)=>⟨by have h1:=hx.1;have h2:=Bv.size;simp at h1;omega,hx.2⟩) fun _ _ x=>x
attribute [local go_sem] Zdk
def Ev (c:A_)(l:List Int):Bool:=(JU c (DS c l)).isNone
def LU (c:A_):List (List Int):=(EH c).filter (Ev c)
def WV (h:l∈EH c):Tc c l:=Lf _ _ h
def Tn {e:Zs}{base:Nat}{xs:List Zf}(hB:Bl A B)(h:A.ownsRow base e k v n xs):B.ownsRow base e k v n xs:=CO (T:=fun _=>False) (Ak.later hB) (fun _ _ x=>x) h
def AQ.snoc {w1:Zb}{base m g' Ey ln cc:Nat}{ad:Option Addr}{pre:List (List Int)}{x:List Int}{vals:List Zf}(hI:AQ w base pre A)(hw:w.heap.size<base)(FY:A.heap[w.heap.size]?=some (.cells #[v] 27 (0,0)))(Ci:A.ownsRow base 22 1 v pre.length vals)
 (DF:∀(i:Nat) (x:List Int),pre[i]?=some x->∃u,vals[i]?=some u/\SI (J1 3 base A) A u x) (hu:SI (J1 3 m A) A (U ad ln cc) x) (hm:base<=m) (S4:(A.alloc (.cells #[U ad ln cc] 22)).grownBy w1 v.ownBlock)
 (AX:w1.ownsRow base 22 1 (U (some ⟨g',0,none⟩) (pre.length+1) Ey) (pre.length+1) (vals++ [U ad ln cc])):
  AQ w base (pre++ [x]) (w1.setCell ⟨w.heap.size,0,none⟩ (U (some ⟨g',0,none⟩) (pre.length+1) Ey))/\Ak (fun k=>k=w.heap.size\/base<=k) A (w1.setCell ⟨w.heap.size,0,none⟩ (U (some ⟨g',0,none⟩) (pre.length+1) Ey)):=by
 have Em:∀k,v.ownBlock=some k->base<=k:=fun k hk=>(Ci.lt k hk).1;have hzA:=hI.size;have PZ:w1.heap[w.heap.size]?=some (.cells #[v] 27 (0,0)):=(S4.block _ (by simp;omega) (fun e=>by have:=Em _ e.symm;omega)).trans (Bf FY _);have DR:A.heap.size<w1.heap.size:=by have:=S4.size;simp at this;omega
 have Kd:Ak (fun k=>v.ownBlock=some k) A w1:=(Ak.later (bA (Zh _ _))).trans (Ak.grown S4 fun k hk=>hk);have D3:∀(T:Nat->Prop),T w.heap.size->Ak T w1 (w1.setCell ⟨w.heap.size,0,none⟩ (U (some ⟨g',0,none⟩) (pre.length+1) Ey)):=fun T h=>(Ak.refl _ _).set h;refine⟨⟨?_,?_,_,vals++ [U ad ln cc],Ba PZ _,?_,fun i y hy=>?_⟩,(Kd.mono fun k hk=>.inr (Em k hk)).trans (D3 _ (.inl rfl))⟩
 .exact(hI.below.trans (Kd.below (fun k hk=>by have:=Em k hk;omega) hI.below.size)).trans ((D3 (fun k=>k=w.heap.size) rfl).below (fun k hk=>by omega) (by omega))
 .have:=(D3 (fun k=>k=w.heap.size) rfl).size
  omega
 .rw[ZA]
  exact CO (D3 (fun k=>k=w.heap.size) rfl) (fun b h1 h2=>by omega) AX
 have key:∀u,SI (J1 3 base A) A u y->SI (J1 3 base (w1.setCell ⟨w.heap.size,0,none⟩ (U (some ⟨g',0,none⟩) (pre.length+1) Ey))) (w1.setCell ⟨w.heap.size,0,none⟩ (U (some ⟨g',0,none⟩) (pre.length+1) Ey)) u y:=fun u h=>by
  refine Dx (T:=fun k=>v.ownBlock=some k\/k=w.heap.size) ((Kd.mono fun k hk=>.inl hk).trans (D3 _ (.inr rfl))) (fun b hb h=>?_) h;rcases h with h|h
  .obtain⟨cs,hcs⟩:=hb.2
   rcases Ci.2 with⟨e,_⟩|⟨g,cap,cur,e,_,hg,_⟩
   .rw[e]at h;cases h
   rw[e]at h;cases h;rw[hg]at hcs;cases hcs
  have:=hb.1.1;omega
 by_cases Az:i<pre.length
 .rw[zl Az]at hy
  obtain⟨u,hu,hs⟩:=DF i y hy;exact⟨u,by rw[zl (Zm.1 hu).1];exact hu,key u hs⟩
 have aX:=(Zm.1 hy).1;rw[ZA,zb,zR]at aX;obtain rfl:i=pre.length:=by omega
 rw[Y1]at hy;cases hy;have uM:vals.length=pre.length:=by have:=Ci.1;omega
 refine⟨U ad ln cc,by rw[<-uM,Y1],key _ (Sl.imp hu (fun b hb=>⟨⟨?_,hb.1.2⟩,hb.2⟩) (fun _ _ x=>x))⟩;have:=hb.1.1;omega
def aiM (h:RC S w v1 v2 v3 v4 v5 c)(hS:∀b,S b->b<w.heap.size)(hv:Fq c):
  CallsIn ZbC 0 Lp 128 #[.agg (AW v1 v2 v3 v4 v5 (Ax c.Aa))] w fun e w'=>∃v,e=.returned v/\Bl w w'/\SL (Cb w.heap.size w') w' v (LU c):=by
 obtain⟨a1,c1,rfl,_⟩:=h.base.val;obtain⟨a2,c2,rfl,_⟩:=h.Af.val;obtain⟨a3,c3,rfl,_⟩:=h.hooks.val;obtain⟨a4,c4,rfl,_⟩:=h.Aa.val;obtain⟨a5,c5,rfl,_⟩:=h.now.val;have hfw:=hv.few;have HNW:=Zd hv.uy;have pT:=S3 hv.over;obtain⟨ab,DU⟩:∃ab,ab=Ax c.Aa:=⟨_,rfl⟩;have mG:=Zd DU;rw[<-DU]at pT⊢;clear DU;have hgs:(AW (U a1 c.base.length c1) (U a2 c.Af.length c2) (U a3 c.hooks.length c3) (U a4 c.Aa.length c4) (U a5 c.now.length c5) ab).size=8:=rfl;obtain⟨W1,NL⟩:∃W1,W1=w.alloc (.cells (AW (U a1 c.base.length c1) (U a2 c.Af.length c2) (U a3 c.hooks.length c3) (U a4 c.Aa.length c4) (U a5 c.now.length c5) ab) 112):=⟨_,rfl⟩;refine callsIn_of_wp_marks Lp.func128 rfl trivial ?_ rfl;show Code.wpIn _ _ _ _ _ {tmps:= #[.agg (AW (U a1 c.base.length c1) (U a2 c.Af.length c2) (U a3 c.hooks.length c3) (U a4 c.Aa.length c4) (U a5 c.now.length c5) ab)]++_,defers:=[]} _;unfold AW;simp only[aq4,Zbm,zb,zR,ZaF,Zcw,ZaN,ZaM,Zbn,Za4,zP,Za1]
 gi_wp2
 refine⟨trivial,rfl,(Zcx (n:=0).2 (ahC (AW (U a1 c.base.length c1) (U a2 c.Af.length c2) (U a3 c.hooks.length c3) (U a4 c.Aa.length c4) (U a5 c.now.length c5) ab) rfl (by simp[AW,YT]) _)).mono ?_⟩;rintro e V ⟨rfl,hV⟩;change V=((w.alloc (.cells (AW (U a1 c.base.length c1) (U a2 c.Af.length c2) (U a3 c.hooks.length c3) (U a4 c.Aa.length c4) (U a5 c.now.length c5) ab) 112)).alloc (.cells #[U none 0 0] 27)).alloc (.cells (AW (U a1 c.base.length c1) (U a2 c.Af.length c2) (U a3 c.hooks.length c3) (U a4 c.Aa.length c4) (U a5 c.now.length c5) ab) 112) at hV;rw[<-NL]at hV;have DR:W1.heap.size=w.heap.size+1:=by rw[NL];simp
 have hzV:V.heap.size=w.heap.size+3:=by rw[hV];simp;omega
 have Bg:Bl w W1:=by rw[NL];exact bA (Zh _ _)
 have acG:Bl W1 V:=by rw[hV];exact bA (bA (Zh _ _))
 have lD:W1.heap[w.heap.size]?=some (.cells (AW (U a1 c.base.length c1) (U a2 c.Af.length c2) (U a3 c.hooks.length c3) (U a4 c.Aa.length c4) (U a5 c.now.length c5) ab) 112 (0,0)):=by rw[NL];exact Bp _ _
 have Ia:V.heap[W1.heap.size]?=some (.cells #[U none 0 0] 27 (0,0)):=by rw[hV];exact Bf (Bp _ _) _
 have iz:V.heap[w.heap.size+1+1]?=some (.cells (AW (U a1 c.base.length c1) (U a2 c.Af.length c2) (U a3 c.hooks.length c3) (U a4 c.Aa.length c4) (U a5 c.now.length c5) ab) 112 (0,0)):=by rw[hV, <-DR,show W1.heap.size+1=(W1.alloc (.cells #[U none 0 0] 27)).heap.size by simp];exact Bp _ _
 have Ui:Bl w V:=Bg.trans (acG.mono Bg.size);have HS:=Zd (show∀W,Bl w W->RC S W (U a1 c.base.length c1) (U a2 c.Af.length c2) (U a3 c.hooks.length c3) (U a4 c.Aa.length c4) (U a5 c.now.length c5) c from fun W hB=>h.later hB);have eZ:=qv iz (HS.out V Ui) (fun b hb=>by have:=hS b hb;omega) (by omega) (fun i hi=>by have:=hv.step i hi;omega);clear hV;simp only[ZB];obtain⟨K,hK⟩:∃K:Nat->Prop,K=fun k=>S k\/k=w.heap.size+1+1:=⟨_,rfl⟩;have ju:∀k,K k->k<w.heap.size\/k=w.heap.size+1+1:=fun k h=>by
  rw[hK]at h;rcases h with h|rfl
  .exact .inl (hS k h)
  exact .inr rfl
 rw[<-hK]at eZ;clear hK;have hN:(EH c).length<=125:=by
  have:=H7 c.Aa (fun i hi=>by have:=hv.step i hi;omega);have h2:5^c.Aa.length<=5^3:=YX (by decide) (by omega);exact Zr this h2
 obtain⟨i0,hi,Fl,k9,EB⟩:=zp Hw;have hu:=Cz zW;have HZ:=Zd (show w.heap.size+1<=W1.heap.size/\W1.heap.size<=w.heap.size+1/\w.heap.size+3<=V.heap.size/\V.heap.size<=w.heap.size+3 by omega);have hE1:=Zd DR;clear NL DR hzV
 gi_wp2
 have kL:=HZ.out;refine Vm (gf:=153) (lb:= #[.pointer (some ⟨w.heap.size+1+1,0,none⟩)]) rfl (Go.Proofs.enters_of Lp.func153 (by kernel_rfl) rfl) eZ (Zj _) (fun k hk=>⟨by have:=ju k hk;omega,rfl⟩) (fun pre A=>AQ W1 (V.heap.size+6) (pre.filter (Ev c)) A) (fun A hA hs=>?_) (fun pre A B h hT=>h.CN (n:=V.heap.size) (by omega) rfl hT)
  (fun u=> {tmps:= #[.agg #[U a1 c.base.length c1,U a2 c.Af.length c2,U a3 c.hooks.length c3,U a4 c.Aa.length c4,U a5 c.now.length c5,I .u8 (ab 0),I .u8 (ab 1),I .u8 (ab 2)],.pointer (some ⟨w.heap.size,0,none⟩),U none 0 0,.pointer (some ⟨w.heap.size+1,0,none⟩),u,Ze,Ze,.agg #[U a1 c.base.length c1,U a2 c.Af.length c2,U a3 c.hooks.length c3,U a4 c.Aa.length c4,U a5 c.now.length c5,I .u8 (ab 0),I .u8 (ab 1),I .u8 (ab 2)],.func (.func 153) #[] #[.pointer (some ⟨w.heap.size+1+1,0,none⟩)],u,Ze,Ze,Ze,Ze,Ze,Ze,Ze,Ze,Ze,Ze,Ze,Ze,Ze],defers:=[]}) ?assign ?body ?done
 .exact⟨acG.trans (hA.mono acG.size),by omega,_,[],(hA.block _ (by omega)).trans Ia,zq _ _ _ _,fun i x hx=>by cases hx⟩
 case assign=>
  rintro l u W' K ⟨ad,n,cc,rfl⟩ hK
  gi_wp2
  exact hK
 case body=>
  intro l pre x u A0 A hI0 hT hz hlen iA;have hI:=hI0.CN (n:=V.heap.size) (by omega) rfl hT;obtain⟨v,vals,FY,Ci,DF⟩:=hI.box;obtain⟨ad,cc,rfl,lu,mu⟩:=iA.val;have hzA:V.heap.size+6<=A.heap.size:=hI.size;have hxm:x∈EH c:=hlen.subset (by simp);have aiN:=hlen.length_le;rw[ZA,zb,zR]at aiN;obtain⟨MF,_⟩:=WV hxm;have hBA:Bl w A:=Bg.trans (hI.below.mono Bg.size);have yp:A.heap[w.heap.size]?=some (.cells #[U a1 c.base.length c1,U a2 c.Af.length c2,U a3 c.hooks.length c3,U a4 c.Aa.length c4,U a5 c.now.length c5,I .u8 (ab 0),I .u8 (ab 1),I .u8 (ab 2)] 112 (0,0)):=(hI.below.block w.heap.size (by omega)).trans lD;have kL:=HZ.out;have HI:=Zd hI;have hxl:x.length<=c.now.length:=by have:=HNW.out;omega
  have M_:=c90 ((HS.out A hBA).imp (T:=fun b=>b<A.heap.size) fun b hb=>by have:=hS b hb;have:=hBA.size;show b<_;omega) (Sl.imp iA (T:=fun b=>b<A.heap.size) (fun b hb=>hb.1.2) fun _ _ x=>x) hxl (by have:=HNW.out;omega) (ab:=ab) pT (by rw[mG.out];exact MT hv (by omega)) fun b hb=>hb;have HCB:=Zd (show Ev c x=(JU c (Cx ab c.now x)).isNone by rw[mG.out];rfl);obtain⟨t,ht⟩:∃t,t=Cx ab c.now x:=⟨_,rfl⟩;rw[<-ht]at M_ HCB;clear ht;obtain⟨o,ho⟩:∃o,o=JU c t:=⟨_,rfl⟩;rw[<-ho]at M_ HCB;clear ho;have vw:=Zd ((Zcx (n:=0)).2 M_);have HX1:=Zd (ZY MF hxl);clear M_ hlen hxm MF hxl;have g0:=ch (i:=0) yp rfl;have g1:=ch (i:=1) yp rfl;have g2:=ch (i:=2) yp rfl;have g3:=ch (i:=3) yp rfl;have g4:=ch (i:=4) yp rfl;have g5:=ch (i:=5) yp rfl;have g6:=ch (i:=6) yp rfl;have g7:=ch (i:=7) yp rfl;cases o with
  |some i=>
   dsimp only[uv]at vw
   gi_wp2
   refine⟨trivial,rfl,vw.out.mono ?_⟩;rintro e w2 ⟨rfl,Bb⟩
   gi_wp2
   have Tq:pre.filter (Ev c)++ [x].filter (Ev c)=pre.filter (Ev c):=by rw[ZbB,HCB.out];simp
   rw[Tq];refine⟨?_,Ak.later Bb⟩;obtain⟨v,vals,b1,b2,b3⟩:=hI.box;exact⟨hI.below.trans (Bb.mono hI.below.size),by have:=Bb.size;omega,v,vals,(Bb.block _ (Za.1 b1).1).trans b1,Tn Bb b2,fun i y hy=>by
    obtain⟨u,h1,h2⟩:=b3 i y hy;exact⟨u,h1,Dx (T:=fun _=>False) (Ak.later Bb) (fun _ _ h=>h) h2⟩⟩
  |none=>
   dsimp only[uv]at vw
   gi_wp2
   refine⟨trivial,rfl,vw.out.mono ?_⟩;rintro e w2 ⟨rfl,Bb⟩;have mJ:AQ W1 (V.heap.size+6) (pre.filter (Ev c)) w2:=by
    obtain⟨v,vals,b1,b2,b3⟩:=hI.box;exact⟨hI.below.trans (Bb.mono hI.below.size),by have:=Bb.size;omega,v,vals,(Bb.block _ (Za.1 b1).1).trans b1,Tn Bb b2,fun i y hy=>by
     obtain⟨u,h1,h2⟩:=b3 i y hy;exact⟨u,h1,Dx (T:=fun _=>False) (Ak.later Bb) (fun _ _ h=>h) h2⟩⟩
   have Hb:SI (J1 3 A0.heap.size w2) w2 (U ad x.length cc) x:=Dx (T:=fun _=>False) (Ak.later Bb) (fun _ _ h=>h) iA;clear FY Ci DF;obtain⟨v,vals,FY,Ci,DF⟩:=mJ.box;have kb:=ch (i:=0) FY (v:=v) rfl;have fb:=cf (i:=0) FY;rw[hE1.out]at kb fb;have G9:=Zac (Ev c) pre;have Tq:pre.filter (Ev c)++ [x].filter (Ev c)=pre.filter (Ev c)++ [x]:=by rw[ZbB,HCB.out];simp
   gi_wp2_with (gi_at_builtin;refine wpListIn_append_own _ rfl _ _ 27 rfl (V.heap.size+6) 22 i0 (U none 0 0) 1 24 hu (Dz hi) Fl k9 EB rfl (by decide) _ _ _ rfl (Ci.alloc _) ⟨w2.heap.size,0,none⟩ 1 1 [U ad x.length cc] rfl rfl (cell_one_new _ _ _) (by simp[YT]) (by unfold maxLen;omega) (by omega) (by have:=Bb.size;simp;omega) ?_;intro v' w3 Bi AG Gc;obtain⟨g',Ey,rfl⟩:=Zay Bi;have S4:(w2.alloc (.cells #[U ad x.length cc] 22)).grownBy w3 v.ownBlock:=AG;have Em:∀k,v.ownBlock=some k->V.heap.size+6<=k:=fun k hk=>(Ci.lt k hk).1;have PZ:w3.heap[W1.heap.size]?=some (.cells #[v] 27 (0,0)):=(S4.block _ (by have:=Bb.size;simp;omega) (fun e=>by have:=Em _ e.symm;omega)).trans (Bf FY _);have kb1:=ch (i:=0) PZ (v:=v) rfl;have fb1:=cf (i:=0) PZ;rw[hE1.out]at kb1 fb1)
   obtain⟨q1,q2⟩:=AQ.snoc mJ (by omega) FY Ci DF Hb (by have:=hzA;omega) S4 Bi;rw[hE1.out]at q1 q2;exact⟨q1,(Ak.later Bb).trans (q2.mono fun k hk=>⟨by unfold Kp;omega,fun h=>by have:=ju k h;omega⟩)⟩
 intro A hI hD;obtain⟨v,vals,FY,Ci,DF⟩:=hI.box;have kb:=ch (i:=0) FY (v:=v) rfl;rw[hE1.out]at kb
 gi_wp2
 have hT:Ak (fun k=>k=V.heap.size) A (A.putObj V.heap.size (.deferred none)):=(Ak.refl _ _).put rfl;have aiO:=Bg.trans (hI.below.mono Bg.size);have hBA:Bl w (A.putObj V.heap.size (.deferred none)):=aiO.trans (hT.below (fun k hk=>by omega) aiO.size);have Ox:=CO hT (fun b h1 h2=>by omega) Ci;have gI:∀(i:Nat) (x:List Int),(LU c)[i]?=some x->∃u,vals[i]?=some u/\SI (Cb w.heap.size (A.putObj V.heap.size (.deferred none))) (A.putObj V.heap.size (.deferred none)) u x:=fun i x hx=>by
  obtain⟨u,h1,h2⟩:=DF i x hx;exact⟨u,h1,Sl.imp (Dx hT (fun b hb h=>by have:=hb.1.1;omega) h2) (fun b hb=>⟨by have:=hb.1.1;omega,hb.1.2⟩) (fun _ _ x=>x)⟩
 refine⟨by simp,.inl ⟨_,_,rfl,run_takeDeferred hD,?_⟩⟩;exact⟨_,results_tmp rfl _ _ _,_,rfl,hBA,WM (ls:=LU c) Ox (by omega) gI⟩
def bV {C:Zb}(h:Bl A B)(k:Bl B C):Bl A C:=h.trans (k.mono h.size)
def SL.imp {l:List (List Int)}(h:SL S w v l)(hs:∀b,S b->T b):SL T w v l:=Sl.imp h hs fun _ _ ⟨u,e,hl⟩=>⟨u,e,Sl.imp hl hs fun _ _ x=>x⟩
def lF (c:A_)(s:List (Int×Int)):List (List Int):=(LU c).filter fun l=>BZ c l s
variable {s:List (Int×Int)}
def c64 (h:RC S w v1 v2 v3 v4 v5 c)(hs:SP S w v6 s)(hS:∀b,S b->b<w.heap.size)(Jz:BN c=0)(ER:Fs c.base.length s=0):
  Calls Lp 64 #[.agg #[v1,v2,v3,v4,v5],v6] w fun e w'=>Bl w w'/\((∃a cc,e=.returned (.tuple #[U a (lF c s).length cc,.int J 0])/\SL (fun x=>S x\/Cb w.heap.size w' x) w' (U a (lF c s).length cc) (lF c s))\/∃x,e=.panicked x/\PX x w'):=by
 obtain⟨a1,c1,rfl,_⟩:=h.base.val;obtain⟨a2,c2,rfl,_⟩:=h.Af.val;obtain⟨a3,c3,rfl,_⟩:=h.hooks.val;obtain⟨a4,c4,rfl,_⟩:=h.Aa.val;obtain⟨a5,c5,rfl,_⟩:=h.now.val;obtain⟨a6,c6,rfl,_⟩:=hs.val;have hv:=EG Jz;have HSG:=Zd (Ha ER);have HS0:=Zd ER;have Bg:Bl w (w.alloc (.cells #[U a1 c.base.length c1,U a2 c.Af.length c2,U a3 c.hooks.length c3,U a4 c.Aa.length c4,U a5 c.now.length c5] 26)):=bA (Zh _ _);have ez:=Zd (fun W hB=>Wt (w:=W) (h.later hB) (A3 hS hB) Jz);have lE:=Zd (fun W (hB:Bl w W)=>(Zcx (n:=0)).1 (aiM (w:=W) (h.later hB) (A3 hS hB) hv));unfold AW at lE;have T8:=Zd (fun W (hB:Bl w W)=>abe (w:=W) (h.later hB) (hs.later hB) (A3 hS hB) (Ax c.Aa 0) (Ax c.Aa 1) (Ax c.Aa 2));rw[ER]at T8;clear ER;go_enter Lp.func64,n64;go_wp2_with (first|(go_at_call 88;refine(ez.out _ Bg).mono ?_;rintro e w1 ⟨rfl,Bb⟩;have Bv:=Bg.trans (Bb.mono Bg.size))|(go_at_call 101;refine(T8.out _ (bA Bv)).mono ?_;rintro e w2 ⟨rfl,De⟩));obtain⟨ab,DU⟩:∃ab,ab=Ax c.Aa:=⟨_,rfl⟩;have mG:=Zd DU;rw[<-DU]at lE⊢;rw[<-DU]at De;clear DU ez T8;obtain⟨V,hV⟩:∃V,V=w1.alloc (.cells #[U a1 c.base.length c1,U a2 c.Af.length c2,U a3 c.hooks.length c3,U a4 c.Aa.length c4,U a5 c.now.length c5,I .u8 (ab 0),I .u8 (ab 1),I .u8 (ab 2)] 112):=⟨_,rfl⟩;rw[<-hV]at De;have hXV:V.heap[w1.heap.size]?=some (.cells #[U a1 c.base.length c1,U a2 c.Af.length c2,U a3 c.hooks.length c3,U a4 c.Aa.length c4,U a5 c.now.length c5,I .u8 (ab 0),I .u8 (ab 1),I .u8 (ab 2)] 112 (0,0)):=by rw[hV];exact Bp _ _
 have Ui:Bl w V:=by rw[hV];exact bA Bv
 have Ia:=(De.block _ (Za.1 hXV).1).trans hXV;have aq7:=bV Ui De;clear hV;have k0:=ch (i:=0) Ia rfl;have k1:=ch (i:=1) Ia rfl;have k2:=ch (i:=2) Ia rfl;have k3:=ch (i:=3) Ia rfl;have k4:=ch (i:=4) Ia rfl;have k5:=ch (i:=5) Ia rfl;have k6:=ch (i:=6) Ia rfl;have k7:=ch (i:=7) Ia rfl;obtain⟨K,Ig⟩:∃K:Nat->Prop,K=fun _=>False:=⟨_,rfl⟩;have LP:¬K w1.heap.size:=by rw[Ig];exact fun x=>x
 clear Ig;have g0:=fun p:Tw K w2=>p.cell k0 LP;have g1:=fun p:Tw K w2=>p.cell k1 LP;have g2:=fun p:Tw K w2=>p.cell k2 LP;have g3:=fun p:Tw K w2=>p.cell k3 LP;have g4:=fun p:Tw K w2=>p.cell k4 LP;have g5:=fun p:Tw K w2=>p.cell k5 LP;have g6:=fun p:Tw K w2=>p.cell k6 LP;have g7:=fun p:Tw K w2=>p.cell k7 LP;clear k0 k1 k2 k3 k4 k5 k6 k7;go_wp2;refine B0 (S:=fun W=>∃p:Tw K w2,W=p.v) [] [(false,2),(false,4),(false,5),(false,6)] [0,1,3] (by kernel_rfl) (fun _ _ d _ _ h=>by cases d<;>exact h) (by kernel_rfl) (A5 (Ak.later (Zh _ _).drew)) ?_;refine A4 _ _ (by kernel_rfl) ?_;simp only[Z6,zd,ZG,ZD,ZC]
 repeat (first|go_big_quiet_step (fail)|quiet_step (fail))
 refine Z4 ?_;clear g0 g1 g2 g3 g4 g5 g6 g7;change Dl _ _ _ _ _ _ _;have Uh:Bl w2 w2.drew:=(Zh _ _).drew;have Un:=bV aq7 Uh;refine Dd (f:=128) rfl rfl (by go_simp) ((lE.out _ Un).mono ?_);rintro e W3 ⟨v3,rfl,Cj,Vr⟩;obtain⟨x3,y3,rfl,_⟩:=Vr.val;have rp:=bV Un Cj;refine⟨_,rfl,.inr (A5 (Ak.later (bV Uh Cj))),?_⟩;have hzd:=Un.size;have Rb:=rp.size;have hN:(LU c).length<=125:=by
  have h1:=Zac (Ev c) (EH c);have h0:=H7 c.Aa (fun i hi=>by have:=hv.step i hi;omega);have h2:5^c.Aa.length<=5^3:=YX (by decide) hv.few.2;exact Zr h1 (Zr h0 h2)
 have oh:∀i,i<(LU c).length->(BM (LU c) i).length<=c.Aa.length/\∀j,j<(BM (LU c) i).length->-2<=nth (BM (LU c) i) j/\nth (BM (LU c) i) j<=2:=fun i hi=>by
  have hm:BM (LU c) i∈EH c:=(List.mem_filter.1 (Z3 (BJ hi))).1;obtain⟨m1,m2⟩:=WV hm;refine⟨by omega,fun j hj=>?_⟩;have h1:=m2 j hj;have h2:=hv.step j (by omega);omega
 have aq8:=Zd (xO (S:=fun b=>S b\/Cb w.heap.size W3 b) ((h.later rp).imp fun b hb=>.inl hb) hv (Vr.imp fun b hb=>.inr ⟨by have:=hb.1;omega,hb.2⟩) (Sl.imp (hs.later rp) (fun b hb=>.inl hb) fun _ _ x=>x) oh (by have:=HSG.out.1;omega) HSG.out.2 (by omega) (fun b hb=>by rcases hb with hb|hb;have:=hS b hb;omega;exact hb.2) (ab 0) (ab 1) (ab 2));refine cE (f:=104) rfl rfl (by go_simp) (aq8.out.mono ?_);rintro e W4 ⟨DM,⟨v4,rfl,NK⟩|⟨x,rfl,Ss⟩⟩
 .obtain⟨x4,y4,rfl,_⟩:=Sl.val NK
  have fC:∃p:Tw K w2,W4=p.v:=A5 (Ak.later (bV (bV Uh Cj) DM));refine .inl ⟨_,rfl,.inr fC,?_⟩;refine Dw (v:=.slice x4 (lF c s).length y4) rfl rfl (by go_simp;rfl) (.inr fC) ?_;refine Dw (v:=.int J 0) rfl rfl (by go_simp) (.inr fC) ?_;unfold Dl
  go_simp
  go_wp2;go_ret2;exact⟨bV rp DM,.inl ⟨_,_,rfl,SL.imp NK fun b hb=>by
   rcases hb with(hb|hb)|hb
   .exact .inl hb
   .exact .inr ⟨hb.1,Zl hb.2 DM.size⟩
   exact .inr ⟨Zr Rb hb.1.1,hb.1.2⟩⟩⟩
 exact .inr ⟨x,rfl,rfl,bV rp DM,.inr ⟨_,rfl,Ss⟩⟩
def Ol (hM:H6 c)(hl:Tc c l)(hi:i<c.base.length): -108<=nth (Cc c l) i/\nth (Cc c l) i<=108:=by
 have e:nth (Cc c l) i=measure c l i:=by
  have:=MU (l:=l) hi;rw[Bn (by simp[Cc];exact hi)]at this;exact ZW this
 rw[e];exact Md hM.valid (by have:=hl.1;omega) (fun k hk=>by have:=hl.2 k hk;have:=(hM.seam k (by have:=hl.1;omega)).step;omega) i
def vA (hn:s.length=n)(h:∀p∈s,0<=p.1/\p.1<=p.2/\p.2<=99):Fs n s=0:=by
 unfold Fs;rw[if_neg (by omega),if_neg (by omega)];exact F5 fun p hp=>Tb (h p hp)
def yr (w:Zb)(b:Nat)(lv:Zf)(d n:Nat)(e:Ending)(w':Zb):Prop:=∃(a:Option Addr) (cc:Nat) (s:List (Int×Int)) (d':Nat),e=.returned (U a s.length cc)/\LW b lv w d' w'/\d'<=d+100/\SP (Cb w.heap.size w') w' (U a s.length cc) s/\Fs n s=0
def c38 {d:Nat}(h:RC S w v1 v2 v3 v4 v5 c)(hS:∀x,S x->x<w.heap.size/\x≠b)(hn:SI Sn w lv nums)(E8:∀x,Sn x->x<w.heap.size/\x≠b)(hL:BK w b lv d)(hd:d+1000<4611686018427387904)(hM:H6 c):
  Calls Lp 38 #[.pointer (some ⟨b,0,none⟩),.agg #[v1,v2,v3,v4,v5]] w (yr w b lv d c.base.length):=by
 obtain⟨a1,c1,rfl,_⟩:=h.base.val;obtain⟨a2,c2,rfl,_⟩:=h.Af.val;obtain⟨a3,c3,rfl,_⟩:=h.hooks.val;obtain⟨a4,c4,rfl,_⟩:=h.Aa.val;obtain⟨a5,c5,rfl,_⟩:=h.now.val;have IX:=DJ;have hfw:=hM.few;have n8:=hM.Fp;obtain⟨W1,NL⟩:∃W1,W1=w.alloc (.cells #[U a1 c.base.length c1,U a2 c.Af.length c2,U a3 c.hooks.length c3,U a4 c.Aa.length c4,U a5 c.now.length c5] 26):=⟨_,rfl⟩;have lD:W1.heap[w.heap.size]?=some (.cells #[U a1 c.base.length c1,U a2 c.Af.length c2,U a3 c.hooks.length c3,U a4 c.Aa.length c4,U a5 c.now.length c5] 26 (0,0)):=by rw[NL];exact Bp _ _
 have Bg:Bl w W1:=by rw[NL];exact bA (Zh _ _)
 have GK:=hL.lt;have DR:=Bg.size;obtain⟨q,hq⟩:∃q,q=w.heap.size:=⟨_,rfl⟩;have M9:q<=w.heap.size/\w.heap.size<=q:=by omega
 rw[<-hq]at lD;have T6:=(Za.1 lD).1;obtain⟨K,Ig⟩:∃K:Nat->Prop,K=fun x=>x=b:=⟨_,rfl⟩;have fh:K b:=by rw[Ig]
 have Tg:¬K q:=by rw[Ig];intro x;omega
 have LP:∀x,x≠b->¬K x:=fun x hx=>by rw[Ig];exact hx
 clear Ig;have k0:=ch (i:=0) lD rfl;have k1:=ch (i:=1) lD rfl;have k2:=ch (i:=2) lD rfl;have k3:=ch (i:=3) lD rfl;have k4:=ch (i:=4) lD rfl;have g0:=fun p:Tw K W1=>p.cell k0 Tg;have g1:=fun p:Tw K W1=>p.cell k1 Tg;have g2:=fun p:Tw K W1=>p.cell k2 Tg;have g3:=fun p:Tw K W1=>p.cell k3 Tg;have g4:=fun p:Tw K W1=>p.cell k4 Tg;clear k0 k1 k2 k3 k4;go_enter Lp.func38,n38;go_wp2;rw[<-NL, <-hq];clear NL hq;refine B0 (S:=fun W=>∃p:Tw K W1,W=p.v) [] [(false,3),(false,4),(false,5)] [0,1,2] (by kernel_rfl) (fun _ _ d _ _ h=>by cases d<;>exact h) (by kernel_rfl) (A5 (Ak.later (Zh _ _).drew)) ?_;refine A4 _ _ (by kernel_rfl) ?_;simp only[Z6,zd,ZG,ZD,ZC]
 repeat (first|go_big_quiet_step (fail)|quiet_step (fail))
 refine Z4 ?_;clear g0 g1 g2 g3 g4;change Dl _ _ _ _ _ _ _;have Uh:Bl W1 W1.drew:=(Zh _ _).drew;have Un:=bU Bg Uh;have hzd:=Uh.size;refine Dd (f:=30) rfl rfl (by go_simp) ((c30 ((h.later Un)) (fun x hx=>⟨by have:=hS x hx;omega,(hS x hx).2⟩) (hn.later Un) (fun x hx=>⟨by have:=E8 x hx;omega,(E8 x hx).2⟩) (hL.later Un) (by omega) (by omega) (fun i hi=>by have:=(hM.seam i hi).step;omega)).mono ?_);rintro e W3 ⟨v3,l,d3,rfl,H4,hL3,hd3,Qm,Xc,ig⟩;obtain⟨p3,t3,rfl,_⟩:=Qm.val;have Ba:Tc c l:=⟨Xc,fun i hi=>⟨(ig i (by omega)).1,(ig i (by omega)).2 (hM.seam i (by omega)).step.2.1⟩⟩;have acI:Ak K W1 W3:=(Ak.later Uh).trans (H4.CN fh);refine⟨_,rfl,.inr (A5 acI),?_⟩;have Rb:=H4.size;have O9:=((h.later Un).Ar (H4.same fun x hx=>(hS x hx).2)).imp (T:=fun x=>x<W3.heap.size) fun x hx=>by have:=hS x hx;show x<_;omega
 have aiT:=Zd Ba;refine Dd (f:=47) rfl rfl (by go_simp) ((c47 O9 hM.valid (Sl.imp Qm (T:=fun x=>x<W3.heap.size) (fun x hx=>hx.2) fun _ _ x=>x) (by omega) (fun i hi=>by have:=aiT.out.2 i hi;have:=(hM.seam i (by have:=aiT.out.1;omega)).step;omega) fun x hx=>hx).mono ?_);rintro e W4 ⟨u,rfl,De,hu⟩;have NN:(Cc c l).length=c.base.length:=by simp[Cc]
 have HGB:=Zd (fun i (hi:i<c.base.length)=>Ol hM Ba hi);obtain⟨G,hG⟩:∃G,G=Cc c l:=⟨_,rfl⟩;rw[<-hG]at hu NN HGB;clear hG;obtain⟨ga,gc,rfl,_⟩:=hu.val;rw[NN]at hu⊢;have HGL:=Zd NN;have hz4:=De.size;have fC:Ak K W1 W4:=acI.uJ De;refine⟨_,rfl,.inr (A5 fC),?_⟩;refine Dw (v:=.slice ga c.base.length gc) rfl rfl (by go_simp) (.inr (A5 fC)) ?_;have Ks:=(fC.block q T6 Tg).trans lD;have acJ:B3 b w W4:=((B3.refl b w).below Un).trans ((H4.below De));have hL4:=hL3.later De;have aqi:=GK;have HE:=Zd (show∀W,B3 b W4 W->SP S W (U a2 c.Af.length c2) c.Af from fun W hU=>Sl.Ar h.Af ((acJ.trans hU).same fun x hx=>(hS x hx).2) fun _ _ x=>x);have HGS:=Zd (show∀W,B3 b W4 W->SI (Cb W3.heap.size W4) W (U ga c.base.length gc) G from fun W hU=>hu.Ar (hU.same fun x hx e=>by have:=hx.1;omega));have tX:=hn.Ar (acJ.same fun x hx=>(E8 x hx).2);have rW:=Zd (fun W d lo hi hL hd h1 h2=>abV (w:=W4) (W:=W) (d:=d) (lo:=lo) (hi:=hi) tX (fun x hx=>⟨by have:=E8 x hx;omega,(E8 x hx).2⟩) hL hd h1 h2);have iG:=Zd (fun W d n hL hd h2=>abW (w:=W4) (W:=W) (d:=d) (n:=n) tX (fun x hx=>⟨by have:=E8 x hx;omega,(E8 x hx).2⟩) hL hd h2);have H99:=Zd (fun W d n hL hd h2=>abX (w:=W4) (W:=W) (d:=d) (n:=n) tX (fun x hx=>⟨by have:=E8 x hx;omega,(E8 x hx).2⟩) hL hd h2);have H98:=Zd (fun W d s hL hd h1 h2=>abY (w:=W4) (W:=W) (d:=d) (s:=s) tX (fun x hx=>⟨by have:=E8 x hx;omega,(E8 x hx).2⟩) hL hd h1 h2);unfold Dl;clear O9 acI H4 Uh Un hL3 hu NN ig Xc Ba Qm fC tX aqi
 go_simp
 go_wp2;obtain⟨i8i,i8h,i80,i81,i82⟩:=zp Wu;go_loopg [6,7] c.base.length (fun gg ov i wr=>∃(k dk:Nat) (oa:Option Addr) (oc:Nat) (s:List (Int×Int)),k<=c.base.length/\gg=c.base.length - k/\i=.int J k/\s.length=k/\ov=.slice oa k oc/\dk<=d3+5*k/\B3 b W4 wr/\BK wr b lv dk/\Ih wr W4.heap.size (U oa k oc) s 80/\∀p∈s,0<=p.1/\p.1<=p.2/\p.2<=99)
 case atStart=>exact⟨0,d3,none,0,[],Zp _,rfl,rfl,rfl,rfl,Zj _,B3.refl _ _,hL4,zq _ _ _ _,fun p hp=>by cases hp⟩
 obtain⟨k,dk,oa,oc,s,hk,rfl,rfl,hsk,rfl,jF,hU,oJ,AX,rU⟩:=hrel;have hXk:=hU.at_ Ks (by omega);have yu:=Zd hsk;clear hsk;have hzk:=hU.size;by_cases Az:k<c.base.length
 .have T5:k<c.Af.length:=by have:=hM.PN;omega
  have hkg:k<G.length:=by have:=HGL.out;omega
  obtain⟨b1,o1,ee,FD,tN⟩:=((HGS.out _ hU):SI _ _ _ _)|>fun h=>(by rw[<-HGL.out]at h;exact h.at_ hkg);subst ee;obtain⟨b2,o2,ee,EC,lW,jZ⟩:=(HE.out _ hU).at_ T5;subst ee;have hGk:=HGB.out k Az;have hEk:=hM.Af _ (Z3 (EE T5));obtain⟨gv,hgv⟩:∃gv,gv=nth G k:=⟨_,rfl⟩;obtain⟨el,hel⟩:∃el,el=(BV c.Af k).1:=⟨_,rfl⟩;obtain⟨em,hem⟩:∃em,em=(BV c.Af k).2:=⟨_,rfl⟩;rw[<-hgv]at tN hGk;rw[<-hel]at lW hEk;rw[<-hem]at jZ hEk;clear hgv hel hem;have hk1:(k:Int)<(c.base.length:Int):=by omega
  have hk2:(k:Int)<(c.Af.length:Int):=by omega
  have kq:(0:Int)<=(k:Int):=by omega
  have aqm:¬K b1:=LP b1 (by have:=FD.1;omega);have vB:¬K b2:=LP b2 (hS b2 EC).2;have r0:=fun p:Tw K wr=>p.cell (ch (i:=1) hXk (v:=.slice (some ⟨b2,o2,none⟩) c.Af.length c2) rfl) Tg;have r1:=fun p:Tw K wr=>p.cell tN aqm;have r2:=fun p:Tw K wr=>p.cell lW vB;have r3:=fun p:Tw K wr=>p.cell jZ vB;go_wp2;refine G7 (S:=fun W=>∃p:Tw K wr,W=p.v) 18 [] [(true,10),(false,13),(false,14),(false,15),(false,16),(false,17)] [0,1,2,3,4,5,6,7,8,9,11,12] (by kernel_rfl) (fun _ _ d _ _ h=>by cases d<;>exact h) (by kernel_rfl) (A5 (Ak.later (Zh _ _).drew)) ?_;refine A4 _ _ (by kernel_rfl) ?_;simp only[Z6,zd,ZG,ZD,ZC]
  repeat (first|go_big_quiet_step (fail)|quiet_step (fail))
  refine Z4 ?_;change H2 _ _ _ _ _ _ _ _;obtain⟨V0,tY⟩:∃V0,V0=wr.drew:=⟨_,rfl⟩;have mO:Bl wr V0:=by rw[tY];exact(Zh _ _).drew
  rw[<-tY];clear tY;have aW:Ak K wr V0:=Ak.later mO;have aiW:LW b lv W4 dk V0:=⟨hU.below mO,oJ.later mO⟩;obtain⟨lo,mK⟩:∃lo,lo=gv - em:=⟨_,rfl⟩;have aqn: -200<=lo/\lo<=200:=by omega
  have hw0:IntKind.i64.wrap (gv - em)=lo:=by rw[zE,mK];omega
  clear mK;refine Wz (v:=.int J lo) (A5 aW) rfl rfl (fun w _=>by go_simp) ?_;clear hw0;refine Iy (f:=61) rfl rfl (by go_simp) ((rW.out V0 dk (-3) 3 aiW (by omega) (by omega) (by omega)).mono ?_);rintro e V1 ⟨x1,d1,rfl,MF,Na,fq,hd1⟩;have Kd:=aW.trans (Na.CN fh);refine⟨_,rfl,.inr (A5 Kd),?_⟩;have WQ:=Kd.uJ (bA (o:=.cells #[.int J 0,.int J 0,.int J 0,.int J (-3+(x1:Int))] 3) (Zh _ _));refine EY (v:=.slice (some ⟨V1.heap.size,0,none⟩) 4 4) (w':=V1.alloc (.cells #[.int J 0,.int J 0,.int J 0,.int J (-3+(x1:Int))] 3)) rfl rfl (by go_simp) (.inr (A5 WQ)) ?_;refine Iy (f:=98) rfl rfl (by go_simp) ((H98.out V1 _ [0,0,0,-3+(x1:Int)] fq (by omega) (by simp) (by simp)).mono ?_);rintro e V2 ⟨x2,d2,rfl,mH,Ot,M7,hd2⟩;have D3:=WQ.trans (Ot.CN fh);refine⟨_,rfl,.inr (A5 D3),?_⟩;obtain⟨y,hy,hy2⟩:∃y,y=nth [0,0,0,-3+(x1:Int)] x2/\(-3<=y/\y<=3):=⟨_,rfl,by
   have:x2=0\/x2=1\/x2=2\/x2=3:=by simp at mH;omega
   rcases this with rfl|rfl|rfl|rfl<;>simp[nth]<;>omega⟩
  rw[<-hy];clear hy;obtain⟨l1,T2⟩:∃l1,l1=lo+y:=⟨_,rfl⟩;have ayI: -210<=l1/\l1<=210:=by omega
  have lX:IntKind.i64.wrap (lo+y)=l1:=by rw[zE,T2];omega
  clear T2;refine EY (v:=.int J l1) (w':=V2) rfl rfl (by go_simp) (.inr (A5 D3)) ?_;refine EY (v:=.int J l1) (w':=V2) rfl rfl (by go_simp) (.inr (A5 D3)) ?_;clear lX aqn hy2;unfold H2
  go_simp
  have Vn:Bl V1 (V1.alloc (.cells #[.int J 0,.int J 0,.int J 0,.int J (-3+(x1:Int))] 3)):=bA (Zh _ _);have vC:B3 b wr V2:=((((B3.refl b wr).below mO).trans Na).below Vn).trans Ot;have Cm:=D2 (Fu (D2 (Fu AX mO) Na (by omega:b<W4.heap.size)) Vn) Ot (by omega:b<W4.heap.size);have S5:=hU.trans vC;have ayJ:=vC.size;have z0:=fun p:Tw K V2=>p.cell (ch (i:=1) (vC.at_ hXk (by omega)) (v:=.slice (some ⟨b2,o2,none⟩) c.Af.length c2) rfl) Tg;have Ts:=vC.same (T:=fun x=>x≠b) (fun _ h=>h);have z2:=fun p:Tw K V2=>p.cell (Ts.cell (by exact(hS b2 EC).2) lW) vB;have z3:=fun p:Tw K V2=>p.cell (Ts.cell (by exact(hS b2 EC).2) jZ) vB;clear r0 r1 r2 r3 aW Kd WQ D3 Na Ot aiW fq AX mO Vn tN lW jZ oJ;go_wp2;refine G7 (S:=fun W=>∃p:Tw K V2,W=p.v) 18 [] [(true,14),(false,15),(false,16),(false,17)] [0,1,2,3,4,5,6,7,8,9,10,11,12,13] (by kernel_rfl) (fun _ _ d _ _ h=>by cases d<;>exact h) (by kernel_rfl) (A5 (Ak.later (Zh _ _).drew)) ?_;refine A4 _ _ (by kernel_rfl) ?_;simp only[Z6,zd,ZG,ZD,ZC]
  repeat (first|go_big_quiet_step (fail)|quiet_step (fail))
  refine Z4 ?_;change H2 _ _ _ _ _ _ _ _;clear z0 z2 z3;have ry:Bl V2 V2.drew:=(Zh _ _).drew;have D3:Ak K V2 V2.drew:=Ak.later ry;have aiX:=M7.below ry;obtain⟨ed,hed⟩:∃ed,ed=em - el:=⟨_,rfl⟩;have ayK:0<=ed/\ed<=10:=by omega
  have hw0:IntKind.i64.wrap (em - el)=ed:=by rw[zE,hed];omega
  clear hed;refine Wz (v:=.int J ed) (A5 D3) rfl rfl (fun w _=>by go_simp) ?_;clear hw0;refine Iy (f:=29) rfl rfl (by go_simp) ((iG.out _ d2 ed aiX (by omega) (by omega)).mono ?_);rintro e V3 ⟨x3,d4,rfl,U4,H4,k_,hd4⟩;have Ou:=D3.trans (H4.CN fh);refine⟨_,rfl,.inr (A5 Ou),?_⟩;obtain⟨h1,hh1⟩:∃h1,h1=l1+(x3:Int):=⟨_,rfl⟩;have ayL:l1<=h1/\h1<=300:=by omega
  have lX:IntKind.i64.wrap (l1+(x3:Int))=h1:=by rw[zE,hh1];omega
  clear hh1;refine EY (v:=.int J h1) (w':=V3) rfl rfl (by go_simp) (.inr (A5 Ou)) ?_;refine EY (v:=.int J h1) (w':=V3) rfl rfl (by go_simp) (.inr (A5 Ou)) ?_;clear lX;unfold H2
  go_simp
  have aiY:=((B3.refl b V2).below ry).trans H4;have aiZ:=D2 (Fu Cm ry) H4 (by omega:b<W4.heap.size);have cN:=S5.trans aiY;have ayM:=aiY.size;clear D3 Ou H4 Cm ry aiX M7;go_wp2;refine(H99.out _ d4 8 k_ (by omega) (by omega)).mono ?_;rintro e V4 ⟨rb,d5,rfl,Xp,ld,hd5⟩;have rz:=D2 aiZ Xp (by omega:b<W4.heap.size);have hU7:=cN.trans Xp;have ayN:=Xp.size;have M8:k<=3:=by omega
  have rA:V4.ownsRow W4.heap.size 80 2 (U oa k oc) k (s.flatMap fun p=> [ZL J p.1,.int J p.2]):=by have:=rz;unfold Ih at this;rwa[yu.out]at this
  have hw9:IntKind.i64.wrap (h1+1)=h1+1:=by rw[zE];omega
  cases rb with
  |false=>
   go_wp2_with (at_builtin;refine Yc _ rfl _ _ 23 rfl W4.heap.size 80 i8i (.agg #[.int J 0,.int J 0]) 2 16 (Cz Zdg) (Dz i8h) i80 i81 i82 rfl (by decide) (U oa k oc) k (s.flatMap fun p=> [ZL J p.1,.int J p.2]) rfl (Ya rA _) ⟨V4.heap.size,0,none⟩ 1 1 [.int J (max 0 (min l1 99)),.int J (max 0 (min h1 99))] rfl rfl (Hc _ _ _) (by intro u hu;simp at hu;rcases hu with rfl|rfl<;>rfl) (by unfold maxLen;omega) (by omega) (by simp;omega) ?_;intro v9 w9 hv9 r_ acM);have Em:=J3 rz;have pY:B3 b W4 w9:=(hU7.below (bA (Zh _ _))).grown r_ fun x hx=>(Em x hx).1;have hL9:BK w9 b lv d5:=(ld.alloc _).E4.of (r_.block b (ld.alloc _).E4.lt (fun e=>by have:=(Em b e.symm).1;omega));have hO9:Ih w9 W4.heap.size v9 (s++ [(max 0 (min l1 99),max 0 (min h1 99))]) 80:=by unfold Ih;rw[ZA,yu.out,Zbe];exact hv9
   have hpq:0<=max 0 (min l1 99)/\max 0 (min l1 99)<=max 0 (min h1 99)/\max 0 (min h1 99)<=99:=by omega
   obtain⟨g9,aqo,rfl⟩:=Zay hv9;have Qs:=Zd (ZY pY (ZY hL9 (ZY hO9 hpq)));clear pY hL9 hO9 hpq hv9 r_ acM Em;go_roundg (c.base.length - (k+1))
   case rel=>exact⟨k+1,d5,_,_,s++ [(max 0 (min l1 99),max 0 (min h1 99))],Az,rfl,by go_num,by rw[ZA,yu.out];rfl,rfl,by omega,Qs.out.1,Qs.out.2.1,Qs.out.2.2.1,fun p hp=>by rcases Zab.1 hp with h|h;exact rU p h;rw[Yh.1 h];exact Qs.out.2.2.2⟩
   case measure=>omega
  |true=>
   go_wp2_with (at_builtin;refine Yc _ rfl _ _ 23 rfl W4.heap.size 80 i8i (.agg #[.int J 0,.int J 0]) 2 16 (Cz Zdg) (Dz i8h) i80 i81 i82 rfl (by decide) (U oa k oc) k (s.flatMap fun p=> [ZL J p.1,.int J p.2]) rfl (Ya rA _) ⟨V4.heap.size,0,none⟩ 1 1 [.int J (max 0 (min l1 99)),.int J (max 0 (min (h1+1) 99))] rfl rfl (Hc _ _ _) (by intro u hu;simp at hu;rcases hu with rfl|rfl<;>rfl) (by unfold maxLen;omega) (by omega) (by simp;omega) ?_;intro v9 w9 hv9 r_ acM);have Em:=J3 rz;have pY:B3 b W4 w9:=(hU7.below (bA (Zh _ _))).grown r_ fun x hx=>(Em x hx).1;have hL9:BK w9 b lv d5:=(ld.alloc _).E4.of (r_.block b (ld.alloc _).E4.lt (fun e=>by have:=(Em b e.symm).1;omega));have hO9:Ih w9 W4.heap.size v9 (s++ [(max 0 (min l1 99),max 0 (min (h1+1) 99))]) 80:=by unfold Ih;rw[ZA,yu.out,Zbe];exact hv9
   have hpq:0<=max 0 (min l1 99)/\max 0 (min l1 99)<=max 0 (min (h1+1) 99)/\max 0 (min (h1+1) 99)<=99:=by omega
   obtain⟨g9,aqo,rfl⟩:=Zay hv9;have Qs:=Zd (ZY pY (ZY hL9 (ZY hO9 hpq)));clear pY hL9 hO9 hpq hv9 r_ acM Em;go_roundg (c.base.length - (k+1))
   case rel=>exact⟨k+1,d5,_,_,s++ [(max 0 (min l1 99),max 0 (min (h1+1) 99))],Az,rfl,by go_num,by rw[ZA,yu.out];rfl,rfl,by omega,Qs.out.1,Qs.out.2.1,Qs.out.2.2.1,fun p hp=>by rcases Zab.1 hp with h|h;exact rU p h;rw[Yh.1 h];exact Qs.out.2.2.2⟩
   omega
 have hkn:k=c.base.length:=by omega
 subst hkn;have Jv:SP (Cb w.heap.size wr) wr (U oa c.base.length oc) s:=Sl.imp (AX.tt (.inr (.inr rfl))) (fun x hx=>⟨by have:=hx.1;omega,hx.lt⟩) fun _ _ x=>x;have HF:=Zd (show yr w b lv d c.base.length (.returned (U oa c.base.length oc)) wr from⟨oa,oc,s,dk,by rw[yu.out],⟨acJ.trans hU,oJ⟩,by omega,by rw[yu.out];exact Jv,vA yu.out rU⟩);clear Jv AX rU hU oJ hXk;go_wp2;go_ret;exact HF.out
def aax (a b:List Int)(r:Int)(i:Nat):Int:=r+max (nth a i - nth b i) (nth b i - nth a i)
def aav (a b:List Int):Int:=(Yr a.length).foldl (aax a b) 0
variable {α:Type}
def aaC {f:α->Nat->α}{r:α}(h:k<n):((Yr n).drop k).foldl f r=((Yr n).drop (k+1)).foldl f (f r k):=by
 rw[ZO (by simpa using h)];simp
def aaZ {f:α->Nat->α}{r:α}(h:n<=k):((Yr n).drop k).foldl f r=r:=by
 rw[Z7.2 (by simpa using h)]
 rfl
def aaD {a b:List Int}(ha:∀i,i<a.length->-2<=nth a i/\nth a i<=2)(hb:∀i,i<a.length->-2<=nth b i/\nth b i<=2):∀(k:Nat),k<=a.length->0<=((Yr a.length).take k).foldl (aax a b) 0/\((Yr a.length).take k).foldl (aax a b) 0<=4*k
 |0,_=>⟨Int.le_refl _,Int.le_refl _⟩
 |k+1,h=>by
  obtain⟨h1,h2⟩:=aaD ha hb k (Zbb h);have e:((Yr a.length).take (k+1)).foldl (aax a b) 0=aax a b (((Yr a.length).take k).foldl (aax a b) 0) k:=by
   rw[ZbH,List.foldl_append,List.getElem?_range (by omega)]
   rfl
  rw[e];have h3:=ha k (by omega);have h4:=hb k (by omega);generalize ((Yr a.length).take k).foldl (aax a b) 0=x at h1 h2⊢;change 0<=x+max (nth a k - nth b k) (nth b k - nth a k)/\x+max (nth a k - nth b k) (nth b k - nth a k)<=4*((k+1:Nat):Int);constructor<;>omega
def abh {b:List Int}(ha:∀i,i<a.length->-2<=nth a i/\nth a i<=2)(hb:∀i,i<a.length->-2<=nth b i/\nth b i<=2):0<=aav a b/\aav a b<=4*a.length:=by
 have:=aaD ha hb a.length (Zj _);rw[Zb3 (by simp)]at this;exact this
def c79 {u:Zf}{b:List Int}(ha:SI S w v a)(hb:SI T w u b)(DU:a.length<=b.length)(hn:a.length<=3)(ha2:∀i,i<a.length->-2<=nth a i/\nth a i<=2)(EC:∀i,i<a.length->-2<=nth b i/\nth b i<=2):
  Calls Lp 79 #[v,u] w fun e w'=>e=.returned (.int J (aav a b))/\∃m,w'=w.drewN m:=by
 obtain⟨a1,c1,rfl,l1,m1⟩:=ha.val;obtain⟨a2,c2,rfl,l2,m2⟩:=hb.val;have IX:=DJ;have HE:=Zd (show aav a b=((Yr a.length).drop 0).foldl (aax a b) 0 from rfl);obtain⟨R,hR⟩:∃R,R=aav a b:=⟨_,rfl⟩;rw[<-hR]at HE⊢;clear hR;have HA:=Zd ha2;have HB:=Zd EC;clear ha2 EC;go_enter Lp.func79,n79;go_wp2;go_loopg [5,6] a.length (fun gg sv i wr=>∃(k n:Nat) (s:Int),k<=a.length/\gg=a.length - k/\i=.int J k/\sv=.int J s/\0<=s/\s<=4*k/\((Yr a.length).drop k).foldl (aax a b) s=R/\wr=w.drewN n)
 case atStart=>exact⟨0,0,0,Zp _,rfl,rfl,rfl,Int.le_refl _,Int.le_refl _,HE.out.symm,rfl⟩
 obtain⟨k,n,s,hk,rfl,rfl,rfl,MM,LO,CP,rfl⟩:=hrel;have hf:=Zd CP;clear CP;by_cases Az:k<a.length
 .obtain⟨b1,o1,rfl,FD,x1⟩:=ha.at_ Az
  obtain⟨b2,o2,rfl,EC,x2⟩:=hb.at_ (show k<b.length by omega);have mH:=HA.out k Az;have hy2:=HB.out k Az;have hd:=Zd (aaC (f:=aax a b) (r:=s) Az);have hd2:=Zd (show aax a b s k=s+max (nth a k - nth b k) (nth b k - nth a k) from rfl);obtain⟨x,hx⟩:∃x,x=nth a k:=⟨_,rfl⟩;obtain⟨y,hy⟩:∃y,y=nth b k:=⟨_,rfl⟩;rw[<-hx]at x1 mH hd2;rw[<-hy]at x2 hy2 hd2;clear hx hy;have TB:(k:Int)<(a.length:Int):=by omega
  have hkb:(k:Int)<(b.length:Int):=by omega
  have lX:IntKind.i64.wrap (x - y)=x - y:=by rw[zE];omega
  have nj:IntKind.i64.wrap (y - x)=y - x:=by rw[zE];omega
  have hw3:IntKind.i64.wrap (s+max (x - y) (y - x))=s+max (x - y) (y - x):=by rw[zE];omega
  go_wp2;go_quiet (fail);go_wp2;go_roundg (a.length - (k+1))
  case rel=>exact⟨k+1,n+nq,s+max (x - y) (y - x),by omega,rfl,by go_num,rfl,by omega,by omega,by rw[<-hf.out,hd.out,hd2.out],by simp⟩
  omega
 have HR:=Zd (show s=R by rw[<-hf.out,aaZ (by omega)]);go_wp2;go_ret;exact⟨by rw[HR.out];rfl,n,rfl⟩
def aaE (c:A_)(l:List Int):Nat×Int:=((AB (DS c l)).length,aav l c.now)
def aaz (x y:Nat×Int):Bool:=decide (x.1<y.1)||(decide (x.1=y.1)&&decide (x.2<y.2))
def aaH (c:A_)(o:Option (List Int))(l:List Int):Option (List Int):=
 match o with
 |none=>some l
 |some b=>if aaz (aaE c l) (aaE c b)=true then some l else some b
def aaA (c:A_)(F:List (List Int)):Option (List Int):=F.foldl (aaH c) none
def abN (c:A_)(F:List (List Int))(l:List Int):aaA c (F++ [l])=aaH c (aaA c F) l:=by
 unfold aaA;rw[List.foldl_append]
 rfl
variable {F:List (List Int)}
def abj (c:A_)(h:k<F.length):aaA c (F.take (k+1))=aaH c (aaA c (F.take k)) (BM F k):=by
 rw[ZbH,BJ h];exact abN c _ _
def abv (c:A_):∀(F:List (List Int)) (o:Option (List Int)) (b:List Int),F.foldl (aaH c) o=some b->b∈F\/o=some b
 | [],o,b,h=>.inr h
 |l::r,o,b,h=>by
  rcases abv c r _ b h with h1|h1
  .exact .inl (zm _ h1)
  unfold aaH at h1;split at h1
  .injection h1 with h1
   exact .inl (h1▸zC ..)
  split at h1
  .injection h1 with h1
   exact .inl (h1▸zC ..)
  exact .inr h1
def aaF (c:A_):∀(r:List (List Int)) (x:List Int),∃b,r.foldl (aaH c) (some x)=some b
 | [],x=>⟨x,rfl⟩
 |l::r,x=>by
  rw[List.foldl_cons];unfold aaH;dsimp only;split
  .exact aaF c r l
  exact aaF c r x
def abR (c:A_)(h:F≠ []):∃b,aaA c F=some b/\b∈F:=by
 cases F with
 |nil=>exact absurd rfl h
 |cons x r=>
  obtain⟨b,hb⟩:=aaF c r x;refine⟨b,hb,?_⟩;rcases abv c r (some x) b hb with h1|h1
  .exact zm _ h1
  injection h1 with h1
  rw[h1];exact zC ..
def aby (c:A_)(l:List Int):Int:=100*((AB (DS c l)).length:Int)+aav l c.now
def aaG (c:A_)(F:List (List Int))(k:Nat)(ai be:Zf):Prop:=
 (aaA c (F.take k)=none/\ai=.int J (-1)/\be=.int J 0)\/∃i:Nat,i<k/\aaA c (F.take k)=some (BM F i)/\ai=.int J i/\be=.int J (aby c (BM F i))
def abS {x y:Nat×Int}(hx:0<=x.2/\x.2<100)(hy:0<=y.2/\y.2<100):aaz x y=decide (100*(x.1:Int)+x.2<100*(y.1:Int)+y.2):=by
 unfold aaz;rw[ZcG];simp only[ZaK,ZF,decide_eq_true_eq];constructor
 .rintro(h|⟨h1,h2⟩)<;>omega
 intro h;by_cases h1:x.1<y.1
 .exact .inl h1
 exact .inr ⟨by omega,by omega⟩
variable {p1 p2:Option Addr}
def ade (a b:Nat)(x y:Int)(w:Zb):Calls Lp 137 #[.agg #[U p1 n1 k1,.int J a,.int J x],.agg #[U p2 n2 k2,.int J b,.int J y]] w fun e w'=>e=.returned (.bool (aaz (a,x) (b,y)))/\Bl w w':=by
 have HB:=Zd (show Bl w ((w.alloc (.cells #[U p1 n1 k1,.int J a,.int J x] 171)).alloc (.cells #[U p2 n2 k2,.int J b,.int J y] 171)) from bA (bA (Zh _ _)));have FD:b<0+b+1:=by omega
 by_cases h1:a<b
 .have h1i:(a:Int)<(b:Int):=by omega
  have HL:=Zd (show aaz (a,x) (b,y)=true by simp[aaz,h1]);clear h1 FD;go_enter Lp.func137,ac7;go_wp2;go_ret;exact⟨by rw[HL.out];rfl,HB.out⟩
 have h1i:¬(a:Int)<(b:Int):=by omega
 by_cases h2:a=b
 .subst h2
  by_cases h3:x<y
  .have HL:=Zd (show aaz (a,x) (a,y)=true by simp[aaz,h3])
   clear h1 FD;go_enter Lp.func137,ac7;go_wp2;go_ret;exact⟨by rw[HL.out];rfl,HB.out⟩
  have HL:=Zd (show aaz (a,x) (a,y)=false by simp[aaz,h3]);clear h1 FD;go_enter Lp.func137,ac7;go_wp2;go_ret;exact⟨by rw[HL.out];rfl,HB.out⟩
 have h2i:((a:Int)==(b:Int))=false:=by simp;omega
 have HL:=Zd (show aaz (a,x) (b,y)=false by simp[aaz,h1,h2]);clear h1 h2 FD;go_enter Lp.func137,ac7;go_wp2;go_ret;exact⟨by rw[HL.out];rfl,HB.out⟩
abbrev abk (lv:Zf)(m:Nat)(t:Int)(sm:Bool):Array Zf:= #[.func (.func 137) #[] #[],lv,.int J m,.int J t,.bool sm]
def adf {q:Nat}{a:Nat}{x y:Int}{sm:Bool}(hX:w.heap[q]?=some (.cells (abk (U p2 n2 k2) b y sm) 174 (0,0))):
  Calls Lp 138 #[.pointer (some ⟨q,0,none⟩),.agg #[U p1 n1 k1,.int J a,.int J x]] w fun e w'=>e=.returned (.tuple #[])/\Ak (fun x=>x=q) w w'/\
   w'.heap[q]?=some (.cells (if(!sm||aaz (a,x) (b,y))=true then abk (U p1 n1 k1) a x true else abk (U p2 n2 k2) b y sm) 174 (0,0)):=by
 have IX:=DJ;obtain⟨V,hV⟩:∃V,V=w.alloc (.cells #[U p1 n1 k1,.int J a,.int J x] 171):=⟨_,rfl⟩;have Ui:Bl w V:=by rw[hV];exact bA (Zh _ _)
 have hqw:=(Za.1 hX).1;have hXV:=(Ui.block _ hqw).trans hX;have hZV:V.heap[w.heap.size]?=some (.cells #[U p1 n1 k1,.int J a,.int J x] 171 (0,0)):=by rw[hV];exact Bp _ _
 have acr:=Zd (fun W=>ade (p1:=p1) (p2:=p2) (n1:=n1) (n2:=n2) (k1:=k1) (k2:=k2) a b x y W);obtain⟨L,hL⟩:∃L,L=aaz (a,x) (b,y):=⟨_,rfl⟩;rw[<-hL]at acr⊢;clear hL;go_enter Lp.func138,ad9;go_wp2;rw[<-hV];clear hV;obtain⟨z,hz⟩:∃z,z=w.heap.size:=⟨_,rfl⟩;rw[<-hz]at hZV⊢;have HZ:=Zd hz;clear hz;have z0:=fun p=>Al p (ch (i:=0) hXV (v:=.func (.func 137) #[] #[]) rfl);have z1:=fun p=>Al p (ch (i:=1) hXV (v:=.slice p2 n2 k2) rfl);have z2:=fun p=>Al p (ch (i:=2) hXV (v:=.int J b) rfl);have z3:=fun p=>Al p (ch (i:=3) hXV (v:=.int J y) rfl);have z4:=fun p=>Al p (ch (i:=4) hXV (v:=.bool sm) rfl);have y0:=fun p=>Al p (ch (i:=0) hZV (v:=.slice p1 n1 k1) rfl);have y1:=fun p=>Al p (ch (i:=1) hZV (v:=.int J a) rfl);have y2:=fun p=>Al p (ch (i:=2) hZV (v:=.int J x) rfl);cases sm with
 |false=>
  go_wp2;refine Av (by kernel_rfl) (by kernel_rfl) ?_
  repeat (first|go_big_quiet_step (fail)|quiet_step (fail))
  refine Z4 ?_;rintro _ ⟨p,rfl⟩;have yw:=AE V p;obtain⟨Y,hY⟩:∃Y,Y=calm V p:=⟨_,rfl⟩;rw[<-hY]at yw⊢;clear hY z0 z1 z2 z3 z4 y0 y1 y2;have hXY:=(yw.block _ (Za.1 hXV).1).trans hXV;have hZY:=(yw.block _ (Za.1 hZV).1).trans hZV;have y0:=ch (i:=0) hZY (v:=.slice p1 n1 k1) rfl;have y1:=ch (i:=1) hZY (v:=.int J a) rfl;have y2:=ch (i:=2) hZY (v:=.int J x) rfl;have x1:=ch (i:=1) hXY (v:=.slice p2 n2 k2) rfl;have x2:=ch (i:=2) hXY (v:=.int J b) rfl;have x3:=ch (i:=3) hXY (v:=.int J y) rfl;have x4:=ch (i:=4) hXY (v:=.bool false) rfl;have f1:=cf (i:=1) hXY;have f2:=cf (i:=2) hXY;have f3:=cf (i:=3) hXY;have f4:=cf (i:=4) hXY;go_wp2;refine bodyPost_end (results_none rfl _ _ _) rfl ?_;have hT:Ak (fun x=>x=q) w Y:=(Ak.later Ui).uJ yw;exact⟨rfl,(((hT.set rfl).set rfl).set rfl).set rfl,Ba (i:=4) (Ba (i:=3) (Ba (i:=2) (Ba (i:=1) hXY (U p1 n1 k1)) (.int J a)) (.int J x)) (.bool true)⟩
 |true=>
  go_wp2;refine Av (by kernel_rfl) (by kernel_rfl) ?_
  repeat (first|go_big_quiet_step ((go_at_call 137;exact AV (acr.out _)))|quiet_step ((go_at_call 137;exact AV (acr.out _))))
  refine Z4 ?_;rintro _ ⟨p,rfl⟩;have yw:=AE V p;obtain⟨Y,hY⟩:∃Y,Y=calm V p:=⟨_,rfl⟩;rw[<-hY]at yw⊢;clear hY z0 z1 z2 z3 z4 y0 y1 y2;have hXY:=(yw.block _ (Za.1 hXV).1).trans hXV;have hZY:=(yw.block _ (Za.1 hZV).1).trans hZV;have y0:=ch (i:=0) hZY (v:=.slice p1 n1 k1) rfl;have y1:=ch (i:=1) hZY (v:=.int J a) rfl;have y2:=ch (i:=2) hZY (v:=.int J x) rfl;have x1:=ch (i:=1) hXY (v:=.slice p2 n2 k2) rfl;have x2:=ch (i:=2) hXY (v:=.int J b) rfl;have x3:=ch (i:=3) hXY (v:=.int J y) rfl;have x4:=ch (i:=4) hXY (v:=.bool true) rfl;have f1:=cf (i:=1) hXY;have f2:=cf (i:=2) hXY;have f3:=cf (i:=3) hXY;have f4:=cf (i:=4) hXY;cases L with
  |true=>
   go_wp2;refine bodyPost_end (results_none rfl _ _ _) rfl ?_;have hT:Ak (fun x=>x=q) w Y:=(Ak.later Ui).uJ yw;exact⟨rfl,(((hT.set rfl).set rfl).set rfl).set rfl,Ba (i:=4) (Ba (i:=3) (Ba (i:=2) (Ba (i:=1) hXY (U p1 n1 k1)) (.int J a)) (.int J x)) (.bool true)⟩
  |false=>
   go_wp2;refine bodyPost_end (results_none rfl _ _ _) rfl ?_;exact⟨rfl,(Ak.later Ui).uJ yw,hXY⟩
def acv (c:A_)(v:Zf):Option (List Int)->Zf
 |none=>.tuple #[U none 0 0,.int J 0,.int J 11]
 |some l=>.tuple #[v,.int J (AB (DS c l)).length,.int J 0]
def abU (S:Nat->Prop)(W:Zb)(q:Nat)(c:A_)(o:Option (List Int)):Prop:=
 ∃(p:Option Addr) (n k m:Nat) (t:Int),W.heap[q]?=some (.cells (abk (U p n k) m t o.isSome) 174 (0,0))/\∀l,o=some l->n=l.length/\SI S W (U p n k) l/\(m,t)=aaE c l
def c77 (h:RC S w v1 v2 v3 v4 v5 c)(hs:SP S w v6 s)(hS:∀b,S b->b<w.heap.size)(Jz:BN c=0)(ER:Fs c.base.length s=0):
  Calls Lp 77 #[.agg #[v1,v2,v3,v4,v5],v6] w fun e w'=>Bl w w'/\((∃v,e=.returned (acv c v (aaA c (lF c s)))/\∀l,aaA c (lF c s)=some l->∃a k,v=.slice a l.length k/\SI (fun x=>S x\/Cb w.heap.size w' x) w' v l)\/∃x,e=.panicked x/\PX x w'):=by
 obtain⟨a1,c1,rfl,_⟩:=h.base.val;obtain⟨a2,c2,rfl,_⟩:=h.Af.val;obtain⟨a3,c3,rfl,_⟩:=h.hooks.val;obtain⟨a4,c4,rfl,_⟩:=h.Aa.val;obtain⟨a5,c5,rfl,_⟩:=h.now.val;obtain⟨a6,c6,rfl,_⟩:=hs.val;have IX:=DJ;have hv:=EG Jz;have HSG:=Zd (Ha ER);have Bg:Bl w (w.alloc (.cells #[U a1 c.base.length c1,U a2 c.Af.length c2,U a3 c.hooks.length c3,U a4 c.Aa.length c4,U a5 c.now.length c5] 26)):=bA (Zh _ _);have ez:=Zd (fun W hB=>Wt (w:=W) (h.later hB) (A3 hS hB) Jz);have lE:=Zd (fun W (hB:Bl w W)=>(Zcx (n:=0)).1 (aiM (w:=W) (h.later hB) (A3 hS hB) hv));unfold AW at lE;have T8:=Zd (fun W (hB:Bl w W)=>abe (w:=W) (h.later hB) (hs.later hB) (A3 hS hB) (Ax c.Aa 0) (Ax c.Aa 1) (Ax c.Aa 2));rw[ER]at T8;clear ER;go_enter Lp.func77,n77;go_wp2_with (first|(go_at_call 88;refine(ez.out _ Bg).mono ?_;rintro e w1 ⟨rfl,Bb⟩;have Bv:=Bg.trans (Bb.mono Bg.size))|(go_at_call 101;refine(T8.out _ (bA Bv)).mono ?_;rintro e w2 ⟨rfl,De⟩));obtain⟨ab,DU⟩:∃ab,ab=Ax c.Aa:=⟨_,rfl⟩;have mG:=Zd DU;rw[<-DU]at lE⊢;rw[<-DU]at De;clear DU ez T8;obtain⟨V,hV⟩:∃V,V=w1.alloc (.cells #[U a1 c.base.length c1,U a2 c.Af.length c2,U a3 c.hooks.length c3,U a4 c.Aa.length c4,U a5 c.now.length c5,I .u8 (ab 0),I .u8 (ab 1),I .u8 (ab 2)] 112):=⟨_,rfl⟩;rw[<-hV]at De;have hXV:V.heap[w1.heap.size]?=some (.cells #[U a1 c.base.length c1,U a2 c.Af.length c2,U a3 c.hooks.length c3,U a4 c.Aa.length c4,U a5 c.now.length c5,I .u8 (ab 0),I .u8 (ab 1),I .u8 (ab 2)] 112 (0,0)):=by rw[hV];exact Bp _ _
 have Ui:Bl w V:=by rw[hV];exact bA Bv
 have Ia:=(De.block _ (Za.1 hXV).1).trans hXV;have aq7:=bV Ui De;clear hV;obtain⟨X,hX⟩:∃X,X=w2.alloc (.cells #[.func (.func 137) #[] #[],U none 0 0,.int J 0,.int J 0,.bool false] 174):=⟨_,rfl⟩;have Ov:Bl w2 X:=by rw[hX];exact bA (Zh _ _)
 have hQX:X.heap[w2.heap.size]?=some (.cells (abk (U none 0 0) 0 0 false) 174 (0,0)):=by rw[hX];exact Bp _ _
 obtain⟨q,hq⟩:∃q,q=w2.heap.size:=⟨_,rfl⟩;obtain⟨g,hg⟩:∃g,g=w1.heap.size:=⟨_,rfl⟩;have Rk:g<w2.heap.size:=by rw[hg];exact(Za.1 Ia).1
 have Dk:w.heap.size<=g:=by rw[hg];exact Bv.size
 rw[<-hg]at Ia;rw[<-hq]at hQX Rk;have xS:q<X.heap.size:=(Za.1 hQX).1;have hXX:X.heap[g]?=some (.cells #[U a1 c.base.length c1,U a2 c.Af.length c2,U a3 c.hooks.length c3,U a4 c.Aa.length c4,U a5 c.now.length c5,I .u8 (ab 0),I .u8 (ab 1),I .u8 (ab 2)] 112 (0,0)):=(Ov.block _ (by omega)).trans Ia;have ad1:=bV aq7 Ov;rw[<-hX, <-hq, <-hg];clear hX hq hg;have hzq:w2.heap.size<=X.heap.size:=Ov.size;obtain⟨K,Ig⟩:∃K:Nat->Prop,K=fun _=>False:=⟨_,rfl⟩;have LP:∀x,¬K x:=by rw[Ig];exact fun _ x=>x
 clear Ig;have g0:=fun p:Tw K X=>p.cell (ch (i:=0) hXX rfl) (LP _);have g1:=fun p:Tw K X=>p.cell (ch (i:=1) hXX rfl) (LP _);have g2:=fun p:Tw K X=>p.cell (ch (i:=2) hXX rfl) (LP _);have g3:=fun p:Tw K X=>p.cell (ch (i:=3) hXX rfl) (LP _);have g4:=fun p:Tw K X=>p.cell (ch (i:=4) hXX rfl) (LP _);have g5:=fun p:Tw K X=>p.cell (ch (i:=5) hXX rfl) (LP _);have g6:=fun p:Tw K X=>p.cell (ch (i:=6) hXX rfl) (LP _);have g7:=fun p:Tw K X=>p.cell (ch (i:=7) hXX rfl) (LP _);go_wp2;refine B0 (S:=fun W=>∃p:Tw K X,W=p.v) [] [(false,2),(false,4),(false,5)] [0,1,3,6] (by kernel_rfl) (fun _ _ d _ _ h=>by cases d<;>exact h) (by kernel_rfl) (A5 (Ak.later (Zh _ _).drew)) ?_;refine A4 _ _ (by kernel_rfl) ?_;simp only[Z6,zd,ZG,ZD,ZC]
 repeat (first|go_big_quiet_step (fail)|quiet_step (fail))
 refine Z4 ?_;clear g0 g1 g2 g3 g4 g5 g6 g7;change Dl _ _ _ _ _ _ _;have Uh:Bl X X.drew:=(Zh _ _).drew;have Un:=bV ad1 Uh;refine Dd (f:=128) rfl rfl (by go_simp) ((lE.out _ Un).mono ?_);rintro e W3 ⟨v3,rfl,Cj,Vr⟩;obtain⟨x3,y3,rfl,_⟩:=Vr.val;have rp:=bV Un Cj;refine⟨_,rfl,.inr (A5 (Ak.later (bV Uh Cj))),?_⟩;have hzd:=Uh.size;have Rb:=Cj.size;have hzw:=aq7.size;have hN:(LU c).length<=125:=by
  have h1:=Zac (Ev c) (EH c);have h0:=H7 c.Aa (fun i hi=>by have:=hv.step i hi;omega);have h2:5^c.Aa.length<=5^3:=YX (by decide) hv.few.2;exact Zr h1 (Zr h0 h2)
 have oh:∀i,i<(LU c).length->(BM (LU c) i).length<=c.Aa.length/\∀j,j<(BM (LU c) i).length->-2<=nth (BM (LU c) i) j/\nth (BM (LU c) i) j<=2:=fun i hi=>by
  have hm:BM (LU c) i∈EH c:=(List.mem_filter.1 (Z3 (BJ hi))).1;obtain⟨m1,m2⟩:=WV hm;refine⟨by omega,fun j hj=>?_⟩;have h1:=m2 j hj;have h2:=hv.step j (by omega);omega
 have aq8:=Zd (xO (S:=fun b=>S b\/Cb X.drew.heap.size W3 b) ((h.later rp).imp fun b hb=>.inl hb) hv (Vr.imp fun b hb=>.inr hb) (Sl.imp (hs.later rp) (fun b hb=>.inl hb) fun _ _ x=>x) oh (by have:=HSG.out.1;omega) HSG.out.2 (by omega) (fun b hb=>by rcases hb with hb|hb;have:=hS b hb;omega;exact hb.2) (ab 0) (ab 1) (ab 2));refine cE (f:=104) rfl rfl (by go_simp) (aq8.out.mono ?_);rintro e W4 ⟨DM,⟨v4,rfl,NK⟩|⟨x,rfl,Ss⟩⟩
 rotate_left
 .exact .inr ⟨x,rfl,rfl,bV rp DM,.inr ⟨_,rfl,Ss⟩⟩
 change SL _ _ _ (lF c s) at NK;obtain⟨fa,fc,rfl,_⟩:=Sl.val NK;have ad2:=bV Cj DM;have ac2:=bV Uh ad2;have fC:∃p:Tw K X,W4=p.v:=A5 (Ak.later ac2);refine .inl ⟨_,rfl,.inr fC,?_⟩;refine Dw (v:=.int J (lF c s).length) rfl rfl (by go_simp) (.inr fC) ?_;unfold Dl
 go_simp
 have acJ:=bV ad1 ac2;have iu:=(ac2.block _ xS).trans hQX;have Ks:=(ac2.block _ (by omega)).trans hXX;have hz4:=ac2.size;have HF:=Zd (show∀W,Ak (fun x=>x=q) W4 W->SL (fun x=>(S x\/Cb w.heap.size W4 x)/\x<W4.heap.size/\x≠q) W (U fa (lF c s).length fc) (lF c s) from fun W hT=>SL.imp (SL.Ar NK (hT.same fun x hx e=>by
  rcases hx with(hx|hx)|hx
  .have:=hS x hx;omega
  .have:=hx.1;omega
  .have:=hx.1.1;omega)) fun x hx=>by
  have h6:=DM.size;rcases hx with(hx|hx)|hx
  .have:=hS x hx;exact⟨.inl hx,by omega,by omega⟩
  .exact⟨.inr ⟨by have:=hx.1;omega,by have:=hx.2;omega⟩,by have:=hx.2;omega,by have:=hx.1;omega⟩
  exact⟨.inr ⟨by have:=hx.1.1;omega,hx.1.2⟩,hx.1.2,by have:=hx.1.1;omega⟩)
 have HFH:=Zd (fun l (hl:l∈lF c s)=>show Tc c l from WV (List.mem_filter.1 (List.mem_filter.1 hl).1).1);have hFn:(lF c s).length<=125:=Zr (Zac _ _) hN;obtain⟨F,hF⟩:∃F,F=lF c s:=⟨_,rfl⟩;rw[<-hF]at HF HFH hFn⊢;have HFE:=Zd hF;clear hF NK oh hN Vr aq8 lE Uh Un Cj DM ad2 hQX hXX Ia hXV;have axi:=Zd (ZY hv.uy (S0 hv hv.now));have anV:=Zd (fun W (hB:Bl w W) (l:List Int) (u:Zf) (hu:SI (fun x=>x<W.heap.size) W u l) (hl:l.length<=c.now.length)=>anP (w:=W) (v6:=u) (l:=l) (ab:=ab) (S:=fun x=>x<W.heap.size) ((h.later hB).imp fun x hx=>Zl (hS x hx) hB.size) hu hl (by have:=hv.uy;have:=hv.few.2;omega) (by rw[mG.out];exact S3 hv.over) fun x hx=>hx);have HTC:=Zd (fun l=>show Cx ab c.now l=DS c l by rw[mG.out];rfl);have HT8:=Zd (fun l (hl:Tc c l)=>show DS c l<8 from U8 (S3 hv.over) l 0 0 (by have:=hl.1;have:=hv.few.2;omega) (by decide));go_wp2;go_loopg [38] F.length (fun gg i wx=>∃k:Nat,k<=F.length/\gg=F.length - k/\i=.int J k/\abU (fun x=>(S x\/Cb w.heap.size W4 x)/\x<W4.heap.size/\x≠q) wx q c (aaA c (F.take k))/\Ak (fun x=>x=q) W4 wx)
 case atStart=>exact⟨0,Zp _,rfl,rfl,⟨none,0,0,0,0,iu,fun l hl=>by cases hl⟩,Ak.refl _ _⟩
 obtain⟨k,hk,rfl,rfl,⟨aa0,aa1,aa2,aa3,aa4,hQk,acj⟩,hTk⟩:=hrel;have ac3:=Zd acj;clear acj;have aca:=acJ.trans (hTk.below (fun x hx=>by subst hx;omega) (by omega));have hXk:=(hTk.block _ (by omega) (by omega)).trans Ks;have hzk:=hTk.size;by_cases Az:k<F.length
 .have HL:=Zd (HFH.out _ (Z3 (BJ Az)))
  have HNX:=Zd (abj c Az);obtain⟨b6,o6,u,ee,Xj,lH,hu⟩:=(HF.out _ hTk).at_ Az;subst ee;obtain⟨l,hl⟩:∃l,l=BM F k:=⟨_,rfl⟩;rw[<-hl]at hu HL HNX;clear hl;obtain⟨ua,uc,rfl,_⟩:=hu.val;have TB:(k:Int)<(F.length:Int):=by omega
  have Qm:l.length<=3:=by have:=HL.out.1;have:=hv.few.2;omega
  have UO:l.length<=c.now.length:=by have:=HL.out.1;have:=hv.uy;omega
  have HA:=Zd (fun i (hi:i<l.length)=>show -2<=nth l i/\nth l i<=2 by have:=HL.out.2 i hi;have:=hv.step i (by have:=HL.out.1;omega);omega);have HB:=Zd (fun i (hi:i<l.length)=>axi.out.2 i (by omega));have abl:=Zd (show aaE c l=((AB (DS c l)).length,aav l c.now) from rfl);have hE:=Zd (show aav l c.now=((Yr l.length).drop 0).foldl (aax l c.now) 0 from rfl);have hap:=abh HA.out HB.out;obtain⟨R,hR⟩:∃R,R=aav l c.now:=⟨_,rfl⟩;rw[<-hR]at hE abl hap;clear hR;have ad4:=(h.later aca).now;have n4:=ch (i:=4) hXk (v:=.slice a5 c.now.length c5) rfl;obtain⟨Z,hZ⟩:∃Z,Z=wr:=⟨_,rfl⟩;subst hZ;go_wp2;go_loopg [14,44] l.length (fun gg sv i wy=>∃(j m:Nat) (s1:Int),j<=l.length/\gg=l.length - j/\i=.int J j/\sv=.int J s1/\0<=s1/\s1<=4*j/\((Yr l.length).drop j).foldl (aax l c.now) s1=R/\wy=Z.drewN m)
  case atStart=>exact⟨0,0,0,Zp _,rfl,rfl,rfl,Int.le_refl _,Int.le_refl _,hE.out.symm,rfl⟩
  obtain⟨j,m,s1,hj,rfl,rfl,rfl,MM,LO,CP,rfl⟩:=hrel;have hf:=Zd CP;clear CP;by_cases hjl:j<l.length
  .obtain⟨b1,o1,ee,FD,x1⟩:=hu.at_ hjl
   subst ee;obtain⟨b2,o2,ee,EC,x2⟩:=ad4.at_ (show j<c.now.length by omega);subst ee;have mH:=HA.out j hjl;have hy2:=HB.out j hjl;have hd:=Zd (aaC (f:=aax l c.now) (r:=s1) hjl);have hd2:=Zd (show aax l c.now s1 j=s1+max (nth l j - nth c.now j) (nth c.now j - nth l j) from rfl);obtain⟨x,hx⟩:∃x,x=nth l j:=⟨_,rfl⟩;obtain⟨y,hy⟩:∃y,y=nth c.now j:=⟨_,rfl⟩;rw[<-hx]at x1 mH hd2;rw[<-hy]at x2 hy2 hd2;clear hx hy;have TB:(j:Int)<(l.length:Int):=by omega
   have hkb:(j:Int)<(c.now.length:Int):=by omega
   have lX:IntKind.i64.wrap (x - y)=x - y:=by rw[zE];omega
   have nj:IntKind.i64.wrap (y - x)=y - x:=by rw[zE];omega
   have hw3:IntKind.i64.wrap (s1+max (x - y) (y - x))=s1+max (x - y) (y - x):=by rw[zE];omega
   go_wp2;go_quiet (fail);go_wp2;go_roundg (l.length - (j+1))
   case rel=>exact⟨j+1,m+nq,s1+max (x - y) (y - x),by omega,rfl,by go_num,rfl,by omega,by omega,by rw[<-hf.out,hd.out,hd2.out],by simp⟩
   omega
  have HR:=Zd (show s1=R by rw[<-hf.out,aaZ (by omega)]);obtain rfl:=HR.out;have D5:Bl Z (Z.drewN m):=Y5 (Zh _ _) m;obtain⟨Y,hY⟩:∃Y,Y=Z.drewN m:=⟨_,rfl⟩;rw[<-hY]at D5⊢;clear hY;have adh:=bV aca D5;have hXY:=(D5.block _ (Za.1 hXk).1).trans hXk;have hQY:=(D5.block _ (Za.1 hQk).1).trans hQk;have fD:=(Za.1 hQY).1;have HTL:=HTC.out l;have HT:=HT8.out l HL.out;have y0:=ch (i:=0) hXY rfl;have y1:=ch (i:=1) hXY rfl;have y2:=ch (i:=2) hXY rfl;have y3:=ch (i:=3) hXY rfl;have y4:=ch (i:=4) hXY rfl;have y5:=ch (i:=5) hXY rfl;have y6:=ch (i:=6) hXY rfl;have y7:=ch (i:=7) hXY rfl;have HC:=Zd (anV.out Y adh l (U ua l.length uc) (Sl.imp (hu.later D5) (fun x hx=>by have:=hx.2.1;have:=D5.size;show x<Y.heap.size;omega) fun _ _ x=>x) UO);rw[HTL]at HC;obtain⟨aa5,htc⟩:∃aa5,aa5=DS c l:=⟨_,rfl⟩;rw[<-htc]at HC HT abl;clear htc HTL;have HT':=Zd HT;go_wp2_with (first|(go_at_call 139;refine HC.out.mono ?_;rintro e W7 ⟨rfl,NU⟩;have hQ7:=(NU.block _ fD).trans hQY)|(go_at_call 136;refine(anS _ HT'.out _).mono ?_;rintro e W8 ⟨rfl,rfl⟩)|(go_at_call 138;refine(adf hQ7).mono ?_;rintro e W9 ⟨rfl,hT9,hQ9⟩));have fC:Ak (fun x=>x=q) W4 W9:=((hTk.uJ D5).uJ NU).trans hT9;have mN:Ak (fun x=>x=q) Z W9:=(Ak.later (bV D5 NU)).trans hT9;have hBA:abU (fun x=>(S x\/Cb w.heap.size W4 x)/\x<W4.heap.size/\x≠q) W9 q c (aaA c (F.take (k+1))):=by
   rw[HNX.out];cases ho:aaA c (F.take k) with
   |none=>
    rw[ho]at hQ9;exact⟨ua,l.length,uc,_,_,hQ9,fun l' Ka=>by cases Ka;exact⟨rfl,Sl.Ar hu (mN.same fun x hx e=>hx.2.2 e) fun _ _ x=>x,abl.out.symm⟩⟩
   |some b=>
    rw[ho]at hQ9;obtain⟨e1,e2,e3⟩:=ac3.out b ho;unfold aaH;dsimp only;rw[e3, <-abl.out]at hQ9;by_cases h:aaz (aaE c l) (aaE c b)=true
    .rw[if_pos h]
     rw[h]at hQ9;exact⟨ua,l.length,uc,_,_,hQ9,fun l' Ka=>by cases Ka;exact⟨rfl,Sl.Ar hu (mN.same fun x hx e=>hx.2.2 e) fun _ _ x=>x,abl.out.symm⟩⟩
    rw[if_neg h];rw[Bool.eq_false_iff.2 h]at hQ9;exact⟨aa0,aa1,aa2,_,_,hQ9,fun l' Ka=>by cases Ka;exact⟨e1,Sl.Ar e2 (mN.same fun x hx e=>hx.2.2 e) fun _ _ x=>x,e3⟩⟩
  go_roundg (F.length - (k+1))
  case rel=>exact⟨k+1,Az,rfl,by go_num,hBA,fC⟩
  omega
 have hkF:k=F.length:=by omega
 subst hkF;rw[ZcU]at hQk ac3;have x4:=ch (i:=4) hQk (v:=.bool (aaA c F).isSome) rfl;cases ho:aaA c F with
 |none=>
  rw[ho]at x4;dsimp only[Option.isSome]at x4;go_wp2;refine ZN (results_tmp3 rfl _ _ _) rfl ?_;rw[<-HFE.out,ho];exact⟨aca,.inl ⟨U none 0 0,rfl,fun l hl=>by cases hl⟩⟩
 |some l=>
  rw[ho]at x4 hQk;dsimp only[Option.isSome]at x4;obtain⟨rfl,e2,e3⟩:=ac3.out l ho;have x1:=ch (i:=1) hQk (v:=.slice aa0 l.length aa2) rfl;have x2:=ch (i:=2) hQk (v:=.int J aa3) rfl;go_wp2;go_quiet (fail);go_wp2;refine ZN (results_tmp3 rfl _ _ _) rfl ?_;rw[<-HFE.out,ho];refine⟨Y5 aca _,.inl ⟨U aa0 l.length aa2,?_,fun l' Ka=>?_⟩⟩
  .show Zbx (.tuple #[U aa0 l.length aa2,.int J aa3,.int J 0])=.returned (.tuple #[U aa0 l.length aa2,.int J (AB (DS c l)).length,.int J 0])
   rw[show aa3=(AB (DS c l)).length from congrArg Prod.fst e3]
  cases Ka;refine⟨aa0,aa2,rfl,Sl.imp (Sl.Ar e2 ((Ak.later (T:=fun x=>x=q) (Y5 (Zh _ _) _)).same fun x hx e=>hx.2.2 e) fun _ _ x=>x) (fun x hx=>?_) fun _ _ x=>x⟩;rcases hx.1 with hx|hx
  .exact .inl hx
  exact .inr ⟨hx.1,Zl hx.2 (by have:=(Y5 (Zh wr.heap.size wr) nq).size;omega)⟩
def Vu (l:List Int):Ke l l=true:=by simp[Ke]
def B3.aj4 (h:Bl w A)(hU:B3 b A B)(hb:w.heap.size<=b):Bl w B:=h.trans ((hU.CN (K:=fun x=>x=b) rfl).below (fun x hx=>by have:x=b:=hx;omega) h.size)
def abx (c:A_)(i:Int):Bool:=decide (0<(Aj c.Aa i.toNat).left)
def aaB {t:Nat}:(JU c t=none)↔(AB t).all (abx c)=true:=by
 unfold JU;rw[List.find?_eq_none,Zdm];constructor
 .intro h x hx
  have:=h x hx;simp[SU,abx]at this⊢;omega
 intro h x hx;have:=h x hx;simp[SU,abx]at this⊢;omega
def abq (h:Ca c l=0):Eg c l=if(AB (DS c l)).all (abx c)=true then 0 else 12:=by
 unfold Eg;rw[BR h];by_cases h2:JU c (DS c l)=none
 .rw[if_pos h2,if_pos (aaB.1 h2)]
 rw[if_neg h2,if_neg fun x=>h2 (aaB.2 x)]
def abn {s n:Nat}(h:s<2^n):∀(k:Nat),(FF s k).length<=n
 |0=>Zp _
 |k+1=>by
  rw[eF];split
  .next hb=>
   have hk:k<n:=by
    refine Nat.lt_of_not_le fun hc=>?_;have:=Nat.testBit_lt_two_pow (Zl h (YX (by decide) hc));unfold hasB at hb;rw[this]at hb;cases hb
   rw[ZA];have:=Jo s k;simp;omega
  exact abn h k
def abI (hv:Fq c)(hl:l.length<=c.Aa.length):(AB (DS c l)).length<=c.Aa.length:=
 abn (JW (LH hv.over) l 0 0 (by omega) (Zdz _)) 3
def acb (h:l∈lF c s):Tc c l/\Ev c l=true:=by
 have h1:=(List.mem_filter.1 h).1;have h2:=List.mem_filter.1 h1;exact⟨WV h2.1,h2.2⟩
def ad5 (hn:SI Sn w lv nums)(E8:∀x,Sn x->x<w.heap.size)(hG:Jr w):Calls Lp 20 #[lv] w (Two w (.bool true)):=by
 obtain⟨la,lc,rfl,_⟩:=hn.val;have IX:=DJ;have H44:=Zd (fun(W:Zb) (b d:Nat) (h1:SI Sn W (U la nums.length lc) nums) (h2:∀x,Sn x->x<W.heap.size/\x≠b) (h3:BK W b (U la nums.length lc) d) (h4:d+1000<4611686018427387904)=>show Calls Lp 44 #[.pointer (some ⟨b,0,none⟩),.int J 3] W (qL W b (U la nums.length lc) d 3) from c44 (s:=3) h1 h2 h3 h4 (by decide));go_enter Lp.func20,n20;go_wp2_with (first|(go_at_call 27;refine(c27 _ ⟨_,_,_,rfl⟩ _).mono ?_;rintro e W1 ⟨rfl,hw⟩;(have Bg:Bl w W1:=by rw[hw];exact bA (Zh _ _));(have Ue:BK W1 w.heap.size (U la nums.length lc) 0:=⟨1,by rw[hw];exact Bp _ _⟩);clear hw;obtain⟨b,hb⟩:∃b,b=w.heap.size:=⟨_,rfl⟩;rw[<-hb]at Ue⊢;have HB:=Zd hb;clear hb)|(go_at_call 44;refine(H44.out _ _ _ (hn.later Bg) (fun x hx=>⟨by have:=E8 x hx;have:=Bg.size;omega,by have:=E8 x hx;have:=HB.out;omega⟩) Ue (by omega)).mono ?_;rintro e W2 ⟨c,u1,u2,u3,u4,u5,d2,rfl,M7,hd2,yv,hM,hc3⟩;obtain⟨a1,c1,rfl,_⟩:=yv.base.val;obtain⟨a2,c2,rfl,_⟩:=yv.Af.val;obtain⟨a3,c3,rfl,_⟩:=yv.hooks.val;obtain⟨a4,c4,rfl,_⟩:=yv.Aa.val;obtain⟨a5,c5,rfl,_⟩:=yv.now.val));have GK:b<=w.heap.size/\w.heap.size<=b:=by have:=HB.out;omega
 have DR:=Bg.size;have FD:b<W1.heap.size:=Ue.lt;have EB:=M7.Cn.size;have Bb:=B3.aj4 Bg M7.Cn (by omega);have Xo:=(hn.later Bg).Cn M7.Cn (fun x hx=>⟨by have:=E8 x hx;omega,by have:=E8 x hx;omega⟩);obtain⟨X,hX⟩:∃X,X=W2.alloc (.cells #[U a1 c.base.length c1,U a2 c.Af.length c2,U a3 c.hooks.length c3,U a4 c.Aa.length c4,U a5 c.now.length c5] 26):=⟨_,rfl⟩;have Ov:Bl W2 X:=by rw[hX];exact bA (Zh _ _)
 have hK:X.heap[W2.heap.size]?=some (.cells #[U a1 c.base.length c1,U a2 c.Af.length c2,U a3 c.hooks.length c3,U a4 c.Aa.length c4,U a5 c.now.length c5] 26 (0,0)):=by rw[hX];exact Bp _ _
 obtain⟨q,hq⟩:∃q,q=W2.heap.size:=⟨_,rfl⟩;rw[<-hq]at hK;rw[<-hX, <-hq];have xS:q<X.heap.size:=(Za.1 hK).1;have M9:W2.heap.size<=q/\q<=W2.heap.size:=by omega
 clear hX hq;have Jm:=hM.few;have hS:∀x,Cb W1.heap.size W2 x->x<X.heap.size/\x≠b:=fun x hx=>⟨by have:=hx.2;have:=Ov.size;omega,by have:=hx.1;omega⟩;refine(c38 (yv.later Ov) hS (Xo.later Ov) (fun x hx=>⟨by have:=E8 x hx;have:=Ov.size;omega,by have:=E8 x hx;omega⟩) (M7.E4.later Ov) (by omega) hM).mono ?_;rintro e W3 ⟨sa,sc,s,d3,rfl,k_,hd3,et,ER⟩;have H4:=k_.Cn;have F1:=H4.at_ hK (by omega);have O9:=(yv.later Ov).Ar (H4.same fun x hx=>(hS x hx).2);have Bv:=B3.aj4 (Bb.trans (Ov.mono Bb.size)) H4 (by omega);have Rb:=H4.size;have hzX:=Ov.size;have HM:=Zd hM;have HS0:=Zd ER;have mI:=Zd (show∀W,Bl W3 W->RC (fun x=>x<W.heap.size) W (U a1 c.base.length c1) (U a2 c.Af.length c2) (U a3 c.hooks.length c3) (U a4 c.Aa.length c4) (U a5 c.now.length c5) c from fun W hB=>(O9.later hB).imp fun x hx=>by have:=hx.2;have:=hB.size;show x<W.heap.size;omega);have HSP:=Zd (show∀W,Bl W3 W->SP (fun x=>x<W.heap.size) W (U sa s.length sc) s from fun W hB=>Sl.imp (et.later hB) (fun x hx=>by have:=hx.2;have:=hB.size;show x<W.heap.size;omega) fun _ _ x=>x);have HK:=Zd (show∀W,Bl W3 W->W.heap[q]?=some (.cells #[U a1 c.base.length c1,U a2 c.Af.length c2,U a3 c.hooks.length c3,U a4 c.Aa.length c4,U a5 c.now.length c5] 26 (0,0)) from fun W hB=>(hB.block _ (Za.1 F1).1).trans F1);have mB:=hG.later Bv;clear hd3 H4 k_ hK Xo yv M7 Ue hd2 hM ER et O9;have H64:=Zd (c64 (mI.out W3 (Zh _ _)) (HSP.out W3 (Zh _ _)) (fun x hx=>hx) HM.out.begin HS0.out);have H77:=Zd (fun W (hB:Bl W3 W)=>c77 (mI.out W hB) (HSP.out W hB) (fun x hx=>hx) HM.out.begin HS0.out);have HFH:=Zd (fun l (h:l∈lF c s)=>acb h);have hFn:(lF c s).length<=125:=by
  have h0:=H7 c.Aa (fun i hi=>by have:=(HM.out.seam i hi).step;omega);have h2:5^c.Aa.length<=5^3:=YX (by decide) (by omega);exact Zr (Zac _ _) (Zr (Zac _ _) (Zr h0 h2))
 obtain⟨F,hF⟩:∃F,F=lF c s:=⟨_,rfl⟩;rw[<-hF]at H64 H77 HFH hFn;clear hF;have k0:=ch (i:=0) F1 rfl;have k1:=ch (i:=1) F1 rfl;have k2:=ch (i:=2) F1 rfl;have k3:=ch (i:=3) F1 rfl;have k4:=ch (i:=4) F1 rfl;dsimp only;go_wp2;refine H64.out.mono ?_;rintro e W4 ⟨De,⟨fa,fc,rfl,hf4⟩|⟨x,rfl,Ss⟩⟩
 rotate_left
 .exact⟨rfl,bU Bv De,.inr ⟨_,rfl,Ss⟩⟩
 have Qn:=HK.out W4 De;clear k0 k1 k2 k3 k4;have k0:=ch (i:=0) Qn rfl;have k1:=ch (i:=1) Qn rfl;have k2:=ch (i:=2) Qn rfl;have k3:=ch (i:=3) Qn rfl;have k4:=ch (i:=4) Qn rfl;dsimp only;go_wp2;refine(H77.out _ De).mono ?_;rintro e W5 ⟨Cj,⟨gv,rfl,hgv⟩|⟨x,rfl,Ss⟩⟩
 rotate_left
 .exact⟨rfl,bU Bv (bU De Cj),.inr ⟨_,rfl,Ss⟩⟩
 have acR:=bU De Cj;have fG:=HK.out W5 acR;have hz4:=De.size;have p9:=Cj.size;have hGW:=mB.later acR;have hBW:=bU Bv acR;have HF:=Zd (show∀W,Bl W5 W->SL (fun x=>x<W.heap.size) W (U fa F.length fc) F from fun W hB=>SL.imp (SL.later hf4 (bU Cj hB)) fun x hx=>by
  have:=hB.size;show x<W.heap.size;rcases hx with hx|hx
  .have hx:x<W3.heap.size:=hx
   omega
  have:=hx.2;omega)
 clear hf4 k0 k1 k2 k3 k4 F1 Qn H64 H77;dsimp only;by_cases hF0:F.length=0
 .have Xn:F=[]:=List.length_eq_zero_iff.1 hF0
  have hfo:aaA c F=none:=by rw[Xn];rfl
  rw[hfo];have HF0:=Zd hF0;have hFi:((F.length:Int)==0)=true:=by simp[hF0]
  clear hF0 Xn hfo hgv;unfold acv;dsimp only;go_wp2_with (go_at_call 26;refine(c26 _ hGW).mono ?_;rintro e Z ⟨hBZ,rfl|⟨x,rfl,Ss⟩⟩)
  .go_ret
   exact⟨bU hBW hBZ,.inl rfl⟩
  exact⟨rfl,bU hBW hBZ,.inr ⟨_,rfl,Ss⟩⟩
 have hFi:((F.length:Int)==0)=false:=beq_eq_false_iff_ne.2 (by omega);have HF1:Hid (F≠ []):=Zd fun e=>by rw[e]at hF0;exact hF0 rfl
 obtain⟨b0,Jz,hbm⟩:=abR c HF1.out;have adk:=Zd Jz;have HBH:=Zd (HFH.out b0 hbm);obtain⟨ga,gk,rfl,hg5⟩:=hgv b0 Jz;rw[Jz];unfold acv;dsimp only;have mr:=HM.out.valid.uy;have axi:=Zd (S0 HM.out.valid HM.out.valid.now);have HAP:=Zd (fun l (hl:Tc c l)=>abh (a:=l) (b:=c.now) (fun i hi=>by have:=hl.2 i hi;have:=(HM.out.seam i (by have:=hl.1;omega)).step;omega) (fun i hi=>axi.out i (by have:=hl.1;omega)));have HBN:=Zd mr;clear mr Jz hbm hgv hF0;obtain⟨nb,hnb⟩:∃n,n=(AB (DS c b0)).length:=⟨_,rfl⟩;have aoc:nb<=3:=by rw[hnb];exact Jo _ 3
 rw[<-hnb];have HNB:=Zd hnb;clear hnb;have HG5:=Zd (show∀W,Bl W5 W->SI (fun x=>x<W.heap.size) W (U ga b0.length gk) b0 from fun W hB=>Sl.imp (hg5.later hB) (fun x hx=>by
  have:=hB.size;show x<W.heap.size;rcases hx with hx|hx
  .have hx:x<W4.heap.size:=hx
   omega
  have:=hx.2;omega) fun _ _ x=>x)
 clear hg5;go_wp2;go_loopg [11,12,13] F.length (fun gg ai be i wx=>∃k:Nat,k<=F.length/\gg=F.length - k/\i=.int J k/\aaG c F k ai be/\Bl W5 wx)
 case atStart=>exact⟨0,Zp _,rfl,rfl,.inl ⟨rfl,rfl,rfl⟩,Zh _ _⟩
 obtain⟨k,hk,rfl,rfl,hat,hBk⟩:=hrel;have acT:=bU acR hBk;have hKk:=HK.out _ acT;have hzk:=hBk.size;have HAT:=Zd hat;by_cases Az:k<F.length
 .have HL:=Zd (HFH.out _ (Z3 (BJ Az)))
  have HNX:=Zd (abj c Az);obtain⟨b6,o6,u,ee,Xj,lH,hu⟩:=(HF.out _ hBk).at_ Az;subst ee;obtain⟨l,hl⟩:∃l,l=BM F k:=⟨_,rfl⟩;have HLK:=Zd hl;rw[<-hl]at hu HL HNX;clear hl;obtain⟨ua,uc,rfl,_⟩:=hu.val;have HUL:=Zd (show∀W,Bl wr W->SI (fun x=>x<W.heap.size) W (U ua l.length uc) l from fun W hB=>Sl.imp (hu.later hB) (fun x (hx:x<wr.heap.size)=>by have:=hB.size;show x<W.heap.size;omega) fun _ _ x=>x);have HCU:=Zd (show∀W,Bl wr W->W.cell? ⟨b6,o6+k,none⟩=some (U ua l.length uc) from fun W hB=>(hB.cell (p:=⟨b6,o6+k,none⟩) (ZH _ _ lH)).trans lH);have TB:(k:Int)<(F.length:Int):=by omega
  obtain⟨K,Ig⟩:∃K:Nat->Prop,K=fun _=>False:=⟨_,rfl⟩;have LP:∀x,¬K x:=by rw[Ig];exact fun _ x=>x
  clear Ig;have g0:=fun p:Tw K wr=>p.cell (ch (i:=0) hKk rfl) (LP _);have g1:=fun p:Tw K wr=>p.cell (ch (i:=1) hKk rfl) (LP _);have g2:=fun p:Tw K wr=>p.cell (ch (i:=2) hKk rfl) (LP _);have g3:=fun p:Tw K wr=>p.cell (ch (i:=3) hKk rfl) (LP _);have g4:=fun p:Tw K wr=>p.cell (ch (i:=4) hKk rfl) (LP _);have g5:=fun p:Tw K wr=>p.cell lH (LP _);clear hu lH;go_wp2;refine G7 (S:=fun W=>∃p:Tw K wr,W=p.v) 11 [] [(false,5),(false,6),(true,7),(true,8),(false,9),(false,10)] [0,1,2,3,4] (by kernel_rfl) (fun _ _ d _ _ h=>by cases d<;>exact h) (by kernel_rfl) (A5 (Ak.later (Zh _ _).drew)) ?_;refine A4 _ _ (by kernel_rfl) ?_;simp only[Z6,zd,ZG,ZD,ZC]
  repeat (first|go_big_quiet_step (fail)|quiet_step (fail))
  refine Z4 ?_;clear g0 g1 g2 g3 g4 g5;change H2 _ _ _ _ _ _ _ _;have Uh:Bl wr wr.drew:=(Zh _ _).drew;have hE:Eg c l=0:=by
   rw[abq (HM.out.asked HL.out.1)];have WY:=HL.out.2;unfold Ev at WY;cases hs:JU c (DS c l) with
   |none=>rw[aaB.1 hs];rfl
   |some i=>rw[hs]at WY;cases WY
  have jG:abg c l=AB (DS c l):=if_pos hE;have H51:=Zd (c51 (mI.out _ (bU acT Uh)) (HUL.out _ Uh) fun x hx=>hx);rw[hE,jG]at H51;clear hE jG;refine Iy (f:=51) rfl rfl (by go_simp) (H51.out.mono ?_);rintro e V ⟨sv,rfl,Ui,hsv⟩;obtain⟨n,hn⟩:∃n,n=(AB (DS c l)).length:=⟨_,rfl⟩;have hn3:n<=3:=by rw[hn];exact Jo _ 3
  have hns:n<=c.Aa.length:=by rw[hn];exact abI HM.out.valid (by have:=HL.out.1.1;omega)
  obtain⟨aad,aae,rfl,_⟩:=hsv.val;rw[<-hn];have aas:=Zd hn;clear hn;have vE:=bU Uh Ui;have Kd:∃p:Tw K wr,V=p.v:=A5 (Ak.later vE);refine⟨_,rfl,.inr Kd,?_⟩;refine EY (v:=.tuple #[U aad n aae,.int J 0]) (w':=V) rfl rfl (by go_simp) (.inr Kd) ?_;refine Wz (v:=.slice aad n aae) Kd rfl rfl (fun w _=>by go_simp) ?_;refine Wz (v:=.int J 0) Kd rfl rfl (fun w _=>by go_simp) ?_;refine EY (v:=.slice aad n aae) (w':=V) rfl rfl (by go_simp) (.inr Kd) ?_;refine EY (v:=.int J 0) (w':=V) rfl rfl (by go_simp) (.inr Kd) ?_;unfold H2
  go_simp
  clear hsv Ui Uh Kd;have adm:=bU hBk vE;have hKV:=HK.out _ (bU acR adm);have z1:=ch (i:=3) hKV (v:=.slice a4 c.Aa.length c4) rfl;have z2:=ch (i:=4) hKV (v:=.slice a5 c.now.length c5) rfl;have z3:=HCU.out _ vE;have Gc:¬(c.Aa.length:Int)<(n:Int):=by omega
  have Xc:((l.length:Int) !=(c.now.length:Int))=false:=by
   have h1:=HL.out.1.1;have h2:=HBN.out;simp;omega
  have yg:=Zd Xc;go_wp2;go_quiet (fail);obtain⟨V1,hV1⟩:∃V1,V1=V.drewN nq:=⟨_,rfl⟩;have acG:Bl V V1:=by rw[hV1];exact Y5 (Zh _ _) nq
  rw[<-hV1];clear hV1 z1 z2 z3;have acX:=bU vE acG;have acY:=bU hBk acX;have l_:=HK.out _ (bU acR acY);have hap:=HAP.out l HL.out.1;have Qm:l.length<=3:=by have:=HL.out.1.1;omega
  have H79:=Zd (fun W (hB:Bl V1 W)=>show Calls Lp 79 #[U ua l.length uc,U a5 c.now.length c5] W (fun e w'=>e=.returned (.int J (aav l c.now))/\Bl W w') from
   (c79 (HUL.out W (bU acX hB)) (mI.out W (bU acR (bU acY hB))).now (by have:=HL.out.1.1;have:=HBN.out;omega) Qm (fun i hi=>by have:=HL.out.1.2 i hi;have:=(HM.out.seam i (by have:=HL.out.1.1;omega)).step;omega) (fun i hi=>axi.out i (by have:=HL.out.1.1;have:=HBN.out;omega))).mono fun e w' h=>⟨h.1,by obtain⟨m,rfl⟩:=h.2;exact Y5 (Zh _ _) m⟩)
  have ac4:=Zd (show aby c l=100*((AB (DS c l)).length:Int)+aav l c.now from rfl);have HCO:=Zd (fun b (hb:Tc c b)=>abS (x:=aaE c l) (y:=aaE c b) (by have:=HAP.out l HL.out.1;exact⟨this.1,by have:=HL.out.1.1;show aav l c.now<100;omega⟩) (by have:=HAP.out b hb;exact⟨this.1,by have:=hb.1;show aav b c.now<100;omega⟩));obtain⟨t,ht⟩:∃t,t=aav l c.now:=⟨_,rfl⟩;rw[<-ht]at H79 ac4 hap;rw[<-aas.out]at ac4;clear ht;have lX:IntKind.i64.wrap (100*(n:Int))=100*(n:Int):=by rw[zE];omega
  have nj:IntKind.i64.wrap (100*(n:Int)+t)=100*(n:Int)+t:=by rw[zE];omega
  have z1:=fun p=>Al p (ch (i:=4) l_ (v:=.slice a5 c.now.length c5) rfl);have z2:=fun p=>Al p (HCU.out _ acX);go_wp2;refine Av (by kernel_rfl) (by kernel_rfl) ?_
  repeat (first|go_big_quiet_step ((go_at_call 79;exact AV (H79.out _ (AE _ _))))|quiet_step ((go_at_call 79;exact AV (H79.out _ (AE _ _)))))
  refine Z4 ?_;rintro _ ⟨p,rfl⟩;have yw:=AE V1 p;obtain⟨Y,hY⟩:∃Y,Y=calm V1 p:=⟨_,rfl⟩;rw[<-hY]at yw⊢;clear hY z1 z2;have lJ:=bU acY yw;rcases HAT.out with⟨h1,rfl,rfl⟩|⟨i,hi,h1,rfl,rfl⟩
  .have Qs:=Zd (show aaG c F (k+1) (.int J (k:Int)) (.int J (100*(n:Int)+t)) from .inr ⟨k,Nat.lt_succ_self _,by rw[HNX.out,h1, <-HLK.out];rfl,rfl,by rw[<-HLK.out,ac4.out]⟩)
   clear h1;go_wp2;go_roundg (F.length - (k+1))
   case rel=>exact⟨k+1,Az,rfl,by go_num,Qs.out,lJ⟩
   omega
  have hi0:¬(i:Int)<0:=by omega
  have hco:=HCO.out (BM F i) (HFH.out _ (Z3 (BJ (by omega)))).1;change aaz _ _=decide (aby c l<aby c (BM F i)) at hco;rw[ac4.out]at hco;obtain⟨B,hB⟩:∃B,B=aby c (BM F i):=⟨_,rfl⟩;rw[<-hB]at hco⊢;by_cases hs:100*(n:Int)+t<B
  .have Qs:=Zd (show aaG c F (k+1) (.int J (k:Int)) (.int J (100*(n:Int)+t)) from .inr ⟨k,Nat.lt_succ_self _,by rw[HNX.out,h1, <-HLK.out];unfold aaH;dsimp only;rw[hco,if_pos (decide_eq_true hs)],rfl,by rw[<-HLK.out,ac4.out]⟩)
   clear h1 hco hB;go_wp2;go_roundg (F.length - (k+1))
   case rel=>exact⟨k+1,Az,rfl,by go_num,Qs.out,lJ⟩
   omega
  have Qs:=Zd (show aaG c F (k+1) (.int J (i:Int)) (.int J B) from .inr ⟨i,by omega,by rw[HNX.out,h1];unfold aaH;dsimp only;rw[hco,if_neg (by rw[decide_eq_true_eq];exact hs)],rfl,by rw[hB]⟩);clear h1 hco hB;go_wp2;go_roundg (F.length - (k+1))
  case rel=>exact⟨k+1,Az,rfl,by go_num,Qs.out,lJ⟩
  omega
 have hkF:k=F.length:=by omega
 subst hkF;have hat:=HAT.out;unfold aaG at hat;rw[ZcU,adk.out]at hat;rcases hat with⟨h1,_⟩|⟨i,hi,h1,rfl,rfl⟩
 .cases h1
 injection h1 with h1
 obtain⟨b6,o6,u,ee,Xj,lH,hu⟩:=(HF.out _ hBk).at_ hi;subst ee;rw[<-h1]at hu⊢;obtain⟨ua,uc,rfl,_⟩:=hu.val;have HUL:=Zd (show∀W,Bl wr W->SI (fun x=>x<W.heap.size) W (U ua b0.length uc) b0 from fun W hB=>Sl.imp (hu.later hB) (fun x (hx:x<wr.heap.size)=>by have:=hB.size;show x<W.heap.size;omega) fun _ _ x=>x);have cL:=Zd (fun W (hB:Bl wr W)=>c46 (w:=W) (HG5.out W (bU hBk hB)) (HUL.out W hB) (fun x hx=>hx) fun x hx=>hx);rw[Vu]at cL;have hap:=HAP.out b0 HBH.out.1;have Qm:b0.length<=3:=by have:=HBH.out.1.1;omega
 have aeu:aby c b0=100*(nb:Int)+aav b0 c.now:=by rw[HNB.out];rfl
 obtain⟨t,ht⟩:∃t,t=aav b0 c.now:=⟨_,rfl⟩;rw[<-ht]at aeu hap;rw[aeu];have hq:(100*(nb:Int)+t).tdiv 100=(nb:Int):=by rw[Int.tdiv_eq_ediv_of_nonneg (by omega)];omega
 have hi1:(i:Int)<(F.length:Int):=by omega
 clear hu ht aeu h1 hat;have hGk:=hGW.later hBk;have ajc:=bU hBW hBk;go_wp2_with (first|(go_at_call 46;refine(cL.out _ (Zh _ _)).mono ?_;rintro e Y ⟨rfl,hBY⟩)|(go_at_call 26;refine(c26 _ (hGk.later hBY)).mono ?_;rintro e Z ⟨hBZ,rfl|⟨x,rfl,Ss⟩⟩))
 .go_ret
  exact⟨bU (bU ajc hBY) hBZ,.inl rfl⟩
 exact⟨rfl,bU (bU ajc hBY) hBZ,.inr ⟨_,rfl,Ss⟩⟩
end Go.Proofs.Fit
namespace Go.Proofs.YtkkjobdfheidkaaGreatDoor
open Go Go.Conc Go.RowKit Go.Proofs.Fit
set_option maxRecDepth 100000
def abK:(Rows.seamFewestRow.inPlace==Tryz.prog.inPlace 20)=true:=by kernel_rfl
def abb:(Rows.seamFewestRow.unfollowed==Tryz.prog.unfollowed 20)=true:=by kernel_rfl
def abr:(Rows.seamFewestRow.recurses==Tryz.prog.recurses 20)=true:=by kernel_rfl
def ace:(Rows.seamFewestRow.named==Tryz.prog.varsNamed 20)=true:=by kernel_rfl
def acf:joinedFacts Zc 20 Tryz.f20 Rows.seamFewestSpec Rows.seamFewestRow=true:=
 kQ (by kernel_rfl) (by kernel_rfl) (by kernel_rfl) (by kernel_rfl) (by kernel_rfl) abK abb abr ace (by kernel_rfl) (by kernel_rfl) (by kernel_rfl) (by kernel_rfl) (by kernel_rfl) (by kernel_rfl) (by kernel_rfl) (by kernel_rfl) (by kernel_rfl) rfl rfl rfl rfl rfl rfl (by kernel_rfl) (by kernel_rfl) (by kernel_rfl)
def ac6 (os:Os)(started:os.Started)(H:Type)(enc:Zs×Zf->H):ReturnsInLeavingWide {} Tryz.checked os 20 .any (fun w args=>(Rows.seamFewestSpec.pre enc Zc Tryz.f20 [] false w args/\laidMetH Zc PT w)/\sizedMet enc Zc Tryz.f20 (ZbV Rows.seamFewestSpec) false w args)
   (Rows.seamFewestSpec.post enc Zc Tryz.f20 false true false false):=
 eO (s:=Rows.seamFewestSpec) started rfl rfl Tryz.func20 rfl rfl (by kernel_rfl) (by kernel_rfl) rfl (by kernel_rfl) (fun ds h=>by
    match ds,h with
    | [_],_=>rfl)
   (ChangeSpec.witness_shaped (enc:=enc) (C:=Tryz.checked) (os:=os) (X:=fun w _=>laidMetH Zc PT w) false (Vg os) #[U none 0 0] 8 rfl (World.shaped_of_RefB (by kernel_rfl) (by kernel_rfl)) (by kernel_rfl) (by kernel_rfl) (by kernel_rfl) (Ub os _))
   (fun W base args ds ps hval hA _ hG=>qc rfl hval hA hG fun w v nums hn hG=>ad5 hn (fun x hx=>hx) hG)
def ad6:Rows.SeamFewestSaid:=
 OpenClaim.holds_of_wide_leaving 20 Tryz.f20 rfl rfl rfl rfl rfl rfl rfl ⟨rfl,rfl,rfl,rfl,rfl⟩ rfl rfl rfl rfl rfl (by kernel_rfl) Tryz.func20 acf
  (of_decide_eq_true (by kernel_rfl)) (by unfold Func.isWrapper;rw[if_neg (by decide+kernel)];exact⟨rfl,rfl⟩) (fun os started H enc _=>ac6 os started H enc)
def ad0:true=Rows.seamFewestRow.goesBy Tryz.pinned.checked.prog:=by kernel_rfl
theorem fewest_holds:Rows.SeamFewestCardSaid:=
 kM [.handle] (true,"d58ada5a772cea19d6c1f322b38be8e13f90afce78f95e9e644b853f050ce369") ad6 (by kernel_rfl) (OpenClaim.laidByTextAt_later rfl rfl qd abD) rfl ⟨rfl,rfl⟩ uI
  (fun f fn hf G9=>by
   obtain rfl:f=20:=ZW ((show Tryz.prog.funcNamed "galloon/galloonlaw02.SeamFewest" =some 20 by kernel_rfl).symm.trans hf)|>.symm;obtain rfl:fn=Tryz.f20:=(ZW (Tryz.func20.symm.trans G9)).symm;exact⟨abE,fun j t ht=>by
    have hm:t∈ [22]:=by simpa using zY ht
    have FJ:([22].all fun u=> !Tryz.prog.wantsStandIn u)=true:=by kernel_rfl
    exact(show Tryz.prog.wantsStandIn t=false by simpa using Zdm.1 FJ t hm)⟩)
  ad0
#print axioms fewest_holds
end Go.Proofs.YtkkjobdfheidkaaGreatDoor
