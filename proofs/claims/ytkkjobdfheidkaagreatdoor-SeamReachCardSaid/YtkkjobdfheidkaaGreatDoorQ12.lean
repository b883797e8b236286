/- SeamReach: for every list of numbers, on every schedule and without a data race, the law returns true, and the list reads afterwards as it read before. Conditions: those of the given row alone (the variable errors.errorType starts as the program's text lays it; the card ties that to the text). -/
import Derived.Test.YtkkjobdfheidkaaGreatDoorQ11
import Derived.Test.YtkkjobdfheidkaaGreatDoorQ08
import Derived.Lib.MinMax
set_option maxRecDepth 100000
set_option maxHeartbeats 6400000
noncomputable section
set_option linter.all false
open And renaming intro->ZY
open Array renaming getElem?_eq_some_iff->Za,replicate_succ->ZaN,replicate_zero->ZaM,toList_setIfInBounds->ZcM,mem_of_getElem?->zY
open Function renaming comp_def->ZdQ
open Go renaming Value->Zf,World->Zb,callFunc->Zz,TypeId->Zs,Operand->Zbv,Program->Zo,undef->Ze,loadVar->Zdd,callsIn_wide->Zcx,info_parts->zp,ownsRow_succ->Zay,wpList_append_own->Yc,run_underlying->Y9,bodyPost_ret->ZN,wpQuiet_nil->Z4,wp_append_own->Zak,below_drewN->Y5
open Go.Fence renaming wide->ZbC
open Go.Instr renaming index->ZdN
open Go.IntKind renaming wrap_i64->zE,i64->J
open Go.Lib renaming hid->Zd
open Go.OpenSpec renaming ofChange->ZbV
open Go.Oper renaming semAt_some->Zdk
open Go.Proofs.Tryz renaming underlying27->zW,underlying22->YE,underlying23->Zdg,prog->Zc
open Go.Result renaming andThen->zu
open Go.RowKit renaming Below->YH
open Go.RowKit.Below renaming refl->Zh
open Go.Sem renaming run_bind->zg
open Go.Value renaming oneCell'->YT,int->ZL,slice->U,int->I
open Go.World renaming size_alloc->ZB,ownsRow_nil->zq
open Go.World.ownsRow renaming alloc->Ya,lt->Zcm
open List renaming range->Yr,ext_getElem?->YA,getElem?_eq_none->ZP,getElem?_set_self->Ys,getElem?_set_ne->ZS,drop_eq_nil_iff->Z7,length_append->ZA,getElem?_append_left->zl,getElem?_eq_some_iff->Zm,length_cons->zb,length_nil->zR,getElem?_concat_length->Y1,size_toArray->Zbm,push_toArray->Zbn,append_toArray->Za4,nil_append->zP,cons_append->Za1,filter_cons->ZbB,length_filter_le->Zac,append_nil->ZaA,take_add_one->ZbH,getElem?_map->YL,flatMap_append->Zbe,drop_eq_getElem_cons->ZO,length_take->ZcV,getD_eq_getElem?_getD->Y6,getElem?_take_of_lt->Z2,take_zero->ZdB,mem_of_getElem?->Z3,length_take_le->ZbW,map_append->Zai,append_assoc->Zae,take_of_length_le->Zb3,take_length->ZcU,length_set->ZcC,getElem?_append_right->Zbr,all_eq_true->Zdm,filter_append->ZcW,filterMap_cons->Z6,filterMap_nil->zd,getElem?_toArray->ZG,getElem?_cons_succ->ZD,getElem?_cons_zero->ZC
open Nat renaming zero_le->Zp,le_refl->Zj,reduceAdd->ZaF,reduceSub->Zcw,pow_le_pow_right->YX,le_trans->Zr,lt_of_lt_of_le->Zl,mul_le_mul_right->Zd8
open Option.some renaming inj->ZW
namespace Go.Proofs.Fit
open Go
@[simp] def Lp.func19:Lp.funcs[19]?=some Tryz.f19:=(AP.same 19 rfl rfl).trans Tryz.func19
@[simp] def Lp.call27 (args:Array Zf)(w:Zb):(Zz 27 args).run Lp w=.ok (.enter 27 args) w:=Ao Lp 27 Lp.func27 rfl rfl args w
@[simp] def Lp.func47:Lp.funcs[47]?=some Tryz.f47:=(AP.same 47 rfl rfl).trans Tryz.func47
@[simp] def Lp.call47 (args:Array Zf)(w:Zb):(Zz 47 args).run Lp w=.ok (.enter 47 args) w:=Ao Lp 47 Lp.func47 rfl rfl args w
@[simp] def Lp.func51:Lp.funcs[51]?=some Tryz.f51:=(AP.same 51 rfl rfl).trans Tryz.func51
@[simp] def Lp.call51 (args:Array Zf)(w:Zb):(Zz 51 args).run Lp w=.ok (.enter 51 args) w:=Ao Lp 51 Lp.func51 rfl rfl args w
@[simp] def Lp.func71:Lp.funcs[71]?=some Tryz.f71:=(AP.same 71 rfl rfl).trans Tryz.func71
@[simp] def Lp.call71 (args:Array Zf)(w:Zb):(Zz 71 args).run Lp w=.ok (.enter 71 args) w:=Ao Lp 71 Lp.func71 rfl rfl args w
@[simp] def Lp.func72:Lp.funcs[72]?=some Tryz.f72:=(AP.same 72 rfl rfl).trans Tryz.func72
@[simp] def Lp.call72 (args:Array Zf)(w:Zb):(Zz 72 args).run Lp w=.ok (.enter 72 args) w:=Ao Lp 72 Lp.func72 rfl rfl args w
@[simp] def Lp.func75:Lp.funcs[75]?=some Tryz.f75:=(AP.same 75 rfl rfl).trans Tryz.func75
@[simp] def Lp.call75 (args:Array Zf)(w:Zb):(Zz 75 args).run Lp w=.ok (.enter 75 args) w:=Ao Lp 75 Lp.func75 rfl rfl args w
@[simp] def Lp.func128:Lp.funcs[128]?=some Tryz.f128:=(AP.same 128 rfl rfl).trans Tryz.func128
@[simp] def Lp.call128 (args:Array Zf)(w:Zb):(Zz 128 args).run Lp w=.ok (.enter 128 args) w:=Ao Lp 128 Lp.func128 rfl rfl args w
def aa0:Tryz.f9.ntmps=165:=rfl
def n19:Tryz.f19.ntmps=153:=rfl
def n47:Tryz.f47.ntmps=56:=rfl
def n51:Tryz.f51.ntmps=19:=rfl
def n71:Tryz.f71.ntmps=51:=rfl
def n72:Tryz.f72.ntmps=16:=rfl
def n75:Tryz.f75.ntmps=63:=rfl
def aq4:Tryz.f128.ntmps=23:=rfl
end Go.Proofs.Fit
namespace Go.Proofs.Fit
open Go Go.RowKit
variable {w W A B w1:Zb}
variable {v v1 v2 v3 v4 v5 v6:Zf}
variable {e:Zs}
def Ih.later {base:Nat}{l:List (Int×Int)}(h:Ih w base v l e)(hB:Bl w W):Ih W base v l e:=Fu h hB
def g80 (w:Zb)(x y:Zbv)(xs ys:Array Zf):(eqGuard .neq 80 x y (.agg xs) (.agg ys)).run Lp w=.ok () w:=run_eqGuard_agg w _ _ _ _ _ _ (by kernel_rfl)
def q80 (w:Zb)(a b c d:Int):(binOp .neq 80 (.agg #[.int J a,.int J b]) (.agg #[.int J c,.int J d])).run Lp w=.ok (.bool ((a,b) !=(c,d))) w:=by
 rw[run_neq_struct,run_equalIn_agg (ht:=by kernel_rfl) (hp:=by kernel_rfl)];simp[go_sem];by_cases h1:a=c<;>by_cases h2:b=d<;>simp[h1,h2]
def Qr (n:Nat)(m:Nat->Int):List Int:=(Yr n).map m
def EI (n:Nat)(m:Nat->Int):(Qr n m).length=n:=by simp[Qr]
variable {n i g cap k j:Nat}
variable {m:Nat->Int}
def rj (h:i<n):nth (Qr n m) i=m i:=by simp[Qr,nth,h]
def lC (l:List Int):l=Qr l.length (fun j=>nth l j):=by
 apply YA;intro i;by_cases h:i<l.length
 .rw[Bn h];simp[Qr,h]
 rw[ZP (by omega),ZP (by rw[EI];omega)]
def rm (h:i<n)(k b:Int):(Qr n m).set i (m i+b*k)=Qr n (K7 m k ((i:Int),b)):=by
 apply YA;intro j;by_cases hj:j<n
 .by_cases hij:i=j
  .subst hij
   rw[Ys (by rw[EI];exact h)];simp[Qr,hj,K7]
  rw[ZS hij];simp[Qr,hj,K7];omega
 rw[ZP (by simp[EI];omega),ZP (by rw[EI];omega)]
structure MG (w:Zb)(xs:Array Zf)(v:Zf)(n:Nat)(m:Nat->Int)(wr:Zb):Prop where
 below:Bl w wr
 box:wr.heap[w.heap.size]?=some (.cells xs 26 (0,0))
 own:Own wr (w.heap.size+1) v (Qr n m)
variable {xs:Array Zf}
def MG.later {wr:Zb}(h:MG w xs v n m wr)(hB:Bl wr W):MG w xs v n m W:=
 ⟨h.below.trans (hB.mono h.below.size),(hB.block _ (Za.1 h.box).1).trans h.box,h.own.later hB⟩
def MG.row {wr:Zb}(h:MG w xs (U (some ⟨g,0,none⟩) n cap) n m wr)(hi:i<n):w.heap.size+1<=g/\∃cur,wr.heap[g]?=some (.cells cur 3 (0,0))/\cur[i]?=some (.int J (m i)):=by
 obtain⟨g',Ey,cur,e,h1,h2,h3,h4,h5,h6⟩:=h.own.val (by rw[EI];omega);rw[EI]at e;cases e;refine⟨h1,cur,h2,?_⟩;rw[h5 i (by rw[EI];exact hi),rj hi]
def MG.set {wr:Zb}(h:MG w xs (U (some ⟨g,0,none⟩) n cap) n m wr)(hi:i<n)(k b:Int):MG w xs (U (some ⟨g,0,none⟩) n cap) n (K7 m k ((i:Int),b)) (wr.setCell ⟨g,i,none⟩ (.int J (m i+b*k))):=by
 obtain⟨g',Ey,cur,e,h1,h2,h3,h4,h5,h6⟩:=h.own.val (by rw[EI];omega);rw[EI]at e;cases e;refine⟨bS h.below (by omega),(AZ (by omega) _).trans h.box,?_⟩;rw[<-rm hi];exact h6 i _ (by rw[EI];exact hi)
variable {S:Nat->Prop}
variable {c:A_}
variable {l x:List Int}
def c47 (h:RC S w v1 v2 v3 v4 v5 c)(hv:Fq c)(hl:SI S w v6 l)(hn:l.length<=c.Aa.length)(hb:∀i,i<l.length->-2<=nth l i/\nth l i<=2)(hS:∀b,S b->b<w.heap.size):
  Calls Lp 47 #[.agg #[v1,v2,v3,v4,v5],v6] w fun e w'=>∃u,e=.returned u/\Bl w w'/\SI (Cb w.heap.size w') w' u (Cc c l):=by
 obtain⟨a1,c1,rfl,l1,m1⟩:=h.base.val;obtain⟨a2,c2,rfl,l2,m2⟩:=h.Af.val;obtain⟨a3,c3,rfl,l3,m3⟩:=h.hooks.val;obtain⟨a4,c4,rfl,l4,m4⟩:=h.Aa.val;obtain⟨a5,c5,rfl,l5,m5⟩:=h.now.val;obtain⟨a6,c6,rfl,l6,m6⟩:=hl.val;have IX:=DJ;obtain⟨tN,lZ⟩:=hv.Fp;have HM:=Zd (show measure c l=Iw (fun j=>nth c.base j) (l.zip c.Aa) from rfl);have Bg:Bl w (w.alloc (.cells #[U a1 c.base.length c1,U a2 c.Af.length c2,U a3 c.hooks.length c3,U a4 c.Aa.length c4,U a5 c.now.length c5] 26)):=bA (Zh _ _);have H32:=Zd (fun W (hB:Bl w W)=>WO (h.later hB).base (by omega));have hbb:=MP hv;have HRB:=Zd (lC c.base);go_enter Lp.func47,n47;go_wp2_with (go_at_call 32;refine(H32.out _ Bg).mono ?_;rintro e w1 ⟨u,rfl,Bb,hO⟩;obtain⟨g,cap,cur,rfl,hgb,_⟩:=hO.val (by omega));have hM4:MG w #[U a1 c.base.length c1,U a2 c.Af.length c2,U a3 c.hooks.length c3,U a4 c.Aa.length c4,U a5 c.now.length c5] (U (some ⟨g,0,none⟩) c.base.length cap) c.base.length (fun j=>nth c.base j) w1:=by
  refine⟨Bg.trans (Bb.mono Bg.size),(Bb.block _ (by simp)).trans (Bp _ _),?_⟩;rw[<-HRB.out];rw[ZB]at hO;exact hO
 clear Bb hO hgb;go_loopg [6] l.length (fun gg i wr=>∃(k:Nat) (m:Nat->Int),k<=l.length/\gg=l.length - k/\i=.int J k/\Iw m ((l.zip c.Aa).drop k)=measure c l/\(∀j,-(60+16*k)<=m j/\m j<=60+16*k)/\MG w #[U a1 c.base.length c1,U a2 c.Af.length c2,U a3 c.hooks.length c3,U a4 c.Aa.length c4,U a5 c.now.length c5] (U (some ⟨g,0,none⟩) c.base.length cap) c.base.length m wr)
 case atStart=>exact⟨0,_,Zp _,rfl,rfl,rfl,fun j=>by have:=hbb j;omega,hM4⟩
 obtain⟨k,m,hk,rfl,rfl,CP,hbd,hM⟩:=hrel;have hf:=Zd CP;clear CP;by_cases Az:k<l.length
 .have Xm:k<c.Aa.length:=by omega
  have mr:=hb k Az;have hd:=Zd (SR (m:=m) Az Xm);obtain⟨b6,o6,rfl,Xj,xu⟩:=hl.at_ Az;obtain⟨b,o,s2,s3,rfl,UQ,ER,MM,LO,et,mi,hp,ho⟩:=h.Aa.at_ (i:=k) Xm;obtain⟨a7,c7,rfl,l7,m7⟩:=hp.val;clear ER MM et mi;have Xa:=hv.pull k Xm;have hpn:=hv.Ap k Xm;have Jm:=hv.few;obtain⟨n,Gc⟩:∃n,n=nth l k:=⟨_,rfl⟩;rw[<-Gc]at xu mr hd;clear Gc;obtain⟨ps,lP⟩:∃ps,ps=(Aj c.Aa k).Ap:=⟨_,rfl⟩;rw[<-lP]at LO hp l7 Xa hpn hd;clear lP;have TB:(k:Int)<(l.length:Int):=by omega
  have aym:(k:Int)<(c.Aa.length:Int):=by omega
  go_wp2;go_loopg [7] ps.length (fun gg i wx=>∃(j:Nat) (mm:Nat->Int),j<=ps.length/\gg=ps.length - j/\i=.int J j/\CZ mm n (ps.drop j)=CZ m n ps/\(∀i,-(60+16*(k:Int)+8*j)<=mm i/\mm i<=60+16*(k:Int)+8*j)/\MG w #[U a1 c.base.length c1,U a2 c.Af.length c2,U a3 c.hooks.length c3,U (some ⟨b,o,none⟩) c.Aa.length c4,U a5 c.now.length c5] (U (some ⟨g,0,none⟩) c.base.length cap) c.base.length mm wx)
  case atStart=>exact⟨0,m,Zp _,rfl,rfl,rfl,fun i=>by have:=hbd i;omega,hM⟩
  obtain⟨j,mm,hj,rfl,rfl,CP,eA,U6⟩:=hrel;have MK:=Zd CP;clear CP;have aq5:=(U6.below.cell (p:=⟨b,o+k*5+2,none⟩) (hS b UQ)).trans LO;have g3:=ch (i:=3) U6.box (v:=.slice (some ⟨b,o,none⟩) c.Aa.length c4) rfl;by_cases G4:j<ps.length
  .obtain⟨b7,o7,rfl,U3,p1,p2⟩:=hp.at_ G4
   rw[<-U6.below.cell (p:=⟨b7,o7+j*2,none⟩) (hS b7 U3)]at p1;rw[<-U6.below.cell (p:=⟨b7,o7+j*2+1,none⟩) (hS b7 U3)]at p2;have aiL:=(U6.below.cell (p:=⟨b6,o6+k,none⟩) (hS b6 Xj)).trans xu;have hpd:=Zd (PO (m:=mm) (n:=n) G4);obtain⟨Oo,MF,mC,mD⟩:=Xa j G4;obtain⟨q,hq⟩:∃q,q=BV ps j:=⟨_,rfl⟩;rw[<-hq]at p1 p2 hpd Oo MF mC mD;clear hq;obtain⟨x',y⟩:=q;obtain⟨x,rfl⟩:∃x:Nat,x'=x:=⟨x'.toNat,by simp only at Oo;omega⟩;dsimp only at p1 p2 Oo MF mC mD;have xy:x<c.base.length:=by omega
   have hxi:(x:Int)<(c.base.length:Int):=by omega
   have ayn:(0:Int)<=(x:Int):=by omega
   have ahJ:(0:Int)<=(k:Int):=by omega
   have LZ:(j:Int)<(ps.length:Int):=by omega
   have ayo:(0:Int)<=(j:Int):=by omega
   have hpr:=prod_bound ⟨mC,mD⟩ mr;have hmx:=eA x;have eB:=U6.later (bA (o:=.cells #[.int J x,.int J y] 64) (Zh _ _));go_wp2;obtain⟨W5,Jy⟩:∃W5,W5=wr.alloc (.cells #[.int J x,.int J y] 64):=⟨_,rfl⟩;have e0:W5.cell? ⟨wr.heap.size,0,none⟩=some (.int J x):=by rw[Jy];exact cn _ _ _ rfl
   have e1:W5.cell? ⟨wr.heap.size,1,none⟩=some (.int J y):=by rw[Jy];exact cn _ _ _ rfl
   have e6:W5.cell? ⟨b6,o6+k,none⟩=some (.int J n):=by rw[Jy];exact ca aiL _
   rw[<-Jy]at eB;obtain⟨hgb,cur,Xg,Ox⟩:=eB.row xy;have r0:W5.cell? ⟨g,x,none⟩=some (.int J (mm x)):=ch Xg Ox;have rf:=cf (i:=x) Xg;rw[<-Jy];clear Jy aiL p1 p2 g3 aq5;go_still_tail 17,(by kernel_rfl);change wpList _ _ _ _ _ W5.drew;have hM6:=(eB.later (Zh _ _).drew).set xy n y;go_wp2;go_roundg (ps.length - (j+1))
   case rel=>exact⟨j+1,K7 mm n ((x:Int),y),by omega,rfl,by go_num,by rw[<-MK.out,hpd.out],fun i=>by have:=MO (N:=60+16*(k:Int)+8*j) (p:=((x:Int),y)) eA ⟨mC,mD⟩ mr i;omega,hM6⟩
   omega
  have e2:mm=CZ m n ps:=by rw[<-MK.out,Z7.2 (by omega)];rfl
  subst e2;go_wp2;go_roundg (l.length - (k+1))
  case rel=>exact⟨k+1,_,by omega,rfl,by go_num,by rw[<-hf.out,hd.out],fun i=>by have:=eA i;have:(j:Int)<=2:=(by omega);omega,U6⟩
  omega
 have e1:m=measure c l:=by rw[<-hf.out,Z7.2 (by simp;omega)];rfl
 subst e1;have hs:=hM.own.si;rw[show Qr c.base.length (measure c l)=Cc c l from rfl]at hs;have Lc:=hM.below;go_wp2;go_ret;exact⟨_,rfl,Lc,Sl.imp hs (fun x (hx:Cb (w.heap.size+1) wr x)=>⟨by have:=hx.1;omega,hx.2⟩) (fun _ _ x=>x)⟩
def bU (h:Bl w A)(k:Bl A B):Bl w B:=h.trans (k.mono h.size)
def abr (c:A_)(l:List Int):List Int:=if Eg c l=0 then AB (DS c l) else []
def abh:AB 0=[]:=by decide
def c51 (h:RC S w v1 v2 v3 v4 v5 c)(hl:SI S w v6 l)(hS:∀b,S b->b<w.heap.size):
  Calls Lp 51 #[.agg #[v1,v2,v3,v4,v5],v6] w fun e w'=>∃v,e=.returned (.tuple #[v,.int J (Eg c l)])/\Bl w w'/\SI (Cb w.heap.size w') w' v (abr c l):=by
 obtain⟨a1,c1,rfl,l1,m1⟩:=h.base.val;obtain⟨a2,c2,rfl,l2,m2⟩:=h.Af.val;obtain⟨a3,c3,rfl,l3,m3⟩:=h.hooks.val;obtain⟨a4,c4,rfl,l4,m4⟩:=h.Aa.val;obtain⟨a5,c5,rfl,l5,m5⟩:=h.now.val;obtain⟨a6,c6,rfl,l6,m6⟩:=hl.val;have IX:=DJ;have Bg:Bl w (w.alloc (.cells #[U a1 c.base.length c1,U a2 c.Af.length c2,U a3 c.hooks.length c3,U a4 c.Aa.length c4,U a5 c.now.length c5] 26)):=(Zh _ _).alloc (Zj _) _;have ahe:=Zd (fun W hB=>ao2 (w:=W) (h.later hB) (hl.later hB) (A3 hS hB));have key:∃t,t<8/\AB t=abr c l/\∀(W:Zb) (hB:Bl w W),Calls Lp 119 #[.agg #[U a1 c.base.length c1,U a2 c.Af.length c2,U a3 c.hooks.length c3,U a4 c.Aa.length c4,U a5 c.now.length c5],U a6 l.length c6] W fun e w'=>∃(q1 q2 q3 q4 q5:Option Addr) (n1 n2 n3 n4 n5 d1 d2 d3 d4 d5 k0 k1 k2:Nat),e=.returned (.tuple #[.agg #[U q1 n1 d1,U q2 n2 d2,U q3 n3 d3,U q4 n4 d4,U q5 n5 d5,I .u8 k0,I .u8 k1,I .u8 k2],I .u8 t,.int J (Eg c l)])/\Bl W w':=by
  by_cases h0:Eg c l=0
  .obtain⟨ha0,_⟩:=Bj h0
   obtain⟨Jz,ER⟩:=Bj ha0;have hv:=EG Jz;have hn:l.length<=c.Aa.length:=by have:=(Fb ER).1;omega
   refine⟨DS c l,U9 (S3 hv.over) (by have:=hv.few;omega),by unfold abr;rw[if_pos h0],fun W hB=>(ahe.out W hB).mono ?_⟩;rintro e w' ⟨g,t,rfl,Bb,hx,_⟩;obtain⟨rfl,rfl⟩:=hx h0;exact⟨_,_,_,_,_,_,_,_,_,_,_,_,_,_,_,_,_,_,rfl,Bb⟩
  refine⟨0,by omega,by unfold abr;rw[if_neg h0,abh],fun W hB=>(ahe.out W hB).mono ?_⟩;rintro e w' ⟨g,t,rfl,Bb,_,hx⟩;obtain⟨rfl,rfl⟩:=hx h0;exact⟨_,_,_,_,_,_,_,_,_,_,_,_,_,_,_,_,_,_,rfl,Bb⟩
 obtain⟨t,pK,cI,hK⟩:=key;have HK:=Zd hK;have HT:=Zd cI;obtain⟨E,hE⟩:∃E,E=Eg c l:=⟨_,rfl⟩;rw[<-hE]at HK⊢;clear hK cI hE;go_enter Lp.func51,n51;go_wp2_with (first|(go_at_call 119;refine(HK.out _ Bg).mono ?_;rintro e w1 ⟨q1,q2,q3,q4,q5,n1,n2,n3,n4,n5,d1,d2,d3,d4,d5,k0,k1,k2,rfl,Bb⟩;have Bv:=Bg.trans (Bb.mono Bg.size))|(go_at_call 120;refine(abf pK).mono ?_;rintro e w2 ⟨v,rfl,De,hv,_⟩;have Cj:=(bA Bv).trans (De.mono (bA Bv).size);obtain⟨a7,c7,rfl,l7,m7⟩:=hv.val));go_ret2;refine⟨_,rfl,Cj,?_⟩;rw[<-HT.out];exact Sl.imp hv (fun x (hx:Cb _ _ x)=>⟨by have h1:=hx.1;have h2:=Bv.size;simp at h1;omega,hx.2⟩) fun _ _ x=>x
def abj {fn:Func}{p u:Tmp}{ty:Zs}(h:fn.results= #[.cell p ty,.tmp u])(tmps:Array Zf)(P:Zo)(w:Zb):
  (results fn tmps).run P w=((asAddr (tmps.getD p Ze)).run P w).andThen fun a w₁=>((Zdd ty a).run P w₁).andThen fun v w₂=>.ok (.tuple #[v,tmps.getD u Ze]) w₂:=by
 simp only[results,h];simp[zg,zu]
attribute [local go_sem] Zdk
def Ev (c:A_)(l:List Int):Bool:=(JU c (DS c l)).isNone
def LU (c:A_):List (List Int):=(EH c).filter (Ev c)
def WV (h:l∈EH c):Tc c l:=Lf _ _ h
def Tn {base:Nat}{xs:List Zf}(hB:Bl A B)(h:A.ownsRow base e k v n xs):B.ownsRow base e k v n xs:=CO (T:=fun _=>False) (Ak.later hB) (fun _ _ x=>x) h
variable {vals:List Zf}
def AQ.snoc {base m g' Ey ln cc:Nat}{ad:Option Addr}{pre:List (List Int)}(hI:AQ w base pre A)(hw:w.heap.size<base)(FY:A.heap[w.heap.size]?=some (.cells #[v] 27 (0,0)))(Ci:A.ownsRow base 22 1 v pre.length vals)
 (DF:∀(i:Nat) (x:List Int),pre[i]?=some x->∃u,vals[i]?=some u/\SI (J1 3 base A) A u x) (hu:SI (J1 3 m A) A (U ad ln cc) x) (hm:base<=m) (S4:(A.alloc (.cells #[U ad ln cc] 22)).grownBy w1 v.ownBlock)
 (AX:w1.ownsRow base 22 1 (U (some ⟨g',0,none⟩) (pre.length+1) Ey) (pre.length+1) (vals++ [U ad ln cc])):
  AQ w base (pre++ [x]) (w1.setCell ⟨w.heap.size,0,none⟩ (U (some ⟨g',0,none⟩) (pre.length+1) Ey))/\Ak (fun k=>k=w.heap.size\/base<=k) A (w1.setCell ⟨w.heap.size,0,none⟩ (U (some ⟨g',0,none⟩) (pre.length+1) Ey)):=by
 have Em:∀k,v.ownBlock=some k->base<=k:=fun k hk=>(Ci.lt k hk).1;have hzA:=hI.size;have PZ:w1.heap[w.heap.size]?=some (.cells #[v] 27 (0,0)):=(S4.block _ (by simp;omega) (fun e=>by have:=Em _ e.symm;omega)).trans (Bf FY _);have DR:A.heap.size<w1.heap.size:=by have:=S4.size;simp at this;omega
 have Kd:Ak (fun k=>v.ownBlock=some k) A w1:=(Ak.later (bA (Zh _ _))).trans (Ak.grown S4 fun k hk=>hk);have D3:∀(T:Nat->Prop),T w.heap.size->Ak T w1 (w1.setCell ⟨w.heap.size,0,none⟩ (U (some ⟨g',0,none⟩) (pre.length+1) Ey)):=fun T h=>(Ak.refl _ _).set h;refine⟨⟨?_,?_,_,vals++ [U ad ln cc],Ba PZ _,?_,fun i y hy=>?_⟩,(Kd.mono fun k hk=>.inr (Em k hk)).trans (D3 _ (.inl rfl))⟩
 .exact(hI.below.trans (Kd.below (fun k hk=>by have:=Em k hk;omega) hI.below.size)).trans ((D3 (fun k=>k=w.heap.size) rfl).below (fun k hk=>by omega) (by omega))
 .have:=(D3 (fun k=>k=w.heap.size) rfl).size
  omega
 .rw[ZA]
  exact CO (D3 (fun k=>k=w.heap.size) rfl) (fun b h1 h2=>by omega) AX
 have key:∀u,SI (J1 3 base A) A u y->SI (J1 3 base (w1.setCell ⟨w.heap.size,0,none⟩ (U (some ⟨g',0,none⟩) (pre.length+1) Ey))) (w1.setCell ⟨w.heap.size,0,none⟩ (U (some ⟨g',0,none⟩) (pre.length+1) Ey)) u y:=fun u h=>by
  refine Dx (T:=fun k=>v.ownBlock=some k\/k=w.heap.size) ((Kd.mono fun k hk=>.inl hk).trans (D3 _ (.inr rfl))) (fun b hb h=>?_) h;rcases h with h|h
  .obtain⟨cs,hcs⟩:=hb.2
   rcases Ci.2 with⟨e,_⟩|⟨g,cap,cur,e,_,hg,_⟩
   .rw[e]at h;cases h
   rw[e]at h;cases h;rw[hg]at hcs;cases hcs
  have:=hb.1.1;omega
 by_cases Az:i<pre.length
 .rw[zl Az]at hy
  obtain⟨u,hu,hs⟩:=DF i y hy;exact⟨u,by rw[zl (Zm.1 hu).1];exact hu,key u hs⟩
 have aX:=(Zm.1 hy).1;rw[ZA,zb,zR]at aX;obtain rfl:i=pre.length:=by omega
 rw[Y1]at hy;cases hy;have uM:vals.length=pre.length:=by have:=Ci.1;omega
 refine⟨U ad ln cc,by rw[<-uM,Y1],key _ (Sl.imp hu (fun b hb=>⟨⟨?_,hb.1.2⟩,hb.2⟩) (fun _ _ x=>x))⟩;have:=hb.1.1;omega
def aiM (h:RC S w v1 v2 v3 v4 v5 c)(hS:∀b,S b->b<w.heap.size)(hv:Fq c):
  CallsIn ZbC 0 Lp 128 #[.agg (AW v1 v2 v3 v4 v5 (Ax c.Aa))] w fun e w'=>∃v,e=.returned v/\Bl w w'/\SL (Cb w.heap.size w') w' v (LU c):=by
 obtain⟨a1,c1,rfl,_⟩:=h.base.val;obtain⟨a2,c2,rfl,_⟩:=h.Af.val;obtain⟨a3,c3,rfl,_⟩:=h.hooks.val;obtain⟨a4,c4,rfl,_⟩:=h.Aa.val;obtain⟨a5,c5,rfl,_⟩:=h.now.val;have hfw:=hv.few;have HNW:=Zd hv.uy;have pT:=S3 hv.over;obtain⟨ab,DU⟩:∃ab,ab=Ax c.Aa:=⟨_,rfl⟩;have mG:=Zd DU;rw[<-DU]at pT⊢;clear DU;have hgs:(AW (U a1 c.base.length c1) (U a2 c.Af.length c2) (U a3 c.hooks.length c3) (U a4 c.Aa.length c4) (U a5 c.now.length c5) ab).size=8:=rfl;obtain⟨W1,NL⟩:∃W1,W1=w.alloc (.cells (AW (U a1 c.base.length c1) (U a2 c.Af.length c2) (U a3 c.hooks.length c3) (U a4 c.Aa.length c4) (U a5 c.now.length c5) ab) 112):=⟨_,rfl⟩;refine callsIn_of_wp_marks Lp.func128 rfl trivial ?_ rfl;show Code.wpIn _ _ _ _ _ {tmps:= #[.agg (AW (U a1 c.base.length c1) (U a2 c.Af.length c2) (U a3 c.hooks.length c3) (U a4 c.Aa.length c4) (U a5 c.now.length c5) ab)]++_,defers:=[]} _;unfold AW;simp only[aq4,Zbm,zb,zR,ZaF,Zcw,ZaN,ZaM,Zbn,Za4,zP,Za1]
 gi_wp2
 refine⟨trivial,rfl,(Zcx (n:=0).2 (ahC (AW (U a1 c.base.length c1) (U a2 c.Af.length c2) (U a3 c.hooks.length c3) (U a4 c.Aa.length c4) (U a5 c.now.length c5) ab) rfl (by simp[AW,YT]) _)).mono ?_⟩;rintro e V ⟨rfl,hV⟩;change V=((w.alloc (.cells (AW (U a1 c.base.length c1) (U a2 c.Af.length c2) (U a3 c.hooks.length c3) (U a4 c.Aa.length c4) (U a5 c.now.length c5) ab) 112)).alloc (.cells #[U none 0 0] 27)).alloc (.cells (AW (U a1 c.base.length c1) (U a2 c.Af.length c2) (U a3 c.hooks.length c3) (U a4 c.Aa.length c4) (U a5 c.now.length c5) ab) 112) at hV;rw[<-NL]at hV;have DR:W1.heap.size=w.heap.size+1:=by rw[NL];simp
 have hzV:V.heap.size=w.heap.size+3:=by rw[hV];simp;omega
 have Bg:Bl w W1:=by rw[NL];exact bA (Zh _ _)
 have acG:Bl W1 V:=by rw[hV];exact bA (bA (Zh _ _))
 have lD:W1.heap[w.heap.size]?=some (.cells (AW (U a1 c.base.length c1) (U a2 c.Af.length c2) (U a3 c.hooks.length c3) (U a4 c.Aa.length c4) (U a5 c.now.length c5) ab) 112 (0,0)):=by rw[NL];exact Bp _ _
 have Ia:V.heap[W1.heap.size]?=some (.cells #[U none 0 0] 27 (0,0)):=by rw[hV];exact Bf (Bp _ _) _
 have iz:V.heap[w.heap.size+1+1]?=some (.cells (AW (U a1 c.base.length c1) (U a2 c.Af.length c2) (U a3 c.hooks.length c3) (U a4 c.Aa.length c4) (U a5 c.now.length c5) ab) 112 (0,0)):=by rw[hV, <-DR,show W1.heap.size+1=(W1.alloc (.cells #[U none 0 0] 27)).heap.size by simp];exact Bp _ _
 have Ui:Bl w V:=Bg.trans (acG.mono Bg.size);have HS:=Zd (show∀W,Bl w W->RC S W (U a1 c.base.length c1) (U a2 c.Af.length c2) (U a3 c.hooks.length c3) (U a4 c.Aa.length c4) (U a5 c.now.length c5) c from fun W hB=>h.later hB);have eZ:=qv iz (HS.out V Ui) (fun b hb=>by have:=hS b hb;omega) (by omega) (fun i hi=>by have:=hv.step i hi;omega);clear hV;simp only[ZB];obtain⟨K,hK⟩:∃K:Nat->Prop,K=fun k=>S k\/k=w.heap.size+1+1:=⟨_,rfl⟩;have ju:∀k,K k->k<w.heap.size\/k=w.heap.size+1+1:=fun k h=>by
  rw[hK]at h;rcases h with h|rfl
  .exact .inl (hS k h)
  exact .inr rfl
 rw[<-hK]at eZ;clear hK;have hN:(EH c).length<=125:=by
  have:=H7 c.Aa (fun i hi=>by have:=hv.step i hi;omega);have h2:5^c.Aa.length<=5^3:=YX (by decide) (by omega);exact Zr this h2
 obtain⟨i0,hi,Fl,k9,EB⟩:=zp Hw;have hu:=Cz zW;have HZ:=Zd (show w.heap.size+1<=W1.heap.size/\W1.heap.size<=w.heap.size+1/\w.heap.size+3<=V.heap.size/\V.heap.size<=w.heap.size+3 by omega);have hE1:=Zd DR;clear NL DR hzV
 gi_wp2
 have kL:=HZ.out;refine Vm (gf:=153) (lb:= #[.pointer (some ⟨w.heap.size+1+1,0,none⟩)]) rfl (Go.Proofs.enters_of Lp.func153 (by kernel_rfl) rfl) eZ (Zj _) (fun k hk=>⟨by have:=ju k hk;omega,rfl⟩) (fun pre A=>AQ W1 (V.heap.size+6) (pre.filter (Ev c)) A) (fun A hA hs=>?_) (fun pre A B h hT=>h.CN (n:=V.heap.size) (by omega) rfl hT)
  (fun u=> {tmps:= #[.agg #[U a1 c.base.length c1,U a2 c.Af.length c2,U a3 c.hooks.length c3,U a4 c.Aa.length c4,U a5 c.now.length c5,I .u8 (ab 0),I .u8 (ab 1),I .u8 (ab 2)],.pointer (some ⟨w.heap.size,0,none⟩),U none 0 0,.pointer (some ⟨w.heap.size+1,0,none⟩),u,Ze,Ze,.agg #[U a1 c.base.length c1,U a2 c.Af.length c2,U a3 c.hooks.length c3,U a4 c.Aa.length c4,U a5 c.now.length c5,I .u8 (ab 0),I .u8 (ab 1),I .u8 (ab 2)],.func (.func 153) #[] #[.pointer (some ⟨w.heap.size+1+1,0,none⟩)],u,Ze,Ze,Ze,Ze,Ze,Ze,Ze,Ze,Ze,Ze,Ze,Ze,Ze],defers:=[]}) ?assign ?body ?done
 .exact⟨acG.trans (hA.mono acG.size),by omega,_,[],(hA.block _ (by omega)).trans Ia,zq _ _ _ _,fun i x hx=>by cases hx⟩
 case assign=>
  rintro l u W' K ⟨ad,n,cc,rfl⟩ hK
  gi_wp2
  exact hK
 case body=>
  intro l pre x u A0 A hI0 hT hz hlen iA;have hI:=hI0.CN (n:=V.heap.size) (by omega) rfl hT;obtain⟨v,vals,FY,Ci,DF⟩:=hI.box;obtain⟨ad,cc,rfl,lu,mu⟩:=iA.val;have hzA:V.heap.size+6<=A.heap.size:=hI.size;have hxm:x∈EH c:=hlen.subset (by simp);have aiN:=hlen.length_le;rw[ZA,zb,zR]at aiN;obtain⟨MF,_⟩:=WV hxm;have hBA:Bl w A:=Bg.trans (hI.below.mono Bg.size);have yp:A.heap[w.heap.size]?=some (.cells #[U a1 c.base.length c1,U a2 c.Af.length c2,U a3 c.hooks.length c3,U a4 c.Aa.length c4,U a5 c.now.length c5,I .u8 (ab 0),I .u8 (ab 1),I .u8 (ab 2)] 112 (0,0)):=(hI.below.block w.heap.size (by omega)).trans lD;have kL:=HZ.out;have HI:=Zd hI;have hxl:x.length<=c.now.length:=by have:=HNW.out;omega
  have M_:=c90 ((HS.out A hBA).imp (T:=fun b=>b<A.heap.size) fun b hb=>by have:=hS b hb;have:=hBA.size;show b<_;omega) (Sl.imp iA (T:=fun b=>b<A.heap.size) (fun b hb=>hb.1.2) fun _ _ x=>x) hxl (by have:=HNW.out;omega) (ab:=ab) pT (by rw[mG.out];exact MT hv (by omega)) fun b hb=>hb;have HCB:=Zd (show Ev c x=(JU c (Cx ab c.now x)).isNone by rw[mG.out];rfl);obtain⟨t,ht⟩:∃t,t=Cx ab c.now x:=⟨_,rfl⟩;rw[<-ht]at M_ HCB;clear ht;obtain⟨o,ho⟩:∃o,o=JU c t:=⟨_,rfl⟩;rw[<-ho]at M_ HCB;clear ho;have vw:=Zd ((Zcx (n:=0)).2 M_);have HX1:=Zd (ZY MF hxl);clear M_ hlen hxm MF hxl;have g0:=ch (i:=0) yp rfl;have g1:=ch (i:=1) yp rfl;have g2:=ch (i:=2) yp rfl;have g3:=ch (i:=3) yp rfl;have g4:=ch (i:=4) yp rfl;have g5:=ch (i:=5) yp rfl;have g6:=ch (i:=6) yp rfl;have g7:=ch (i:=7) yp rfl;cases o with
  |some i=>
   dsimp only[uv]at vw
   gi_wp2
   refine⟨trivial,rfl,vw.out.mono ?_⟩;rintro e w2 ⟨rfl,Bb⟩
   gi_wp2
   have Tq:pre.filter (Ev c)++ [x].filter (Ev c)=pre.filter (Ev c):=by rw[ZbB,HCB.out];simp
   rw[Tq];refine⟨?_,Ak.later Bb⟩;obtain⟨v,vals,b1,b2,b3⟩:=hI.box;exact⟨hI.below.trans (Bb.mono hI.below.size),by have:=Bb.size;omega,v,vals,(Bb.block _ (Za.1 b1).1).trans b1,Tn Bb b2,fun i y hy=>by
    obtain⟨u,h1,h2⟩:=b3 i y hy;exact⟨u,h1,Dx (T:=fun _=>False) (Ak.later Bb) (fun _ _ h=>h) h2⟩⟩
  |none=>
   dsimp only[uv]at vw
   gi_wp2
   refine⟨trivial,rfl,vw.out.mono ?_⟩;rintro e w2 ⟨rfl,Bb⟩;have mJ:AQ W1 (V.heap.size+6) (pre.filter (Ev c)) w2:=by
    obtain⟨v,vals,b1,b2,b3⟩:=hI.box;exact⟨hI.below.trans (Bb.mono hI.below.size),by have:=Bb.size;omega,v,vals,(Bb.block _ (Za.1 b1).1).trans b1,Tn Bb b2,fun i y hy=>by
     obtain⟨u,h1,h2⟩:=b3 i y hy;exact⟨u,h1,Dx (T:=fun _=>False) (Ak.later Bb) (fun _ _ h=>h) h2⟩⟩
   have Hb:SI (J1 3 A0.heap.size w2) w2 (U ad x.length cc) x:=Dx (T:=fun _=>False) (Ak.later Bb) (fun _ _ h=>h) iA;clear FY Ci DF;obtain⟨v,vals,FY,Ci,DF⟩:=mJ.box;have kb:=ch (i:=0) FY (v:=v) rfl;have fb:=cf (i:=0) FY;rw[hE1.out]at kb fb;have G9:=Zac (Ev c) pre;have Tq:pre.filter (Ev c)++ [x].filter (Ev c)=pre.filter (Ev c)++ [x]:=by rw[ZbB,HCB.out];simp
   gi_wp2_with (gi_at_builtin;refine wpListIn_append_own _ rfl _ _ 27 rfl (V.heap.size+6) 22 i0 (U none 0 0) 1 24 hu (Dz hi) Fl k9 EB rfl (by decide) _ _ _ rfl (Ci.alloc _) ⟨w2.heap.size,0,none⟩ 1 1 [U ad x.length cc] rfl rfl (cell_one_new _ _ _) (by simp[YT]) (by unfold maxLen;omega) (by omega) (by have:=Bb.size;simp;omega) ?_;intro v' w3 Bi AG Gc;obtain⟨g',Ey,rfl⟩:=Zay Bi;have S4:(w2.alloc (.cells #[U ad x.length cc] 22)).grownBy w3 v.ownBlock:=AG;have Em:∀k,v.ownBlock=some k->V.heap.size+6<=k:=fun k hk=>(Ci.lt k hk).1;have PZ:w3.heap[W1.heap.size]?=some (.cells #[v] 27 (0,0)):=(S4.block _ (by have:=Bb.size;simp;omega) (fun e=>by have:=Em _ e.symm;omega)).trans (Bf FY _);have kb1:=ch (i:=0) PZ (v:=v) rfl;have fb1:=cf (i:=0) PZ;rw[hE1.out]at kb1 fb1)
   obtain⟨q1,q2⟩:=AQ.snoc mJ (by omega) FY Ci DF Hb (by have:=hzA;omega) S4 Bi;rw[hE1.out]at q1 q2;exact⟨q1,(Ak.later Bb).trans (q2.mono fun k hk=>⟨by unfold Kp;omega,fun h=>by have:=ju k h;omega⟩)⟩
 intro A hI hD;obtain⟨v,vals,FY,Ci,DF⟩:=hI.box;have kb:=ch (i:=0) FY (v:=v) rfl;rw[hE1.out]at kb
 gi_wp2
 have hT:Ak (fun k=>k=V.heap.size) A (A.putObj V.heap.size (.deferred none)):=(Ak.refl _ _).put rfl;have aiO:=Bg.trans (hI.below.mono Bg.size);have hBA:Bl w (A.putObj V.heap.size (.deferred none)):=aiO.trans (hT.below (fun k hk=>by omega) aiO.size);have Ox:=CO hT (fun b h1 h2=>by omega) Ci;have gI:∀(i:Nat) (x:List Int),(LU c)[i]?=some x->∃u,vals[i]?=some u/\SI (Cb w.heap.size (A.putObj V.heap.size (.deferred none))) (A.putObj V.heap.size (.deferred none)) u x:=fun i x hx=>by
  obtain⟨u,h1,h2⟩:=DF i x hx;exact⟨u,h1,Sl.imp (Dx hT (fun b hb h=>by have:=hb.1.1;omega) h2) (fun b hb=>⟨by have:=hb.1.1;omega,hb.1.2⟩) (fun _ _ x=>x)⟩
 refine⟨by simp,.inl ⟨_,_,rfl,run_takeDeferred hD,?_⟩⟩;exact⟨_,results_tmp rfl _ _ _,_,rfl,hBA,WM (ls:=LU c) Ox (by omega) gI⟩
def bV {C:Zb}(h:Bl A B)(k:Bl B C):Bl A C:=h.trans (k.mono h.size)
def SL.imp {T:Nat->Prop}{l:List (List Int)}(h:SL S w v l)(hs:∀b,S b->T b):SL T w v l:=Sl.imp h hs fun _ _ ⟨u,e,hl⟩=>⟨u,e,Sl.imp hl hs fun _ _ x=>x⟩
def c72 (h:RC S w v1 v2 v3 v4 v5 c)(hS:∀b,S b->b<w.heap.size)(Jz:BN c=0):
  Calls Lp 72 #[.agg #[v1,v2,v3,v4,v5]] w fun e w'=>∃a cc,e=.returned (.tuple #[U a (LU c).length cc,.int J 0])/\Bl w w'/\SL (Cb w.heap.size w') w' (U a (LU c).length cc) (LU c):=by
 obtain⟨a1,c1,rfl,_⟩:=h.base.val;obtain⟨a2,c2,rfl,_⟩:=h.Af.val;obtain⟨a3,c3,rfl,_⟩:=h.hooks.val;obtain⟨a4,c4,rfl,_⟩:=h.Aa.val;obtain⟨a5,c5,rfl,_⟩:=h.now.val;have hv:=EG Jz;have Bg:Bl w (w.alloc (.cells #[U a1 c.base.length c1,U a2 c.Af.length c2,U a3 c.hooks.length c3,U a4 c.Aa.length c4,U a5 c.now.length c5] 26)):=bA (Zh _ _);have ez:=Zd (fun W hB=>Wt (w:=W) (h.later hB) (A3 hS hB) Jz);have lE:=Zd (fun W (hB:Bl w W)=>(Zcx (n:=0)).1 (aiM (w:=W) (h.later hB) (A3 hS hB) hv));unfold AW at lE;go_enter Lp.func72,n72;go_wp2_with (first|(go_at_call 88;refine(ez.out _ Bg).mono ?_;rintro e w1 ⟨rfl,Bb⟩;have Bv:=Bg.trans (Bb.mono Bg.size))|(go_at_call 128;refine(lE.out _ (bA Bv)).mono ?_;rintro e w2 ⟨v,rfl,De,hv⟩;obtain⟨x,y,rfl,_⟩:=hv.val));have hz:=Bv.size;go_ret2;exact⟨_,_,rfl,bV (bA Bv) De,hv.imp fun b hb=>⟨by have h1:=hb.1;rw[ZB]at h1;omega,hb.2⟩⟩
def LR (base:Nat)(w:Zb)(v:Zf)(P:List (List Int)):Prop:=∃vals,w.ownsRow base 22 1 v P.length vals/\∀(i:Nat) (x:List Int),P[i]?=some x->∃u,vals[i]?=some u/\SI (J1 3 base w) w u x
def LR.nil (base:Nat)(w:Zb):LR base w (U none 0 0) []:=⟨[],zq _ _ _ _,fun i x h=>by cases h⟩
variable {P:List (List Int)}
def LR.sl {base:Nat}(h:LR base w v P):SL (Cb base w) w v P:=by
 obtain⟨vals,h1,h2⟩:=h;refine WM h1 (Zj _) fun i x hi=>?_;obtain⟨u,h3,h4⟩:=h2 i x hi;exact⟨u,h3,Sl.imp h4 (fun b hb=>hb.1) fun _ _ x=>x⟩
def LR.val {base:Nat}(h:LR base w v P):∃a c,v=.slice a P.length c/\P.length<=c/\c<=maxLen:=by
 obtain⟨a,c,h1,h2,h3,_⟩:=h.sl;exact⟨a,c,h1,h2,h3⟩
def LR.snoc {A1:Zb}{base m:Nat}{u v':Zf}(Ci:A.ownsRow base 22 1 v P.length vals)(DF:∀(i:Nat) (x:List Int),P[i]?=some x->∃u,vals[i]?=some u/\SI (J1 3 base A) A u x)
 (hu:SI (J1 3 m A) A u x) (hm:base<=m) (hB:Bl A A1) (S4:A1.grownBy w1 v.ownBlock) (AX:w1.ownsRow base 22 1 v' (P.length+1) (vals++ [u])):LR base w1 v' (P++ [x]):=by
 have Kd:Ak (fun k=>v.ownBlock=some k) A w1:=(Ak.later hB).trans (Ak.grown S4 fun k hk=>hk);refine⟨vals++ [u],by rw[ZA];exact AX,fun i y hy=>?_⟩;have key:∀u,SI (J1 3 base A) A u y->SI (J1 3 base w1) w1 u y:=fun u h=>by
  refine Dx Kd (fun b hb h=>?_) h;obtain⟨cs,hcs⟩:=hb.2;rcases Ci.2 with⟨e,_⟩|⟨g,cap,cur,e,_,hg,_⟩
  .rw[e]at h;cases h
  rw[e]at h;cases h;rw[hg]at hcs;cases hcs
 by_cases Az:i<P.length
 .rw[zl Az]at hy
  obtain⟨u,hu,hs⟩:=DF i y hy;exact⟨u,by rw[zl (Zm.1 hu).1];exact hu,key u hs⟩
 have aX:=(Zm.1 hy).1;rw[ZA,zb,zR]at aX;obtain rfl:i=P.length:=by omega
 rw[Y1]at hy;cases hy;have uM:vals.length=P.length:=by have:=Ci.1;omega
 exact⟨u,by rw[<-uM,Y1],key _ (Sl.imp hu (fun b hb=>⟨⟨Zr hm hb.1.1,hb.1.2⟩,hb.2⟩) (fun _ _ x=>x))⟩
def Ju (s:Ay)(p:List Int):List (List Int):=(IU s.low s.high).map fun n=>p++ [n]
def Vt (s:Ay):∀l:List Ay,EZ (l++ [s])=(EZ l).flatMap (Ju s)
 | []=>by simp only[zP,EZ,Ju,List.flatMap_cons,List.flatMap_nil,ZaA,List.map_cons,List.map_nil];exact List.map_eq_flatMap.symm
 |t::r=>by
  show((IU t.low t.high).flatMap fun n=>(EZ (r++ [s])).map (n:: ·))=((IU t.low t.high).flatMap fun n=>(EZ r).map (n:: ·)).flatMap (Ju s);rw[Vt s r,List.flatMap_assoc]
  congr 1
  funext n
  rw[List.map_flatMap,List.flatMap_map]
  congr 1
  funext p
  simp[Ju,ZdQ]
def rq {s:Ay}{p:List Int}{q:Nat}(h:q<(s.high+1 - s.low).toNat):(Ju s p).take (q+1)=(Ju s p).take q++ [p++ [s.low+(q:Int)]]:=by
 unfold Ju IU;rw[List.map_map,ZbH,YL,List.getElem?_range h]
 rfl
def iX (s:Ay)(p:List Int):(Ju s p).length=(s.high+1 - s.low).toNat:=by simp[Ju,IU]
def lG {f:List Int->List (List Int)}{l:List (List Int)}(h:k<l.length):(l.take (k+1)).flatMap f=(l.take k).flatMap f++f (BM l k):=by
 rw[ZbH,BJ h,Zbe];simp
def Own.typ {base:Nat}(h:Own w base v l):SI (J1 3 base w) w v l:=
 Lg (R:=Ri) (by decide) h fun i x hx=>by
  rw[Nat.mul_one];obtain⟨hi,e⟩:=Zm.1 hx;rw[ZO (by simpa using hi)];simp[Ri,e]
def c71 (h:RC S w v1 v2 v3 v4 v5 c)(hS:∀b,S b->b<w.heap.size)(Jm:c.Aa.length<=3)(B_:∀i,i<c.Aa.length->-2<=(Aj c.Aa i).low/\(Aj c.Aa i).high<=2):
  Calls Lp 71 #[.agg #[v1,v2,v3,v4,v5]] w fun e w'=>∃a cc,e=.returned (U a (EH c).length cc)/\Bl w w'/\SL (Cb w.heap.size w') w' (U a (EH c).length cc) (EH c):=by
 obtain⟨a1,c1,rfl,_⟩:=h.base.val;obtain⟨a2,c2,rfl,_⟩:=h.Af.val;obtain⟨a3,c3,rfl,_⟩:=h.hooks.val;obtain⟨a4,c4,rfl,_⟩:=h.Aa.val;obtain⟨a5,c5,rfl,_⟩:=h.now.val;have IX:=DJ;obtain⟨i3,hi3,h30,h31,h32⟩:=zp KY;obtain⟨i22,aq9,aqa,aqb,aqc⟩:=zp Hw;obtain⟨W1,NL⟩:∃W1,W1=w.alloc (.cells #[U a1 c.base.length c1,U a2 c.Af.length c2,U a3 c.hooks.length c3,U a4 c.Aa.length c4,U a5 c.now.length c5] 26):=⟨_,rfl⟩;have lD:W1.heap[w.heap.size]?=some (.cells #[U a1 c.base.length c1,U a2 c.Af.length c2,U a3 c.hooks.length c3,U a4 c.Aa.length c4,U a5 c.now.length c5] 26 (0,0)):=by rw[NL];exact Bp _ _
 have Bg:Bl w W1:=by rw[NL];exact bA (Zh _ _)
 go_enter Lp.func71,n71;go_wp2;rw[<-NL];obtain⟨W2,MX⟩:∃W2,W2=W1.alloc (.cells #[U none 0 0] 22):=⟨_,rfl⟩;have DR:W1.heap.size=w.heap.size+1:=by rw[NL];simp
 have Bb:Bl w W2:=by rw[MX];exact bA Bg
 have Ia:W2.heap[w.heap.size]?=some (.cells #[U a1 c.base.length c1,U a2 c.Af.length c2,U a3 c.hooks.length c3,U a4 c.Aa.length c4,U a5 c.now.length c5] 26 (0,0)):=by rw[MX];exact Bf lD _
 have hO2:SL (Cb w.heap.size W2) W2 (U (some ⟨w.heap.size+1,0,none⟩) (EZ (c.Aa.take 0)).length 1) (EZ (c.Aa.take 0)):=by
  refine⟨_,_,rfl,Zj _,by omega,fun i x hx=>?_⟩;have:i=0/\x=[]:=by
   match i,hx with
   |0,hx=>cases hx;exact⟨rfl,rfl⟩
  obtain⟨rfl,rfl⟩:=this;refine⟨_,0,[U none 0 0],rfl,⟨by omega,by rw[MX];simp;omega⟩,rfl,fun j u hj=>?_,_,rfl,none,0,rfl,Zj _,Zp _,fun i x hx=>by cases hx⟩
  match j,hj with
  |0,hj=>cases hj;rw[MX, <-DR];exact cn _ _ _ rfl
 have hqw:w.heap.size<W2.heap.size:=(Za.1 Ia).1;have HSS:=Zd (show∀W,Bl w W->SS S W (U a4 c.Aa.length c4) c.Aa from fun W hB=>(h.later hB).Aa);have qO:=Zd B_;rw[<-MX];clear NL MX lD Bg DR B_;go_loopg [3,4] c.Aa.length (fun gg ov i wr=>∃(k:Nat) (oa:Option Addr) (oc:Nat),k<=c.Aa.length/\gg=c.Aa.length - k/\i=.int J k/\ov=.slice oa (EZ (c.Aa.take k)).length oc/\Bl w wr/\wr.heap[w.heap.size]?=some (.cells #[U a1 c.base.length c1,U a2 c.Af.length c2,U a3 c.hooks.length c3,U a4 c.Aa.length c4,U a5 c.now.length c5] 26 (0,0))/\SL (Cb w.heap.size wr) wr (U oa (EZ (c.Aa.take k)).length oc) (EZ (c.Aa.take k)))
 case atStart=>exact⟨0,_,_,Zp _,rfl,rfl,rfl,Bb,Ia,hO2⟩
 obtain⟨k,oa,oc,hk,rfl,rfl,rfl,Jp,hXr,hOr⟩:=hrel;have U4:=ch (i:=3) hXr (v:=.slice a4 c.Aa.length c4) rfl;by_cases Az:k<c.Aa.length
 .have HFS:=Zd (show EZ (c.Aa.take (k+1))=(EZ (c.Aa.take k)).flatMap (Ju (Aj c.Aa k)) by rw[ZbH,Db Az];exact Vt _ _)
  have hOn:(EZ (c.Aa.take k)).length<=125:=by
   have h0:=H7 (c.Aa.take k) (fun i hi=>by
    rw[ZcV]at hi;have:=qO.out i (by omega);rwa[show Aj (c.Aa.take k) i=Aj c.Aa i by simp[Aj,Y6,Z2 (show i<k by omega)]])
   have h2:5^(c.Aa.take k).length<=5^3:=YX (by decide) (by rw[ZcV];omega);exact Zr h0 h2
  obtain⟨mK,hhi⟩:=qO.out k Az;have uR:=Zd (show∀x∈EZ (c.Aa.take k),x.length<=k from fun x hx=>by have:=(Lf _ _ hx).1;rw[ZcV]at this;omega);obtain⟨O,hO⟩:∃O,O=EZ (c.Aa.take k):=⟨_,rfl⟩;rw[<-hO]at hOn hOr HFS uR⊢;clear hO;obtain⟨s,hs⟩:∃s,s=Aj c.Aa k:=⟨_,rfl⟩;have HCL:=Zd (show∀W,Bl w W->∃b o,a4=some ⟨b,o,none⟩/\W.cell? ⟨b,o+k*5,none⟩=some (.int J s.low)/\W.cell? ⟨b,o+k*5+1,none⟩=some (.int J s.high) from fun W hB=>by
   obtain⟨b,o,_,_,e,_,x1,x2,_⟩:=(HSS.out W hB).at_ Az;rw[hs];exact⟨b,o,e,x1,x2⟩)
  rw[<-hs]at HFS mK hhi;clear hs;obtain⟨m,hm⟩:∃m,m=(s.high+1 - s.low).toNat:=⟨_,rfl⟩;have HM:=Zd hm;have hm5:m<=5:=by omega
  have uY:(m:Int)<=s.high+1 - s.low\/m=0:=by omega
  obtain⟨lo,vx⟩:∃lo,lo=s.low:=⟨_,rfl⟩;obtain⟨hi,acH⟩:∃hi,hi=s.high:=⟨_,rfl⟩;have HLO:=Zd vx;have hmh:∀q:Nat,q<m↔lo+(q:Int)<=hi:=fun q=>by omega
  rw[<-vx, <-acH]at HCL;rw[<-vx]at mK;rw[<-acH]at hhi;clear vx acH hm uY;obtain⟨b4,o4,ea,_,_⟩:=HCL.out _ Jp;subst ea;have TB:(k:Int)<(c.Aa.length:Int):=by omega
  obtain⟨Y,hY⟩:∃Y,Y=wr:=⟨_,rfl⟩;subst hY;have HOR:=Zd hOr;clear hOr;go_wp2;go_loopg [5,6] O.length (fun gg lv i wx=>∃j:Nat,j<=O.length/\gg=O.length - j/\i=.int J j/\((O.take j).flatMap (Ju s)).length=j*m/\LR Y.heap.size wx lv ((O.take j).flatMap (Ju s))/\Bl Y wx)
  case atStart=>exact⟨0,Zp _,rfl,rfl,by simp,by rw[ZdB];exact LR.nil _ _,Zh _ _⟩
  obtain⟨j,hj,rfl,rfl,UO,hLR,Qp⟩:=hrel;have hXj:=(Qp.block _ (Za.1 hXr).1).trans hXr;have aiQ:=bU Jp Qp;obtain⟨lv,lc,rfl,_⟩:=hLR.val;by_cases lp:j<O.length
  .have HFL:=Zd (lG (f:=Ju s) lp)
   obtain⟨b6,o6,u,ee,Xj,lH,hu⟩:=(HOR.out.later Qp).at_ lp;subst ee;have HP:=Zd (uR.out _ (Z3 (BJ lp)));obtain⟨p,hp⟩:∃p,p=BM O j:=⟨_,rfl⟩;rw[<-hp]at HP;rw[<-hp]at hu HFL;clear hp;obtain⟨pa,pc,rfl,Xa,hpm⟩:=hu.val;have lO:p.length<=3:=by
    have:=HP.out;omega
   obtain⟨_,_,ea,dL,_⟩:=HCL.out _ aiQ;cases ea;have U4:=ch (i:=3) hXj (v:=.slice (some ⟨b4,o4,none⟩) c.Aa.length c4) rfl;have hjO:(j:Int)<(O.length:Int):=by omega
   obtain⟨G,hG⟩:∃G,G=(O.take j).flatMap (Ju s):=⟨_,rfl⟩;rw[<-hG]at hLR HFL UO⊢;have HG:=Zd hG;clear hG;obtain⟨Z,hZ⟩:∃Z,Z=wr:=⟨_,rfl⟩;subst hZ;have HU:=Zd hu;have HCU:=Zd lH;have hjm:j*m<=125*5:=Nat.mul_le_mul (by omega) hm5;clear hu lH;go_wp2;go_loopg [5,7] m (fun gg lv n wy=>∃q:Nat,q<=m/\gg=m - q/\n=.int J (lo+q)/\LR Y.heap.size wy lv (G++(Ju s p).take q)/\YH Y.heap.size Z wy)
   case atStart=>exact⟨0,Zp _,rfl,by simp,by rw[ZdB,ZaA];exact hLR,Zh _ _⟩
   obtain⟨q,hq,rfl,rfl,hLq,hBq⟩:=hrel;have vy:Bl Y wr:=Qp.trans hBq;have hXq:=(vy.block _ (Za.1 hXr).1).trans hXr;have aqe:=bU Jp vy;have U4:=ch (i:=3) hXq (v:=.slice (some ⟨b4,o4,none⟩) c.Aa.length c4) rfl;obtain⟨_,_,ea,_,lS⟩:=HCL.out _ aqe;cases ea;by_cases hlq:q<m
   .have hle:lo+(q:Int)<=hi:=(hmh q).1 hlq
    have HES:=Zd (rq (s:=s) (p:=p) (q:=q) (by rw[<-HM.out];exact hlq));rw[<-HLO.out]at HES;obtain⟨Q,hQ⟩:∃Q,Q=G++(Ju s p).take q:=⟨_,rfl⟩;have HQ:=Zd hQ;have hQl:Q.length<=125*5+5:=by rw[hQ,ZA];have:=ZbW q (Ju s p);omega
    rw[<-hQ]at hLq;clear hQ;obtain⟨vb,vd,rfl,me,gI⟩:=hLq.val;have lI:=(hBq.cell (p:=⟨b6,o6+j,none⟩) Xj.2).trans HCU.out;have Hb:SI (Cb w.heap.size Y) wr (U pa p.length pc) p:=HU.out.Ar fun b hb _=>hBq.block b hb.2;obtain⟨vals,hro,hvs⟩:=hLq;have hzY:=vy.size;have uA:IntKind.i64.wrap (lo+(q:Int)+1)=lo+(q:Int)+1:=by rw[zE];omega
    go_wp2_with (first|(go_at_call 32;refine(WO Hb (by omega)).mono ?_;rintro e w1 ⟨u1,rfl,Bg,hO1⟩;obtain⟨ua,uc,rfl,_⟩:=hO1.si.val;have DR:=Bg.size)|(at_builtin;refine Yc _ rfl _ _ 22 rfl wr.heap.size 3 i3 (.int J 0) 1 8 (Cz YE) (Dz hi3) h30 h31 h32 rfl (by decide) (U ua p.length uc) p.length (p.map (ZL J)) rfl (Ya hO1 _) ⟨w1.heap.size,0,none⟩ 1 1 [.int J (lo+(q:Int))] rfl rfl (Dj _ _ _) (by simp[YT]) (by unfold maxLen;omega) (by omega) (by simp;omega) ?_;intro v2 w2 gI lZ aqg;have ru:Bl wr w2:=Bm (bA Bg) lZ (fun b hb=>(Zcm hO1 b hb).1) (by simp;omega);obtain⟨g2,bJ,rfl⟩:=Zay gI;have vz:=Tn ru hro;have EB:=ru.size)|(at_builtin;refine Yc _ rfl _ _ 27 rfl Y.heap.size 22 i22 (U none 0 0) 1 24 (Cz zW) (Dz aq9) aqa aqb aqc rfl (by decide) (U vb Q.length vd) Q.length vals rfl (Ya vz _) ⟨w2.heap.size,0,none⟩ 1 1 [U (some ⟨g2,0,none⟩) (p.length+1) bJ] rfl rfl (Dj _ _ _) (by simp[YT]) (by unfold maxLen;omega) (by omega) (by simp;omega) ?_;intro v3 w3 Vr l9 aqh));have hOx:Own w2 wr.heap.size (U (some ⟨g2,0,none⟩) (p.length+1) bJ) (p++ [lo+(q:Int)]):=by unfold Own;rw[ZA,Zai];exact gI
    have aiS:LR Y.heap.size w3 v3 (Q++ [p++ [lo+(q:Int)]]):=LR.snoc vz (fun i x hi=>by
     obtain⟨u,h1,h2⟩:=hvs i x hi;exact⟨u,h1,Dx (T:=fun _=>False) (Ak.later ru) (fun _ _ x=>x) h2⟩) hOx.typ hzY (bA (Zh _ _)) l9 Vr
    have Bv:YH Y.heap.size Z w3:=Bm ((hBq.trans (ru.mono hzY)).alloc (by omega) _) l9 (fun b hb=>(Zcm vz b hb).1) (by simp;omega);have Qs:=Zd (ZY aiS Bv);clear aiS Bv hOx Vr l9 aqh gI lZ aqg vz hro hvs ru;go_roundg (m - (q+1))
    case rel=>exact⟨q+1,hlq,rfl,by go_num,by rw[HES.out, <-Zae, <-HQ.out];exact Qs.out.1,Qs.out.2⟩
    omega
   have TC:q=m:=by omega
   subst TC;have hle:¬lo+(q:Int)<=hi:=fun x=>by have:=(hmh q).2 x;omega
   have yq:(Ju s p).take q=Ju s p:=Zb3 (by rw[iX, <-HM.out];exact Zj _);rw[yq, <-HFL.out]at hLq;have HLQ:=Zd hLq;have cA:=Zd (show((O.take (j+1)).flatMap (Ju s)).length=(j+1)*q by rw[HFL.out,ZA,iX, <-HM.out,UO,Nat.add_mul,Nat.one_mul]);clear hLq yq;go_wp2;go_roundg (O.length - (j+1))
   case rel=>exact⟨j+1,lp,rfl,by go_num,cA.out,HLQ.out,vy⟩
   omega
  have hjO:j=O.length:=by omega
  have yq:O.take j=O:=Zb3 (by omega);rw[yq, <-HFS.out]at hLR⊢;have HL:=Zd (hLR.sl.imp (T:=Cb w.heap.size wr) fun b hb=>⟨Zr Jp.size hb.1,hb.2⟩);clear hLR yq UO;go_wp2;go_roundg (c.Aa.length - (k+1))
  case rel=>exact⟨k+1,_,_,Az,rfl,by go_num,rfl,aiQ,hXj,HL.out⟩
  omega
 have hkc:k=c.Aa.length:=by omega
 have yq:EZ (c.Aa.take k)=EH c:=by rw[hkc,ZcU];rfl
 rw[yq]at hOr⊢;have HO:=Zd hOr;clear hOr yq;go_wp2;go_ret;exact⟨_,_,rfl,Jp,HO.out⟩
def Ol (hM:H6 c)(hl:Tc c l)(hi:i<c.base.length): -108<=nth (Cc c l) i/\nth (Cc c l) i<=108:=by
 have e:nth (Cc c l) i=measure c l i:=by
  have:=MU (l:=l) hi;rw[Bn (by simp[Cc];exact hi)]at this;exact ZW this
 rw[e];exact Md hM.valid (by have:=hl.1;omega) (fun k hk=>by have:=hl.2 k hk;have:=(hM.seam k (by have:=hl.1;omega)).step;omega) i
def aae (g:Nat)(c:A_)(r:Int×Int)(l:List Int):Int×Int:=(min r.1 (measure c l g),max r.2 (measure c l g))
def aav (c:A_)(g:Nat):Int×Int:=(LU c).foldl (aae g c) (measure c c.now g,measure c c.now g)
def abN (m:Nat->Int)(hg:g<3)(w:Zb):(ZdN 150 (.agg #[.int J (m 0),.int J (m 1),.int J (m 2)]) (.int J (g:Int))).run Lp w=.ok (.int J (m g)) w:=by
 have hu:Lp.underlying 150=some (.array 3 3):=Cz Tryz.underlying150;have hc:∀w,(sizeOf 3).run Lp w=.ok 1 w:=fun w=>by kernel_rfl
 have:g=0\/g=1\/g=2:=by omega
 rcases this with rfl|rfl|rfl<;>simp[ZdN,Y9 hu,asIntOf,hc,go_sem]
def c75 (h:RC S w v1 v2 v3 v4 v5 c)(hS:∀b,S b->b<w.heap.size)(Jz:BN c=0)(hg:g<c.base.length):
  Calls Lp 75 #[.agg #[v1,v2,v3,v4,v5],.int J g] w fun e w'=>e=.returned (.tuple #[.agg #[.int J (aav c g).1,.int J (aav c g).2],.int J 0])/\Bl w w':=by
 obtain⟨a1,c1,rfl,_⟩:=h.base.val;obtain⟨a2,c2,rfl,_⟩:=h.Af.val;obtain⟨a3,c3,rfl,_⟩:=h.hooks.val;obtain⟨a4,c4,rfl,_⟩:=h.Aa.val;obtain⟨a5,c5,rfl,_⟩:=h.now.val;have IX:=DJ;have hv:=EG Jz;have n8:=hv.Fp;have HNW:=Zd (ZY hv.uy (Fb hv.now));obtain⟨W2,MX⟩:∃W2,W2=(w.alloc (.cells #[U a1 c.base.length c1,U a2 c.Af.length c2,U a3 c.hooks.length c3,U a4 c.Aa.length c4,U a5 c.now.length c5] 26)).alloc (.cells #[.int J 0,.int J 0] 80):=⟨_,rfl⟩;have Bg:Bl w W2:=by rw[MX];exact bA (bA (Zh _ _))
 have lD:W2.heap[w.heap.size]?=some (.cells #[U a1 c.base.length c1,U a2 c.Af.length c2,U a3 c.hooks.length c3,U a4 c.Aa.length c4,U a5 c.now.length c5] 26 (0,0)):=by rw[MX];exact Bf (Bp _ _) _
 have Ks:W2.heap[w.heap.size+1]?=some (.cells #[.int J 0,.int J 0] 80 (0,0)):=by rw[MX];exact Jq _ _ _
 have k0:=ch (i:=0) lD rfl;have k1:=ch (i:=1) lD rfl;have k2:=ch (i:=2) lD rfl;have k3:=ch (i:=3) lD rfl;have k4:=ch (i:=4) lD rfl;have ez:=Zd (fun W hB=>Wt (w:=W) (h.later hB) (A3 hS hB) Jz);have kz:=Zd (fun W (hB:Bl w W) v6 l hl hn hb=>ah4 (w:=W) (v6:=v6) (l:=l) (S:=fun x=>x<W.heap.size) ((h.later hB).imp fun x hx=>Zl (hS x hx) hB.size) hv hl hn hb (fun x hx=>hx) (Ax c.Aa 0) (Ax c.Aa 1) (Ax c.Aa 2));have lE:=Zd (fun W (hB:Bl w W)=>(Zcx (n:=0)).1 (aiM (w:=W) (h.later hB) (A3 hS hB) hv));unfold AW at lE;have acY:=Zd (fun W=>bp (g:Int) 0 ((c.base.length:Int) - 1) W);rw[F4 (by omega)]at acY;obtain⟨ab,DU⟩:∃ab,ab=Ax c.Aa:=⟨_,rfl⟩;rw[<-DU]at ez kz lE;clear DU;have hwl:IntKind.i64.wrap ((c.base.length:Int) - 1)=(c.base.length:Int) - 1:=by rw[zE];omega
 go_enter Lp.func75,n75;go_wp2;rw[<-MX];clear MX;refine(ez.out _ Bg).mono ?_;rintro e w1 ⟨rfl,Bb⟩;have Bv:=bV Bg Bb;have acZ:=(Bb.block _ (Za.1 Ks).1).trans Ks;clear k0 k1 k2 k3 k4;obtain⟨V,hV⟩:∃V,V=w1.alloc (.cells #[U a1 c.base.length c1,U a2 c.Af.length c2,U a3 c.hooks.length c3,U a4 c.Aa.length c4,U a5 c.now.length c5,I .u8 (ab 0),I .u8 (ab 1),I .u8 (ab 2)] 112):=⟨_,rfl⟩;have hXV:V.heap[w1.heap.size]?=some (.cells #[U a1 c.base.length c1,U a2 c.Af.length c2,U a3 c.hooks.length c3,U a4 c.Aa.length c4,U a5 c.now.length c5,I .u8 (ab 0),I .u8 (ab 1),I .u8 (ab 2)] 112 (0,0)):=by rw[hV];exact Bp _ _
 have acG:Bl w1 V:=by rw[hV];exact bA (Zh _ _)
 have Ui:=bV Bv acG;have ad0:=(acG.block _ (Za.1 acZ).1).trans acZ;dsimp only;go_wp2_with (go_at_call 134;refine(acY.out _).mono ?_;rintro e W ⟨rfl,hw⟩;obtain rfl:=hw.symm);rw[<-hV];clear hV;refine(kz.out V Ui _ _ (Sl.imp (h.now.later Ui) (T:=fun x=>x<V.heap.size) (fun x hx=>Zl (hS x hx) Ui.size) fun _ _ x=>x) (by have:=HNW.out.1;omega) (fun i hi=>by have:=(HNW.out.2).2 i hi;have:=hv.step i (by have:=HNW.out.1;omega);omega)).mono ?_;rintro e W3 ⟨rfl,De⟩;have Cj:=bV Ui De;have iz:=(De.block _ (Za.1 hXV).1).trans hXV;have ad1:=(De.block _ (Za.1 ad0).1).trans ad0;dsimp only;have hi0:=fun W=>abN (measure c c.now) (by omega:g<3) W;obtain⟨m0,hm0⟩:∃m,m=measure c c.now g:=⟨_,rfl⟩;rw[<-hm0]at hi0;have HM0:=Zd hm0;clear hm0;have y0:=ch (i:=0) iz rfl;have y1:=ch (i:=1) iz rfl;have y2:=ch (i:=2) iz rfl;have y3:=ch (i:=3) iz rfl;have y4:=ch (i:=4) iz rfl;have y5:=ch (i:=5) iz rfl;have y6:=ch (i:=6) iz rfl;have y7:=ch (i:=7) iz rfl;obtain⟨W4,ED⟩:∃W4,W4=W3.alloc (.cells #[.int J m0,.int J m0] 80):=⟨_,rfl⟩;have DM:Bl W3 W4:=by rw[ED];exact bA (Zh _ _)
 have hX9:W4.heap[W3.heap.size]?=some (.cells #[.int J m0,.int J m0] 80 (0,0)):=by rw[ED];exact Bp _ _
 have aaE:=(DM.block _ (Za.1 iz).1).trans iz;have ad2:=(DM.block _ (Za.1 ad1).1).trans ad1;have acJ:=bV Cj DM;have z0:=ch (i:=0) aaE rfl;have z1:=ch (i:=1) aaE rfl;have z2:=ch (i:=2) aaE rfl;have z3:=ch (i:=3) aaE rfl;have z4:=ch (i:=4) aaE rfl;have z5:=ch (i:=5) aaE rfl;have z6:=ch (i:=6) aaE rfl;have z7:=ch (i:=7) aaE rfl;rw[ED]at z0 z1 z2 z3 z4 z5 z6 z7;go_wp2;rw[<-ED];have DR:=Bg.size;have EB:=Bb.size;have Rb:=acG.size;have hz4:=De.size;have hz6:=DM.size;have hqV:=(Za.1 hXV).1;have hq4:=(Za.1 Ks).1;have hq9:=(Za.1 hX9).1;refine(lE.out _ acJ).mono ?_;rintro e W5 ⟨lv,rfl,NU,yV⟩;obtain⟨la,lc,rfl,_⟩:=yV.val;have HLV:=Zd (show∀W,Ak (fun x=>x=W3.heap.size) W5 W->SL (Cb W4.heap.size W5) W (U la (LU c).length lc) (LU c) from fun W hT=>yV.Ar (hT.same fun x hx e=>by have:=hx.1;omega));have HCM:=Zd (fun i (hi:i<(LU c).length)=>WV (show BM (LU c) i∈EH c from(List.mem_filter.1 (Z3 (BJ hi))).1));have ad3:=(NU.block _ (Za.1 aaE).1).trans aaE;have ad4:=(NU.block _ (Za.1 ad2).1).trans ad2;have adm:=(NU.block _ hq9).trans hX9;have ad5:=bV acJ NU;have hz7:=NU.size;have HR:=Zd (show aav c g=(LU c).foldl (aae g c) (m0,m0) by unfold aav;rw[<-HM0.out]);have hN:(LU c).length<=125:=by
  have h1:=Zac (Ev c) (EH c);have h0:=H7 c.Aa (fun i hi=>by have:=hv.step i hi;omega);have h2:5^c.Aa.length<=5^3:=YX (by decide) hv.few.2;exact Zr h1 (Zr h0 h2)
 obtain⟨C,hC⟩:∃C,C=LU c:=⟨_,rfl⟩;rw[<-hC]at HLV HCM HR hN⊢;clear hC yV z0 z1 z2 z3 z4 z5 z6 z7 y0 y1 y2 y3 y4 y5 y6 y7 ED;have Gv: -108<=m0/\m0<=108:=by rw[HM0.out];exact Md hv (by have:=HNW.out.1;omega) (fun i hi=>by have:=(HNW.out.2).2 i hi;have:=hv.step i (by have:=HNW.out.1;omega);omega) g
 dsimp only;go_wp2;go_loopg [43] C.length (fun gg i wx=>∃(k:Nat) (lo hi:Int),k<=C.length/\gg=C.length - k/\i=.int J k/\(C.drop k).foldl (aae g c) (lo,hi)=aav c g/\Ak (fun x=>x=W3.heap.size) W5 wx/\wx.heap[W3.heap.size]?=some (.cells #[.int J lo,.int J hi] 80 (0,0)))
 case atStart=>exact⟨0,m0,m0,Zp _,rfl,rfl,HR.out.symm,Ak.refl _ _,adm⟩
 obtain⟨k,lo,hi,hk,rfl,rfl,CP,hTx,hQ⟩:=hrel;have HF:=Zd CP;clear CP;have ad6:=ad5.trans (hTx.below (fun x hx=>by subst hx;omega) ad5.size);have hXx:=(hTx.block _ (Za.1 ad3).1 (by omega)).trans ad3;have hzx:=hTx.size;by_cases Az:k<C.length
 .have iT:=Zd (eW (g:=aae g c) (a:=(lo,hi)) Az)
  obtain⟨b6,o6,u,ee,Xj,lH,hu⟩:=(HLV.out _ hTx).at_ Az;subst ee;have HL:=Zd (HCM.out k Az);obtain⟨l,hl⟩:∃l,l=BM C k:=⟨_,rfl⟩;rw[<-hl]at hu iT HL;clear hl;obtain⟨ua,uc,rfl,_⟩:=hu.val;have HC:=Zd (kz.out wr ad6 (U ua l.length uc) l (Sl.imp hu (fun x hx=>by have:=hx.2;show x<wr.heap.size;omega) fun _ _ x=>x) (by have:=HL.out.1;omega) (fun i hi=>by have:=HL.out.2 i hi;have:=hv.step i (by have:=HL.out.1;omega);omega));have hi0:=fun W=>abN (measure c l) (by omega:g<3) W;obtain⟨n,hn⟩:∃m,m=measure c l g:=⟨_,rfl⟩;have aa1:=Zd (show aae g c (lo,hi) l=(min lo n,max hi n) by rw[hn];rfl);rw[<-hn]at hi0;clear hn hu;have TB:(k:Int)<(C.length:Int):=by omega
  have y0:=ch (i:=0) hXx rfl;have y1:=ch (i:=1) hXx rfl;have y2:=ch (i:=2) hXx rfl;have y3:=ch (i:=3) hXx rfl;have y4:=ch (i:=4) hXx rfl;have y5:=ch (i:=5) hXx rfl;have y6:=ch (i:=6) hXx rfl;have y7:=ch (i:=7) hXx rfl;go_wp2_with (go_at_call 113;refine HC.out.mono ?_;rintro e W6 ⟨rfl,Jn⟩;have hQ6:=(Jn.block _ (Za.1 hQ).1).trans hQ;have q0:=ch (i:=0) hQ6 (v:=.int J lo) rfl;have q1:=ch (i:=1) hQ6 (v:=.int J hi) rfl;have f0:=cf (i:=0) hQ6;have f1:=cf (i:=1) hQ6);have hQe:=Ba (i:=1) (Ba (i:=0) hQ6 (.int J (min lo n))) (.int J (max hi n));have hTe:Ak (fun x=>x=W3.heap.size) W5 ((W6.setCell ⟨W3.heap.size,0,none⟩ (.int J (min lo n))).setCell ⟨W3.heap.size,1,none⟩ (.int J (max hi n))):=((hTx.uJ Jn).set rfl).set rfl;go_roundg (C.length - (k+1))
  case rel=>exact⟨k+1,min lo n,max hi n,Az,rfl,by go_num,by rw[<-HF.out,iT.out,aa1.out],hTe,hQe⟩
  omega
 have hkC:k=C.length:=by omega
 have RV:(lo,hi)=aav c g:=by rw[<-HF.out,hkC,List.drop_length];rfl
 have HE:=Zd RV;clear RV;have ac4:=(hTx.block _ (Za.1 ad4).1 (by omega)).trans ad4;have q0:=ch (i:=0) hQ (v:=.int J lo) rfl;have q1:=ch (i:=1) hQ (v:=.int J hi) rfl;have f0:=cf (i:=0) ac4;have f1:=cf (i:=1) ac4;have r0:=ch (i:=0) ac4 (v:=.int J 0) rfl;have r1:=ch (i:=1) ac4 (v:=.int J 0) rfl;go_wp2;refine ZN (v:=.tuple #[.agg #[.int J lo,.int J hi],.int J 0]) (by rw[abj rfl];go_simp) rfl ?_;refine⟨by rw[<-HE.out],?_⟩
 repeat (with_reducible first|exact ad6|(refine bS ?_ (by omega)))
def aaB:∀(l:List (Int×Int)) (i:Nat) (p:Int×Int),i<l.length->((l.flatMap fun p=> [ZL J p.1,.int J p.2]).set (i*2) (.int J p.1)).set (i*2+1) (.int J p.2)=(l.set i p).flatMap fun p=> [ZL J p.1,.int J p.2]
 | [],_,_,h=>by cases h
 |q::r,0,p,_=>rfl
 |q::r,i+1,p,h=>by
  have:=aaB r i p (by simpa using h);rw[List.set_cons_succ,List.flatMap_cons,List.flatMap_cons, <-this,show(i+1)*2=i*2+1+1 by omega]
  rfl
def Ih.set {base:Nat}{l:List (Int×Int)}(h:Ih w base (U (some ⟨g,0,none⟩) n cap) l e)(hi:i<l.length)(p:Int×Int):
  Ih ((w.setCell ⟨g,i*2,none⟩ (.int J p.1)).setCell ⟨g,i*2+1,none⟩ (.int J p.2)) base (U (some ⟨g,0,none⟩) n cap) (l.set i p) e:=by
 obtain⟨h1,h2⟩:=h;rcases h2 with⟨e1,_⟩|⟨g',Ey,cur,e1,h3,h4,h5,h6,h7,h8⟩
 .cases e1
 cases e1;refine⟨?_,.inr ⟨g,cap,_,by rw[ZcC],h3,Ba (Ba h4 _) _,by simpa using h5,h6,by simpa using h7,?_⟩⟩
 .rw[<-aaB l i p hi]
  simpa using h1
 rw[<-aaB l i p hi];simp only[ZcM,ZcC,List.take_set];rw[h8]
def aas (c:A_):List (List Int)->List (Int×Int)
 | []=> []
 |l::r=>(Yr c.base.length).map fun g=>r.foldl (aae g c) (measure c l g,measure c l g)
def aaC (h:P≠ []):(aas c P).length=c.base.length:=by
 cases P with
 |nil=>exact absurd rfl h
 |cons l r=>simp[aas]
def aaA {r:List (List Int)}(hg:g<c.base.length):BV (aas c (l::r)) g=r.foldl (aae g c) (measure c l g,measure c l g):=by
 simp[BV,aas,Y6,hg]
def aaz {c:A_}{g:Nat}:∀(r:List (List Int)) (a b:Int×Int) (x:List Int),x∈r->r.foldl (aae g c) (min a.1 (measure c x g),max a.2 (measure c x g))=r.foldl (aae g c) a
 | [],_,_,_,h=>by cases h
 |y::r,a,b,x,h=>by
  show r.foldl (aae g c) (aae g c _ y)=r.foldl (aae g c) (aae g c a y);rcases List.mem_cons.1 h with rfl|h
  .congr 1
   simp only[aae,Prod.mk.injEq];omega
  rw[<-aaz r (aae g c a y) b x h]
  congr 1
  simp only[aae,Prod.mk.injEq];omega
def aaD {ab:Nat->Nat}{l:List Int}:∀(n k s:Nat),l.length - k=n->JR ab l k (l.drop k) s=s
 |0,k,s,h=>eD (by omega)
 |n+1,k,s,h=>by
  rw[bz (by omega),if_pos rfl];exact aaD n (k+1) s (by omega)
def aaH (c:A_):DS c c.now=0:=aaD _ 0 0 rfl
def abk {lo hi n:Int}(h:lo<=n/\n<=hi):n∈IU lo hi:=by
 unfold IU;rw[List.mem_map];exact⟨(n - lo).toNat,by rw[List.mem_range];omega,by omega⟩
def aaZ:∀(s:List Ay) (l:List Int),l.length=s.length->(∀i,i<l.length->(Aj s i).low<=nth l i/\nth l i<=(Aj s i).high)->l∈EZ s
 | [],l,h,_=>by
  obtain rfl:l=[]:=List.length_eq_zero_iff.1 h;simp[EZ]
 |s::r,[],h,_=>by cases h
 |s::r,x::t,h,hb=>by
  unfold EZ;rw[List.mem_flatMap];exact⟨x,abk (hb 0 (Nat.succ_pos _)),List.mem_map.2 ⟨t,aaZ r t (by simpa using h) fun i hi=>hb (i+1) (Nat.succ_lt_succ hi),rfl⟩⟩
def abv (hv:Fq c):c.now∈LU c:=by
 refine List.mem_filter.2 ⟨aaZ _ _ hv.uy (Fb hv.now).2,?_⟩;unfold Ev;rw[aaH]
 rfl
def abx (hg:g<c.base.length):
  BV (aas c (P++ [l])) g=if P=[] then(measure c l g,measure c l g) else(min (BV (aas c P) g).1 (measure c l g),max (BV (aas c P) g).2 (measure c l g)):=by
 cases P with
 |nil=>rw[if_pos rfl,zP,aaA hg];rfl
 |cons x r=>
  rw[if_neg (by simp),aaA hg,Za1,aaA hg,List.foldl_append]
  rfl
def abl (hv:Fq c)(hg:g<c.base.length):BV (aas c (LU c)) g=aav c g:=by
 have hm:=abv hv;unfold aav;cases h:LU c with
 |nil=>rw[h]at hm;cases hm
 |cons x r=>
  rw[aaA hg,List.foldl_cons];rw[h]at hm;rcases List.mem_cons.1 hm with e|hr
  .rw[e]
   congr 1
   simp only[aae,Prod.mk.injEq];omega
  rw[<-aaz r (measure c x g,measure c x g) (0,0) c.now hr]
  congr 1
  simp only[aae,Prod.mk.injEq];omega
def abb (hv:Fq c):LU c≠ []:=fun h=>by
 have hm:=abv hv;rw[h]at hm;cases hm
def abd:∀(l:List (Int×Int)) (i:Nat),i<l.length->(l.flatMap fun p=> [ZL J p.1,.int J p.2])[i*2]?=some (.int J (BV l i).1)/\(l.flatMap fun p=> [ZL J p.1,.int J p.2])[i*2+1]?=some (.int J (BV l i).2)
 | [],_,h=>by cases h
 |q::r,0,_=>⟨rfl,rfl⟩
 |q::r,i+1,h=>by
  have:=abd r i (by simpa using h);rw[show(i+1)*2=i*2+1+1 by omega];exact this
def Ih.at_ {base:Nat}{l:List (Int×Int)}(h:Ih w base v l e)(hi:i<l.length):
  ∃g cap cur,v=.slice (some ⟨g,0,none⟩) l.length cap/\base<=g/\w.heap[g]?=some (.cells cur e (0,0))/\i*2+1<cur.size/\w.cell? ⟨g,i*2,none⟩=some (.int J (BV l i).1)/\w.cell? ⟨g,i*2+1,none⟩=some (.int J (BV l i).2):=by
 obtain⟨h1,h2⟩:=abd l i hi;obtain⟨a,c,e1,_,_,hc⟩:=JS h;obtain⟨b1,e2,_,c1⟩:=hc _ _ h1;obtain⟨b2,e3,_,c2⟩:=hc _ _ h2;rcases h.2 with⟨_,e4⟩|⟨g,cap,cur,e4,h3,h4,h5,h6,h7,h8⟩
 .omega
 rw[e4]at e1
 injection e1 with e5 e6 e7
 rw[e2]at e5
 injection e5 with e5
 injection e5 with e5
 subst e5;rw[e2]at e3
 injection e3 with e3
 injection e3 with e3
 subst e3;refine⟨g,cap,cur,e4,h3,h4,?_,c1,c2⟩;rw[h7];have:=Zd8 2 (Zr hi h5);omega
def Ih.at2 {base:Nat}{l:List (Int×Int)}(h:Ih w base (U (some ⟨g,0,none⟩) n cap) l e)(hi:i<l.length):
  ∃cur,base<=g/\w.heap[g]?=some (.cells cur e (0,0))/\i*2+1<cur.size/\w.cell? ⟨g,i*2,none⟩=some (.int J (BV l i).1)/\w.cell? ⟨g,i*2+1,none⟩=some (.int J (BV l i).2):=by
 obtain⟨g',Ey,cur,e1,h1⟩:=h.at_ hi
 injection e1 with e1
 injection e1 with e1
 injection e1 with e1
 subst e1;exact⟨cur,h1⟩
def Ih.ac6 {base acf:Nat}{l:List (Int×Int)}(h:Ih w base v l e)(hb:acf<=base):Ih w acf v l e:=by
 refine⟨h.1,?_⟩;rcases h.2 with h1|⟨g,cap,cur,e1,h2,h3⟩
 .exact .inl h1
 exact .inr ⟨g,cap,cur,e1,Zr hb h2,h3⟩
variable {α:Type}
def take_set {N O:List α}{x:α}(h1:j<N.length)(h2:j<O.length)(h:N[j]?=some x):(N.take j++O.drop j).set j x=N.take (j+1)++O.drop (j+1):=by
 have hl:(N.take j).length=j:=by rw[ZcV];omega
 rw[List.set_append_right _ _ (by omega),hl,Nat.sub_self,ZO h2,List.set_cons_zero,ZbH,h];simp
def aby {N:List α}{x y:α}(h1:j<N.length)(h:N[j]?=some x):(N.take j++ [y]).set j x=N.take (j+1):=by
 have hl:(N.take j).length=j:=by rw[ZcV];omega
 rw[List.set_append_right _ _ (by omega),hl,Nat.sub_self,List.set_cons_zero,ZbH,h];simp
def ac7 {N O:List (Int×Int)}(h1:j<=N.length):BV (N.take j++O.drop j) j=BV O j:=by
 have hl:(N.take j).length=j:=by rw[ZcV];omega
 simp[BV,Y6,Zbr (show(N.take j).length<=j by omega),hl]
def Vu (l:List Int):Ke l l=true:=by simp[Ke]
def B3.aj4 {b:Nat}(h:Bl w A)(hU:B3 b A B)(hb:w.heap.size<=b):Bl w B:=h.trans ((hU.CN (K:=fun x=>x=b) rfl).below (fun x hx=>by have:x=b:=hx;omega) h.size)
def aaF (c:A_)(i:Int):Bool:=decide (0<(Aj c.Aa i.toNat).left)
def aax {t:Nat}:(JU c t=none)↔(AB t).all (aaF c)=true:=by
 unfold JU;rw[List.find?_eq_none,Zdm];constructor
 .intro h x hx
  have:=h x hx;simp[SU,aaF]at this⊢;omega
 intro h x hx;have:=h x hx;simp[SU,aaF]at this⊢;omega
def abn (h:Ca c l=0):Eg c l=if(AB (DS c l)).all (aaF c)=true then 0 else 12:=by
 unfold Eg;rw[BR h];by_cases h2:JU c (DS c l)=none
 .rw[if_pos h2,if_pos (aax.1 h2)]
 rw[if_neg h2,if_neg fun x=>h2 (aax.2 x)]
variable {p:List Int->Bool}
def Vv {A:List (List Int)}(h:k<A.length)(hp:p (BM A k)=true):(A.filter p)[((A.take k).filter p).length]?=some (BM A k):=by
 have e:A=A.take k++BM A k::A.drop (k+1):=by
  obtain⟨h1,h2⟩:=Zm.1 (BJ h);rw[<-h2,List.getElem_cons_drop,List.take_append_drop]
 conv=>lhs;rw[e]
 rw[ZcW,ZbB,if_pos hp,List.take_left' (by simp;omega)];simp
def P4 {A:List (List Int)}(h:k<A.length):((A.take (k+1)).filter p).length=((A.take k).filter p).length+if p (BM A k)=true then 1 else 0:=by
 rw[ZbH,BJ h,ZcW,ZA];cases hp:p (BM A k)<;>simp[hp]
def ad8 {Sn:Nat->Prop}{lv:Zf}{nums:List Int}(hn:SI Sn w lv nums)(E8:∀x,Sn x->x<w.heap.size)(hG:Jr w):Calls Lp 19 #[lv] w (Two w (.bool true)):=by
 obtain⟨la,lc,rfl,_⟩:=hn.val;have IX:=DJ;have H44:=Zd (fun(W:Zb) (b d:Nat) (h1:SI Sn W (U la nums.length lc) nums) (h2:∀x,Sn x->x<W.heap.size/\x≠b) (h3:BK W b (U la nums.length lc) d) (h4:d+1000<4611686018427387904)=>show Calls Lp 44 #[.pointer (some ⟨b,0,none⟩),.int J 3] W (qL W b (U la nums.length lc) d 3) from c44 (s:=3) h1 h2 h3 h4 (by decide));go_enter Lp.func19,n19;go_wp2_with (first|(go_at_call 27;refine(c27 _ ⟨_,_,_,rfl⟩ _).mono ?_;rintro e W1 ⟨rfl,hw⟩;(have Bg:Bl w W1:=by rw[hw];exact bA (Zh _ _));(have Ue:BK W1 w.heap.size (U la nums.length lc) 0:=⟨1,by rw[hw];exact Bp _ _⟩);clear hw;obtain⟨b,hb⟩:∃b,b=w.heap.size:=⟨_,rfl⟩;rw[<-hb]at Ue⊢;have HB:=Zd hb;clear hb)|(go_at_call 44;refine(H44.out _ _ _ (hn.later Bg) (fun x hx=>⟨by have:=E8 x hx;have:=Bg.size;omega,by have:=E8 x hx;have:=HB.out;omega⟩) Ue (by omega)).mono ?_;rintro e W2 ⟨c,u1,u2,u3,u4,u5,d2,rfl,M7,hd2,yv,hM,hc3⟩;obtain⟨a1,c1,rfl,_⟩:=yv.base.val;obtain⟨a2,c2,rfl,_⟩:=yv.Af.val;obtain⟨a3,c3,rfl,_⟩:=yv.hooks.val;obtain⟨a4,c4,rfl,_⟩:=yv.Aa.val;obtain⟨a5,c5,rfl,_⟩:=yv.now.val));have GK:b<=w.heap.size/\w.heap.size<=b:=by have:=HB.out;omega
 have DR:=Bg.size;have FD:b<W1.heap.size:=Ue.lt;have EB:=M7.Cn.size;have Bb:=B3.aj4 Bg M7.Cn (by omega);have Xo:=(hn.later Bg).Cn M7.Cn (fun x hx=>⟨by have:=E8 x hx;omega,by have:=E8 x hx;omega⟩);obtain⟨X,hX⟩:∃X,X=W2.alloc (.cells #[U a1 c.base.length c1,U a2 c.Af.length c2,U a3 c.hooks.length c3,U a4 c.Aa.length c4,U a5 c.now.length c5] 26):=⟨_,rfl⟩;have Ov:Bl W2 X:=by rw[hX];exact bA (Zh _ _)
 have hK:X.heap[W2.heap.size]?=some (.cells #[U a1 c.base.length c1,U a2 c.Af.length c2,U a3 c.hooks.length c3,U a4 c.Aa.length c4,U a5 c.now.length c5] 26 (0,0)):=by rw[hX];exact Bp _ _
 obtain⟨q,hq⟩:∃q,q=W2.heap.size:=⟨_,rfl⟩;rw[<-hq]at hK;rw[<-hX, <-hq];have xS:q<X.heap.size:=(Za.1 hK).1;have M9:W2.heap.size<=q/\q<=W2.heap.size:=by omega
 clear hX hq;have Jm:=hM.few;have hS:∀x,Cb W1.heap.size W2 x->x<X.heap.size/\x≠b:=fun x hx=>⟨by have:=hx.2;have:=Ov.size;omega,by have:=hx.1;omega⟩;have Bv:Bl w X:=Bb.trans (Ov.mono Bb.size);have mB:=hG.later Bv;have hzX:=Ov.size;have HM:=Zd hM;have mI:=Zd (show∀W,Bl X W->RC (fun x=>x<W.heap.size) W (U a1 c.base.length c1) (U a2 c.Af.length c2) (U a3 c.hooks.length c3) (U a4 c.Aa.length c4) (U a5 c.now.length c5) c from fun W hB=>((yv.later Ov).later hB).imp fun x hx=>by have:=hx.2;have:=hB.size;show x<W.heap.size;omega);have HK:=Zd (show∀W,Bl X W->W.heap[q]?=some (.cells #[U a1 c.base.length c1,U a2 c.Af.length c2,U a3 c.hooks.length c3,U a4 c.Aa.length c4,U a5 c.now.length c5] 26 (0,0)) from fun W hB=>(hB.block _ (Za.1 hK).1).trans hK);have F1:=hK;clear hK Xo yv M7 Ue hd2 hM;have H72:=Zd (c72 (mI.out X (Zh _ _)) (fun x hx=>hx) HM.out.begin);have H71:=Zd (fun W (hB:Bl X W)=>c71 (mI.out W hB) (fun x hx=>hx) (by have:=HM.out.few;omega) (fun i hi=>by have:=(HM.out.seam i hi).step;omega));have HCF:=Zd (show LU c=(EH c).filter (Ev c) from rfl);have s9:(EH c).length<=125:=by
  have h0:=H7 c.Aa (fun i hi=>by have:=(HM.out.seam i hi).step;omega);have h2:5^c.Aa.length<=5^3:=YX (by decide) (by omega);exact Zr h0 h2
 have HAL:=Zd (fun l (h:l∈EH c)=>WV h);obtain⟨A,hA⟩:∃A,A=EH c:=⟨_,rfl⟩;obtain⟨C,hC⟩:∃C,C=LU c:=⟨_,rfl⟩;rw[<-hA]at H71 s9 HAL HCF;rw[<-hC]at H72 HCF;have HCE:=Zd hC;clear hA hC;refine H72.out.mono ?_;rintro e W4 ⟨ca,cc,rfl,De,hc4⟩;have Qn:=HK.out W4 De;have k0:=ch (i:=0) Qn rfl;have k1:=ch (i:=1) Qn rfl;have k2:=ch (i:=2) Qn rfl;have k3:=ch (i:=3) Qn rfl;have k4:=ch (i:=4) Qn rfl;dsimp only;go_wp2;refine(H71.out _ De).mono ?_;rintro e W6 ⟨aa,ac,rfl,DM,ha6⟩;have acS:=bU De DM;have hz4:=De.size;have hz6:=DM.size;have HA:=Zd (show∀W,Bl W6 W->SL (fun x=>x<W6.heap.size) W (U aa A.length ac) A from fun W hB=>SL.imp (SL.later ha6 hB) fun x hx=>hx.2);have HC:=Zd (show∀W,Bl W6 W->SL (fun x=>x<W.heap.size) W (U ca C.length cc) C from fun W hB=>SL.imp (SL.later hc4 (bU DM hB)) fun x hx=>by have:=hx.2;have:=hB.size;show x<W.heap.size;omega);have hcn:C.length<=A.length:=by rw[HCF.out];exact Zac _ _
 have hGW:=mB.later acS;have hBW:=bU Bv acS;clear ha6 hc4 k0 k1 k2 k3 k4 F1 Qn H71 H72;dsimp only;go_wp2;go_loopg [7,8,9] A.length (fun gg ai en i wr=>∃k:Nat,k<=A.length/\gg=A.length - k/\i=.int J k/\ai=.int J (((A.take k).filter (Ev c)).length:Nat)/\Ih wr W6.heap.size en (aas c ((A.take k).filter (Ev c))) 80/\((A.take k).filter (Ev c)=[]->en=.slice none 0 0)/\Bl W6 wr)
 case atStart=>exact⟨0,Zp _,rfl,rfl,rfl,zq _ _ _ _,fun _=>rfl,Zh _ _⟩
 obtain⟨k,hk,rfl,rfl,rfl,AX,ah7,hBk⟩:=hrel;have acT:=bU acS hBk;have hKk:=HK.out _ acT;have hzk:=hBk.size;obtain⟨ea,ec,rfl,_⟩:=JS AX;by_cases Az:k<A.length
 .have HN1:=Zd (P4 (p:=Ev c) Az)
  have HP1:=Zd (fun h=>Vv (p:=Ev c) Az h);have HL:=Zd (HAL.out _ (Z3 (BJ Az)));have HTK:=Zd (show(A.take (k+1)).filter (Ev c)=(A.take k).filter (Ev c)++ [BM A k].filter (Ev c) by rw[ZbH,BJ Az,ZcW];rfl);obtain⟨P,hP⟩:∃P,P=(A.take k).filter (Ev c):=⟨_,rfl⟩;have ayQ:P.length<=125:=by rw[hP];have:=Zac (Ev c) (A.take k);have:=ZbW k A;omega
  rw[<-hP]at HP1 HN1 HTK AX ah7⊢;have acj:=Zd ah7;clear ah7;rw[<-HCF.out]at HP1;clear hP;obtain⟨b6,o6,u,ee,Xj,lH,hu⟩:=(HA.out _ hBk).at_ Az;subst ee;obtain⟨l,hl⟩:∃l,l=BM A k:=⟨_,rfl⟩;rw[<-hl]at hu HN1 HP1 HL HTK;clear hl;obtain⟨ua,uc,rfl,_⟩:=hu.val;have HUL:=Zd (show∀W,YH W6.heap.size wr W->SI (fun x=>x<W.heap.size) W (U ua l.length uc) l from fun W hB=>Sl.imp (hu.Ar fun b (hb:b<W6.heap.size) _=>hB.block b hb) (fun x (hx:x<W6.heap.size)=>by have:=hB.size;show x<W.heap.size;omega) fun _ _ x=>x);have HCU:=Zd (show∀W,YH W6.heap.size wr W->W.cell? ⟨b6,o6+k,none⟩=some (U ua l.length uc) from fun W hB=>(hB.cell (p:=⟨b6,o6+k,none⟩) Xj).trans lH);have TB:(k:Int)<(A.length:Int):=by omega
  obtain⟨K,Ig⟩:∃K:Nat->Prop,K=fun _=>False:=⟨_,rfl⟩;have LP:∀x,¬K x:=by rw[Ig];exact fun _ x=>x
  clear Ig;have g0:=fun p:Tw K wr=>p.cell (ch (i:=0) hKk rfl) (LP _);have g1:=fun p:Tw K wr=>p.cell (ch (i:=1) hKk rfl) (LP _);have g2:=fun p:Tw K wr=>p.cell (ch (i:=2) hKk rfl) (LP _);have g3:=fun p:Tw K wr=>p.cell (ch (i:=3) hKk rfl) (LP _);have g4:=fun p:Tw K wr=>p.cell (ch (i:=4) hKk rfl) (LP _);have g5:=fun p:Tw K wr=>p.cell lH (LP _);clear hu lH;go_wp2;refine G7 (S:=fun W=>∃p:Tw K wr,W=p.v) 11 [] [(false,5),(false,6),(true,7),(true,8),(false,9),(false,10)] [0,1,2,3,4] (by kernel_rfl) (fun _ _ d _ _ h=>by cases d<;>exact h) (by kernel_rfl) (A5 (Ak.later (Zh _ _).drew)) ?_;refine A4 _ _ (by kernel_rfl) ?_;simp only[Z6,zd,ZG,ZD,ZC]
  repeat (first|go_big_quiet_step (fail)|quiet_step (fail))
  refine Z4 ?_;clear g0 g1 g2 g3 g4 g5;change H2 _ _ _ _ _ _ _ _;have Uh:Bl wr wr.drew:=(Zh _ _).drew;have abR:W6.heap.size<=wr.heap.size:=hzk;have hE:Eg c l=if Ev c l=true then 0 else 12:=by
   rw[abn (HM.out.asked HL.out)];have e:(AB (DS c l)).all (aaF c)=Ev c l:=by
    unfold Ev;cases hs:JU c (DS c l) with
    |none=>rw[aax.1 hs];rfl
    |some i=>
     cases h:(AB (DS c l)).all (aaF c) with
     |false=>rfl
     |true=>rw[aax.2 h]at hs;cases hs
   rw[e]
  have H51:=Zd (c51 (mI.out _ (bU acT Uh)) (HUL.out _ (Uh.mono abR)) fun x hx=>hx);rw[hE]at H51;clear hE;refine Iy (f:=51) rfl rfl (by go_simp) (H51.out.mono ?_);rintro e V ⟨sv,rfl,Ui,hsv⟩;obtain⟨E,hE⟩:∃E:Int,E=if Ev c l=true then 0 else 12:=⟨_,rfl⟩
  rw[<-hE];obtain⟨aa2,aa3,aa4,rfl⟩:∃aa2 aa3 aa4,sv=.slice aa2 aa3 aa4:=by obtain⟨a,b,e,_⟩:=hsv.val;exact⟨_,_,_,e⟩
  have vE:=bU Uh Ui;have Kd:∃p:Tw K wr,V=p.v:=A5 (Ak.later vE);refine⟨_,rfl,.inr Kd,?_⟩;refine EY (v:=.tuple #[U aa2 aa3 aa4,.int J E]) (w':=V) rfl rfl (by go_simp) (.inr Kd) ?_;refine Wz (v:=.slice aa2 aa3 aa4) Kd rfl rfl (fun w _=>by go_simp) ?_;refine Wz (v:=.int J E) Kd rfl rfl (fun w _=>by go_simp) ?_;refine EY (v:=.slice aa2 aa3 aa4) (w':=V) rfl rfl (by go_simp) (.inr Kd) ?_;refine EY (v:=.int J E) (w':=V) rfl rfl (by go_simp) (.inr Kd) ?_;unfold H2
  go_simp
  have HEE:=Zd hE;have iP:=AX.later vE;have acm:=bU hBk vE;clear hE hsv Ui Uh Kd AX;by_cases WY:Ev c l=true
  .obtain rfl:E=0:=HEE.out.trans (if_pos WY)
   have L6:=HP1.out WY;obtain⟨Vl,aqA⟩:=Zm.1 L6;have MF:BM C P.length=l:=by have:=BJ Vl;rw[L6]at this;exact(ZW this).symm
   obtain⟨b7,o7,u2,ee,U3,lI,Hb⟩:=(HC.out _ acm).at_ Vl;subst ee;rw[MF]at Hb;obtain⟨uc2,ud2,rfl,_⟩:=Hb.val;have abo:=vE.mono abR;have cL:=Zd (fun W (hB:Bl V W)=>c46 (w:=W) (Sl.imp (Hb.later hB) (T:=fun x=>x<W.heap.size) (fun x (hx:x<V.heap.size)=>by have:=hB.size;show x<W.heap.size;omega) fun _ _ x=>x) (HUL.out W ((bU vE hB).mono abR)) (fun x hx=>hx) fun x hx=>hx);rw[Vu]at cL;have wB:(P.length:Int)<(C.length:Int):=by omega
   have aqB:¬(C.length:Int)<=(P.length:Int):=by omega
   have z0:=fun p=>Al p lI;have z1:=fun p=>Al p (HCU.out _ abo);have abI:=Zd (show(A.take (k+1)).filter (Ev c)=P++ [l] by rw[HTK.out,ZbB,if_pos WY];rfl);have aqC:=Zd WY;clear L6 aqA MF Hb lI WY;go_wp2;refine Av (by kernel_rfl) (by kernel_rfl) ?_
   repeat (first|go_big_quiet_step ((go_at_call 46;exact AV (cL.out _ (AE _ _))))|quiet_step ((go_at_call 46;exact AV (cL.out _ (AE _ _)))))
   refine Z4 ?_;rintro _ ⟨p,rfl⟩;have yw:=AE V p;obtain⟨Y,hY⟩:∃Y,Y=calm V p:=⟨_,rfl⟩;rw[<-hY]at yw⊢;clear hY z0 z1;have ad9:=bU vE yw;have lJ:=bU acm yw;have ade:=bU acS lJ;have abS:=iP.later yw;have hKY:=HK.out _ ade;clear iP abo;have hzY:=lJ.size;have g0:=fun p:Tw K Y=>p.cell (ch (i:=0) hKY rfl) (LP _);have g1:=fun p:Tw K Y=>p.cell (ch (i:=1) hKY rfl) (LP _);have g2:=fun p:Tw K Y=>p.cell (ch (i:=2) hKY rfl) (LP _);have g3:=fun p:Tw K Y=>p.cell (ch (i:=3) hKY rfl) (LP _);have g4:=fun p:Tw K Y=>p.cell (ch (i:=4) hKY rfl) (LP _);have g5:=fun p:Tw K Y=>p.cell (HCU.out _ (ad9.mono abR)) (LP _);go_wp2;refine B0 (S:=fun W=>∃p:Tw K Y,W=p.v) [] [(false,5),(false,6)] [0,1,2,3,4] (by kernel_rfl) (fun _ _ d _ _ h=>by cases d<;>exact h) (by kernel_rfl) (A5 (Ak.later (Zh _ _).drew)) ?_;refine A4 _ _ (by kernel_rfl) ?_;simp only[Z6,zd,ZG,ZD,ZC]
   repeat (first|go_big_quiet_step (fail)|quiet_step (fail))
   refine Z4 ?_;clear g0 g1 g2 g3 g4 g5;change Dl _ _ _ _ _ _ _;have Uh:Bl Y Y.drew:=(Zh _ _).drew;refine Dd (f:=47) rfl rfl (by go_simp) ((c47 (mI.out _ (bU ade Uh)) HM.out.valid (HUL.out _ ((bU ad9 Uh).mono abR)) (by have:=HL.out.1;omega) (fun i hi=>by have:=HL.out.2 i hi;have:=(HM.out.seam i (by have:=HL.out.1;omega)).step;omega) fun x hx=>hx).mono ?_);rintro e V2 ⟨gv,rfl,Ui,hgv⟩;have abU:=bU Uh Ui;have NN:(Cc c l).length=c.base.length:=by simp[Cc]
   have HGB:=Zd (fun i (hi:i<c.base.length)=>Ol HM.out HL.out hi);have HGM:=Zd (fun i (hi:i<c.base.length)=>show nth (Cc c l) i=measure c l i by
    have:=MU (l:=l) hi;rw[Bn (by simp[Cc];exact hi)]at this;exact ZW this)
   obtain⟨G,hG⟩:∃G,G=Cc c l:=⟨_,rfl⟩;rw[<-hG]at hgv NN HGB HGM;clear hG;obtain⟨ga,gc,rfl,_⟩:=hgv.val;have HGL:=Zd NN;have HGS:=Zd (show∀W,Bl V2 W->SI (fun x=>x<V2.heap.size) W (U ga G.length gc) G from fun W hB=>Sl.imp (hgv.later hB) (fun x hx=>hx.2) fun _ _ x=>x);refine⟨_,rfl,.inr (A5 (Ak.later abU)),?_⟩;refine Dw (v:=.slice ga G.length gc) rfl rfl (by go_simp) (.inr (A5 (Ak.later abU))) ?_;unfold Dl;have ac2:=abS.later abU;have HEA:=Zd (show∀x,ea=some ⟨x,0,none⟩->W6.heap.size<=x/\x<Y.heap.size from fun x e=>by
    have h:=J3 abS x (by rw[e];rfl);obtain⟨h1,cs,h2⟩:=h;exact⟨h1,(Za.1 h2).1⟩)
   have hzd:=Uh.size;have HGT:=Zd (show∀W,Ak (fun x=>ea=some ⟨x,0,none⟩) V2 W->SI (fun x=>x<V2.heap.size) W (U ga G.length gc) G from fun W hT=>Sl.imp (hgv.Ar (hT.same fun x hx e=>by have:=(HEA.out x e).2;have:=hx.1;omega)) (fun x hx=>hx.2) fun _ _ x=>x);have abo:=bU lJ abU;clear hgv NN Uh Ui abS
   go_simp
   have HNS:=Zd (fun(g:Nat) (hg:g<c.base.length)=>abx (c:=c) (P:=P) (l:=l) hg);have HNL:=Zd (show(aas c (P++ [l])).length=c.base.length from aaC (by simp));have uR:=Zd (fun h:P≠ []=>aaC (c:=c) h);have HO0:=Zd (fun h:P=[]=>show aas c P=[] by rw[h];rfl);obtain⟨N,hN⟩:∃N,N=aas c (P++ [l]):=⟨_,rfl⟩;obtain⟨O,hO⟩:∃O,O=aas c P:=⟨_,rfl⟩;rw[<-hN]at HNS HNL;rw[<-hO]at HNS uR HO0 ac2 acj⊢;have HEN:=Zd hN;clear hN hO;obtain⟨i8i,i8h,i80,i81,i82⟩:=zp Wu;by_cases hPn:P=[]
   .have hO:=HO0.out hPn
    have ah7:=acj.out hPn;have HNJ:=Zd (fun(g:Nat) (hg:g<c.base.length)=>show BV N g=(nth G g,nth G g) by rw[HNS.out g hg,if_pos hPn,HGM.out g hg]);have HPN:=Zd hPn;clear hPn;subst hO;obtain⟨rfl,rfl⟩:ea=none/\ec=0:=by
     injection ah7 with h1 _ h3
     exact⟨h1,h3⟩
    clear ah7;simp only[zR];go_wp2;go_loopg [8,13] G.length (fun gg en i wx=>∃j:Nat,j<=G.length/\gg=G.length - j/\i=.int J j/\Ih wx V2.heap.size en (N.take j) 80/\Bl V2 wx)
    case atStart=>exact⟨0,Zp _,rfl,rfl,zq _ _ _ _,Zh _ _⟩
    obtain⟨j,hj,rfl,rfl,ho,Qp⟩:=hrel;by_cases hjl:j<G.length
    .have hjb:j<c.base.length:=by have:=HGL.out;omega
     have hjN:j<N.length:=by have:=HNL.out;omega
     have NK:(N.take j).length=j:=by rw[ZcV,HNL.out];omega
     obtain⟨ea2,ec2,rfl,_⟩:=JS ho;unfold Ih at ho;rw[NK]at ho⊢;have iD:=Zd NK;clear NK;obtain⟨b1,o1,ee,FD,tN⟩:=(HGS.out _ Qp).at_ hjl;subst ee;have hjG:(j:Int)<(G.length:Int):=by omega
     have hj3:j<=3:=by have:=HM.out.valid.Fp;omega
     obtain⟨x,hx⟩:∃x,x=nth G j:=⟨_,rfl⟩;have acr:=Zd (show BV N j=(x,x) by rw[HNJ.out j hjb,hx]);rw[<-hx]at tN;clear hx;have adp:V2.cell? ⟨b1,o1+j,none⟩=some (.int J x):=(Qp.cell (p:=⟨b1,o1+j,none⟩) FD).symm.trans tN;obtain⟨aa5,adq,adr⟩:∃aa5:Nat->Prop,(∀x,x<V2.heap.size->¬aa5 x)/\∀x,V2.heap.size<=x->aa5 x:=⟨fun x=>V2.heap.size<=x,fun x h1 h2=>by omega,fun x h=>h⟩;have g0:=fun p:Tw aa5 wr=>p.cell tN (adq _ FD);go_wp2;refine B0 (S:=fun W=>∃p:Tw aa5 wr,W=p.v) [] [(false,9),(false,10),(false,11),(false,12)] [0,1,2,3,4,5,6,7,8] (by kernel_rfl) (fun _ _ d _ _ h=>by cases d<;>exact h) (by kernel_rfl) (A5 (Ak.later (Zh _ _).drew)) ?_;refine A4 _ _ (by kernel_rfl) ?_;simp only[Z6,zd,ZG,ZD,ZC]
     repeat (first|go_big_quiet_step (fail)|quiet_step (fail))
     refine Z4 ?_;clear g0;change Dl _ _ _ _ _ _ _;obtain⟨V,hV⟩:∃V,V=wr.drew:=⟨_,rfl⟩;have Ui:Bl wr V:=by rw[hV];exact(Zh _ _).drew
     rw[<-hV];clear hV;have iP:V.ownsRow V2.heap.size 80 2 (U ea2 j ec2) j ((N.take j).flatMap fun p=> [ZL J p.1,.int J p.2]):=Fu ho Ui;have acs:=bU Qp Ui;have ae5:=bU abU acs;have hzj:=acs.size;clear tN ho;have WQ:Ak aa5 wr (V.alloc (.cells #[.int J x,.int J x] 80)):=Ak.later (bA Ui);refine Dw (v:=.agg #[.int J x,.int J x]) rfl rfl (by go_simp) (.inr (A5 (Ak.later Ui))) ?_;refine JZ (v:=.slice (some ⟨V.heap.size,0,none⟩) 1 1) (w':=V.alloc (.cells #[.int J x,.int J x] 80)) rfl rfl (by go_simp) (.inr (A5 WQ)) ?_;refine PW rfl rfl ?_;refine Zak _ _ _ 23 rfl V2.heap.size 80 i8i (.agg #[.int J 0,.int J 0]) 2 16 (Cz Zdg) (Dz i8h) i80 i81 i82 rfl (by decide) _ j ((N.take j).flatMap fun p=> [ZL J p.1,.int J p.2]) (by go_simp) (Ya iP _) ⟨V.heap.size,0,none⟩ 1 1 [.int J x,.int J x] (by go_simp) rfl (Hc _ _ _) (by intro u hu;simp at hu;rcases hu with rfl|rfl<;>rfl) (by unfold maxLen;omega) (by omega) (by simp;omega) ?_;intro v9 w9 hv9 r_ acM;have acv:Ak aa5 wr w9:=WQ.trans (Ak.grown r_ fun q hq=>adr q (iP.lt q hq).1);refine⟨.inr (A5 acv),?_⟩;refine Dw (v:=v9) rfl rfl (by go_simp) (.inr (A5 acv)) ?_;unfold Dl;clear WQ acv
     go_simp
     have Jx:Bl V2 w9:=Bm (bA acs) r_ (fun q hq=>(iP.lt q hq).1) (by simp;omega);obtain⟨g9,aqo,rfl⟩:=Zay hv9;have hO9:Ih w9 V2.heap.size (U (some ⟨g9,0,none⟩) (j+1) aqo) (N.take j++ [(x,x)]) 80:=by unfold Ih;rw[ZA,iD.out,Zbe];exact hv9
     obtain⟨aa0,hn9⟩:∃n,n=j+1:=⟨_,rfl⟩;rw[<-hn9]at hO9⊢;have hj9:(j:Int)<(aa0:Int):=by omega
     have HN9:=Zd hn9;clear hn9 hv9;have Gc:BV (N.take j++ [(x,x)]) j=(x,x):=by simp[BV,Y6,iD.out]
     have hl9:j<(N.take j++ [(x,x)]).length:=by rw[ZA,iD.out];exact Nat.lt_succ_self _
     obtain⟨cur,hgb,hgs,NM,e1,e2⟩:=hO9.at2 hl9;rw[Gc]at e1 e2;have hG9:w9.cell? ⟨b1,o1+j,none⟩=some (.int J x):=(Jx.cell (p:=⟨b1,o1+j,none⟩) FD).trans adp;have f0:=cf (i:=j*2) hgs;have f1:=cf (i:=j*2+1) hgs;go_wp2;go_still_tail 24,(by kernel_rfl);change wpList _ _ _ _ _ w9.drew;go_wp2;have hT9:Ak (fun x=>x=g9) w9 ((w9.setCell ⟨g9,j*2,none⟩ (.int J x)).setCell ⟨g9,j*2+1,none⟩ (.int J x)):=by
      have aW:Ak (fun x=>x=g9) w9 w9:=Ak.refl _ _;exact(aW.set rfl).set rfl
     have adt:Bl V2 ((w9.setCell ⟨g9,j*2,none⟩ (.int J x)).setCell ⟨g9,j*2+1,none⟩ (.int J x)).drew:=(Jx.trans (hT9.below (fun k hk=>by rw[hk];exact hgb) Jx.size)).drew;have hO2:=(hO9.set hl9 (x,x)).later (Zh _ _).drew;rw[aby hjN (by rw[EE hjN,acr.out])]at hO2;go_roundg (G.length - (j+1))
     case rel=>exact⟨j+1,hjl,rfl,by go_num,hO2,adt⟩
     omega
    have NK:N.take j=N:=Zb3 (by rw[HNL.out];have:=HGL.out;omega);rw[NK]at ho;have Qs:=Zd (ho.ac6 abo.size);have acK:=bU abo Qp;go_wp2;go_roundg (A.length - (k+1))
    case rel=>exact⟨k+1,Az,rfl,by go_num,by rw[abI.out,ZA];go_num,by rw[abI.out, <-HEN.out];exact Qs.out,fun e=>by rw[abI.out]at e;simp at e,acK⟩
    omega
   have hOl:=uR.out hPn;have HNJ:=Zd (fun(g:Nat) (hg:g<c.base.length)=>show BV N g=(min (BV O g).1 (nth G g),max (BV O g).2 (nth G g)) by rw[HNS.out g hg,if_neg hPn,HGM.out g hg]);have adg:=Zd hOl;clear hOl hPn;go_wp2;go_loopg [8,13] G.length (fun gg en i wx=>∃j:Nat,j<=G.length/\gg=G.length - j/\en=.slice ea O.length ec/\i=.int J j/\Ih wx W6.heap.size (U ea O.length ec) (N.take j++O.drop j) 80/\Ak (fun x=>ea=some ⟨x,0,none⟩) V2 wx)
   case atStart=>exact⟨0,Zp _,rfl,rfl,rfl,ac2,Ak.refl _ _⟩
   obtain⟨j,hj,rfl,rfl,rfl,ho,hTj⟩:=hrel;by_cases hjl:j<G.length
   .have hjb:j<c.base.length:=by have:=HGL.out;omega
    have hjo:j<O.length:=by have:=adg.out;omega
    have hjN:j<N.length:=by have:=HNL.out;omega
    have NK:j<(N.take j++O.drop j).length:=by rw[ZA,ZcV,List.length_drop];omega
    obtain⟨g,cap,cur,ee,-⟩:=ho.at_ NK
    injection ee with ee e2 e3
    clear e2 e3;subst ee;obtain⟨cur,hgb,hgs,NM,e1,e2⟩:=ho.at2 NK;rw[ac7 (Nat.le_of_lt hjN)]at e1 e2;obtain⟨b1,o1,ee,FD,tN⟩:=(HGT.out _ hTj).at_ hjl;subst ee;obtain⟨x,hx⟩:∃x,x=nth G j:=⟨_,rfl⟩;obtain⟨ab,DU⟩:∃ab,ab=BV O j:=⟨_,rfl⟩;have acr:=Zd (show BV N j=(min ab.1 x,max ab.2 x) by rw[HNJ.out j hjb,hx,DU]);rw[<-hx]at tN;rw[<-DU]at e1 e2;clear hx DU;obtain⟨lo,hi⟩:=ab;dsimp only at e1 e2;have hO2:Ih ((wr.setCell ⟨g,j*2,none⟩ (.int J (min lo x))).setCell ⟨g,j*2+1,none⟩ (.int J (max hi x))) W6.heap.size (U (some ⟨g,0,none⟩) O.length ec) (N.take (j+1)++O.drop (j+1)) 80:=by
     have:=ho.set NK (min lo x,max hi x);rw[take_set hjN hjo (by rw[EE hjN,acr.out])]at this;exact this
    have HO2:=Zd hO2;have HT2:=Zd (show Ak (fun x=>some (⟨g,0,none⟩:Addr)=some ⟨x,0,none⟩) V2 ((wr.setCell ⟨g,j*2,none⟩ (.int J (min lo x))).setCell ⟨g,j*2+1,none⟩ (.int J (max hi x))) from(hTj.set rfl).set rfl);have f0:=cf (i:=j*2) hgs;have f1:=cf (i:=j*2+1) hgs;have hjG:(j:Int)<(G.length:Int):=by omega
    have hjO:(j:Int)<(O.length:Int):=by omega
    have BL:((O.length:Int)==(j:Int))=false:=by simp;omega
    clear hO2 ho hTj;go_wp2;go_still_tail 24,(by kernel_rfl);change wpList _ _ _ _ _ wr.drew;go_wp2;have hO3:=HO2.out.later (Zh _ _).drew;have Ou:=HT2.out.uJ (Zh _ _).drew;go_roundg (G.length - (j+1))
    case rel=>exact⟨j+1,hjl,rfl,rfl,by go_num,hO3,Ou⟩
    omega
   have NK:N.take j++O.drop j=N:=by
    rw[Zb3 (by rw[HNL.out];have:=HGL.out;omega),Z7.2 (by have:=adg.out;have:=HGL.out;omega),ZaA]
   rw[NK]at ho;have Qs:=Zd ho;have acK:Bl W6 wr:=abo.trans (hTj.below (fun x e=>(HEA.out x e).1) abo.size);go_wp2;go_roundg (A.length - (k+1))
   case rel=>exact⟨k+1,Az,rfl,by go_num,by rw[abI.out,ZA];go_num,by rw[abI.out, <-HEN.out];exact Qs.out,fun e=>by rw[abI.out]at e;simp at e,acK⟩
   omega
  obtain rfl:E=12:=HEE.out.trans (if_neg WY);have hPk:(A.take (k+1)).filter (Ev c)=P:=by rw[HTK.out,ZbB,if_neg WY];simp
  have HPK:=Zd hPk;clear hPk;go_wp2;go_roundg (A.length - (k+1))
  case rel=>exact⟨k+1,Az,rfl,by go_num,by rw[HPK.out],by rw[HPK.out];exact iP,by rw[HPK.out];exact acj.out,acm⟩
  omega
 have hkA:k=A.length:=by omega
 subst hkA;have hPA:(A.take A.length).filter (Ev c)=C:=by rw[ZcU, <-HCF.out]
 rw[hPA]at AX⊢;have HE:=Zd (fun(g:Nat) (hg:g<c.base.length)=>show BV (aas c C) g=aav c g by rw[HCE.out];exact abl HM.out.valid hg);have hEL:(aas c C).length=c.base.length:=aaC (by rw[HCE.out];exact abb HM.out.valid);have hC0:0<C.length:=List.length_pos_iff.2 (by rw[HCE.out];exact abb HM.out.valid);obtain⟨E,hE⟩:∃E,E=aas c C:=⟨_,rfl⟩;rw[<-hE]at AX HE hEL⊢;clear hE ah7 hPA;have HEL:=Zd hEL;clear hEL;have hGk:=hGW.later hBk;have ajc:=bU hBW hBk;have hci:((C.length:Int)==0)=false:=beq_eq_false_iff_ne.2 (by omega);obtain⟨Z,hZ⟩:∃Z,Z=wr:=⟨_,rfl⟩;subst hZ;go_wp2;go_loopg [14] E.length (fun gg i wx=>∃j:Nat,j<=E.length/\gg=E.length - j/\i=.int J j/\Bl Z wx)
 case atStart=>exact⟨0,Zp _,rfl,rfl,Zh _ _⟩
 obtain⟨j,hj,rfl,rfl,Qp⟩:=hrel;have fI:=bU acT Qp;have hKj:=HK.out _ fI;by_cases hjl:j<E.length
 .have hjb:j<c.base.length:=by have:=HEL.out;omega
  obtain⟨g,cap,cur,ee,-⟩:=AX.at_ hjl
  injection ee with e1 e2 e3
  clear e2 e3;subst e1;have H75:=Zd (c75 (mI.out _ fI) (fun x hx=>hx) HM.out.begin hjb);have hw:=HE.out j hjb;obtain⟨aad,hrp⟩:∃x,x=aav c j:=⟨_,rfl⟩;rw[<-hrp]at H75 hw;clear hrp;have k0:=ch (i:=0) hKj rfl;have k1:=ch (i:=1) hKj rfl;have k2:=ch (i:=2) hKj rfl;have k3:=ch (i:=3) hKj rfl;have k4:=ch (i:=4) hKj rfl;have hjE:(j:Int)<(E.length:Int):=by omega
  have HW:=Zd hw;clear hw;go_wp2;refine H75.out.mono ?_;rintro e V ⟨rfl,Ui⟩;have hw:=HW.out;obtain⟨r1,r2⟩:=aad;obtain⟨Y,hY⟩:∃Y,Y=V.alloc (.cells #[.int J r1,.int J r2] 80):=⟨_,rfl⟩;have hBY:Bl V Y:=by rw[hY];exact bA (Zh _ _)
  have hXY:Y.heap[V.heap.size]?=some (.cells #[.int J r1,.int J r2] 80 (0,0)):=by rw[hY];exact Bp _ _
  have adh:=bU (bU Qp Ui) hBY;obtain⟨aeF,_,-,_,e1,e2⟩:=(AX.later adh).at2 hjl;rw[hw]at e1 e2;have y0:=ch (i:=0) hXY (v:=.int J r1) rfl;have y1:=ch (i:=1) hXY (v:=.int J r2) rfl;have hq:((r1,r2) !=(r1,r2))=false:=by simp
  have aeG:=q80;have aeH:=g80;clear hw k0 k1 k2 k3 k4;dsimp only at e1 e2⊢;go_wp2;rw[<-hY];clear hY;go_quiet (fail);go_wp2;go_roundg (E.length - (j+1))
  case rel=>exact⟨j+1,hjl,rfl,by go_num,Y5 adh _⟩
  omega
 have hGj:=hGk.later Qp;have adi:=bU ajc Qp;go_wp2_with (go_at_call 26;refine(c26 _ hGj).mono ?_;rintro e Z ⟨hBZ,rfl|⟨x,rfl,Ss⟩⟩)
 .go_ret
  exact⟨bU adi hBZ,.inl rfl⟩
 exact⟨rfl,bU adi hBZ,.inr ⟨_,rfl,Ss⟩⟩
end Go.Proofs.Fit
namespace Go.Proofs.YtkkjobdfheidkaaGreatDoor
open Go Go.Conc Go.RowKit Go.Proofs.Fit
set_option maxRecDepth 100000
def abK:(Rows.seamReachRow.inPlace==Tryz.prog.inPlace 19)=true:=by kernel_rfl
def aaG:(Rows.seamReachRow.unfollowed==Tryz.prog.unfollowed 19)=true:=by kernel_rfl
def abq:(Rows.seamReachRow.recurses==Tryz.prog.recurses 19)=true:=by kernel_rfl
def aca:(Rows.seamReachRow.named==Tryz.prog.varsNamed 19)=true:=by kernel_rfl
def acb:joinedFacts Zc 19 Tryz.f19 Rows.seamReachSpec Rows.seamReachRow=true:=
 kQ (by kernel_rfl) (by kernel_rfl) (by kernel_rfl) (by kernel_rfl) (by kernel_rfl) abK aaG abq aca (by kernel_rfl) (by kernel_rfl) (by kernel_rfl) (by kernel_rfl) (by kernel_rfl) (by kernel_rfl) (by kernel_rfl) (by kernel_rfl) (by kernel_rfl) rfl rfl rfl rfl rfl rfl (by kernel_rfl) (by kernel_rfl) (by kernel_rfl)
def ac3 (os:Os)(started:os.Started)(H:Type)(enc:Zs×Zf->H):ReturnsInLeavingWide {} Tryz.checked os 19 .any (fun w args=>(Rows.seamReachSpec.pre enc Zc Tryz.f19 [] false w args/\laidMetH Zc PT w)/\sizedMet enc Zc Tryz.f19 (ZbV Rows.seamReachSpec) false w args)
   (Rows.seamReachSpec.post enc Zc Tryz.f19 false true false false):=
 eO (s:=Rows.seamReachSpec) started rfl rfl Tryz.func19 rfl rfl (by kernel_rfl) (by kernel_rfl) rfl (by kernel_rfl) (fun ds h=>by
    match ds,h with
    | [_],_=>rfl)
   (ChangeSpec.witness_shaped (enc:=enc) (C:=Tryz.checked) (os:=os) (X:=fun w _=>laidMetH Zc PT w) false (Vg os) #[U none 0 0] 8 rfl (World.shaped_of_RefB (by kernel_rfl) (by kernel_rfl)) (by kernel_rfl) (by kernel_rfl) (by kernel_rfl) (Ub os _))
   (fun W base args ds ps hval hA _ hG=>qc rfl hval hA hG fun w v nums hn hG=>ad8 hn (fun x hx=>hx) hG)
def adj:Rows.SeamReachSaid:=
 OpenClaim.holds_of_wide_leaving 19 Tryz.f19 rfl rfl rfl rfl rfl rfl rfl ⟨rfl,rfl,rfl,rfl,rfl⟩ rfl rfl rfl rfl rfl (by kernel_rfl) Tryz.func19 acb
  (of_decide_eq_true (by kernel_rfl)) (by unfold Func.isWrapper;rw[if_neg (by decide+kernel)];exact⟨rfl,rfl⟩) (fun os started H enc _=>ac3 os started H enc)
def acL:true=Rows.seamReachRow.goesBy Tryz.pinned.checked.prog:=by kernel_rfl
theorem reach_holds:Rows.SeamReachCardSaid:=
 kM [.handle] (true,"d58ada5a772cea19d6c1f322b38be8e13f90afce78f95e9e644b853f050ce369") adj (by kernel_rfl) (OpenClaim.laidByTextAt_later rfl rfl qd abD) rfl ⟨rfl,rfl⟩ uI
  (fun f fn hf G9=>by
   obtain rfl:f=19:=ZW ((show Tryz.prog.funcNamed "galloon/galloonlaw02.SeamReach" =some 19 by kernel_rfl).symm.trans hf)|>.symm;obtain rfl:fn=Tryz.f19:=(ZW (Tryz.func19.symm.trans G9)).symm;exact⟨abE,fun j t ht=>by
    have hm:t∈ [22]:=by simpa using zY ht
    have FJ:([22].all fun u=> !Tryz.prog.wantsStandIn u)=true:=by kernel_rfl
    exact(show Tryz.prog.wantsStandIn t=false by simpa using Zdm.1 FJ t hm)⟩)
  acL
#print axioms reach_holds
end Go.Proofs.YtkkjobdfheidkaaGreatDoor
