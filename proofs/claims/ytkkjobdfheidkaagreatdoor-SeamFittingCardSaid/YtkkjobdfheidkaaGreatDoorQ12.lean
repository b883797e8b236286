/- SeamFitting: for every list of numbers, on every schedule and without a data race, the law returns true, and the list reads afterwards as it read before. Conditions: those of the given row alone (the variable errors.errorType starts as the program's text lays it; the card ties that to the text). -/
import Derived.Test.YtkkjobdfheidkaaGreatDoorQ11
import Derived.Test.YtkkjobdfheidkaaGreatDoorQ08
import Derived.Lib.MinMax
set_option maxRecDepth 100000
set_option maxHeartbeats 6400000
noncomputable section
set_option linter.all false
open And renaming intro->ZY
open Array renaming getElem?_eq_some_iff->Za,replicate_succ->ZaN,replicate_zero->ZaM,mem_of_getElem?->zY
open Bool renaming and_eq_true->ZF
open Function renaming comp_def->ZdQ
open Go renaming Value->Zf,World->Zb,callFunc->Zz,TypeId->Zs,callsIn_wide->Zcx,info_parts->zp,undef->Ze,ownsRow_succ->Zay,wpQuiet_nil->Z4,wpList_append_own->Yc
open Go.Fence renaming wide->ZbC
open Go.IntKind renaming wrap_i64->zE,i64->J
open Go.Lib renaming hid->Zd
open Go.OpenSpec renaming ofChange->ZbV
open Go.Oper renaming semAt_some->Zdk
open Go.Proofs.Tryz renaming f16->ZbK,func16->ZdZ,underlying27->zW,underlying22->YE,underlying23->Zdg,prog->Zc
open Go.RowKit renaming Below->YH
open Go.RowKit.Below renaming refl->Zh
open Go.Value renaming oneCell'->YT,int->ZL,slice->U,int->I
open Go.World renaming size_alloc->ZB,ownsRow_nil->zq,block_lt_of_cell?->ZH
open Go.World.ownsRow renaming alloc->Ya,lt->Zcm
open List renaming range->Yr,ext_getElem?->YA,getElem?_eq_none->ZP,getElem?_set_self->Ys,getElem?_set_ne->ZS,drop_eq_nil_iff->Z7,length_append->ZA,getElem?_append_left->zl,getElem?_eq_some_iff->Zm,length_cons->zb,length_nil->zR,getElem?_concat_length->Y1,size_toArray->Zbm,push_toArray->Zbn,append_toArray->Za4,nil_append->zP,cons_append->Za1,filter_cons->ZbB,length_filter_le->Zac,filterMap_cons->Z6,filterMap_nil->zd,getElem?_toArray->ZG,getElem?_cons_succ->ZD,getElem?_cons_zero->ZC,mem_of_getElem?->Z3,append_nil->ZaA,take_add_one->ZbH,getElem?_map->YL,flatMap_append->Zbe,drop_eq_getElem_cons->ZO,length_take->ZcV,getD_eq_getElem?_getD->Y6,getElem?_take_of_lt->Z2,take_zero->ZdB,length_take_le->ZbW,map_append->Zai,append_assoc->Zae,take_of_length_le->Zb3,take_length->ZcU,mem_append->Zab,mem_singleton->Yh,filter_append->ZcW,all_eq_true->Zdm
open Nat renaming zero_le->Zp,reduceAdd->ZaF,reduceSub->Zcw,pow_le_pow_right->YX,le_trans->Zr,le_refl->Zj,lt_of_lt_of_le->Zl
open Option.some renaming inj->ZW
namespace Go.Proofs.Fit
open Go
@[simp] def Lp.func16:Lp.funcs[16]?=some ZbK:=(AP.same 16 rfl rfl).trans ZdZ
@[simp] def Lp.call27 (args:Array Zf)(w:Zb):(Zz 27 args).run Lp w=.ok (.enter 27 args) w:=Ao Lp 27 Lp.func27 rfl rfl args w
@[simp] def Lp.func38:Lp.funcs[38]?=some Tryz.f38:=(AP.same 38 rfl rfl).trans Tryz.func38
@[simp] def Lp.call38 (args:Array Zf)(w:Zb):(Zz 38 args).run Lp w=.ok (.enter 38 args) w:=Ao Lp 38 Lp.func38 rfl rfl args w
@[simp] def Lp.func47:Lp.funcs[47]?=some Tryz.f47:=(AP.same 47 rfl rfl).trans Tryz.func47
@[simp] def Lp.call47 (args:Array Zf)(w:Zb):(Zz 47 args).run Lp w=.ok (.enter 47 args) w:=Ao Lp 47 Lp.func47 rfl rfl args w
@[simp] def Lp.func64:Lp.funcs[64]?=some Tryz.f64:=(AP.same 64 rfl rfl).trans Tryz.func64
@[simp] def Lp.call64 (args:Array Zf)(w:Zb):(Zz 64 args).run Lp w=.ok (.enter 64 args) w:=Ao Lp 64 Lp.func64 rfl rfl args w
@[simp] def Lp.func71:Lp.funcs[71]?=some Tryz.f71:=(AP.same 71 rfl rfl).trans Tryz.func71
@[simp] def Lp.call71 (args:Array Zf)(w:Zb):(Zz 71 args).run Lp w=.ok (.enter 71 args) w:=Ao Lp 71 Lp.func71 rfl rfl args w
@[simp] def Lp.func72:Lp.funcs[72]?=some Tryz.f72:=(AP.same 72 rfl rfl).trans Tryz.func72
@[simp] def Lp.call72 (args:Array Zf)(w:Zb):(Zz 72 args).run Lp w=.ok (.enter 72 args) w:=Ao Lp 72 Lp.func72 rfl rfl args w
@[simp] def Lp.func73:Lp.funcs[73]?=some Tryz.f73:=(AP.same 73 rfl rfl).trans Tryz.func73
@[simp] def Lp.call73 (args:Array Zf)(w:Zb):(Zz 73 args).run Lp w=.ok (.enter 73 args) w:=Ao Lp 73 Lp.func73 rfl rfl args w
@[simp] def Lp.func128:Lp.funcs[128]?=some Tryz.f128:=(AP.same 128 rfl rfl).trans Tryz.func128
@[simp] def Lp.call128 (args:Array Zf)(w:Zb):(Zz 128 args).run Lp w=.ok (.enter 128 args) w:=Ao Lp 128 Lp.func128 rfl rfl args w
def n16:Tryz.f16.ntmps=152:=rfl
def n38:Tryz.f38.ntmps=70:=rfl
def n47:Tryz.f47.ntmps=56:=rfl
def n64:Tryz.f64.ntmps=28:=rfl
def n71:Tryz.f71.ntmps=51:=rfl
def n72:Tryz.f72.ntmps=16:=rfl
def n73:Tryz.f73.ntmps=54:=rfl
def aq4:Tryz.f128.ntmps=23:=rfl
end Go.Proofs.Fit
namespace Go.Proofs.Fit
open Go Go.RowKit
def aiJ (l:List Int)(out:List Bool):List Bool:=l.foldl (fun o x=>o.set x.toNat true) out
def yn (n:Nat):Nat->List (List Int)->List Bool->List Bool
 |_,[],out=>out
 |i,s::r,out=>yn n (i+1) r (if i=n\/out.getD i false=true then aiJ s out else out)
def iV (n:Nat)(l:List (List Int)):Nat->List Bool->List Bool
 |0,out=>out
 |k+1,out=>iV n l k (yn n 0 l out)
def aiK (o:List (List Int))(n:Nat):List Bool:=iV n o o.length (List.replicate o.length false)
def rh (ab:Nat->Nat)(i:Nat):List (List Int)->Nat->Nat
 | []=>ab
 |s::r=>rh (HJ ab i s) (i+1) r
def iW (ab:Nat->Nat)(l:List (List Int)):Nat->Nat->Nat
 |0=>ab
 |n+1=>iW (rh ab 0 l) l n
def ri (l:List (List Int)):Nat->Nat:=iW (fun _=>0) l l.length
def WU (o:List (List Int)):Bool:=(Yr o.length).all fun n=>(Yr o.length).all fun k=>(aiK o n).getD k false==hasB (ri o n) k
def Lj:List (List Int):=[[],[0],[1],[2],[0,1],[0,2],[1,2],[0,1,2]]
def acD:∀a∈Lj,WU [a.filter (· <1)]=true:=by decide+kernel
def acE:∀a∈Lj,∀b∈Lj,WU [a.filter (· <2),b.filter (· <2)]=true:=by decide+kernel
def acF:∀a∈Lj,∀b∈Lj,∀c∈Lj,WU [a,b,c]=true:=by decide+kernel
variable {l x nums:List Int}
def EM (hr:l.Pairwise (· < ·))(hx:∀x∈l,0<=x/\x<3):l∈Lj:=by
 have key:∀x:Int,0<=x/\x<3->x=0\/x=1\/x=2:=fun x h=>by omega
 match l,hr,hx with
 | [],_,_=>simp[Lj]
 | [a],_,hx=>
  rcases key a (hx a (by simp)) with rfl|rfl|rfl<;>simp[Lj]
 | [a,b],hr,hx=>
  have h1:a<b:=by simpa using hr
  rcases key a (hx a (by simp)) with rfl|rfl|rfl<;>rcases key b (hx b (by simp)) with rfl|rfl|rfl<;>first|(exfalso;omega)|simp[Lj]
 | [a,b,c],hr,hx=>
  have h1:a<b/\b<c:=by
   simp at hr;exact⟨hr.1.1,hr.2⟩
  have ha:=hx a (by simp);have hc:=hx c (by simp);obtain rfl:a=0:=by omega
  obtain rfl:c=2:=by omega
  obtain rfl:b=1:=by omega
  simp[Lj]
 |a::b::c::d::r,hr,hx=>
  exfalso;simp only[List.pairwise_cons]at hr;have h1:=hr.1 b (by simp);have h2:=hr.2.1 c (by simp);have h3:=hr.2.2.1 d (by simp);have ha:=hx a (by simp);have hd:=hx d (by simp);omega
def filter_lt {n:Int}(hx:∀x∈l,0<=x/\x<n):l.filter (· <n)=l:=List.filter_eq_self.2 fun x h=>by simpa using(hx x h).2
variable {o P:List (List Int)}
def vU (hn:o.length<=3)(hr:∀l∈o,l.Pairwise (· < ·))(hx:∀l∈o,∀x∈l,0<=x/\x<o.length):WU o=true:=by
 match o,hn,hr,hx with
 | [],_,_,_=>rfl
 | [a],_,hr,hx=>
  have h1:=hx a (by simp);have:=acD a (EM (hr a (by simp)) fun x h=>by have:=h1 x h;simp at this;omega);rwa[filter_lt (fun x h=>by have:=h1 x h;simpa using this)]at this
 | [a,b],_,hr,hx=>
  have h1:=hx a (by simp);have h2:=hx b (by simp);have:=acE a (EM (hr a (by simp)) fun x h=>by have:=h1 x h;simp at this;omega) b (EM (hr b (by simp)) fun x h=>by have:=h2 x h;simp at this;omega);rwa[filter_lt (fun x h=>by have:=h1 x h;simpa using this),filter_lt (fun x h=>by have:=h2 x h;simpa using this)]at this
 | [a,b,c],_,hr,hx=>
  exact acF a (EM (hr a (by simp)) fun x h=>by have:=hx a (by simp) x h;simpa using this) b (EM (hr b (by simp)) fun x h=>by have:=hx b (by simp) x h;simpa using this)
   c (EM (hr c (by simp)) fun x h=>by have:=hx c (by simp) x h;simpa using this)
 |_::_::_::_::_,hn,_,_=>simp at hn
def Qr (n:Nat)(m:Nat->Int):List Int:=(Yr n).map m
def EI (n:Nat)(m:Nat->Int):(Qr n m).length=n:=by simp[Qr]
variable {n i g cap k b:Nat}
variable {m:Nat->Int}
def rj (h:i<n):nth (Qr n m) i=m i:=by simp[Qr,nth,h]
def lC (l:List Int):l=Qr l.length (fun j=>nth l j):=by
 apply YA;intro i;by_cases h:i<l.length
 .rw[Bn h];simp[Qr,h]
 rw[ZP (by omega),ZP (by rw[EI];omega)]
def rm (h:i<n)(k b:Int):(Qr n m).set i (m i+b*k)=Qr n (K7 m k ((i:Int),b)):=by
 apply YA;intro j;by_cases hj:j<n
 .by_cases hij:i=j
  .subst hij
   rw[Ys (by rw[EI];exact h)];simp[Qr,hj,K7]
  rw[ZS hij];simp[Qr,hj,K7];omega
 rw[ZP (by simp[EI];omega),ZP (by rw[EI];omega)]
structure MG (w:Zb)(xs:Array Zf)(v:Zf)(n:Nat)(m:Nat->Int)(wr:Zb):Prop where
 below:Bl w wr
 box:wr.heap[w.heap.size]?=some (.cells xs 26 (0,0))
 own:Own wr (w.heap.size+1) v (Qr n m)
variable {w A B w1:Zb}
variable {xs:Array Zf}
variable {v v1 v2 v3 v4 v5 v6 lv:Zf}
def MG.later {wr W:Zb}(h:MG w xs v n m wr)(hB:Bl wr W):MG w xs v n m W:=
 ⟨h.below.trans (hB.mono h.below.size),(hB.block _ (Za.1 h.box).1).trans h.box,h.own.later hB⟩
def MG.row {wr:Zb}(h:MG w xs (U (some ⟨g,0,none⟩) n cap) n m wr)(hi:i<n):w.heap.size+1<=g/\∃cur,wr.heap[g]?=some (.cells cur 3 (0,0))/\cur[i]?=some (.int J (m i)):=by
 obtain⟨g',Ey,cur,e,h1,h2,h3,h4,h5,h6⟩:=h.own.val (by rw[EI];omega);rw[EI]at e;cases e;refine⟨h1,cur,h2,?_⟩;rw[h5 i (by rw[EI];exact hi),rj hi]
def MG.set {wr:Zb}(h:MG w xs (U (some ⟨g,0,none⟩) n cap) n m wr)(hi:i<n)(k b:Int):MG w xs (U (some ⟨g,0,none⟩) n cap) n (K7 m k ((i:Int),b)) (wr.setCell ⟨g,i,none⟩ (.int J (m i+b*k))):=by
 obtain⟨g',Ey,cur,e,h1,h2,h3,h4,h5,h6⟩:=h.own.val (by rw[EI];omega);rw[EI]at e;cases e;refine⟨bS h.below (by omega),(AZ (by omega) _).trans h.box,?_⟩;rw[<-rm hi];exact h6 i _ (by rw[EI];exact hi)
variable {S Sn:Nat->Prop}
variable {c:A_}
def c47 (h:RC S w v1 v2 v3 v4 v5 c)(hv:Fq c)(hl:SI S w v6 l)(hn:l.length<=c.Aa.length)(hb:∀i,i<l.length->-2<=nth l i/\nth l i<=2)(hS:∀b,S b->b<w.heap.size):
  Calls Lp 47 #[.agg #[v1,v2,v3,v4,v5],v6] w fun e w'=>∃u,e=.returned u/\Bl w w'/\SI (Cb w.heap.size w') w' u (Cc c l):=by
 obtain⟨a1,c1,rfl,l1,m1⟩:=h.base.val;obtain⟨a2,c2,rfl,l2,m2⟩:=h.Af.val;obtain⟨a3,c3,rfl,l3,m3⟩:=h.hooks.val;obtain⟨a4,c4,rfl,l4,m4⟩:=h.Aa.val;obtain⟨a5,c5,rfl,l5,m5⟩:=h.now.val;obtain⟨a6,c6,rfl,l6,m6⟩:=hl.val;have IX:=DJ;obtain⟨tN,lZ⟩:=hv.Fp;have HM:=Zd (show measure c l=Iw (fun j=>nth c.base j) (l.zip c.Aa) from rfl);have Bg:Bl w (w.alloc (.cells #[U a1 c.base.length c1,U a2 c.Af.length c2,U a3 c.hooks.length c3,U a4 c.Aa.length c4,U a5 c.now.length c5] 26)):=bA (Zh _ _);have H32:=Zd (fun W (hB:Bl w W)=>WO (h.later hB).base (by omega));have hbb:=MP hv;have HRB:=Zd (lC c.base);go_enter Lp.func47,n47;go_wp2_with (go_at_call 32;refine(H32.out _ Bg).mono ?_;rintro e w1 ⟨u,rfl,Bb,hO⟩;obtain⟨g,cap,cur,rfl,hgb,_⟩:=hO.val (by omega));have hM4:MG w #[U a1 c.base.length c1,U a2 c.Af.length c2,U a3 c.hooks.length c3,U a4 c.Aa.length c4,U a5 c.now.length c5] (U (some ⟨g,0,none⟩) c.base.length cap) c.base.length (fun j=>nth c.base j) w1:=by
  refine⟨Bg.trans (Bb.mono Bg.size),(Bb.block _ (by simp)).trans (Bp _ _),?_⟩;rw[<-HRB.out];rw[ZB]at hO;exact hO
 clear Bb hO hgb;go_loopg [6] l.length (fun gg i wr=>∃(k:Nat) (m:Nat->Int),k<=l.length/\gg=l.length - k/\i=.int J k/\Iw m ((l.zip c.Aa).drop k)=measure c l/\(∀j,-(60+16*k)<=m j/\m j<=60+16*k)/\MG w #[U a1 c.base.length c1,U a2 c.Af.length c2,U a3 c.hooks.length c3,U a4 c.Aa.length c4,U a5 c.now.length c5] (U (some ⟨g,0,none⟩) c.base.length cap) c.base.length m wr)
 case atStart=>exact⟨0,_,Zp _,rfl,rfl,rfl,fun j=>by have:=hbb j;omega,hM4⟩
 obtain⟨k,m,hk,rfl,rfl,CP,hbd,hM⟩:=hrel;have hf:=Zd CP;clear CP;by_cases Az:k<l.length
 .have Xm:k<c.Aa.length:=by omega
  have mr:=hb k Az;have hd:=Zd (SR (m:=m) Az Xm);obtain⟨b6,o6,rfl,Xj,xu⟩:=hl.at_ Az;obtain⟨b,o,s2,s3,rfl,UQ,ER,MM,LO,et,mi,hp,ho⟩:=h.Aa.at_ (i:=k) Xm;obtain⟨a7,c7,rfl,l7,m7⟩:=hp.val;clear ER MM et mi;have Xa:=hv.pull k Xm;have hpn:=hv.Ap k Xm;have Jm:=hv.few;obtain⟨n,Gc⟩:∃n,n=nth l k:=⟨_,rfl⟩;rw[<-Gc]at xu mr hd;clear Gc;obtain⟨ps,lP⟩:∃ps,ps=(Aj c.Aa k).Ap:=⟨_,rfl⟩;rw[<-lP]at LO hp l7 Xa hpn hd;clear lP;have TB:(k:Int)<(l.length:Int):=by omega
  have aym:(k:Int)<(c.Aa.length:Int):=by omega
  go_wp2;go_loopg [7] ps.length (fun gg i wx=>∃(j:Nat) (mm:Nat->Int),j<=ps.length/\gg=ps.length - j/\i=.int J j/\CZ mm n (ps.drop j)=CZ m n ps/\(∀i,-(60+16*(k:Int)+8*j)<=mm i/\mm i<=60+16*(k:Int)+8*j)/\MG w #[U a1 c.base.length c1,U a2 c.Af.length c2,U a3 c.hooks.length c3,U (some ⟨b,o,none⟩) c.Aa.length c4,U a5 c.now.length c5] (U (some ⟨g,0,none⟩) c.base.length cap) c.base.length mm wx)
  case atStart=>exact⟨0,m,Zp _,rfl,rfl,rfl,fun i=>by have:=hbd i;omega,hM⟩
  obtain⟨j,mm,hj,rfl,rfl,CP,eA,U6⟩:=hrel;have MK:=Zd CP;clear CP;have aq5:=(U6.below.cell (p:=⟨b,o+k*5+2,none⟩) (hS b UQ)).trans LO;have g3:=ch (i:=3) U6.box (v:=.slice (some ⟨b,o,none⟩) c.Aa.length c4) rfl;by_cases G4:j<ps.length
  .obtain⟨b7,o7,rfl,U3,p1,p2⟩:=hp.at_ G4
   rw[<-U6.below.cell (p:=⟨b7,o7+j*2,none⟩) (hS b7 U3)]at p1;rw[<-U6.below.cell (p:=⟨b7,o7+j*2+1,none⟩) (hS b7 U3)]at p2;have aiL:=(U6.below.cell (p:=⟨b6,o6+k,none⟩) (hS b6 Xj)).trans xu;have hpd:=Zd (PO (m:=mm) (n:=n) G4);obtain⟨Oo,MF,mC,mD⟩:=Xa j G4;obtain⟨q,hq⟩:∃q,q=BV ps j:=⟨_,rfl⟩;rw[<-hq]at p1 p2 hpd Oo MF mC mD;clear hq;obtain⟨x',y⟩:=q;obtain⟨x,rfl⟩:∃x:Nat,x'=x:=⟨x'.toNat,by simp only at Oo;omega⟩;dsimp only at p1 p2 Oo MF mC mD;have xy:x<c.base.length:=by omega
   have hxi:(x:Int)<(c.base.length:Int):=by omega
   have ayn:(0:Int)<=(x:Int):=by omega
   have ahJ:(0:Int)<=(k:Int):=by omega
   have LZ:(j:Int)<(ps.length:Int):=by omega
   have ayo:(0:Int)<=(j:Int):=by omega
   have hpr:=prod_bound ⟨mC,mD⟩ mr;have hmx:=eA x;have eB:=U6.later (bA (o:=.cells #[.int J x,.int J y] 64) (Zh _ _));go_wp2;obtain⟨W5,Jy⟩:∃W5,W5=wr.alloc (.cells #[.int J x,.int J y] 64):=⟨_,rfl⟩;have e0:W5.cell? ⟨wr.heap.size,0,none⟩=some (.int J x):=by rw[Jy];exact cn _ _ _ rfl
   have e1:W5.cell? ⟨wr.heap.size,1,none⟩=some (.int J y):=by rw[Jy];exact cn _ _ _ rfl
   have e6:W5.cell? ⟨b6,o6+k,none⟩=some (.int J n):=by rw[Jy];exact ca aiL _
   rw[<-Jy]at eB;obtain⟨hgb,cur,Xg,Ox⟩:=eB.row xy;have r0:W5.cell? ⟨g,x,none⟩=some (.int J (mm x)):=ch Xg Ox;have rf:=cf (i:=x) Xg;rw[<-Jy];clear Jy aiL p1 p2 g3 aq5;go_still_tail 17,(by kernel_rfl);change wpList _ _ _ _ _ W5.drew;have hM6:=(eB.later (Zh _ _).drew).set xy n y;go_wp2;go_roundg (ps.length - (j+1))
   case rel=>exact⟨j+1,K7 mm n ((x:Int),y),by omega,rfl,by go_num,by rw[<-MK.out,hpd.out],fun i=>by have:=MO (N:=60+16*(k:Int)+8*j) (p:=((x:Int),y)) eA ⟨mC,mD⟩ mr i;omega,hM6⟩
   omega
  have e2:mm=CZ m n ps:=by rw[<-MK.out,Z7.2 (by omega)];rfl
  subst e2;go_wp2;go_roundg (l.length - (k+1))
  case rel=>exact⟨k+1,_,by omega,rfl,by go_num,by rw[<-hf.out,hd.out],fun i=>by have:=eA i;have:(j:Int)<=2:=(by omega);omega,U6⟩
  omega
 have e1:m=measure c l:=by rw[<-hf.out,Z7.2 (by simp;omega)];rfl
 subst e1;have hs:=hM.own.si;rw[show Qr c.base.length (measure c l)=Cc c l from rfl]at hs;have Lc:=hM.below;go_wp2;go_ret;exact⟨_,rfl,Lc,Sl.imp hs (fun x (hx:Cb (w.heap.size+1) wr x)=>⟨by have:=hx.1;omega,hx.2⟩) (fun _ _ x=>x)⟩
def bU (h:Bl w A)(k:Bl A B):Bl w B:=h.trans (k.mono h.size)
def fH:Nat->Nat->List (List Int)
 |0,_=> [[]]
 |m+1,n=>((Yr n).drop m).flatMap fun last=>(fH m last).map (· ++ [(last:Int)])
attribute [local go_sem] Zdk
def Ev (c:A_)(l:List Int):Bool:=(JU c (DS c l)).isNone
def LU (c:A_):List (List Int):=(EH c).filter (Ev c)
def WV (h:l∈EH c):Tc c l:=Lf _ _ h
def Tn {e:Zs}{base:Nat}{xs:List Zf}(hB:Bl A B)(h:A.ownsRow base e k v n xs):B.ownsRow base e k v n xs:=CO (T:=fun _=>False) (Ak.later hB) (fun _ _ x=>x) h
variable {vals:List Zf}
def AQ.snoc {base m g' Ey ln cc:Nat}{ad:Option Addr}{pre:List (List Int)}(hI:AQ w base pre A)(hw:w.heap.size<base)(FY:A.heap[w.heap.size]?=some (.cells #[v] 27 (0,0)))(Ci:A.ownsRow base 22 1 v pre.length vals)
 (DF:∀(i:Nat) (x:List Int),pre[i]?=some x->∃u,vals[i]?=some u/\SI (J1 3 base A) A u x) (hu:SI (J1 3 m A) A (U ad ln cc) x) (hm:base<=m) (S4:(A.alloc (.cells #[U ad ln cc] 22)).grownBy w1 v.ownBlock)
 (AX:w1.ownsRow base 22 1 (U (some ⟨g',0,none⟩) (pre.length+1) Ey) (pre.length+1) (vals++ [U ad ln cc])):
  AQ w base (pre++ [x]) (w1.setCell ⟨w.heap.size,0,none⟩ (U (some ⟨g',0,none⟩) (pre.length+1) Ey))/\Ak (fun k=>k=w.heap.size\/base<=k) A (w1.setCell ⟨w.heap.size,0,none⟩ (U (some ⟨g',0,none⟩) (pre.length+1) Ey)):=by
 have Em:∀k,v.ownBlock=some k->base<=k:=fun k hk=>(Ci.lt k hk).1;have hzA:=hI.size;have PZ:w1.heap[w.heap.size]?=some (.cells #[v] 27 (0,0)):=(S4.block _ (by simp;omega) (fun e=>by have:=Em _ e.symm;omega)).trans (Bf FY _);have DR:A.heap.size<w1.heap.size:=by have:=S4.size;simp at this;omega
 have Kd:Ak (fun k=>v.ownBlock=some k) A w1:=(Ak.later (bA (Zh _ _))).trans (Ak.grown S4 fun k hk=>hk);have D3:∀(T:Nat->Prop),T w.heap.size->Ak T w1 (w1.setCell ⟨w.heap.size,0,none⟩ (U (some ⟨g',0,none⟩) (pre.length+1) Ey)):=fun T h=>(Ak.refl _ _).set h;refine⟨⟨?_,?_,_,vals++ [U ad ln cc],Ba PZ _,?_,fun i y hy=>?_⟩,(Kd.mono fun k hk=>.inr (Em k hk)).trans (D3 _ (.inl rfl))⟩
 .exact(hI.below.trans (Kd.below (fun k hk=>by have:=Em k hk;omega) hI.below.size)).trans ((D3 (fun k=>k=w.heap.size) rfl).below (fun k hk=>by omega) (by omega))
 .have:=(D3 (fun k=>k=w.heap.size) rfl).size
  omega
 .rw[ZA]
  exact CO (D3 (fun k=>k=w.heap.size) rfl) (fun b h1 h2=>by omega) AX
 have key:∀u,SI (J1 3 base A) A u y->SI (J1 3 base (w1.setCell ⟨w.heap.size,0,none⟩ (U (some ⟨g',0,none⟩) (pre.length+1) Ey))) (w1.setCell ⟨w.heap.size,0,none⟩ (U (some ⟨g',0,none⟩) (pre.length+1) Ey)) u y:=fun u h=>by
  refine Dx (T:=fun k=>v.ownBlock=some k\/k=w.heap.size) ((Kd.mono fun k hk=>.inl hk).trans (D3 _ (.inr rfl))) (fun b hb h=>?_) h;rcases h with h|h
  .obtain⟨cs,hcs⟩:=hb.2
   rcases Ci.2 with⟨e,_⟩|⟨g,cap,cur,e,_,hg,_⟩
   .rw[e]at h;cases h
   rw[e]at h;cases h;rw[hg]at hcs;cases hcs
  have:=hb.1.1;omega
 by_cases Az:i<pre.length
 .rw[zl Az]at hy
  obtain⟨u,hu,hs⟩:=DF i y hy;exact⟨u,by rw[zl (Zm.1 hu).1];exact hu,key u hs⟩
 have aX:=(Zm.1 hy).1;rw[ZA,zb,zR]at aX;obtain rfl:i=pre.length:=by omega
 rw[Y1]at hy;cases hy;have uM:vals.length=pre.length:=by have:=Ci.1;omega
 refine⟨U ad ln cc,by rw[<-uM,Y1],key _ (Sl.imp hu (fun b hb=>⟨⟨?_,hb.1.2⟩,hb.2⟩) (fun _ _ x=>x))⟩;have:=hb.1.1;omega
def aiM (h:RC S w v1 v2 v3 v4 v5 c)(hS:∀b,S b->b<w.heap.size)(hv:Fq c):
  CallsIn ZbC 0 Lp 128 #[.agg (AW v1 v2 v3 v4 v5 (Ax c.Aa))] w fun e w'=>∃v,e=.returned v/\Bl w w'/\SL (Cb w.heap.size w') w' v (LU c):=by
 obtain⟨a1,c1,rfl,_⟩:=h.base.val;obtain⟨a2,c2,rfl,_⟩:=h.Af.val;obtain⟨a3,c3,rfl,_⟩:=h.hooks.val;obtain⟨a4,c4,rfl,_⟩:=h.Aa.val;obtain⟨a5,c5,rfl,_⟩:=h.now.val;have hfw:=hv.few;have HNW:=Zd hv.uy;have pT:=S3 hv.over;obtain⟨ab,DU⟩:∃ab,ab=Ax c.Aa:=⟨_,rfl⟩;have mG:=Zd DU;rw[<-DU]at pT⊢;clear DU;have hgs:(AW (U a1 c.base.length c1) (U a2 c.Af.length c2) (U a3 c.hooks.length c3) (U a4 c.Aa.length c4) (U a5 c.now.length c5) ab).size=8:=rfl;obtain⟨W1,NL⟩:∃W1,W1=w.alloc (.cells (AW (U a1 c.base.length c1) (U a2 c.Af.length c2) (U a3 c.hooks.length c3) (U a4 c.Aa.length c4) (U a5 c.now.length c5) ab) 112):=⟨_,rfl⟩;refine callsIn_of_wp_marks Lp.func128 rfl trivial ?_ rfl;show Code.wpIn _ _ _ _ _ {tmps:= #[.agg (AW (U a1 c.base.length c1) (U a2 c.Af.length c2) (U a3 c.hooks.length c3) (U a4 c.Aa.length c4) (U a5 c.now.length c5) ab)]++_,defers:=[]} _;unfold AW;simp only[aq4,Zbm,zb,zR,ZaF,Zcw,ZaN,ZaM,Zbn,Za4,zP,Za1]
 gi_wp2
 refine⟨trivial,rfl,(Zcx (n:=0).2 (ahC (AW (U a1 c.base.length c1) (U a2 c.Af.length c2) (U a3 c.hooks.length c3) (U a4 c.Aa.length c4) (U a5 c.now.length c5) ab) rfl (by simp[AW,YT]) _)).mono ?_⟩;rintro e V ⟨rfl,hV⟩;change V=((w.alloc (.cells (AW (U a1 c.base.length c1) (U a2 c.Af.length c2) (U a3 c.hooks.length c3) (U a4 c.Aa.length c4) (U a5 c.now.length c5) ab) 112)).alloc (.cells #[U none 0 0] 27)).alloc (.cells (AW (U a1 c.base.length c1) (U a2 c.Af.length c2) (U a3 c.hooks.length c3) (U a4 c.Aa.length c4) (U a5 c.now.length c5) ab) 112) at hV;rw[<-NL]at hV;have DR:W1.heap.size=w.heap.size+1:=by rw[NL];simp
 have hzV:V.heap.size=w.heap.size+3:=by rw[hV];simp;omega
 have Bg:Bl w W1:=by rw[NL];exact bA (Zh _ _)
 have acG:Bl W1 V:=by rw[hV];exact bA (bA (Zh _ _))
 have lD:W1.heap[w.heap.size]?=some (.cells (AW (U a1 c.base.length c1) (U a2 c.Af.length c2) (U a3 c.hooks.length c3) (U a4 c.Aa.length c4) (U a5 c.now.length c5) ab) 112 (0,0)):=by rw[NL];exact Bp _ _
 have Ia:V.heap[W1.heap.size]?=some (.cells #[U none 0 0] 27 (0,0)):=by rw[hV];exact Bf (Bp _ _) _
 have iz:V.heap[w.heap.size+1+1]?=some (.cells (AW (U a1 c.base.length c1) (U a2 c.Af.length c2) (U a3 c.hooks.length c3) (U a4 c.Aa.length c4) (U a5 c.now.length c5) ab) 112 (0,0)):=by rw[hV, <-DR,show W1.heap.size+1=(W1.alloc (.cells #[U none 0 0] 27)).heap.size by simp];exact Bp _ _
 have Ui:Bl w V:=Bg.trans (acG.mono Bg.size);have HS:=Zd (show∀W,Bl w W->RC S W (U a1 c.base.length c1) (U a2 c.Af.length c2) (U a3 c.hooks.length c3) (U a4 c.Aa.length c4) (U a5 c.now.length c5) c from fun W hB=>h.later hB);have eZ:=qv iz (HS.out V Ui) (fun b hb=>by have:=hS b hb;omega) (by omega) (fun i hi=>by have:=hv.step i hi;omega);clear hV;simp only[ZB];obtain⟨K,hK⟩:∃K:Nat->Prop,K=fun k=>S k\/k=w.heap.size+1+1:=⟨_,rfl⟩;have ju:∀k,K k->k<w.heap.size\/k=w.heap.size+1+1:=fun k h=>by
  rw[hK]at h;rcases h with h|rfl
  .exact .inl (hS k h)
  exact .inr rfl
 rw[<-hK]at eZ;clear hK;have hN:(EH c).length<=125:=by
  have:=H7 c.Aa (fun i hi=>by have:=hv.step i hi;omega);have h2:5^c.Aa.length<=5^3:=YX (by decide) (by omega);exact Zr this h2
 obtain⟨i0,hi,Fl,k9,EB⟩:=zp Hw;have hu:=Cz zW;have HZ:=Zd (show w.heap.size+1<=W1.heap.size/\W1.heap.size<=w.heap.size+1/\w.heap.size+3<=V.heap.size/\V.heap.size<=w.heap.size+3 by omega);have hE1:=Zd DR;clear NL DR hzV
 gi_wp2
 have kL:=HZ.out;refine Vm (gf:=153) (lb:= #[.pointer (some ⟨w.heap.size+1+1,0,none⟩)]) rfl (Go.Proofs.enters_of Lp.func153 (by kernel_rfl) rfl) eZ (Zj _) (fun k hk=>⟨by have:=ju k hk;omega,rfl⟩) (fun pre A=>AQ W1 (V.heap.size+6) (pre.filter (Ev c)) A) (fun A hA hs=>?_) (fun pre A B h hT=>h.CN (n:=V.heap.size) (by omega) rfl hT)
  (fun u=> {tmps:= #[.agg #[U a1 c.base.length c1,U a2 c.Af.length c2,U a3 c.hooks.length c3,U a4 c.Aa.length c4,U a5 c.now.length c5,I .u8 (ab 0),I .u8 (ab 1),I .u8 (ab 2)],.pointer (some ⟨w.heap.size,0,none⟩),U none 0 0,.pointer (some ⟨w.heap.size+1,0,none⟩),u,Ze,Ze,.agg #[U a1 c.base.length c1,U a2 c.Af.length c2,U a3 c.hooks.length c3,U a4 c.Aa.length c4,U a5 c.now.length c5,I .u8 (ab 0),I .u8 (ab 1),I .u8 (ab 2)],.func (.func 153) #[] #[.pointer (some ⟨w.heap.size+1+1,0,none⟩)],u,Ze,Ze,Ze,Ze,Ze,Ze,Ze,Ze,Ze,Ze,Ze,Ze,Ze],defers:=[]}) ?assign ?body ?done
 .exact⟨acG.trans (hA.mono acG.size),by omega,_,[],(hA.block _ (by omega)).trans Ia,zq _ _ _ _,fun i x hx=>by cases hx⟩
 case assign=>
  rintro l u W' K ⟨ad,n,cc,rfl⟩ hK
  gi_wp2
  exact hK
 case body=>
  intro l pre x u A0 A hI0 hT hz hlen iA;have hI:=hI0.CN (n:=V.heap.size) (by omega) rfl hT;obtain⟨v,vals,FY,Ci,DF⟩:=hI.box;obtain⟨ad,cc,rfl,lu,mu⟩:=iA.val;have hzA:V.heap.size+6<=A.heap.size:=hI.size;have hxm:x∈EH c:=hlen.subset (by simp);have aiN:=hlen.length_le;rw[ZA,zb,zR]at aiN;obtain⟨MF,_⟩:=WV hxm;have hBA:Bl w A:=Bg.trans (hI.below.mono Bg.size);have yp:A.heap[w.heap.size]?=some (.cells #[U a1 c.base.length c1,U a2 c.Af.length c2,U a3 c.hooks.length c3,U a4 c.Aa.length c4,U a5 c.now.length c5,I .u8 (ab 0),I .u8 (ab 1),I .u8 (ab 2)] 112 (0,0)):=(hI.below.block w.heap.size (by omega)).trans lD;have kL:=HZ.out;have HI:=Zd hI;have hxl:x.length<=c.now.length:=by have:=HNW.out;omega
  have M_:=c90 ((HS.out A hBA).imp (T:=fun b=>b<A.heap.size) fun b hb=>by have:=hS b hb;have:=hBA.size;show b<_;omega) (Sl.imp iA (T:=fun b=>b<A.heap.size) (fun b hb=>hb.1.2) fun _ _ x=>x) hxl (by have:=HNW.out;omega) (ab:=ab) pT (by rw[mG.out];exact MT hv (by omega)) fun b hb=>hb;have HCB:=Zd (show Ev c x=(JU c (Cx ab c.now x)).isNone by rw[mG.out];rfl);obtain⟨t,ht⟩:∃t,t=Cx ab c.now x:=⟨_,rfl⟩;rw[<-ht]at M_ HCB;clear ht;obtain⟨o,ho⟩:∃o,o=JU c t:=⟨_,rfl⟩;rw[<-ho]at M_ HCB;clear ho;have vw:=Zd ((Zcx (n:=0)).2 M_);have HX1:=Zd (ZY MF hxl);clear M_ hlen hxm MF hxl;have g0:=ch (i:=0) yp rfl;have g1:=ch (i:=1) yp rfl;have g2:=ch (i:=2) yp rfl;have g3:=ch (i:=3) yp rfl;have g4:=ch (i:=4) yp rfl;have g5:=ch (i:=5) yp rfl;have g6:=ch (i:=6) yp rfl;have g7:=ch (i:=7) yp rfl;cases o with
  |some i=>
   dsimp only[uv]at vw
   gi_wp2
   refine⟨trivial,rfl,vw.out.mono ?_⟩;rintro e w2 ⟨rfl,Bb⟩
   gi_wp2
   have Tq:pre.filter (Ev c)++ [x].filter (Ev c)=pre.filter (Ev c):=by rw[ZbB,HCB.out];simp
   rw[Tq];refine⟨?_,Ak.later Bb⟩;obtain⟨v,vals,b1,b2,b3⟩:=hI.box;exact⟨hI.below.trans (Bb.mono hI.below.size),by have:=Bb.size;omega,v,vals,(Bb.block _ (Za.1 b1).1).trans b1,Tn Bb b2,fun i y hy=>by
    obtain⟨u,h1,h2⟩:=b3 i y hy;exact⟨u,h1,Dx (T:=fun _=>False) (Ak.later Bb) (fun _ _ h=>h) h2⟩⟩
  |none=>
   dsimp only[uv]at vw
   gi_wp2
   refine⟨trivial,rfl,vw.out.mono ?_⟩;rintro e w2 ⟨rfl,Bb⟩;have mJ:AQ W1 (V.heap.size+6) (pre.filter (Ev c)) w2:=by
    obtain⟨v,vals,b1,b2,b3⟩:=hI.box;exact⟨hI.below.trans (Bb.mono hI.below.size),by have:=Bb.size;omega,v,vals,(Bb.block _ (Za.1 b1).1).trans b1,Tn Bb b2,fun i y hy=>by
     obtain⟨u,h1,h2⟩:=b3 i y hy;exact⟨u,h1,Dx (T:=fun _=>False) (Ak.later Bb) (fun _ _ h=>h) h2⟩⟩
   have Hb:SI (J1 3 A0.heap.size w2) w2 (U ad x.length cc) x:=Dx (T:=fun _=>False) (Ak.later Bb) (fun _ _ h=>h) iA;clear FY Ci DF;obtain⟨v,vals,FY,Ci,DF⟩:=mJ.box;have kb:=ch (i:=0) FY (v:=v) rfl;have fb:=cf (i:=0) FY;rw[hE1.out]at kb fb;have G9:=Zac (Ev c) pre;have Tq:pre.filter (Ev c)++ [x].filter (Ev c)=pre.filter (Ev c)++ [x]:=by rw[ZbB,HCB.out];simp
   gi_wp2_with (gi_at_builtin;refine wpListIn_append_own _ rfl _ _ 27 rfl (V.heap.size+6) 22 i0 (U none 0 0) 1 24 hu (Dz hi) Fl k9 EB rfl (by decide) _ _ _ rfl (Ci.alloc _) ⟨w2.heap.size,0,none⟩ 1 1 [U ad x.length cc] rfl rfl (cell_one_new _ _ _) (by simp[YT]) (by unfold maxLen;omega) (by omega) (by have:=Bb.size;simp;omega) ?_;intro v' w3 Bi AG Gc;obtain⟨g',Ey,rfl⟩:=Zay Bi;have S4:(w2.alloc (.cells #[U ad x.length cc] 22)).grownBy w3 v.ownBlock:=AG;have Em:∀k,v.ownBlock=some k->V.heap.size+6<=k:=fun k hk=>(Ci.lt k hk).1;have PZ:w3.heap[W1.heap.size]?=some (.cells #[v] 27 (0,0)):=(S4.block _ (by have:=Bb.size;simp;omega) (fun e=>by have:=Em _ e.symm;omega)).trans (Bf FY _);have kb1:=ch (i:=0) PZ (v:=v) rfl;have fb1:=cf (i:=0) PZ;rw[hE1.out]at kb1 fb1)
   obtain⟨q1,q2⟩:=AQ.snoc mJ (by omega) FY Ci DF Hb (by have:=hzA;omega) S4 Bi;rw[hE1.out]at q1 q2;exact⟨q1,(Ak.later Bb).trans (q2.mono fun k hk=>⟨by unfold Kp;omega,fun h=>by have:=ju k h;omega⟩)⟩
 intro A hI hD;obtain⟨v,vals,FY,Ci,DF⟩:=hI.box;have kb:=ch (i:=0) FY (v:=v) rfl;rw[hE1.out]at kb
 gi_wp2
 have hT:Ak (fun k=>k=V.heap.size) A (A.putObj V.heap.size (.deferred none)):=(Ak.refl _ _).put rfl;have aiO:=Bg.trans (hI.below.mono Bg.size);have hBA:Bl w (A.putObj V.heap.size (.deferred none)):=aiO.trans (hT.below (fun k hk=>by omega) aiO.size);have Ox:=CO hT (fun b h1 h2=>by omega) Ci;have gI:∀(i:Nat) (x:List Int),(LU c)[i]?=some x->∃u,vals[i]?=some u/\SI (Cb w.heap.size (A.putObj V.heap.size (.deferred none))) (A.putObj V.heap.size (.deferred none)) u x:=fun i x hx=>by
  obtain⟨u,h1,h2⟩:=DF i x hx;exact⟨u,h1,Sl.imp (Dx hT (fun b hb h=>by have:=hb.1.1;omega) h2) (fun b hb=>⟨by have:=hb.1.1;omega,hb.1.2⟩) (fun _ _ x=>x)⟩
 refine⟨by simp,.inl ⟨_,_,rfl,run_takeDeferred hD,?_⟩⟩;exact⟨_,results_tmp rfl _ _ _,_,rfl,hBA,WM (ls:=LU c) Ox (by omega) gI⟩
def bV {C:Zb}(h:Bl A B)(k:Bl B C):Bl A C:=h.trans (k.mono h.size)
def SL.imp {T:Nat->Prop}{l:List (List Int)}(h:SL S w v l)(hs:∀b,S b->T b):SL T w v l:=Sl.imp h hs fun _ _ ⟨u,e,hl⟩=>⟨u,e,Sl.imp hl hs fun _ _ x=>x⟩
def c72 (h:RC S w v1 v2 v3 v4 v5 c)(hS:∀b,S b->b<w.heap.size)(Jz:BN c=0):
  Calls Lp 72 #[.agg #[v1,v2,v3,v4,v5]] w fun e w'=>∃a cc,e=.returned (.tuple #[U a (LU c).length cc,.int J 0])/\Bl w w'/\SL (Cb w.heap.size w') w' (U a (LU c).length cc) (LU c):=by
 obtain⟨a1,c1,rfl,_⟩:=h.base.val;obtain⟨a2,c2,rfl,_⟩:=h.Af.val;obtain⟨a3,c3,rfl,_⟩:=h.hooks.val;obtain⟨a4,c4,rfl,_⟩:=h.Aa.val;obtain⟨a5,c5,rfl,_⟩:=h.now.val;have hv:=EG Jz;have Bg:Bl w (w.alloc (.cells #[U a1 c.base.length c1,U a2 c.Af.length c2,U a3 c.hooks.length c3,U a4 c.Aa.length c4,U a5 c.now.length c5] 26)):=bA (Zh _ _);have ez:=Zd (fun W hB=>Wt (w:=W) (h.later hB) (A3 hS hB) Jz);have lE:=Zd (fun W (hB:Bl w W)=>(Zcx (n:=0)).1 (aiM (w:=W) (h.later hB) (A3 hS hB) hv));unfold AW at lE;go_enter Lp.func72,n72;go_wp2_with (first|(go_at_call 88;refine(ez.out _ Bg).mono ?_;rintro e w1 ⟨rfl,Bb⟩;have Bv:=Bg.trans (Bb.mono Bg.size))|(go_at_call 128;refine(lE.out _ (bA Bv)).mono ?_;rintro e w2 ⟨v,rfl,De,hv⟩;obtain⟨x,y,rfl,_⟩:=hv.val));have hz:=Bv.size;go_ret2;exact⟨_,_,rfl,bV (bA Bv) De,hv.imp fun b hb=>⟨by have h1:=hb.1;rw[ZB]at h1;omega,hb.2⟩⟩
def lF (c:A_)(s:List (Int×Int)):List (List Int):=(LU c).filter fun l=>BZ c l s
variable {s:List (Int×Int)}
def c64 (h:RC S w v1 v2 v3 v4 v5 c)(hs:SP S w v6 s)(hS:∀b,S b->b<w.heap.size)(Jz:BN c=0)(ER:Fs c.base.length s=0):
  Calls Lp 64 #[.agg #[v1,v2,v3,v4,v5],v6] w fun e w'=>Bl w w'/\((∃a cc,e=.returned (.tuple #[U a (lF c s).length cc,.int J 0])/\SL (fun x=>S x\/Cb w.heap.size w' x) w' (U a (lF c s).length cc) (lF c s))\/∃x,e=.panicked x/\PX x w'):=by
 obtain⟨a1,c1,rfl,_⟩:=h.base.val;obtain⟨a2,c2,rfl,_⟩:=h.Af.val;obtain⟨a3,c3,rfl,_⟩:=h.hooks.val;obtain⟨a4,c4,rfl,_⟩:=h.Aa.val;obtain⟨a5,c5,rfl,_⟩:=h.now.val;obtain⟨a6,c6,rfl,_⟩:=hs.val;have hv:=EG Jz;have HSG:=Zd (Ha ER);have HS0:=Zd ER;have Bg:Bl w (w.alloc (.cells #[U a1 c.base.length c1,U a2 c.Af.length c2,U a3 c.hooks.length c3,U a4 c.Aa.length c4,U a5 c.now.length c5] 26)):=bA (Zh _ _);have ez:=Zd (fun W hB=>Wt (w:=W) (h.later hB) (A3 hS hB) Jz);have lE:=Zd (fun W (hB:Bl w W)=>(Zcx (n:=0)).1 (aiM (w:=W) (h.later hB) (A3 hS hB) hv));unfold AW at lE;have T8:=Zd (fun W (hB:Bl w W)=>abe (w:=W) (h.later hB) (hs.later hB) (A3 hS hB) (Ax c.Aa 0) (Ax c.Aa 1) (Ax c.Aa 2));rw[ER]at T8;clear ER;go_enter Lp.func64,n64;go_wp2_with (first|(go_at_call 88;refine(ez.out _ Bg).mono ?_;rintro e w1 ⟨rfl,Bb⟩;have Bv:=Bg.trans (Bb.mono Bg.size))|(go_at_call 101;refine(T8.out _ (bA Bv)).mono ?_;rintro e w2 ⟨rfl,De⟩));obtain⟨ab,DU⟩:∃ab,ab=Ax c.Aa:=⟨_,rfl⟩;have mG:=Zd DU;rw[<-DU]at lE⊢;rw[<-DU]at De;clear DU ez T8;obtain⟨V,hV⟩:∃V,V=w1.alloc (.cells #[U a1 c.base.length c1,U a2 c.Af.length c2,U a3 c.hooks.length c3,U a4 c.Aa.length c4,U a5 c.now.length c5,I .u8 (ab 0),I .u8 (ab 1),I .u8 (ab 2)] 112):=⟨_,rfl⟩;rw[<-hV]at De;have hXV:V.heap[w1.heap.size]?=some (.cells #[U a1 c.base.length c1,U a2 c.Af.length c2,U a3 c.hooks.length c3,U a4 c.Aa.length c4,U a5 c.now.length c5,I .u8 (ab 0),I .u8 (ab 1),I .u8 (ab 2)] 112 (0,0)):=by rw[hV];exact Bp _ _
 have Ui:Bl w V:=by rw[hV];exact bA Bv
 have Ia:=(De.block _ (Za.1 hXV).1).trans hXV;have aq7:=bV Ui De;clear hV;have k0:=ch (i:=0) Ia rfl;have k1:=ch (i:=1) Ia rfl;have k2:=ch (i:=2) Ia rfl;have k3:=ch (i:=3) Ia rfl;have k4:=ch (i:=4) Ia rfl;have k5:=ch (i:=5) Ia rfl;have k6:=ch (i:=6) Ia rfl;have k7:=ch (i:=7) Ia rfl;obtain⟨K,Ig⟩:∃K:Nat->Prop,K=fun _=>False:=⟨_,rfl⟩;have LP:¬K w1.heap.size:=by rw[Ig];exact fun x=>x
 clear Ig;have g0:=fun p:Tw K w2=>p.cell k0 LP;have g1:=fun p:Tw K w2=>p.cell k1 LP;have g2:=fun p:Tw K w2=>p.cell k2 LP;have g3:=fun p:Tw K w2=>p.cell k3 LP;have g4:=fun p:Tw K w2=>p.cell k4 LP;have g5:=fun p:Tw K w2=>p.cell k5 LP;have g6:=fun p:Tw K w2=>p.cell k6 LP;have g7:=fun p:Tw K w2=>p.cell k7 LP;clear k0 k1 k2 k3 k4 k5 k6 k7;go_wp2;refine B0 (S:=fun W=>∃p:Tw K w2,W=p.v) [] [(false,2),(false,4),(false,5),(false,6)] [0,1,3] (by kernel_rfl) (fun _ _ d _ _ h=>by cases d<;>exact h) (by kernel_rfl) (A5 (Ak.later (Zh _ _).drew)) ?_;refine A4 _ _ (by kernel_rfl) ?_;simp only[Z6,zd,ZG,ZD,ZC]
 repeat (first|go_big_quiet_step (fail)|quiet_step (fail))
 refine Z4 ?_;clear g0 g1 g2 g3 g4 g5 g6 g7;change Dl _ _ _ _ _ _ _;have Uh:Bl w2 w2.drew:=(Zh _ _).drew;have Un:=bV aq7 Uh;refine Dd (f:=128) rfl rfl (by go_simp) ((lE.out _ Un).mono ?_);rintro e W3 ⟨v3,rfl,Cj,Vr⟩;obtain⟨x3,y3,rfl,_⟩:=Vr.val;have rp:=bV Un Cj;refine⟨_,rfl,.inr (A5 (Ak.later (bV Uh Cj))),?_⟩;have hzd:=Un.size;have Rb:=rp.size;have hN:(LU c).length<=125:=by
  have h1:=Zac (Ev c) (EH c);have h0:=H7 c.Aa (fun i hi=>by have:=hv.step i hi;omega);have h2:5^c.Aa.length<=5^3:=YX (by decide) hv.few.2;exact Zr h1 (Zr h0 h2)
 have oh:∀i,i<(LU c).length->(BM (LU c) i).length<=c.Aa.length/\∀j,j<(BM (LU c) i).length->-2<=nth (BM (LU c) i) j/\nth (BM (LU c) i) j<=2:=fun i hi=>by
  have hm:BM (LU c) i∈EH c:=(List.mem_filter.1 (Z3 (BJ hi))).1;obtain⟨m1,m2⟩:=WV hm;refine⟨by omega,fun j hj=>?_⟩;have h1:=m2 j hj;have h2:=hv.step j (by omega);omega
 have aq8:=Zd (xO (S:=fun b=>S b\/Cb w.heap.size W3 b) ((h.later rp).imp fun b hb=>.inl hb) hv (Vr.imp fun b hb=>.inr ⟨by have:=hb.1;omega,hb.2⟩) (Sl.imp (hs.later rp) (fun b hb=>.inl hb) fun _ _ x=>x) oh (by have:=HSG.out.1;omega) HSG.out.2 (by omega) (fun b hb=>by rcases hb with hb|hb;have:=hS b hb;omega;exact hb.2) (ab 0) (ab 1) (ab 2));refine cE (f:=104) rfl rfl (by go_simp) (aq8.out.mono ?_);rintro e W4 ⟨DM,⟨v4,rfl,NK⟩|⟨x,rfl,Ss⟩⟩
 .obtain⟨x4,y4,rfl,_⟩:=Sl.val NK
  have fC:∃p:Tw K w2,W4=p.v:=A5 (Ak.later (bV (bV Uh Cj) DM));refine .inl ⟨_,rfl,.inr fC,?_⟩;refine Dw (v:=.slice x4 (lF c s).length y4) rfl rfl (by go_simp;rfl) (.inr fC) ?_;refine Dw (v:=.int J 0) rfl rfl (by go_simp) (.inr fC) ?_;unfold Dl
  go_simp
  go_wp2;go_ret2;exact⟨bV rp DM,.inl ⟨_,_,rfl,SL.imp NK fun b hb=>by
   rcases hb with(hb|hb)|hb
   .exact .inl hb
   .exact .inr ⟨hb.1,Zl hb.2 DM.size⟩
   exact .inr ⟨Zr Rb hb.1.1,hb.1.2⟩⟩⟩
 exact .inr ⟨x,rfl,rfl,bV rp DM,.inr ⟨_,rfl,Ss⟩⟩
def LR (base:Nat)(w:Zb)(v:Zf)(P:List (List Int)):Prop:=∃vals,w.ownsRow base 22 1 v P.length vals/\∀(i:Nat) (x:List Int),P[i]?=some x->∃u,vals[i]?=some u/\SI (J1 3 base w) w u x
def LR.nil (base:Nat)(w:Zb):LR base w (U none 0 0) []:=⟨[],zq _ _ _ _,fun i x h=>by cases h⟩
def LR.sl {base:Nat}(h:LR base w v P):SL (Cb base w) w v P:=by
 obtain⟨vals,h1,h2⟩:=h;refine WM h1 (Zj _) fun i x hi=>?_;obtain⟨u,h3,h4⟩:=h2 i x hi;exact⟨u,h3,Sl.imp h4 (fun b hb=>hb.1) fun _ _ x=>x⟩
def LR.val {base:Nat}(h:LR base w v P):∃a c,v=.slice a P.length c/\P.length<=c/\c<=maxLen:=by
 obtain⟨a,c,h1,h2,h3,_⟩:=h.sl;exact⟨a,c,h1,h2,h3⟩
def LR.snoc {A1:Zb}{base m:Nat}{u v':Zf}(Ci:A.ownsRow base 22 1 v P.length vals)(DF:∀(i:Nat) (x:List Int),P[i]?=some x->∃u,vals[i]?=some u/\SI (J1 3 base A) A u x)
 (hu:SI (J1 3 m A) A u x) (hm:base<=m) (hB:Bl A A1) (S4:A1.grownBy w1 v.ownBlock) (AX:w1.ownsRow base 22 1 v' (P.length+1) (vals++ [u])):LR base w1 v' (P++ [x]):=by
 have Kd:Ak (fun k=>v.ownBlock=some k) A w1:=(Ak.later hB).trans (Ak.grown S4 fun k hk=>hk);refine⟨vals++ [u],by rw[ZA];exact AX,fun i y hy=>?_⟩;have key:∀u,SI (J1 3 base A) A u y->SI (J1 3 base w1) w1 u y:=fun u h=>by
  refine Dx Kd (fun b hb h=>?_) h;obtain⟨cs,hcs⟩:=hb.2;rcases Ci.2 with⟨e,_⟩|⟨g,cap,cur,e,_,hg,_⟩
  .rw[e]at h;cases h
  rw[e]at h;cases h;rw[hg]at hcs;cases hcs
 by_cases Az:i<P.length
 .rw[zl Az]at hy
  obtain⟨u,hu,hs⟩:=DF i y hy;exact⟨u,by rw[zl (Zm.1 hu).1];exact hu,key u hs⟩
 have aX:=(Zm.1 hy).1;rw[ZA,zb,zR]at aX;obtain rfl:i=P.length:=by omega
 rw[Y1]at hy;cases hy;have uM:vals.length=P.length:=by have:=Ci.1;omega
 exact⟨u,by rw[<-uM,Y1],key _ (Sl.imp hu (fun b hb=>⟨⟨Zr hm hb.1.1,hb.1.2⟩,hb.2⟩) (fun _ _ x=>x))⟩
def Ju (s:Ay)(p:List Int):List (List Int):=(IU s.low s.high).map fun n=>p++ [n]
def Vt (s:Ay):∀l:List Ay,EZ (l++ [s])=(EZ l).flatMap (Ju s)
 | []=>by simp only[zP,EZ,Ju,List.flatMap_cons,List.flatMap_nil,ZaA,List.map_cons,List.map_nil];exact List.map_eq_flatMap.symm
 |t::r=>by
  show((IU t.low t.high).flatMap fun n=>(EZ (r++ [s])).map (n:: ·))=((IU t.low t.high).flatMap fun n=>(EZ r).map (n:: ·)).flatMap (Ju s);rw[Vt s r,List.flatMap_assoc]
  congr 1
  funext n
  rw[List.map_flatMap,List.flatMap_map]
  congr 1
  funext p
  simp[Ju,ZdQ]
def rq {s:Ay}{p:List Int}{q:Nat}(h:q<(s.high+1 - s.low).toNat):(Ju s p).take (q+1)=(Ju s p).take q++ [p++ [s.low+(q:Int)]]:=by
 unfold Ju IU;rw[List.map_map,ZbH,YL,List.getElem?_range h]
 rfl
def iX (s:Ay)(p:List Int):(Ju s p).length=(s.high+1 - s.low).toNat:=by simp[Ju,IU]
def lG {f:List Int->List (List Int)}{l:List (List Int)}(h:k<l.length):(l.take (k+1)).flatMap f=(l.take k).flatMap f++f (BM l k):=by
 rw[ZbH,BJ h,Zbe];simp
def Own.typ {base:Nat}(h:Own w base v l):SI (J1 3 base w) w v l:=
 Lg (R:=Ri) (by decide) h fun i x hx=>by
  rw[Nat.mul_one];obtain⟨hi,e⟩:=Zm.1 hx;rw[ZO (by simpa using hi)];simp[Ri,e]
def c71 (h:RC S w v1 v2 v3 v4 v5 c)(hS:∀b,S b->b<w.heap.size)(Jm:c.Aa.length<=3)(B_:∀i,i<c.Aa.length->-2<=(Aj c.Aa i).low/\(Aj c.Aa i).high<=2):
  Calls Lp 71 #[.agg #[v1,v2,v3,v4,v5]] w fun e w'=>∃a cc,e=.returned (U a (EH c).length cc)/\Bl w w'/\SL (Cb w.heap.size w') w' (U a (EH c).length cc) (EH c):=by
 obtain⟨a1,c1,rfl,_⟩:=h.base.val;obtain⟨a2,c2,rfl,_⟩:=h.Af.val;obtain⟨a3,c3,rfl,_⟩:=h.hooks.val;obtain⟨a4,c4,rfl,_⟩:=h.Aa.val;obtain⟨a5,c5,rfl,_⟩:=h.now.val;have IX:=DJ;obtain⟨i3,hi3,h30,h31,h32⟩:=zp KY;obtain⟨i22,aq9,aqa,aqb,aqc⟩:=zp Hw;obtain⟨W1,NL⟩:∃W1,W1=w.alloc (.cells #[U a1 c.base.length c1,U a2 c.Af.length c2,U a3 c.hooks.length c3,U a4 c.Aa.length c4,U a5 c.now.length c5] 26):=⟨_,rfl⟩;have lD:W1.heap[w.heap.size]?=some (.cells #[U a1 c.base.length c1,U a2 c.Af.length c2,U a3 c.hooks.length c3,U a4 c.Aa.length c4,U a5 c.now.length c5] 26 (0,0)):=by rw[NL];exact Bp _ _
 have Bg:Bl w W1:=by rw[NL];exact bA (Zh _ _)
 go_enter Lp.func71,n71;go_wp2;rw[<-NL];obtain⟨W2,MX⟩:∃W2,W2=W1.alloc (.cells #[U none 0 0] 22):=⟨_,rfl⟩;have DR:W1.heap.size=w.heap.size+1:=by rw[NL];simp
 have Bb:Bl w W2:=by rw[MX];exact bA Bg
 have Ia:W2.heap[w.heap.size]?=some (.cells #[U a1 c.base.length c1,U a2 c.Af.length c2,U a3 c.hooks.length c3,U a4 c.Aa.length c4,U a5 c.now.length c5] 26 (0,0)):=by rw[MX];exact Bf lD _
 have hO2:SL (Cb w.heap.size W2) W2 (U (some ⟨w.heap.size+1,0,none⟩) (EZ (c.Aa.take 0)).length 1) (EZ (c.Aa.take 0)):=by
  refine⟨_,_,rfl,Zj _,by omega,fun i x hx=>?_⟩;have:i=0/\x=[]:=by
   match i,hx with
   |0,hx=>cases hx;exact⟨rfl,rfl⟩
  obtain⟨rfl,rfl⟩:=this;refine⟨_,0,[U none 0 0],rfl,⟨by omega,by rw[MX];simp;omega⟩,rfl,fun j u hj=>?_,_,rfl,none,0,rfl,Zj _,Zp _,fun i x hx=>by cases hx⟩
  match j,hj with
  |0,hj=>cases hj;rw[MX, <-DR];exact cn _ _ _ rfl
 have hqw:w.heap.size<W2.heap.size:=(Za.1 Ia).1;have HSS:=Zd (show∀W,Bl w W->SS S W (U a4 c.Aa.length c4) c.Aa from fun W hB=>(h.later hB).Aa);have qO:=Zd B_;rw[<-MX];clear NL MX lD Bg DR B_;go_loopg [3,4] c.Aa.length (fun gg ov i wr=>∃(k:Nat) (oa:Option Addr) (oc:Nat),k<=c.Aa.length/\gg=c.Aa.length - k/\i=.int J k/\ov=.slice oa (EZ (c.Aa.take k)).length oc/\Bl w wr/\wr.heap[w.heap.size]?=some (.cells #[U a1 c.base.length c1,U a2 c.Af.length c2,U a3 c.hooks.length c3,U a4 c.Aa.length c4,U a5 c.now.length c5] 26 (0,0))/\SL (Cb w.heap.size wr) wr (U oa (EZ (c.Aa.take k)).length oc) (EZ (c.Aa.take k)))
 case atStart=>exact⟨0,_,_,Zp _,rfl,rfl,rfl,Bb,Ia,hO2⟩
 obtain⟨k,oa,oc,hk,rfl,rfl,rfl,Jp,hXr,hOr⟩:=hrel;have U4:=ch (i:=3) hXr (v:=.slice a4 c.Aa.length c4) rfl;by_cases Az:k<c.Aa.length
 .have HFS:=Zd (show EZ (c.Aa.take (k+1))=(EZ (c.Aa.take k)).flatMap (Ju (Aj c.Aa k)) by rw[ZbH,Db Az];exact Vt _ _)
  have hOn:(EZ (c.Aa.take k)).length<=125:=by
   have h0:=H7 (c.Aa.take k) (fun i hi=>by
    rw[ZcV]at hi;have:=qO.out i (by omega);rwa[show Aj (c.Aa.take k) i=Aj c.Aa i by simp[Aj,Y6,Z2 (show i<k by omega)]])
   have h2:5^(c.Aa.take k).length<=5^3:=YX (by decide) (by rw[ZcV];omega);exact Zr h0 h2
  obtain⟨mK,hhi⟩:=qO.out k Az;have uR:=Zd (show∀x∈EZ (c.Aa.take k),x.length<=k from fun x hx=>by have:=(Lf _ _ hx).1;rw[ZcV]at this;omega);obtain⟨O,hO⟩:∃O,O=EZ (c.Aa.take k):=⟨_,rfl⟩;rw[<-hO]at hOn hOr HFS uR⊢;clear hO;obtain⟨s,hs⟩:∃s,s=Aj c.Aa k:=⟨_,rfl⟩;have HCL:=Zd (show∀W,Bl w W->∃b o,a4=some ⟨b,o,none⟩/\W.cell? ⟨b,o+k*5,none⟩=some (.int J s.low)/\W.cell? ⟨b,o+k*5+1,none⟩=some (.int J s.high) from fun W hB=>by
   obtain⟨b,o,_,_,e,_,x1,x2,_⟩:=(HSS.out W hB).at_ Az;rw[hs];exact⟨b,o,e,x1,x2⟩)
  rw[<-hs]at HFS mK hhi;clear hs;obtain⟨m,hm⟩:∃m,m=(s.high+1 - s.low).toNat:=⟨_,rfl⟩;have HM:=Zd hm;have hm5:m<=5:=by omega
  have uY:(m:Int)<=s.high+1 - s.low\/m=0:=by omega
  obtain⟨lo,vx⟩:∃lo,lo=s.low:=⟨_,rfl⟩;obtain⟨hi,acH⟩:∃hi,hi=s.high:=⟨_,rfl⟩;have HLO:=Zd vx;have hmh:∀q:Nat,q<m↔lo+(q:Int)<=hi:=fun q=>by omega
  rw[<-vx, <-acH]at HCL;rw[<-vx]at mK;rw[<-acH]at hhi;clear vx acH hm uY;obtain⟨b4,o4,ea,_,_⟩:=HCL.out _ Jp;subst ea;have TB:(k:Int)<(c.Aa.length:Int):=by omega
  obtain⟨Y,hY⟩:∃Y,Y=wr:=⟨_,rfl⟩;subst hY;have HOR:=Zd hOr;clear hOr;go_wp2;go_loopg [5,6] O.length (fun gg lv i wx=>∃j:Nat,j<=O.length/\gg=O.length - j/\i=.int J j/\((O.take j).flatMap (Ju s)).length=j*m/\LR Y.heap.size wx lv ((O.take j).flatMap (Ju s))/\Bl Y wx)
  case atStart=>exact⟨0,Zp _,rfl,rfl,by simp,by rw[ZdB];exact LR.nil _ _,Zh _ _⟩
  obtain⟨j,hj,rfl,rfl,UO,hLR,Qp⟩:=hrel;have hXj:=(Qp.block _ (Za.1 hXr).1).trans hXr;have aiQ:=bU Jp Qp;obtain⟨lv,lc,rfl,_⟩:=hLR.val;by_cases lp:j<O.length
  .have HFL:=Zd (lG (f:=Ju s) lp)
   obtain⟨b6,o6,u,ee,Xj,lH,hu⟩:=(HOR.out.later Qp).at_ lp;subst ee;have HP:=Zd (uR.out _ (Z3 (BJ lp)));obtain⟨p,hp⟩:∃p,p=BM O j:=⟨_,rfl⟩;rw[<-hp]at HP;rw[<-hp]at hu HFL;clear hp;obtain⟨pa,pc,rfl,Xa,hpm⟩:=hu.val;have lO:p.length<=3:=by
    have:=HP.out;omega
   obtain⟨_,_,ea,dL,_⟩:=HCL.out _ aiQ;cases ea;have U4:=ch (i:=3) hXj (v:=.slice (some ⟨b4,o4,none⟩) c.Aa.length c4) rfl;have hjO:(j:Int)<(O.length:Int):=by omega
   obtain⟨G,hG⟩:∃G,G=(O.take j).flatMap (Ju s):=⟨_,rfl⟩;rw[<-hG]at hLR HFL UO⊢;have HG:=Zd hG;clear hG;obtain⟨Z,hZ⟩:∃Z,Z=wr:=⟨_,rfl⟩;subst hZ;have HU:=Zd hu;have HCU:=Zd lH;have hjm:j*m<=125*5:=Nat.mul_le_mul (by omega) hm5;clear hu lH;go_wp2;go_loopg [5,7] m (fun gg lv n wy=>∃q:Nat,q<=m/\gg=m - q/\n=.int J (lo+q)/\LR Y.heap.size wy lv (G++(Ju s p).take q)/\YH Y.heap.size Z wy)
   case atStart=>exact⟨0,Zp _,rfl,by simp,by rw[ZdB,ZaA];exact hLR,Zh _ _⟩
   obtain⟨q,hq,rfl,rfl,hLq,hBq⟩:=hrel;have vy:Bl Y wr:=Qp.trans hBq;have hXq:=(vy.block _ (Za.1 hXr).1).trans hXr;have aqe:=bU Jp vy;have U4:=ch (i:=3) hXq (v:=.slice (some ⟨b4,o4,none⟩) c.Aa.length c4) rfl;obtain⟨_,_,ea,_,lS⟩:=HCL.out _ aqe;cases ea;by_cases hlq:q<m
   .have hle:lo+(q:Int)<=hi:=(hmh q).1 hlq
    have HES:=Zd (rq (s:=s) (p:=p) (q:=q) (by rw[<-HM.out];exact hlq));rw[<-HLO.out]at HES;obtain⟨Q,hQ⟩:∃Q,Q=G++(Ju s p).take q:=⟨_,rfl⟩;have HQ:=Zd hQ;have hQl:Q.length<=125*5+5:=by rw[hQ,ZA];have:=ZbW q (Ju s p);omega
    rw[<-hQ]at hLq;clear hQ;obtain⟨vb,vd,rfl,me,gI⟩:=hLq.val;have lI:=(hBq.cell (p:=⟨b6,o6+j,none⟩) Xj.2).trans HCU.out;have Hb:SI (Cb w.heap.size Y) wr (U pa p.length pc) p:=HU.out.Ar fun b hb _=>hBq.block b hb.2;obtain⟨vals,hro,hvs⟩:=hLq;have hzY:=vy.size;have uA:IntKind.i64.wrap (lo+(q:Int)+1)=lo+(q:Int)+1:=by rw[zE];omega
    go_wp2_with (first|(go_at_call 32;refine(WO Hb (by omega)).mono ?_;rintro e w1 ⟨u1,rfl,Bg,hO1⟩;obtain⟨ua,uc,rfl,_⟩:=hO1.si.val;have DR:=Bg.size)|(at_builtin;refine Yc _ rfl _ _ 22 rfl wr.heap.size 3 i3 (.int J 0) 1 8 (Cz YE) (Dz hi3) h30 h31 h32 rfl (by decide) (U ua p.length uc) p.length (p.map (ZL J)) rfl (Ya hO1 _) ⟨w1.heap.size,0,none⟩ 1 1 [.int J (lo+(q:Int))] rfl rfl (Dj _ _ _) (by simp[YT]) (by unfold maxLen;omega) (by omega) (by simp;omega) ?_;intro v2 w2 gI lZ aqg;have ru:Bl wr w2:=Bm (bA Bg) lZ (fun b hb=>(Zcm hO1 b hb).1) (by simp;omega);obtain⟨g2,bJ,rfl⟩:=Zay gI;have vz:=Tn ru hro;have EB:=ru.size)|(at_builtin;refine Yc _ rfl _ _ 27 rfl Y.heap.size 22 i22 (U none 0 0) 1 24 (Cz zW) (Dz aq9) aqa aqb aqc rfl (by decide) (U vb Q.length vd) Q.length vals rfl (Ya vz _) ⟨w2.heap.size,0,none⟩ 1 1 [U (some ⟨g2,0,none⟩) (p.length+1) bJ] rfl rfl (Dj _ _ _) (by simp[YT]) (by unfold maxLen;omega) (by omega) (by simp;omega) ?_;intro v3 w3 Vr l9 aqh));have hOx:Own w2 wr.heap.size (U (some ⟨g2,0,none⟩) (p.length+1) bJ) (p++ [lo+(q:Int)]):=by unfold Own;rw[ZA,Zai];exact gI
    have aiS:LR Y.heap.size w3 v3 (Q++ [p++ [lo+(q:Int)]]):=LR.snoc vz (fun i x hi=>by
     obtain⟨u,h1,h2⟩:=hvs i x hi;exact⟨u,h1,Dx (T:=fun _=>False) (Ak.later ru) (fun _ _ x=>x) h2⟩) hOx.typ hzY (bA (Zh _ _)) l9 Vr
    have Bv:YH Y.heap.size Z w3:=Bm ((hBq.trans (ru.mono hzY)).alloc (by omega) _) l9 (fun b hb=>(Zcm vz b hb).1) (by simp;omega);have Qs:=Zd (ZY aiS Bv);clear aiS Bv hOx Vr l9 aqh gI lZ aqg vz hro hvs ru;go_roundg (m - (q+1))
    case rel=>exact⟨q+1,hlq,rfl,by go_num,by rw[HES.out, <-Zae, <-HQ.out];exact Qs.out.1,Qs.out.2⟩
    omega
   have TC:q=m:=by omega
   subst TC;have hle:¬lo+(q:Int)<=hi:=fun x=>by have:=(hmh q).2 x;omega
   have yq:(Ju s p).take q=Ju s p:=Zb3 (by rw[iX, <-HM.out];exact Zj _);rw[yq, <-HFL.out]at hLq;have HLQ:=Zd hLq;have cA:=Zd (show((O.take (j+1)).flatMap (Ju s)).length=(j+1)*q by rw[HFL.out,ZA,iX, <-HM.out,UO,Nat.add_mul,Nat.one_mul]);clear hLq yq;go_wp2;go_roundg (O.length - (j+1))
   case rel=>exact⟨j+1,lp,rfl,by go_num,cA.out,HLQ.out,vy⟩
   omega
  have hjO:j=O.length:=by omega
  have yq:O.take j=O:=Zb3 (by omega);rw[yq, <-HFS.out]at hLR⊢;have HL:=Zd (hLR.sl.imp (T:=Cb w.heap.size wr) fun b hb=>⟨Zr Jp.size hb.1,hb.2⟩);clear hLR yq UO;go_wp2;go_roundg (c.Aa.length - (k+1))
  case rel=>exact⟨k+1,_,_,Az,rfl,by go_num,rfl,aiQ,hXj,HL.out⟩
  omega
 have hkc:k=c.Aa.length:=by omega
 have yq:EZ (c.Aa.take k)=EH c:=by rw[hkc,ZcU];rfl
 rw[yq]at hOr⊢;have HO:=Zd hOr;clear hOr yq;go_wp2;go_ret;exact⟨_,_,rfl,Jp,HO.out⟩
def c73 {v e1 e2 hook b1 b2:Int}(hv: -1000<=v/\v<=1000)(hh:0<=hook/\hook<=1000)(hb:0<=b1/\b1<=99/\0<=b2/\b2<=99):
  Calls Lp 73 #[.int J v,.agg #[.int J e1,.int J e2],.int J hook,.agg #[.int J b1,.int J b2]] w fun e w'=>e=.returned (.bool (F0 hook v (e1,e2) (b1,b2)))/\Bl w w':=by
 obtain⟨W,hW⟩:∃W,W=(w.alloc (.cells #[.int J e1,.int J e2] 80)).alloc (.cells #[.int J b1,.int J b2] 80):=⟨_,rfl⟩;have hB:Bl w W:=by rw[hW];exact bA (bA (Zh _ _))
 have x1:W.heap[w.heap.size]?=some (.cells #[.int J e1,.int J e2] 80 (0,0)):=by rw[hW];exact Bf (Bp _ _) _
 have x2:W.heap[w.heap.size+1]?=some (.cells #[.int J b1,.int J b2] 80 (0,0)):=by rw[hW];exact Jq _ _ _
 have k0:=ch (i:=0) x1 rfl;have k1:=ch (i:=1) x1 rfl;have k2:=ch (i:=0) x2 rfl;have k3:=ch (i:=1) x2 rfl;go_enter Lp.func73,n73;go_wp2;rw[<-hW];clear hW x1 x2;go_loopg [9] ((b2+1 - b1).toNat) (fun g i wx=>∃x:Int,0<=x/\x<=100/\g=(b2+1 - x).toNat/\i=.int J x/\NV hook v (e1,e2) (b2+1 - x).toNat x=F0 hook v (e1,e2) (b1,b2)/\wx=W)
 case atStart=>exact⟨b1,hb.1,by omega,rfl,rfl,rfl,rfl⟩
 obtain⟨x,Oo,MF,rfl,rfl,CP,rfl⟩:=hrel;by_cases hle:x<=b2
 .have HF:=Zd (show(Gu hook v x (e1,e2)&&NV hook v (e1,e2) (b2+1 - (x+1)).toNat (x+1))=F0 hook v (e1,e2) (b1,b2) by rw[<-SX hle];exact CP)
  clear CP;have go:Gu hook v x (e1,e2)=true->Hid (NV hook v (e1,e2) (b2+1 - (x+1)).toNat (x+1)=F0 hook v (e1,e2) (b1,b2)):=fun h=>Zd (by have:=HF.out;rwa[h,Bool.true_and]at this);have stop:Gu hook v x (e1,e2)=false->Hid (F0 hook v (e1,e2) (b1,b2)=false):=fun h=>Zd (by have:=HF.out;rw[h,Bool.false_and]at this;exact this.symm);obtain⟨u,hu⟩:∃u,u=v - x:=⟨_,rfl⟩;obtain⟨d,hd⟩:∃d,d=u - hook:=⟨_,rfl⟩;have lX:IntKind.i64.wrap (v - x)=u:=by rw[zE,hu];omega
  have nj:IntKind.i64.wrap (u - hook)=d:=by rw[zE,hd,hu];omega
  have Gv:Gu hook v x (e1,e2)=((decide (0<hook)&&(decide (e1<=d)&&decide (d<=e2)))||(decide (e1<=u)&&decide (u<=e2))):=by unfold Gu Iu;rw[hd,hu,show v - hook - x=v - x - hook by omega]
  rw[Gv]at go stop;clear Gv HF;have HU:=Zd (ZY hu hd);clear hu hd;by_cases h1:u<e1
  .by_cases h0:hook=0
   .subst h0
    have HS:=stop (by simp;omega);clear go stop;go_wp2;go_ret;exact⟨by rw[HS.out];rfl,hB⟩
   by_cases h3:d<e1
   .have HS:=stop (by simp;omega)
    clear go stop;go_wp2;go_ret;exact⟨by rw[HS.out];rfl,hB⟩
   by_cases h4:e2<d
   .have HS:=stop (by simp;omega)
    clear go stop;go_wp2;go_ret;exact⟨by rw[HS.out];rfl,hB⟩
   have HS:=go (by simp;omega);clear go stop;go_wp2;go_roundg ((b2+1 - (x+1)).toNat)
   case rel=>exact⟨x+1,by omega,by omega,rfl,by go_num,HS.out,rfl⟩
   omega
  by_cases h2:e2<u
  .by_cases h0:hook=0
   .subst h0
    have HS:=stop (by simp;omega);clear go stop;go_wp2;go_ret;exact⟨by rw[HS.out];rfl,hB⟩
   by_cases h3:d<e1
   .have HS:=stop (by simp;omega)
    clear go stop;go_wp2;go_ret;exact⟨by rw[HS.out];rfl,hB⟩
   by_cases h4:e2<d
   .have HS:=stop (by simp;omega)
    clear go stop;go_wp2;go_ret;exact⟨by rw[HS.out];rfl,hB⟩
   have HS:=go (by simp;omega);clear go stop;go_wp2;go_roundg ((b2+1 - (x+1)).toNat)
   case rel=>exact⟨x+1,by omega,by omega,rfl,by go_num,HS.out,rfl⟩
   omega
  have HS:=go (by simp;omega);clear go stop;go_wp2;go_roundg ((b2+1 - (x+1)).toNat)
  case rel=>exact⟨x+1,by omega,by omega,rfl,by go_num,HS.out,rfl⟩
  omega
 have hf:F0 hook v (e1,e2) (b1,b2)=true:=by rw[<-CP];exact U' (by omega)
 have HF:=Zd hf;clear hf CP;go_wp2;go_ret;exact⟨by rw[HF.out];rfl,hB⟩
def Ol (hM:H6 c)(hl:Tc c l)(hi:i<c.base.length): -108<=nth (Cc c l) i/\nth (Cc c l) i<=108:=by
 have e:nth (Cc c l) i=measure c l i:=by
  have:=MU (l:=l) hi;rw[Bn (by simp[Cc];exact hi)]at this;exact ZW this
 rw[e];exact Md hM.valid (by have:=hl.1;omega) (fun k hk=>by have:=hl.2 k hk;have:=(hM.seam k (by have:=hl.1;omega)).step;omega) i
def vA (hn:s.length=n)(h:∀p∈s,0<=p.1/\p.1<=p.2/\p.2<=99):Fs n s=0:=by
 unfold Fs;rw[if_neg (by omega),if_neg (by omega)];exact F5 fun p hp=>Tb (h p hp)
def yr (w:Zb)(b:Nat)(lv:Zf)(d n:Nat)(e:Ending)(w':Zb):Prop:=∃(a:Option Addr) (cc:Nat) (s:List (Int×Int)) (d':Nat),e=.returned (U a s.length cc)/\LW b lv w d' w'/\d'<=d+100/\SP (Cb w.heap.size w') w' (U a s.length cc) s/\Fs n s=0
def c38 {d:Nat}(h:RC S w v1 v2 v3 v4 v5 c)(hS:∀x,S x->x<w.heap.size/\x≠b)(hn:SI Sn w lv nums)(E8:∀x,Sn x->x<w.heap.size/\x≠b)(hL:BK w b lv d)(hd:d+1000<4611686018427387904)(hM:H6 c):
  Calls Lp 38 #[.pointer (some ⟨b,0,none⟩),.agg #[v1,v2,v3,v4,v5]] w (yr w b lv d c.base.length):=by
 obtain⟨a1,c1,rfl,_⟩:=h.base.val;obtain⟨a2,c2,rfl,_⟩:=h.Af.val;obtain⟨a3,c3,rfl,_⟩:=h.hooks.val;obtain⟨a4,c4,rfl,_⟩:=h.Aa.val;obtain⟨a5,c5,rfl,_⟩:=h.now.val;have IX:=DJ;have hfw:=hM.few;have n8:=hM.Fp;obtain⟨W1,NL⟩:∃W1,W1=w.alloc (.cells #[U a1 c.base.length c1,U a2 c.Af.length c2,U a3 c.hooks.length c3,U a4 c.Aa.length c4,U a5 c.now.length c5] 26):=⟨_,rfl⟩;have lD:W1.heap[w.heap.size]?=some (.cells #[U a1 c.base.length c1,U a2 c.Af.length c2,U a3 c.hooks.length c3,U a4 c.Aa.length c4,U a5 c.now.length c5] 26 (0,0)):=by rw[NL];exact Bp _ _
 have Bg:Bl w W1:=by rw[NL];exact bA (Zh _ _)
 have GK:=hL.lt;have DR:=Bg.size;obtain⟨q,hq⟩:∃q,q=w.heap.size:=⟨_,rfl⟩;have M9:q<=w.heap.size/\w.heap.size<=q:=by omega
 rw[<-hq]at lD;have T6:=(Za.1 lD).1;obtain⟨K,Ig⟩:∃K:Nat->Prop,K=fun x=>x=b:=⟨_,rfl⟩;have fh:K b:=by rw[Ig]
 have Tg:¬K q:=by rw[Ig];intro x;omega
 have LP:∀x,x≠b->¬K x:=fun x hx=>by rw[Ig];exact hx
 clear Ig;have k0:=ch (i:=0) lD rfl;have k1:=ch (i:=1) lD rfl;have k2:=ch (i:=2) lD rfl;have k3:=ch (i:=3) lD rfl;have k4:=ch (i:=4) lD rfl;have g0:=fun p:Tw K W1=>p.cell k0 Tg;have g1:=fun p:Tw K W1=>p.cell k1 Tg;have g2:=fun p:Tw K W1=>p.cell k2 Tg;have g3:=fun p:Tw K W1=>p.cell k3 Tg;have g4:=fun p:Tw K W1=>p.cell k4 Tg;clear k0 k1 k2 k3 k4;go_enter Lp.func38,n38;go_wp2;rw[<-NL, <-hq];clear NL hq;refine B0 (S:=fun W=>∃p:Tw K W1,W=p.v) [] [(false,3),(false,4),(false,5)] [0,1,2] (by kernel_rfl) (fun _ _ d _ _ h=>by cases d<;>exact h) (by kernel_rfl) (A5 (Ak.later (Zh _ _).drew)) ?_;refine A4 _ _ (by kernel_rfl) ?_;simp only[Z6,zd,ZG,ZD,ZC]
 repeat (first|go_big_quiet_step (fail)|quiet_step (fail))
 refine Z4 ?_;clear g0 g1 g2 g3 g4;change Dl _ _ _ _ _ _ _;have Uh:Bl W1 W1.drew:=(Zh _ _).drew;have Un:=bU Bg Uh;have hzd:=Uh.size;refine Dd (f:=30) rfl rfl (by go_simp) ((c30 ((h.later Un)) (fun x hx=>⟨by have:=hS x hx;omega,(hS x hx).2⟩) (hn.later Un) (fun x hx=>⟨by have:=E8 x hx;omega,(E8 x hx).2⟩) (hL.later Un) (by omega) (by omega) (fun i hi=>by have:=(hM.seam i hi).step;omega)).mono ?_);rintro e W3 ⟨v3,l,d3,rfl,H4,hL3,hd3,Qm,Xc,ig⟩;obtain⟨p3,t3,rfl,_⟩:=Qm.val;have Ba:Tc c l:=⟨Xc,fun i hi=>⟨(ig i (by omega)).1,(ig i (by omega)).2 (hM.seam i (by omega)).step.2.1⟩⟩;have acI:Ak K W1 W3:=(Ak.later Uh).trans (H4.CN fh);refine⟨_,rfl,.inr (A5 acI),?_⟩;have Rb:=H4.size;have O9:=((h.later Un).Ar (H4.same fun x hx=>(hS x hx).2)).imp (T:=fun x=>x<W3.heap.size) fun x hx=>by have:=hS x hx;show x<_;omega
 have aiT:=Zd Ba;refine Dd (f:=47) rfl rfl (by go_simp) ((c47 O9 hM.valid (Sl.imp Qm (T:=fun x=>x<W3.heap.size) (fun x hx=>hx.2) fun _ _ x=>x) (by omega) (fun i hi=>by have:=aiT.out.2 i hi;have:=(hM.seam i (by have:=aiT.out.1;omega)).step;omega) fun x hx=>hx).mono ?_);rintro e W4 ⟨u,rfl,De,hu⟩;have NN:(Cc c l).length=c.base.length:=by simp[Cc]
 have HGB:=Zd (fun i (hi:i<c.base.length)=>Ol hM Ba hi);obtain⟨G,hG⟩:∃G,G=Cc c l:=⟨_,rfl⟩;rw[<-hG]at hu NN HGB;clear hG;obtain⟨ga,gc,rfl,_⟩:=hu.val;rw[NN]at hu⊢;have HGL:=Zd NN;have hz4:=De.size;have fC:Ak K W1 W4:=acI.uJ De;refine⟨_,rfl,.inr (A5 fC),?_⟩;refine Dw (v:=.slice ga c.base.length gc) rfl rfl (by go_simp) (.inr (A5 fC)) ?_;have Ks:=(fC.block q T6 Tg).trans lD;have acJ:B3 b w W4:=((B3.refl b w).below Un).trans ((H4.below De));have hL4:=hL3.later De;have aqi:=GK;have HE:=Zd (show∀W,B3 b W4 W->SP S W (U a2 c.Af.length c2) c.Af from fun W hU=>Sl.Ar h.Af ((acJ.trans hU).same fun x hx=>(hS x hx).2) fun _ _ x=>x);have HGS:=Zd (show∀W,B3 b W4 W->SI (Cb W3.heap.size W4) W (U ga c.base.length gc) G from fun W hU=>hu.Ar (hU.same fun x hx e=>by have:=hx.1;omega));have tX:=hn.Ar (acJ.same fun x hx=>(E8 x hx).2);have rW:=Zd (fun W d lo hi hL hd h1 h2=>abV (w:=W4) (W:=W) (d:=d) (lo:=lo) (hi:=hi) tX (fun x hx=>⟨by have:=E8 x hx;omega,(E8 x hx).2⟩) hL hd h1 h2);have iG:=Zd (fun W d n hL hd h2=>abW (w:=W4) (W:=W) (d:=d) (n:=n) tX (fun x hx=>⟨by have:=E8 x hx;omega,(E8 x hx).2⟩) hL hd h2);have H99:=Zd (fun W d n hL hd h2=>abX (w:=W4) (W:=W) (d:=d) (n:=n) tX (fun x hx=>⟨by have:=E8 x hx;omega,(E8 x hx).2⟩) hL hd h2);have H98:=Zd (fun W d s hL hd h1 h2=>abY (w:=W4) (W:=W) (d:=d) (s:=s) tX (fun x hx=>⟨by have:=E8 x hx;omega,(E8 x hx).2⟩) hL hd h1 h2);unfold Dl;clear O9 acI H4 Uh Un hL3 hu NN ig Xc Ba Qm fC tX aqi
 go_simp
 go_wp2;obtain⟨i8i,i8h,i80,i81,i82⟩:=zp Wu;go_loopg [6,7] c.base.length (fun gg ov i wr=>∃(k dk:Nat) (oa:Option Addr) (oc:Nat) (s:List (Int×Int)),k<=c.base.length/\gg=c.base.length - k/\i=.int J k/\s.length=k/\ov=.slice oa k oc/\dk<=d3+5*k/\B3 b W4 wr/\BK wr b lv dk/\Ih wr W4.heap.size (U oa k oc) s 80/\∀p∈s,0<=p.1/\p.1<=p.2/\p.2<=99)
 case atStart=>exact⟨0,d3,none,0,[],Zp _,rfl,rfl,rfl,rfl,Zj _,B3.refl _ _,hL4,zq _ _ _ _,fun p hp=>by cases hp⟩
 obtain⟨k,dk,oa,oc,s,hk,rfl,rfl,hsk,rfl,jF,hU,oJ,AX,rU⟩:=hrel;have hXk:=hU.at_ Ks (by omega);have yu:=Zd hsk;clear hsk;have hzk:=hU.size;by_cases Az:k<c.base.length
 .have T5:k<c.Af.length:=by have:=hM.PN;omega
  have hkg:k<G.length:=by have:=HGL.out;omega
  obtain⟨b1,o1,ee,FD,tN⟩:=((HGS.out _ hU):SI _ _ _ _)|>fun h=>(by rw[<-HGL.out]at h;exact h.at_ hkg);subst ee;obtain⟨b2,o2,ee,EC,lW,jZ⟩:=(HE.out _ hU).at_ T5;subst ee;have hGk:=HGB.out k Az;have hEk:=hM.Af _ (Z3 (EE T5));obtain⟨gv,hgv⟩:∃gv,gv=nth G k:=⟨_,rfl⟩;obtain⟨el,hel⟩:∃el,el=(BV c.Af k).1:=⟨_,rfl⟩;obtain⟨em,hem⟩:∃em,em=(BV c.Af k).2:=⟨_,rfl⟩;rw[<-hgv]at tN hGk;rw[<-hel]at lW hEk;rw[<-hem]at jZ hEk;clear hgv hel hem;have hk1:(k:Int)<(c.base.length:Int):=by omega
  have hk2:(k:Int)<(c.Af.length:Int):=by omega
  have kq:(0:Int)<=(k:Int):=by omega
  have aqm:¬K b1:=LP b1 (by have:=FD.1;omega);have vB:¬K b2:=LP b2 (hS b2 EC).2;have r0:=fun p:Tw K wr=>p.cell (ch (i:=1) hXk (v:=.slice (some ⟨b2,o2,none⟩) c.Af.length c2) rfl) Tg;have r1:=fun p:Tw K wr=>p.cell tN aqm;have r2:=fun p:Tw K wr=>p.cell lW vB;have r3:=fun p:Tw K wr=>p.cell jZ vB;go_wp2;refine G7 (S:=fun W=>∃p:Tw K wr,W=p.v) 18 [] [(true,10),(false,13),(false,14),(false,15),(false,16),(false,17)] [0,1,2,3,4,5,6,7,8,9,11,12] (by kernel_rfl) (fun _ _ d _ _ h=>by cases d<;>exact h) (by kernel_rfl) (A5 (Ak.later (Zh _ _).drew)) ?_;refine A4 _ _ (by kernel_rfl) ?_;simp only[Z6,zd,ZG,ZD,ZC]
  repeat (first|go_big_quiet_step (fail)|quiet_step (fail))
  refine Z4 ?_;change H2 _ _ _ _ _ _ _ _;obtain⟨V0,tY⟩:∃V0,V0=wr.drew:=⟨_,rfl⟩;have mO:Bl wr V0:=by rw[tY];exact(Zh _ _).drew
  rw[<-tY];clear tY;have aW:Ak K wr V0:=Ak.later mO;have aiW:LW b lv W4 dk V0:=⟨hU.below mO,oJ.later mO⟩;obtain⟨lo,mK⟩:∃lo,lo=gv - em:=⟨_,rfl⟩;have aqn: -200<=lo/\lo<=200:=by omega
  have hw0:IntKind.i64.wrap (gv - em)=lo:=by rw[zE,mK];omega
  clear mK;refine Wz (v:=.int J lo) (A5 aW) rfl rfl (fun w _=>by go_simp) ?_;clear hw0;refine Iy (f:=61) rfl rfl (by go_simp) ((rW.out V0 dk (-3) 3 aiW (by omega) (by omega) (by omega)).mono ?_);rintro e V1 ⟨x1,d1,rfl,MF,Na,fq,hd1⟩;have Kd:=aW.trans (Na.CN fh);refine⟨_,rfl,.inr (A5 Kd),?_⟩;have WQ:=Kd.uJ (bA (o:=.cells #[.int J 0,.int J 0,.int J 0,.int J (-3+(x1:Int))] 3) (Zh _ _));refine EY (v:=.slice (some ⟨V1.heap.size,0,none⟩) 4 4) (w':=V1.alloc (.cells #[.int J 0,.int J 0,.int J 0,.int J (-3+(x1:Int))] 3)) rfl rfl (by go_simp) (.inr (A5 WQ)) ?_;refine Iy (f:=98) rfl rfl (by go_simp) ((H98.out V1 _ [0,0,0,-3+(x1:Int)] fq (by omega) (by simp) (by simp)).mono ?_);rintro e V2 ⟨x2,d2,rfl,mH,Ot,M7,hd2⟩;have D3:=WQ.trans (Ot.CN fh);refine⟨_,rfl,.inr (A5 D3),?_⟩;obtain⟨y,hy,hy2⟩:∃y,y=nth [0,0,0,-3+(x1:Int)] x2/\(-3<=y/\y<=3):=⟨_,rfl,by
   have:x2=0\/x2=1\/x2=2\/x2=3:=by simp at mH;omega
   rcases this with rfl|rfl|rfl|rfl<;>simp[nth]<;>omega⟩
  rw[<-hy];clear hy;obtain⟨l1,T2⟩:∃l1,l1=lo+y:=⟨_,rfl⟩;have ayI: -210<=l1/\l1<=210:=by omega
  have lX:IntKind.i64.wrap (lo+y)=l1:=by rw[zE,T2];omega
  clear T2;refine EY (v:=.int J l1) (w':=V2) rfl rfl (by go_simp) (.inr (A5 D3)) ?_;refine EY (v:=.int J l1) (w':=V2) rfl rfl (by go_simp) (.inr (A5 D3)) ?_;clear lX aqn hy2;unfold H2
  go_simp
  have Vn:Bl V1 (V1.alloc (.cells #[.int J 0,.int J 0,.int J 0,.int J (-3+(x1:Int))] 3)):=bA (Zh _ _);have vC:B3 b wr V2:=((((B3.refl b wr).below mO).trans Na).below Vn).trans Ot;have Cm:=D2 (Fu (D2 (Fu AX mO) Na (by omega:b<W4.heap.size)) Vn) Ot (by omega:b<W4.heap.size);have S5:=hU.trans vC;have ayJ:=vC.size;have z0:=fun p:Tw K V2=>p.cell (ch (i:=1) (vC.at_ hXk (by omega)) (v:=.slice (some ⟨b2,o2,none⟩) c.Af.length c2) rfl) Tg;have Ts:=vC.same (T:=fun x=>x≠b) (fun _ h=>h);have z2:=fun p:Tw K V2=>p.cell (Ts.cell (by exact(hS b2 EC).2) lW) vB;have z3:=fun p:Tw K V2=>p.cell (Ts.cell (by exact(hS b2 EC).2) jZ) vB;clear r0 r1 r2 r3 aW Kd WQ D3 Na Ot aiW fq AX mO Vn tN lW jZ oJ;go_wp2;refine G7 (S:=fun W=>∃p:Tw K V2,W=p.v) 18 [] [(true,14),(false,15),(false,16),(false,17)] [0,1,2,3,4,5,6,7,8,9,10,11,12,13] (by kernel_rfl) (fun _ _ d _ _ h=>by cases d<;>exact h) (by kernel_rfl) (A5 (Ak.later (Zh _ _).drew)) ?_;refine A4 _ _ (by kernel_rfl) ?_;simp only[Z6,zd,ZG,ZD,ZC]
  repeat (first|go_big_quiet_step (fail)|quiet_step (fail))
  refine Z4 ?_;change H2 _ _ _ _ _ _ _ _;clear z0 z2 z3;have ry:Bl V2 V2.drew:=(Zh _ _).drew;have D3:Ak K V2 V2.drew:=Ak.later ry;have aiX:=M7.below ry;obtain⟨ed,hed⟩:∃ed,ed=em - el:=⟨_,rfl⟩;have ayK:0<=ed/\ed<=10:=by omega
  have hw0:IntKind.i64.wrap (em - el)=ed:=by rw[zE,hed];omega
  clear hed;refine Wz (v:=.int J ed) (A5 D3) rfl rfl (fun w _=>by go_simp) ?_;clear hw0;refine Iy (f:=29) rfl rfl (by go_simp) ((iG.out _ d2 ed aiX (by omega) (by omega)).mono ?_);rintro e V3 ⟨x3,d4,rfl,U4,H4,k_,hd4⟩;have Ou:=D3.trans (H4.CN fh);refine⟨_,rfl,.inr (A5 Ou),?_⟩;obtain⟨h1,hh1⟩:∃h1,h1=l1+(x3:Int):=⟨_,rfl⟩;have ayL:l1<=h1/\h1<=300:=by omega
  have lX:IntKind.i64.wrap (l1+(x3:Int))=h1:=by rw[zE,hh1];omega
  clear hh1;refine EY (v:=.int J h1) (w':=V3) rfl rfl (by go_simp) (.inr (A5 Ou)) ?_;refine EY (v:=.int J h1) (w':=V3) rfl rfl (by go_simp) (.inr (A5 Ou)) ?_;clear lX;unfold H2
  go_simp
  have aiY:=((B3.refl b V2).below ry).trans H4;have aiZ:=D2 (Fu Cm ry) H4 (by omega:b<W4.heap.size);have cN:=S5.trans aiY;have ayM:=aiY.size;clear D3 Ou H4 Cm ry aiX M7;go_wp2;refine(H99.out _ d4 8 k_ (by omega) (by omega)).mono ?_;rintro e V4 ⟨rb,d5,rfl,Xp,ld,hd5⟩;have rz:=D2 aiZ Xp (by omega:b<W4.heap.size);have hU7:=cN.trans Xp;have ayN:=Xp.size;have M8:k<=3:=by omega
  have rA:V4.ownsRow W4.heap.size 80 2 (U oa k oc) k (s.flatMap fun p=> [ZL J p.1,.int J p.2]):=by have:=rz;unfold Ih at this;rwa[yu.out]at this
  have hw9:IntKind.i64.wrap (h1+1)=h1+1:=by rw[zE];omega
  cases rb with
  |false=>
   go_wp2_with (at_builtin;refine Yc _ rfl _ _ 23 rfl W4.heap.size 80 i8i (.agg #[.int J 0,.int J 0]) 2 16 (Cz Zdg) (Dz i8h) i80 i81 i82 rfl (by decide) (U oa k oc) k (s.flatMap fun p=> [ZL J p.1,.int J p.2]) rfl (Ya rA _) ⟨V4.heap.size,0,none⟩ 1 1 [.int J (max 0 (min l1 99)),.int J (max 0 (min h1 99))] rfl rfl (Hc _ _ _) (by intro u hu;simp at hu;rcases hu with rfl|rfl<;>rfl) (by unfold maxLen;omega) (by omega) (by simp;omega) ?_;intro v9 w9 hv9 r_ acM);have Em:=J3 rz;have pY:B3 b W4 w9:=(hU7.below (bA (Zh _ _))).grown r_ fun x hx=>(Em x hx).1;have hL9:BK w9 b lv d5:=(ld.alloc _).E4.of (r_.block b (ld.alloc _).E4.lt (fun e=>by have:=(Em b e.symm).1;omega));have hO9:Ih w9 W4.heap.size v9 (s++ [(max 0 (min l1 99),max 0 (min h1 99))]) 80:=by unfold Ih;rw[ZA,yu.out,Zbe];exact hv9
   have hpq:0<=max 0 (min l1 99)/\max 0 (min l1 99)<=max 0 (min h1 99)/\max 0 (min h1 99)<=99:=by omega
   obtain⟨g9,aqo,rfl⟩:=Zay hv9;have Qs:=Zd (ZY pY (ZY hL9 (ZY hO9 hpq)));clear pY hL9 hO9 hpq hv9 r_ acM Em;go_roundg (c.base.length - (k+1))
   case rel=>exact⟨k+1,d5,_,_,s++ [(max 0 (min l1 99),max 0 (min h1 99))],Az,rfl,by go_num,by rw[ZA,yu.out];rfl,rfl,by omega,Qs.out.1,Qs.out.2.1,Qs.out.2.2.1,fun p hp=>by rcases Zab.1 hp with h|h;exact rU p h;rw[Yh.1 h];exact Qs.out.2.2.2⟩
   case measure=>omega
  |true=>
   go_wp2_with (at_builtin;refine Yc _ rfl _ _ 23 rfl W4.heap.size 80 i8i (.agg #[.int J 0,.int J 0]) 2 16 (Cz Zdg) (Dz i8h) i80 i81 i82 rfl (by decide) (U oa k oc) k (s.flatMap fun p=> [ZL J p.1,.int J p.2]) rfl (Ya rA _) ⟨V4.heap.size,0,none⟩ 1 1 [.int J (max 0 (min l1 99)),.int J (max 0 (min (h1+1) 99))] rfl rfl (Hc _ _ _) (by intro u hu;simp at hu;rcases hu with rfl|rfl<;>rfl) (by unfold maxLen;omega) (by omega) (by simp;omega) ?_;intro v9 w9 hv9 r_ acM);have Em:=J3 rz;have pY:B3 b W4 w9:=(hU7.below (bA (Zh _ _))).grown r_ fun x hx=>(Em x hx).1;have hL9:BK w9 b lv d5:=(ld.alloc _).E4.of (r_.block b (ld.alloc _).E4.lt (fun e=>by have:=(Em b e.symm).1;omega));have hO9:Ih w9 W4.heap.size v9 (s++ [(max 0 (min l1 99),max 0 (min (h1+1) 99))]) 80:=by unfold Ih;rw[ZA,yu.out,Zbe];exact hv9
   have hpq:0<=max 0 (min l1 99)/\max 0 (min l1 99)<=max 0 (min (h1+1) 99)/\max 0 (min (h1+1) 99)<=99:=by omega
   obtain⟨g9,aqo,rfl⟩:=Zay hv9;have Qs:=Zd (ZY pY (ZY hL9 (ZY hO9 hpq)));clear pY hL9 hO9 hpq hv9 r_ acM Em;go_roundg (c.base.length - (k+1))
   case rel=>exact⟨k+1,d5,_,_,s++ [(max 0 (min l1 99),max 0 (min (h1+1) 99))],Az,rfl,by go_num,by rw[ZA,yu.out];rfl,rfl,by omega,Qs.out.1,Qs.out.2.1,Qs.out.2.2.1,fun p hp=>by rcases Zab.1 hp with h|h;exact rU p h;rw[Yh.1 h];exact Qs.out.2.2.2⟩
   omega
 have hkn:k=c.base.length:=by omega
 subst hkn;have Jv:SP (Cb w.heap.size wr) wr (U oa c.base.length oc) s:=Sl.imp (AX.tt (.inr (.inr rfl))) (fun x hx=>⟨by have:=hx.1;omega,hx.lt⟩) fun _ _ x=>x;have HF:=Zd (show yr w b lv d c.base.length (.returned (U oa c.base.length oc)) wr from⟨oa,oc,s,dk,by rw[yu.out],⟨acJ.trans hU,oJ⟩,by omega,by rw[yu.out];exact Jv,vA yu.out rU⟩);clear Jv AX rU hU oJ hXk;go_wp2;go_ret;exact HF.out
def rB (ab:Nat->Nat):Nat->List Bool->Nat->Nat
 |_,[],s=>s
 |i,b::r,s=>rB ab (i+1) r (if b=true then s|||Iv (ab i) i else s)
def vD (o:List (List Int))(D:List Bool)(l:List Int):Bool:=((Yr o.length).all fun i=> !(D.getD i false)||l.contains (i:Int))&&l.all fun x=>(o.getD x.toNat []).all fun y=>l.contains y
def aj3 (n m i:Nat):List (List Int):=(fH m n).drop i++((Yr (n+1)).drop (m+1)).flatMap fun k=>fH k n
def WX (o:List (List Int))(D:List Bool):Bool:=(aj3 o.length 0 0).find? (vD o D)==some (AB (rB (ri o) 0 D 0))
def P3:List Bool:=[true,false]
def Hd (b:Bool):b∈P3:=by cases b<;>simp[P3]
def acN:∀a∈Lj,∀d∈P3,WX [a.filter (· <1)] [d]=true:=by decide+kernel
def acO:∀a∈Lj,∀b∈Lj,∀d∈P3,∀e∈P3,WX [a.filter (· <2),b.filter (· <2)] [d,e]=true:=by decide+kernel
def acP:∀a∈Lj,∀b∈Lj,∀c∈Lj,∀d∈P3,∀e∈P3,∀f∈P3,WX [a,b,c] [d,e,f]=true:=by decide+kernel
def least {D:List Bool}(h1:1<=o.length)(hn:o.length<=3)(hD:D.length=o.length)(hr:∀l∈o,l.Pairwise (· < ·))(hx:∀l∈o,∀x∈l,0<=x/\x<o.length):WX o D=true:=by
 match o,D,h1,hn,hD,hr,hx with
 | [a],[d],_,_,_,hr,hx=>
  have h1:=hx a (by simp);have:=acN a (EM (hr a (by simp)) fun x h=>by have:=h1 x h;simp at this;omega) d (Hd d);rwa[filter_lt (fun x h=>by have:=h1 x h;simpa using this)]at this
 | [a,b],[d,e],_,_,_,hr,hx=>
  have h1:=hx a (by simp);have h2:=hx b (by simp);have:=acO a (EM (hr a (by simp)) fun x h=>by have:=h1 x h;simp at this;omega) b (EM (hr b (by simp)) fun x h=>by have:=h2 x h;simp at this;omega) d (Hd d) e (Hd e);rwa[filter_lt (fun x h=>by have:=h1 x h;simpa using this),filter_lt (fun x h=>by have:=h2 x h;simpa using this)]at this
 | [a,b,c],[d,e,f],_,_,_,hr,hx=>
  exact acP a (EM (hr a (by simp)) fun x h=>by have:=hx a (by simp) x h;simpa using this) b (EM (hr b (by simp)) fun x h=>by have:=hx b (by simp) x h;simpa using this)
   c (EM (hr c (by simp)) fun x h=>by have:=hx c (by simp) x h;simpa using this) d (Hd d) e (Hd e) f (Hd f)
 |_::_::_::_::_,_,_,hn,_,_,_=>simp at hn
def Vu (l:List Int):Ke l l=true:=by simp[Ke]
def B3.aj4 (h:Bl w A)(hU:B3 b A B)(hb:w.heap.size<=b):Bl w B:=h.trans ((hU.CN (K:=fun x=>x=b) rfl).below (fun x hx=>by have:x=b:=hx;omega) h.size)
variable {p:List Int->Bool}
def Vv {A:List (List Int)}(h:k<A.length)(hp:p (BM A k)=true):(A.filter p)[((A.take k).filter p).length]?=some (BM A k):=by
 have e:A=A.take k++BM A k::A.drop (k+1):=by
  obtain⟨h1,h2⟩:=Zm.1 (BJ h);rw[<-h2,List.getElem_cons_drop,List.take_append_drop]
 conv=>lhs;rw[e]
 rw[ZcW,ZbB,if_pos hp,List.take_left' (by simp;omega)];simp
def P4 {A:List (List Int)}(h:k<A.length):((A.take (k+1)).filter p).length=((A.take k).filter p).length+if p (BM A k)=true then 1 else 0:=by
 rw[ZbH,BJ h,ZcW,ZA];cases hp:p (BM A k)<;>simp[hp]
def aj5 (hn:SI Sn w lv nums)(E8:∀x,Sn x->x<w.heap.size)(hG:Jr w):Calls Lp 16 #[lv] w (Two w (.bool true)):=by
 obtain⟨la,lc,rfl,_⟩:=hn.val;have IX:=DJ;have H44:=Zd (fun(W:Zb) (b d:Nat) (h1:SI Sn W (U la nums.length lc) nums) (h2:∀x,Sn x->x<W.heap.size/\x≠b) (h3:BK W b (U la nums.length lc) d) (h4:d+1000<4611686018427387904)=>show Calls Lp 44 #[.pointer (some ⟨b,0,none⟩),.int J 3] W (qL W b (U la nums.length lc) d 3) from c44 (s:=3) h1 h2 h3 h4 (by decide));go_enter Lp.func16,n16;go_wp2_with (first|(go_at_call 27;refine(c27 _ ⟨_,_,_,rfl⟩ _).mono ?_;rintro e W1 ⟨rfl,hw⟩;(have Bg:Bl w W1:=by rw[hw];exact bA (Zh _ _));(have Ue:BK W1 w.heap.size (U la nums.length lc) 0:=⟨1,by rw[hw];exact Bp _ _⟩);clear hw;obtain⟨b,hb⟩:∃b,b=w.heap.size:=⟨_,rfl⟩;rw[<-hb]at Ue⊢;have HB:=Zd hb;clear hb)|(go_at_call 44;refine(H44.out _ _ _ (hn.later Bg) (fun x hx=>⟨by have:=E8 x hx;have:=Bg.size;omega,by have:=E8 x hx;have:=HB.out;omega⟩) Ue (by omega)).mono ?_;rintro e W2 ⟨c,u1,u2,u3,u4,u5,d2,rfl,M7,hd2,yv,hM,hc3⟩;obtain⟨a1,c1,rfl,_⟩:=yv.base.val;obtain⟨a2,c2,rfl,_⟩:=yv.Af.val;obtain⟨a3,c3,rfl,_⟩:=yv.hooks.val;obtain⟨a4,c4,rfl,_⟩:=yv.Aa.val;obtain⟨a5,c5,rfl,_⟩:=yv.now.val));have GK:b<=w.heap.size/\w.heap.size<=b:=by have:=HB.out;omega
 have DR:=Bg.size;have FD:b<W1.heap.size:=Ue.lt;have EB:=M7.Cn.size;have Bb:=B3.aj4 Bg M7.Cn (by omega);have Xo:=(hn.later Bg).Cn M7.Cn (fun x hx=>⟨by have:=E8 x hx;omega,by have:=E8 x hx;omega⟩);obtain⟨X,hX⟩:∃X,X=W2.alloc (.cells #[U a1 c.base.length c1,U a2 c.Af.length c2,U a3 c.hooks.length c3,U a4 c.Aa.length c4,U a5 c.now.length c5] 26):=⟨_,rfl⟩;have Ov:Bl W2 X:=by rw[hX];exact bA (Zh _ _)
 have hK:X.heap[W2.heap.size]?=some (.cells #[U a1 c.base.length c1,U a2 c.Af.length c2,U a3 c.hooks.length c3,U a4 c.Aa.length c4,U a5 c.now.length c5] 26 (0,0)):=by rw[hX];exact Bp _ _
 obtain⟨q,hq⟩:∃q,q=W2.heap.size:=⟨_,rfl⟩;rw[<-hq]at hK;rw[<-hX, <-hq];have xS:q<X.heap.size:=(Za.1 hK).1;have M9:W2.heap.size<=q/\q<=W2.heap.size:=by omega
 clear hX hq;have Jm:=hM.few;have hS:∀x,Cb W1.heap.size W2 x->x<X.heap.size/\x≠b:=fun x hx=>⟨by have:=hx.2;have:=Ov.size;omega,by have:=hx.1;omega⟩;refine(c38 (yv.later Ov) hS (Xo.later Ov) (fun x hx=>⟨by have:=E8 x hx;have:=Ov.size;omega,by have:=E8 x hx;omega⟩) (M7.E4.later Ov) (by omega) hM).mono ?_;rintro e W3 ⟨sa,sc,s,d3,rfl,k_,hd3,et,ER⟩;have H4:=k_.Cn;have F1:=H4.at_ hK (by omega);have O9:=(yv.later Ov).Ar (H4.same fun x hx=>(hS x hx).2);have Bv:=B3.aj4 (Bb.trans (Ov.mono Bb.size)) H4 (by omega);have Rb:=H4.size;have hzX:=Ov.size;have HM:=Zd hM;have HS0:=Zd ER;have mI:=Zd (show∀W,Bl W3 W->RC (fun x=>x<W.heap.size) W (U a1 c.base.length c1) (U a2 c.Af.length c2) (U a3 c.hooks.length c3) (U a4 c.Aa.length c4) (U a5 c.now.length c5) c from fun W hB=>(O9.later hB).imp fun x hx=>by have:=hx.2;have:=hB.size;show x<W.heap.size;omega);have HSP:=Zd (show∀W,Bl W3 W->SP (fun x=>x<W.heap.size) W (U sa s.length sc) s from fun W hB=>Sl.imp (et.later hB) (fun x hx=>by have:=hx.2;have:=hB.size;show x<W.heap.size;omega) fun _ _ x=>x);have HK:=Zd (show∀W,Bl W3 W->W.heap[q]?=some (.cells #[U a1 c.base.length c1,U a2 c.Af.length c2,U a3 c.hooks.length c3,U a4 c.Aa.length c4,U a5 c.now.length c5] 26 (0,0)) from fun W hB=>(hB.block _ (Za.1 F1).1).trans F1);have mB:=hG.later Bv;clear hd3 H4 k_ hK Xo yv M7 Ue hd2 hM ER et O9;have H72:=Zd (c72 (mI.out W3 (Zh _ _)) (fun x hx=>hx) HM.out.begin);have H64:=Zd (fun W (hB:Bl W3 W)=>c64 (mI.out W hB) (HSP.out W hB) (fun x hx=>hx) HM.out.begin HS0.out);have H71:=Zd (fun W (hB:Bl W3 W)=>c71 (mI.out W hB) (fun x hx=>hx) (by have:=HM.out.few;omega) (fun i hi=>by have:=(HM.out.seam i hi).step;omega));have HCF:=Zd (show LU c=(EH c).filter (Ev c) from rfl);have HFF:=Zd (show lF c s=(EH c).filter (fun l=>BZ c l s&&Ev c l) from List.filter_filter);have s9:(EH c).length<=125:=by
  have h0:=H7 c.Aa (fun i hi=>by have:=(HM.out.seam i hi).step;omega);have h2:5^c.Aa.length<=5^3:=YX (by decide) (by omega);exact Zr h0 h2
 have HAL:=Zd (fun l (h:l∈EH c)=>WV h);obtain⟨A,hA⟩:∃A,A=EH c:=⟨_,rfl⟩;obtain⟨C,hC⟩:∃C,C=LU c:=⟨_,rfl⟩;obtain⟨F,hF⟩:∃F,F=lF c s:=⟨_,rfl⟩;rw[<-hA]at H71 s9 HAL HCF HFF;rw[<-hC]at H72 HCF;rw[<-hF]at H64 HFF;clear hA hC hF;have k0:=ch (i:=0) F1 rfl;have k1:=ch (i:=1) F1 rfl;have k2:=ch (i:=2) F1 rfl;have k3:=ch (i:=3) F1 rfl;have k4:=ch (i:=4) F1 rfl;dsimp only;go_wp2;refine H72.out.mono ?_;rintro e W4 ⟨ca,cc,rfl,De,hc4⟩;have Qn:=HK.out W4 De;clear k0 k1 k2 k3 k4;have k0:=ch (i:=0) Qn rfl;have k1:=ch (i:=1) Qn rfl;have k2:=ch (i:=2) Qn rfl;have k3:=ch (i:=3) Qn rfl;have k4:=ch (i:=4) Qn rfl;dsimp only;go_wp2;refine(H64.out _ De).mono ?_;rintro e W5 ⟨Cj,⟨fa,fc,rfl,hf5⟩|⟨x,rfl,Ss⟩⟩
 rotate_left
 .exact⟨rfl,bU Bv (bU De Cj),.inr ⟨_,rfl,Ss⟩⟩
 have acR:=bU De Cj;have fG:=HK.out W5 acR;clear k0 k1 k2 k3 k4;have k0:=ch (i:=0) fG rfl;have k1:=ch (i:=1) fG rfl;have k2:=ch (i:=2) fG rfl;have k3:=ch (i:=3) fG rfl;have k4:=ch (i:=4) fG rfl;dsimp only;go_wp2;refine(H71.out _ acR).mono ?_;rintro e W6 ⟨aa,ac,rfl,DM,ha6⟩;have acS:=bU acR DM;have hz4:=De.size;have p9:=Cj.size;have hz6:=DM.size;have HA:=Zd (show∀W,Bl W6 W->SL (fun x=>x<W.heap.size) W (U aa A.length ac) A from fun W hB=>SL.imp (SL.later ha6 hB) fun x hx=>by have:=hx.2;have:=hB.size;show x<W.heap.size;omega);have HC:=Zd (show∀W,Bl W6 W->SL (fun x=>x<W.heap.size) W (U ca C.length cc) C from fun W hB=>SL.imp (SL.later hc4 (bU (bU Cj DM) hB)) fun x hx=>by have:=hx.2;have:=hB.size;show x<W.heap.size;omega);have HF:=Zd (show∀W,Bl W6 W->SL (fun x=>x<W.heap.size) W (U fa F.length fc) F from fun W hB=>SL.imp (SL.later hf5 (bU DM hB)) fun x hx=>by
  have:=hB.size;show x<W.heap.size;rcases hx with hx|hx
  .have hx:x<W4.heap.size:=hx
   omega
  have:=hx.2;omega)
 have hcn:C.length<=A.length:=by rw[HCF.out];exact Zac _ _
 have G9:F.length<=A.length:=by rw[HFF.out];exact Zac _ _
 have hGW:=mB.later acS;have hBW:=bU Bv acS;clear ha6 hc4 hf5 k0 k1 k2 k3 k4 F1 Qn fG H71 H72 H64;dsimp only;go_wp2;go_loopg [11,12,13] A.length (fun gg ai fi i wr=>∃k:Nat,k<=A.length/\gg=A.length - k/\i=.int J k/\ai=.int J (((A.take k).filter (fun l=>BZ c l s&&Ev c l)).length:Nat)/\fi=.int J (((A.take k).filter (Ev c)).length:Nat)/\Bl W6 wr)
 case atStart=>exact⟨0,Zp _,rfl,rfl,rfl,rfl,Zh _ _⟩
 obtain⟨k,hk,rfl,rfl,rfl,rfl,hBk⟩:=hrel;have acT:=bU acS hBk;have hKk:=HK.out _ acT;have hzk:=hBk.size;by_cases Az:k<A.length
 .have HN1:=Zd (P4 (p:=Ev c) Az)
  have HN2:=Zd (P4 (p:=fun l=>BZ c l s&&Ev c l) Az);have HP1:=Zd (fun h=>Vv (p:=Ev c) Az h);have HP2:=Zd (fun h=>Vv (p:=fun l=>BZ c l s&&Ev c l) Az h);have HL:=Zd (HAL.out _ (Z3 (BJ Az)));obtain⟨n1,Vl⟩:∃n,n=((A.take k).filter (Ev c)).length:=⟨_,rfl⟩;obtain⟨n2,Xo⟩:∃n,n=((A.take k).filter (fun l=>BZ c l s&&Ev c l)).length:=⟨_,rfl⟩;have ayQ:n1<=125:=by rw[Vl];have:=Zac (Ev c) (A.take k);have:=ZbW k A;omega
  have aij:n2<=125:=by rw[Xo];have:=Zac (fun l=>BZ c l s&&Ev c l) (A.take k);have:=ZbW k A;omega
  rw[<-Vl, <-HCF.out]at HP1;rw[<-Xo, <-HFF.out]at HP2;rw[<-Vl]at HN1⊢;rw[<-Xo]at HN2⊢;clear Vl Xo;obtain⟨b6,o6,u,ee,Xj,lH,hu⟩:=(HA.out _ hBk).at_ Az;subst ee;obtain⟨l,hl⟩:∃l,l=BM A k:=⟨_,rfl⟩;rw[<-hl]at hu HN1 HN2 HP1 HP2 HL;clear hl;obtain⟨ua,uc,rfl,_⟩:=hu.val;have HUL:=Zd (show∀W,Bl wr W->SI (fun x=>x<W.heap.size) W (U ua l.length uc) l from fun W hB=>Sl.imp (hu.later hB) (fun x (hx:x<wr.heap.size)=>by have:=hB.size;show x<W.heap.size;omega) fun _ _ x=>x);have HCU:=Zd (show∀W,Bl wr W->W.cell? ⟨b6,o6+k,none⟩=some (U ua l.length uc) from fun W hB=>(hB.cell (p:=⟨b6,o6+k,none⟩) (ZH _ _ lH)).trans lH);have TB:(k:Int)<(A.length:Int):=by omega
  obtain⟨K,Ig⟩:∃K:Nat->Prop,K=fun _=>False:=⟨_,rfl⟩;have LP:∀x,¬K x:=by rw[Ig];exact fun _ x=>x
  clear Ig;have g0:=fun p:Tw K wr=>p.cell (ch (i:=0) hKk rfl) (LP _);have g1:=fun p:Tw K wr=>p.cell (ch (i:=1) hKk rfl) (LP _);have g2:=fun p:Tw K wr=>p.cell (ch (i:=2) hKk rfl) (LP _);have g3:=fun p:Tw K wr=>p.cell (ch (i:=3) hKk rfl) (LP _);have g4:=fun p:Tw K wr=>p.cell (ch (i:=4) hKk rfl) (LP _);have g5:=fun p:Tw K wr=>p.cell lH (LP _);clear hu lH;go_wp2;refine B0 (S:=fun W=>∃p:Tw K wr,W=p.v) [] [(false,5),(false,6)] [0,1,2,3,4] (by kernel_rfl) (fun _ _ d _ _ h=>by cases d<;>exact h) (by kernel_rfl) (A5 (Ak.later (Zh _ _).drew)) ?_;refine A4 _ _ (by kernel_rfl) ?_;simp only[Z6,zd,ZG,ZD,ZC]
  repeat (first|go_big_quiet_step (fail)|quiet_step (fail))
  refine Z4 ?_;clear g0 g1 g2 g3 g4 g5;change Dl _ _ _ _ _ _ _;have Uh:Bl wr wr.drew:=(Zh _ _).drew;refine Dd (f:=47) rfl rfl (by go_simp) ((c47 (mI.out _ (bU acT Uh)) HM.out.valid (HUL.out _ Uh) (by have:=HL.out.1;omega) (fun i hi=>by have:=HL.out.2 i hi;have:=(HM.out.seam i (by have:=HL.out.1;omega)).step;omega) fun x hx=>hx).mono ?_);rintro e V ⟨gv,rfl,Ui,hgv⟩;have vE:=bU Uh Ui;have NN:(Cc c l).length=c.base.length:=by simp[Cc]
  have HGB:=Zd (fun i (hi:i<c.base.length)=>Ol HM.out HL.out hi);have HGM:=Zd (fun i (hi:i<c.base.length)=>show nth (Cc c l) i=measure c l i by
   have:=MU (l:=l) hi;rw[Bn (by simp[Cc];exact hi)]at this;exact ZW this)
  obtain⟨G,hG⟩:∃G,G=Cc c l:=⟨_,rfl⟩;rw[<-hG]at hgv NN HGB HGM;clear hG;obtain⟨ga,gc,rfl,_⟩:=hgv.val;have HGL:=Zd NN;have HGS:=Zd (show∀W,Bl V W->SI (fun x=>x<V.heap.size) W (U ga G.length gc) G from fun W hB=>Sl.imp (hgv.later hB) (fun x hx=>hx.2) fun _ _ x=>x);refine⟨_,rfl,.inr (A5 (Ak.later vE)),?_⟩;refine Dw (v:=.slice ga G.length gc) rfl rfl (by go_simp) (.inr (A5 (Ak.later vE))) ?_;unfold Dl;clear hgv NN Uh Ui
  go_simp
  go_wp2;go_loopg [15,16] G.length (fun gg du i wx=>∃(j:Nat) (bo:Bool),j<=G.length/\gg=G.length - j/\i=.int J j/\du=.bool bo/\(bo&&SV c (measure c l) j (s.drop j))=BZ c l s/\Bl V wx)
  case atStart=>exact⟨0,true,Zp _,rfl,rfl,rfl,rfl,Zh _ _⟩
  obtain⟨j,bo,hj,rfl,rfl,rfl,aj9,Qp⟩:=hrel;have HBO:=Zd aj9;clear aj9;have fI:=bU (bU acT vE) Qp;have hKj:=HK.out _ fI;by_cases lp:j<G.length
  .have hjb:j<c.base.length:=by have:=HGL.out;omega
   have hsj:j<s.length:=by have:=(Ha HS0.out).1;omega
   have hje:j<c.Af.length:=by have:=HM.out.PN;omega
   have hjh:j<c.hooks.length:=by have:=HM.out.hooks;omega
   obtain⟨b7,o7,ee,U3,hg7⟩:=(HGS.out _ Qp).at_ lp;subst ee;obtain⟨b8,o8,ee,hb8,lW,jZ⟩:=(mI.out _ fI).Af.at_ hje;subst ee;obtain⟨b9,o9,ee,hb9,hh9⟩:=(mI.out _ fI).hooks.at_ hjh;subst ee;obtain⟨b10,o10,ee,ayR,MM,LO⟩:=(HSP.out _ fI).at_ hsj;subst ee;have hjG:(j:Int)<(G.length:Int):=by omega
   have hjE:(j:Int)<(c.Af.length:Int):=by omega
   have hjH:(j:Int)<(c.hooks.length:Int):=by omega
   have hjS:(j:Int)<(s.length:Int):=by omega
   have iT:=Zd (SW (c:=c) (m:=measure c l) hsj);rw[<-HGM.out j hjb]at iT;have Bg:=HGB.out j hjb;have Bb:=HM.out.hook _ (Z3 (Bn hjh));have S7:=(Ha HS0.out).2 j hsj;obtain⟨gj,hgj⟩:∃x,x=nth G j:=⟨_,rfl⟩;obtain⟨hj9,hhj⟩:∃x,x=nth c.hooks j:=⟨_,rfl⟩;obtain⟨pe,hpe⟩:∃x,x=BV c.Af j:=⟨_,rfl⟩;obtain⟨ps,lP⟩:∃x,x=BV s j:=⟨_,rfl⟩;rw[<-hgj]at hg7 iT Bg;rw[<-hhj]at hh9 iT Bb;rw[<-hpe]at lW jZ iT;rw[<-lP]at MM LO iT S7;clear hgj hhj hpe lP;obtain⟨e1,e2⟩:=pe;obtain⟨t1,t2⟩:=ps;dsimp only at lW jZ MM LO S7;have H73:=Zd (fun W=>c73 (w:=W) (v:=gj) (e1:=e1) (e2:=e2) (hook:=hj9) (b1:=t1) (b2:=t2) (by omega) (by omega) (by omega));obtain⟨rr,hrr⟩:∃x,x=F0 hj9 gj (e1,e2) (t1,t2):=⟨_,rfl⟩;rw[<-hrr]at H73 iT;clear hrr Bg Bb S7;have z0:=fun p=>Al p (ch (i:=1) hKj (v:=.slice (some ⟨b8,o8,none⟩) c.Af.length c2) rfl);have z1:=fun p=>Al p (ch (i:=2) hKj (v:=.slice (some ⟨b9,o9,none⟩) c.hooks.length c3) rfl);have z2:=fun p=>Al p hg7;have z3:=fun p=>Al p lW;have z4:=fun p=>Al p jZ;have z5:=fun p=>Al p hh9;have z6:=fun p=>Al p MM;have z7:=fun p=>Al p LO;clear hg7 lW jZ hh9 MM LO;cases bo with
   |true=>
    go_wp2;refine Av (by kernel_rfl) (by kernel_rfl) ?_
    repeat (first|go_big_quiet_step ((go_at_call 73;exact AV (H73.out _)))|quiet_step ((go_at_call 73;exact AV (H73.out _))))
    refine Z4 ?_;rintro _ ⟨p,rfl⟩;have yw:=AE wr p;obtain⟨Y,hY⟩:∃Y,Y=calm wr p:=⟨_,rfl⟩;rw[<-hY]at yw⊢;clear hY z0 z1 z2 z3 z4 z5 z6 z7;go_wp2;go_roundg (G.length - (j+1))
    case rel=>exact⟨j+1,rr,lp,rfl,by go_num,rfl,by rw[<-HBO.out,iT.out];rfl,bU Qp yw⟩
    case measure=>omega
   |false=>
    go_wp2;refine Av (by kernel_rfl) (by kernel_rfl) ?_
    repeat (first|go_big_quiet_step (fail)|quiet_step (fail))
    refine Z4 ?_;rintro _ ⟨p,rfl⟩;have yw:=AE wr p;obtain⟨Y,hY⟩:∃Y,Y=calm wr p:=⟨_,rfl⟩;rw[<-hY]at yw⊢;clear hY z0 z1 z2 z3 z4 z5 z6 z7;go_wp2;go_roundg (G.length - (j+1))
    case rel=>exact⟨j+1,false,lp,rfl,by go_num,rfl,by rw[<-HBO.out];rfl,bU Qp yw⟩
    omega
  have hjs:j=G.length:=by omega
  have hbf:bo=BZ c l s:=by
   have:=HBO.out;rw[Z7.2 (by have:=HGL.out;have:=(Ha HS0.out).1;omega)]at this;rw[<-this];exact(Bool.and_true bo).symm
  obtain⟨Z,hZ⟩:∃Z,Z=wr:=⟨_,rfl⟩;subst hZ;have acU:=bU vE Qp;have hHZ:=HK.out _ fI;have yJ:Oa c l s=0:=by unfold Oa;rw[BR (HM.out.asked HL.out)];exact HS0.out
  have H62:=Zd (fun W (hB:Bl Z W)=>c62 (mI.out W (bU fI hB)) (HUL.out W (bU acU hB)) (HSP.out W (bU fI hB)) fun x hx=>hx);have hfv:Mf c l s=bo:=by unfold Mf;rw[if_pos yJ,hbf]
  rw[yJ,hfv]at H62;have HBF:=Zd hbf;clear hbf yJ hfv;have z0:=fun p=>Al p (ch (i:=0) hHZ rfl);have z1:=fun p=>Al p (ch (i:=1) hHZ rfl);have z2:=fun p=>Al p (ch (i:=2) hHZ rfl);have z3:=fun p=>Al p (ch (i:=3) hHZ rfl);have z4:=fun p=>Al p (ch (i:=4) hHZ rfl);have z5:=fun p=>Al p (HCU.out _ acU);go_wp2;refine Av (by kernel_rfl) (by kernel_rfl) ?_
  repeat (first|go_big_quiet_step ((go_at_call 62;exact AV (H62.out _ (AE _ _))))|quiet_step ((go_at_call 62;exact AV (H62.out _ (AE _ _)))))
  refine Z4 ?_;rintro _ ⟨p,rfl⟩;have yw:=AE Z p;obtain⟨Y,hY⟩:∃Y,Y=calm Z p:=⟨_,rfl⟩;rw[<-hY]at yw⊢;clear hY z0 z1 z2 z3 z4 z5;have lJ:=bU acU yw;have fJ:=bU hBk lJ;have lH:=HCU.out _ lJ;by_cases WY:Ev c l=true
  .have L6:=HP1.out WY
   obtain⟨Vl,aqA⟩:=Zm.1 L6;have MF:BM C n1=l:=by have:=BJ Vl;rw[L6]at this;exact(ZW this).symm
   obtain⟨b7,o7,u2,ee,U3,lI,Hb⟩:=(HC.out _ fJ).at_ Vl;subst ee;rw[MF]at Hb;obtain⟨uc2,ud2,rfl,_⟩:=Hb.val;have cL:=Zd (fun W (hB:Bl Y W)=>c46 (w:=W) (Sl.imp (Hb.later hB) (T:=fun x=>x<W.heap.size) (fun x (hx:x<Y.heap.size)=>by have:=hB.size;show x<W.heap.size;omega) fun _ _ x=>x) (HUL.out W (bU lJ hB)) (fun x hx=>hx) fun x hx=>hx);rw[Vu]at cL;have wB:(n1:Int)<(C.length:Int):=by omega
   have aqB:¬(C.length:Int)<=(n1:Int):=by omega
   have z0:=fun p=>Al p lI;have z1:=fun p=>Al p lH;have rC:=Zd (show((A.take (k+1)).filter (Ev c)).length=n1+1 by rw[HN1.out,if_pos WY]);have aqC:=Zd WY;clear L6 aqA MF Hb lI lH WY;cases bo with
   |true=>
    go_wp2;refine Av (by kernel_rfl) (by kernel_rfl) ?_
    repeat (first|go_big_quiet_step ((go_at_call 46;exact AV (cL.out _ (AE _ _))))|quiet_step ((go_at_call 46;exact AV (cL.out _ (AE _ _)))))
    refine Z4 ?_;rintro _ ⟨p,rfl⟩;have Iz:=AE Y p;obtain⟨Y2,rD⟩:∃Y2,Y2=calm Y p:=⟨_,rfl⟩;rw[<-rD]at Iz⊢;clear rD z0 z1;have G3:(BZ c l s&&Ev c l)=true:=by rw[<-HBF.out,aqC.out];rfl
    have L6:=HP2.out G3;obtain⟨Xo,aqD⟩:=Zm.1 L6;have MF:BM F n2=l:=by have:=BJ Xo;rw[L6]at this;exact(ZW this).symm
    obtain⟨b8,o8,u3,ee,hb8,ajb,Lb⟩:=(HF.out _ (bU fJ Iz)).at_ Xo;subst ee;rw[MF]at Lb;obtain⟨uc3,ud3,rfl,_⟩:=Lb.val;have acV:=Zd (fun W (hB:Bl Y2 W)=>c46 (w:=W) (Sl.imp (Lb.later hB) (T:=fun x=>x<W.heap.size) (fun x (hx:x<Y2.heap.size)=>by have:=hB.size;show x<W.heap.size;omega) fun _ _ x=>x) (HUL.out W (bU (bU lJ Iz) hB)) (fun x hx=>hx) fun x hx=>hx);rw[Vu]at acV;have hmi:(n2:Int)<(F.length:Int):=by omega
    have ayU:¬(F.length:Int)<=(n2:Int):=by omega
    have z0:=fun p=>Al p ajb;have z1:=fun p=>Al p (HCU.out _ (bU lJ Iz));have lK:=Zd (show((A.take (k+1)).filter (fun l=>BZ c l s&&Ev c l)).length=n2+1 by rw[HN2.out,if_pos G3]);clear L6 aqD MF Lb ajb G3;go_wp2;refine Av (by kernel_rfl) (by kernel_rfl) ?_
    repeat (first|go_big_quiet_step ((go_at_call 46;exact AV (acV.out _ (AE _ _))))|quiet_step ((go_at_call 46;exact AV (acV.out _ (AE _ _)))))
    refine Z4 ?_;rintro _ ⟨p,rfl⟩;have yx:=AE Y2 p;obtain⟨Y3,hY3⟩:∃Y3,Y3=calm Y2 p:=⟨_,rfl⟩;rw[<-hY3]at yx⊢;clear hY3 z0 z1;go_wp2;go_roundg (A.length - (k+1))
    case rel=>exact⟨k+1,Az,rfl,by go_num,by rw[lK.out];go_num,by rw[rC.out];go_num,bU (bU fJ Iz) yx⟩
    case measure=>omega
   |false=>
    have lK:=Zd (show((A.take (k+1)).filter (fun l=>BZ c l s&&Ev c l)).length=n2 by rw[HN2.out, <-HBF.out];rfl);go_wp2;refine Av (by kernel_rfl) (by kernel_rfl) ?_
    repeat (first|go_big_quiet_step ((go_at_call 46;exact AV (cL.out _ (AE _ _))))|quiet_step ((go_at_call 46;exact AV (cL.out _ (AE _ _)))))
    refine Z4 ?_;rintro _ ⟨p,rfl⟩;have Iz:=AE Y p;obtain⟨Y2,rD⟩:∃Y2,Y2=calm Y p:=⟨_,rfl⟩;rw[<-rD]at Iz⊢;clear rD z0 z1;go_wp2;go_roundg (A.length - (k+1))
    case rel=>exact⟨k+1,Az,rfl,by go_num,by rw[lK.out],by rw[rC.out];go_num,bU fJ Iz⟩
    omega
  have rC:=Zd (show((A.take (k+1)).filter (Ev c)).length=n1 by rw[HN1.out,if_neg WY];rfl);have lK:=Zd (show((A.take (k+1)).filter (fun l=>BZ c l s&&Ev c l)).length=n2 by rw[HN2.out,if_neg (by rw[ZF];exact fun x=>WY x.2)];rfl);by_cases Vl:n1<C.length
  .obtain⟨b7,o7,u2,ee,U3,lI,Hb⟩:=(HC.out _ fJ).at_ Vl
   subst ee;obtain⟨uc2,ud2,rfl,_⟩:=Hb.val;have BL:Ke (BM C n1) l=false:=decide_eq_false fun e=>WY (by
    have hm:=Z3 (BJ Vl);rw[HCF.out]at hm;have:=(List.mem_filter.1 hm).2;rw[<-HCF.out,e]at this;exact this)
   have cL:=Zd (fun W (hB:Bl Y W)=>c46 (w:=W) (Sl.imp (Hb.later hB) (T:=fun x=>x<W.heap.size) (fun x (hx:x<Y.heap.size)=>by have:=hB.size;show x<W.heap.size;omega) fun _ _ x=>x) (HUL.out W (bU lJ hB)) (fun x hx=>hx) fun x hx=>hx);rw[BL]at cL;have wB:(n1:Int)<(C.length:Int):=by omega
   have aqB:¬(C.length:Int)<=(n1:Int):=by omega
   have z0:=fun p=>Al p lI;have z1:=fun p=>Al p lH;clear Hb lI lH WY BL;go_wp2;refine Av (by kernel_rfl) (by kernel_rfl) ?_
   repeat (first|go_big_quiet_step ((go_at_call 46;exact AV (cL.out _ (AE _ _))))|quiet_step ((go_at_call 46;exact AV (cL.out _ (AE _ _)))))
   refine Z4 ?_;rintro _ ⟨p,rfl⟩;have Iz:=AE Y p;obtain⟨Y2,rD⟩:∃Y2,Y2=calm Y p:=⟨_,rfl⟩;rw[<-rD]at Iz⊢;clear rD z0 z1;go_wp2;go_roundg (A.length - (k+1))
   case rel=>exact⟨k+1,Az,rfl,by go_num,by rw[lK.out],by rw[rC.out],bU fJ Iz⟩
   omega
  have wB:(C.length:Int)<=(n1:Int):=by omega
  clear lH WY;go_wp2;refine Av (by kernel_rfl) (by kernel_rfl) ?_
  repeat (first|go_big_quiet_step (fail)|quiet_step (fail))
  refine Z4 ?_;rintro _ ⟨p,rfl⟩;have Iz:=AE Y p;obtain⟨Y2,rD⟩:∃Y2,Y2=calm Y p:=⟨_,rfl⟩;rw[<-rD]at Iz⊢;clear rD;go_wp2;go_roundg (A.length - (k+1))
  case rel=>exact⟨k+1,Az,rfl,by go_num,by rw[lK.out],by rw[rC.out],bU fJ Iz⟩
  omega
 have hkA:k=A.length:=by omega
 subst hkA;have L6:((A.take A.length).filter (Ev c)).length=C.length:=by rw[ZcU, <-HCF.out]
 have NP:((A.take A.length).filter (fun l=>BZ c l s&&Ev c l)).length=F.length:=by rw[ZcU, <-HFF.out]
 rw[L6,NP];have hGk:=hGW.later hBk;have ajc:=bU hBW hBk;go_wp2_with (go_at_call 26;refine(c26 _ hGk).mono ?_;rintro e Z ⟨hBZ,rfl|⟨x,rfl,Ss⟩⟩)
 .go_ret
  exact⟨bU ajc hBZ,.inl rfl⟩
 exact⟨rfl,bU ajc hBZ,.inr ⟨_,rfl,Ss⟩⟩
end Go.Proofs.Fit
namespace Go.Proofs.YtkkjobdfheidkaaGreatDoor
open Go Go.Conc Go.RowKit Go.Proofs.Fit
set_option maxRecDepth 100000
def lL:(Rows.seamFittingRow.inPlace==Tryz.prog.inPlace 16)=true:=by kernel_rfl
def WZ:(Rows.seamFittingRow.unfollowed==Tryz.prog.unfollowed 16)=true:=by kernel_rfl
def fK:(Rows.seamFittingRow.recurses==Tryz.prog.recurses 16)=true:=by kernel_rfl
def vF:(Rows.seamFittingRow.named==Tryz.prog.varsNamed 16)=true:=by kernel_rfl
def vG:joinedFacts Zc 16 ZbK Rows.seamFittingSpec Rows.seamFittingRow=true:=
 kQ (by kernel_rfl) (by kernel_rfl) (by kernel_rfl) (by kernel_rfl) (by kernel_rfl) lL WZ fK vF (by kernel_rfl) (by kernel_rfl) (by kernel_rfl) (by kernel_rfl) (by kernel_rfl) (by kernel_rfl) (by kernel_rfl) (by kernel_rfl) (by kernel_rfl) rfl rfl rfl rfl rfl rfl (by kernel_rfl) (by kernel_rfl) (by kernel_rfl)
def rE (os:Os)(started:os.Started)(H:Type)(enc:Zs×Zf->H):ReturnsInLeavingWide {} Tryz.checked os 16 .any (fun w args=>(Rows.seamFittingSpec.pre enc Zc ZbK [] false w args/\laidMetH Zc PT w)/\sizedMet enc Zc ZbK (ZbV Rows.seamFittingSpec) false w args)
   (Rows.seamFittingSpec.post enc Zc ZbK false true false false):=
 eO (s:=Rows.seamFittingSpec) started rfl rfl ZdZ rfl rfl (by kernel_rfl) (by kernel_rfl) rfl (by kernel_rfl) (fun ds h=>by
    match ds,h with
    | [_],_=>rfl)
   (ChangeSpec.witness_shaped (enc:=enc) (C:=Tryz.checked) (os:=os) (X:=fun w _=>laidMetH Zc PT w) false (Vg os) #[U none 0 0] 8 rfl (World.shaped_of_RefB (by kernel_rfl) (by kernel_rfl)) (by kernel_rfl) (by kernel_rfl) (by kernel_rfl) (Ub os _))
   (fun W base args ds ps hval hA _ hG=>qc rfl hval hA hG fun w v nums hn hG=>aj5 hn (fun x hx=>hx) hG)
def ajd:Rows.SeamFittingSaid:=
 OpenClaim.holds_of_wide_leaving 16 ZbK rfl rfl rfl rfl rfl rfl rfl ⟨rfl,rfl,rfl,rfl,rfl⟩ rfl rfl rfl rfl rfl (by kernel_rfl) ZdZ vG
  (of_decide_eq_true (by kernel_rfl)) (by unfold Func.isWrapper;rw[if_neg (by decide+kernel)];exact⟨rfl,rfl⟩) (fun os started H enc _=>rE os started H enc)
def acW:true=Rows.seamFittingRow.goesBy Tryz.pinned.checked.prog:=by kernel_rfl
theorem fitting_holds:Rows.SeamFittingCardSaid:=
 kM [.handle] (true,"d58ada5a772cea19d6c1f322b38be8e13f90afce78f95e9e644b853f050ce369") ajd (by kernel_rfl) (OpenClaim.laidByTextAt_later rfl rfl qd abD) rfl ⟨rfl,rfl⟩ uI
  (fun f fn hf G9=>by
   obtain rfl:f=16:=ZW ((show Tryz.prog.funcNamed "galloon/galloonlaw02.SeamFitting" =some 16 by kernel_rfl).symm.trans hf)|>.symm;obtain rfl:fn=ZbK:=(ZW (Tryz.func16.symm.trans G9)).symm;exact⟨abE,fun j t ht=>by
    have hm:t∈ [22]:=by simpa using zY ht
    have FJ:([22].all fun u=> !Tryz.prog.wantsStandIn u)=true:=by kernel_rfl
    exact(show Tryz.prog.wantsStandIn t=false by simpa using Zdm.1 FJ t hm)⟩)
  acW
#print axioms fitting_holds
end Go.Proofs.YtkkjobdfheidkaaGreatDoor
