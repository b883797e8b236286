/- SeamSeason: for every list of numbers, on every schedule and without a data race, the law returns true, and the list reads afterwards as before. Conditions: those of the given row alone. -/
import Derived.Test.YtdhgoldgnnpnmaaGreatDoorQ11
import Derived.Test.YtdhgoldgnnpnmaaGreatDoorQ08
import Derived.Lib.MinMax
set_option maxRecDepth 100000
set_option maxHeartbeats 6400000
noncomputable section
set_option linter.all false
open And renaming intro->ZY
open Array renaming getElem?_eq_some_iff->Za,replicate_succ->ZaN,replicate_zero->ZaM,replicate->Yu,mem_of_getElem?->zY
open Bool renaming and_eq_true->ZF,or_eq_true->ZaK
open Go renaming Value->Zf,World->Zb,callFunc->Zz,TypeId->Zs,Program->Zo,undef->Ze,loadVar->Zdd,bodyPost_ret->ZN,callsIn_wide->Zcx,info_parts->zp,ownsRow_succ->Zay,wpQuiet_nil->Z4,wpList_append_own->Yc,below_drewN->Y5,YieldsIf->ZbF,wpOp_mono->Zcc,wp_region_any->Zd5,execOp->Zby,FuncId->ZaQ
open Go.Act renaming put->Zck
open Go.Code renaming region->zU
open Go.Ending renaming returned->Zbx
open Go.Fence renaming wide->ZbC
open Go.Instr renaming field->ZdO
open Go.IntKind renaming wrap_i64->zE,i64->J
open Go.Lib renaming hid->Zd
open Go.OpenSpec renaming ofChange->ZbV
open Go.Oper renaming semAt_some->Zdk,wp->ZbA,upon_value->Zdi,upon_enter->Zdj,upon_skip->ZcQ
open Go.Proofs.Tryz renaming underlying33->zW,underlying25->Zdg,prog->Zc
open Go.Region renaming Mode->YO,ready->zs,free->Za3,noSelect->YF,wanted->Yf
open Go.Result renaming andThen->zu
open Go.RowKit renaming Below->YH
open Go.RowKit.Below renaming refl->Zh
open Go.Sem renaming run_bind->zg
open Go.Value renaming oneCell'->YT,int->ZL,tuple->YK,slice->U,int->I
open Go.World renaming size_alloc->ZB,ownsRow_nil->zq,block_lt_of_cell?->ZH
open Go.World.ownsRow renaming alloc->Ya
open List renaming ext_getElem?->YA,getElem?_map->YL,range->Yr,getElem?_eq_none->ZP,getElem?_set_self->Ys,getElem?_set_ne->ZS,drop_eq_nil_iff->Z7,length_append->ZA,getElem?_append_left->zl,getElem?_eq_some_iff->Zm,length_cons->zb,length_nil->zR,getElem?_concat_length->Y1,size_toArray->Zbm,push_toArray->Zbn,append_toArray->Za4,nil_append->zP,cons_append->Za1,filter_cons->ZbB,length_filter_le->Zac,filterMap_cons->Z6,filterMap_nil->zd,getElem?_toArray->ZG,getElem?_cons_succ->ZD,getElem?_cons_zero->ZC,mem_of_getElem?->Z3,flatMap_append->Zbe,mem_append->Zab,mem_singleton->Yh,drop_eq_getElem_cons->ZO,take_add_one->ZbH,take_of_length_le->Zb3,take_length->ZcU,mem_cons_self->zC,mem_cons_of_mem->zm,all_eq_true->Zdm,getElem?_take_of_lt->Z2,getElem?_drop->Yl
open List.cons renaming inj->zL
open Nat renaming zero_le->Zp,le_refl->Zj,reduceAdd->ZaF,reduceSub->Zcw,pow_le_pow_right->YX,le_trans->Zr,lt_of_lt_of_le->Zl,le_of_succ_le->Zbb,two_pow_pos->Zdz
open Option renaming map_some->Zdh
open Option.some renaming inj->ZW
namespace Go.Proofs.Fit
open Go
@[simp] def Lp.func23:Lp.funcs[3]?=some Tryz.f3:=(AP.same 3 rfl rfl).trans Tryz.func3
@[simp] def Lp.call27 (args:Array Zf)(w:Zb):(Zz 4 args).run Lp w=.ok (.enter 4 args) w:=Ao Lp 4 Lp.func27 rfl rfl args w
@[simp] def Lp.func38:Lp.funcs[7]?=some Tryz.f7:=(AP.same 7 rfl rfl).trans Tryz.func7
@[simp] def Lp.call38 (args:Array Zf)(w:Zb):(Zz 7 args).run Lp w=.ok (.enter 7 args) w:=Ao Lp 7 Lp.func38 rfl rfl args w
@[simp] def Lp.func47:Lp.funcs[19]?=some Tryz.f19:=(AP.same 19 rfl rfl).trans Tryz.func19
@[simp] def Lp.call47 (args:Array Zf)(w:Zb):(Zz 19 args).run Lp w=.ok (.enter 19 args) w:=Ao Lp 19 Lp.func47 rfl rfl args w
@[simp] def Lp.func51:Lp.funcs[29]?=some Tryz.f29:=(AP.same 29 rfl rfl).trans Tryz.func29
@[simp] def Lp.call51 (args:Array Zf)(w:Zb):(Zz 29 args).run Lp w=.ok (.enter 29 args) w:=Ao Lp 29 Lp.func51 rfl rfl args w
@[simp] def Lp.func59:Lp.funcs[30]?=some Tryz.f30:=(AP.same 30 rfl rfl).trans Tryz.func30
@[simp] def Lp.call59 (args:Array Zf)(w:Zb):(Zz 30 args).run Lp w=.ok (.enter 30 args) w:=Ao Lp 30 Lp.func59 rfl rfl args w
@[simp] def Lp.func64:Lp.funcs[28]?=some Tryz.f28:=(AP.same 28 rfl rfl).trans Tryz.func28
@[simp] def Lp.call64 (args:Array Zf)(w:Zb):(Zz 28 args).run Lp w=.ok (.enter 28 args) w:=Ao Lp 28 Lp.func64 rfl rfl args w
@[simp] def Lp.func77:Lp.funcs[11]?=some Tryz.f11:=(AP.same 11 rfl rfl).trans Tryz.func11
@[simp] def Lp.call77 (args:Array Zf)(w:Zb):(Zz 11 args).run Lp w=.ok (.enter 11 args) w:=Ao Lp 11 Lp.func77 rfl rfl args w
@[simp] def Lp.func83:Lp.funcs[9]?=some Tryz.f9:=(AP.same 9 rfl rfl).trans Tryz.func9
@[simp] def Lp.call83 (args:Array Zf)(w:Zb):(Zz 9 args).run Lp w=.ok (.enter 9 args) w:=Ao Lp 9 Lp.func83 rfl rfl args w
@[simp] def Lp.func128:Lp.funcs[34]?=some Tryz.f34:=(AP.same 34 rfl rfl).trans Tryz.func34
@[simp] def Lp.call128 (args:Array Zf)(w:Zb):(Zz 34 args).run Lp w=.ok (.enter 34 args) w:=Ao Lp 34 Lp.func128 rfl rfl args w
@[simp] def Lp.func137:Lp.funcs[33]?=some Tryz.f33:=(AP.same 33 rfl rfl).trans Tryz.func33
@[simp] def Lp.call137 (args:Array Zf)(w:Zb):(Zz 33 args).run Lp w=.ok (.enter 33 args) w:=Ao Lp 33 Lp.func137 rfl rfl args w
@[simp] def Lp.func138:Lp.funcs[35]?=some Tryz.f35:=(AP.same 35 rfl rfl).trans Tryz.func35
@[simp] def Lp.call138 (args:Array Zf)(w:Zb):(Zz 35 args).run Lp w=.ok (.enter 35 args) w:=Ao Lp 35 Lp.func138 rfl rfl args w
def n23:Tryz.f3.ntmps=124:=rfl
def n38:Tryz.f7.ntmps=70:=rfl
def n47:Tryz.f19.ntmps=56:=rfl
def n51:Tryz.f29.ntmps=19:=rfl
def n59:Tryz.f30.ntmps=25:=rfl
def n64:Tryz.f28.ntmps=28:=rfl
def n77:Tryz.f11.ntmps=88:=rfl
def n83:Tryz.f9.ntmps=98:=rfl
def aq4:Tryz.f34.ntmps=23:=rfl
def adP:Tryz.f33.ntmps=24:=rfl
def afX:Tryz.f35.ntmps=28:=rfl
end Go.Proofs.Fit
namespace Go.Proofs.Fit
open Go Go.RowKit
def aaH (l:List Ay):List Ay:=l.map fun x=> {x with left:=0}
def abq:∀(l:List Ay) (ab:Nat->Nat) (i:Nat),K6 ab i (aaH l)=K6 ab i l
 | [],_,_=>rfl
 |s::r,ab,i=>abq r (HJ ab i s.over) (i+1)
def abn (l:List Ay):∀(n:Nat) (ab:Nat->Nat),G5 ab (aaH l) n=G5 ab l n
 |0,_=>rfl
 |n+1,ab=>by
  show G5 (K6 ab 0 (aaH l)) (aaH l) n=G5 (K6 ab 0 l) l n;rw[abq,abn l n]
def abr (l:List Ay):Ax (aaH l)=Ax l:=by
 unfold Ax;rw[abn];simp[aaH]
def ad6 {a b:List Ay}(h:aaH a=aaH b):Ax a=Ax b:=by rw[<-abr a,h,abr]
def ace {a b:List Ay}(h:aaH a=aaH b):a.length=b.length:=by
 have:=congrArg List.length h;simpa[aaH]using this
def ad7 (s:List Ay)(i:Nat):aaH (Kn s i)=aaH s:=by
 unfold aaH Kn;apply YA;intro j;simp only[YL,List.getElem?_modify];cases s[j]? with
 |none=>rfl
 |some x=>by_cases h:i=j<;>simp[h]
def abR:∀(l:List Int) (s:List Ay),aaH (CJ s l)=aaH s
 | [],_=>rfl
 |i::r,s=>(abR r (Kn s i.toNat)).trans (ad7 s _)
variable {b i n g cap k n1 n2 k1 k2:Nat}
def adQ {a b:List Ay}(h:aaH a=aaH b)(hi:i<a.length): {Aj a i with left:=0}= {Aj b i with left:=0}:=by
 have e:=congrArg (fun l=>l[i]?) h;simp only[aaH,YL,Db hi,Db (show i<b.length by rw[<-ace h];exact hi),Zdh]at e;exact ZW e
variable {c d:A_}
def adp {s:List Ay}{n:List Int}(h:H6 c)(he:aaH s=aaH c.Aa)(hl:∀i,i<s.length->0<=(Aj s i).left/\(Aj s i).left<=4)(hn:Tc c n):H6 {c with Aa:=s,now:=n}:=by
 have hz:=ace he;have key:∀i,i<s.length->(Aj s i).low=(Aj c.Aa i).low/\(Aj s i).high=(Aj c.Aa i).high/\(Aj s i).Ap=(Aj c.Aa i).Ap/\(Aj s i).over=(Aj c.Aa i).over:=fun i hi=>by
  have:=adQ he hi;simp only[Ay.mk.injEq]at this;obtain⟨e1,e2,e3,e4,_⟩:=this;exact⟨e1,e2,e3,e4⟩
 refine⟨h.Fp,h.base,h.PN,h.Af,h.hooks,h.hook,by show 1<=s.length/\s.length<=3;rw[hz];exact h.few,fun i hi=>?_,?_,?_⟩
 .have DN:i<s.length:=hi
  obtain⟨e1,e2,e3,e4⟩:=key i DN;have hm:=h.seam i (by omega);show Mh c.base.length s.length i (Aj s i);refine⟨by rw[e1,e2];exact hm.step,by rw[e3];exact hm.few,by rw[e3];exact hm.pull,by rw[e3];exact hm.twice,by rw[e4,hz];exact hm.over,by rw[e4];exact hm.rising,hl i DN⟩
 .rcases h.way with w|w
  .exact .inl fun i (hi:i<s.length) o (ho:o∈(Aj s i).over)=>w i (by omega) o (by rw[<- (key i hi).2.2.2];exact ho)
  exact .inr fun i (hi:i<s.length) o (ho:o∈(Aj s i).over)=>w i (by omega) o (by rw[<- (key i hi).2.2.2];exact ho)
 have h1:=hn.1;refine⟨by show n.length=s.length;omega,fun i (hi:i<n.length)=>?_⟩;show(Aj s i).low<=nth n i/\nth n i<=(Aj s i).high;rw[(key i (by omega)).1,(key i (by omega)).2.1];exact hn.2 i hi
def Qr (n:Nat)(m:Nat->Int):List Int:=(Yr n).map m
def EI (n:Nat)(m:Nat->Int):(Qr n m).length=n:=by simp[Qr]
variable {m:Nat->Int}
def rj (h:i<n):nth (Qr n m) i=m i:=by simp[Qr,nth,h]
def lC (l:List Int):l=Qr l.length (fun j=>nth l j):=by
 apply YA;intro i;by_cases h:i<l.length
 .rw[Bn h];simp[Qr,h]
 rw[ZP (by omega),ZP (by rw[EI];omega)]
def rm (h:i<n)(k b:Int):(Qr n m).set i (m i+b*k)=Qr n (K7 m k ((i:Int),b)):=by
 apply YA;intro j;by_cases hj:j<n
 .by_cases hij:i=j
  .subst hij
   rw[Ys (by rw[EI];exact h)];simp[Qr,hj,K7]
  rw[ZS hij];simp[Qr,hj,K7];omega
 rw[ZP (by simp[EI];omega),ZP (by rw[EI];omega)]
structure MG (w:Zb)(xs:Array Zf)(v:Zf)(n:Nat)(m:Nat->Int)(wr:Zb):Prop where
 below:Bl w wr
 box:wr.heap[w.heap.size]?=some (.cells xs 28 (0,0))
 own:Own wr (w.heap.size+1) v (Qr n m)
variable {w A B w1 w':Zb}
variable {xs args:Array Zf}
variable {v v1 v2 v3 v4 v5 v6 lv:Zf}
def MG.later {wr W:Zb}(h:MG w xs v n m wr)(hB:Bl wr W):MG w xs v n m W:=
 ⟨h.below.trans (hB.mono h.below.size),(hB.block _ (Za.1 h.box).1).trans h.box,h.own.later hB⟩
def MG.row {wr:Zb}(h:MG w xs (U (some ⟨g,0,none⟩) n cap) n m wr)(hi:i<n):w.heap.size+1<=g/\∃cur,wr.heap[g]?=some (.cells cur 3 (0,0))/\cur[i]?=some (.int J (m i)):=by
 obtain⟨g',Ey,cur,e,h1,h2,h3,h4,h5,h6⟩:=h.own.val (by rw[EI];omega);rw[EI]at e;cases e;refine⟨h1,cur,h2,?_⟩;rw[h5 i (by rw[EI];exact hi),rj hi]
def MG.set {wr:Zb}(h:MG w xs (U (some ⟨g,0,none⟩) n cap) n m wr)(hi:i<n)(k b:Int):MG w xs (U (some ⟨g,0,none⟩) n cap) n (K7 m k ((i:Int),b)) (wr.setCell ⟨g,i,none⟩ (.int J (m i+b*k))):=by
 obtain⟨g',Ey,cur,e,h1,h2,h3,h4,h5,h6⟩:=h.own.val (by rw[EI];omega);rw[EI]at e;cases e;refine⟨bS h.below (by omega),(AZ (by omega) _).trans h.box,?_⟩;rw[<-rm hi];exact h6 i _ (by rw[EI];exact hi)
variable {S T Sn:Nat->Prop}
variable {l nums:List Int}
def c47 (h:RC S w v1 v2 v3 v4 v5 c)(hv:Fq c)(hl:SI S w v6 l)(hn:l.length<=c.Aa.length)(hb:∀i,i<l.length->-2<=nth l i/\nth l i<=2)(hS:∀b,S b->b<w.heap.size):
  Calls Lp 19 #[.agg #[v1,v2,v3,v4,v5],v6] w fun e w'=>∃u,e=.returned u/\Bl w w'/\SI (Cb w.heap.size w') w' u (Cc c l):=by
 obtain⟨a1,c1,rfl,l1,m1⟩:=h.base.val;obtain⟨a2,c2,rfl,l2,m2⟩:=h.Af.val;obtain⟨a3,c3,rfl,l3,m3⟩:=h.hooks.val;obtain⟨a4,c4,rfl,l4,m4⟩:=h.Aa.val;obtain⟨a5,c5,rfl,l5,m5⟩:=h.now.val;obtain⟨a6,c6,rfl,l6,m6⟩:=hl.val;have IX:=DJ;obtain⟨tN,lZ⟩:=hv.Fp;have HM:=Zd (show measure c l=Iw (fun j=>nth c.base j) (l.zip c.Aa) from rfl);have Bg:Bl w (w.alloc (.cells #[U a1 c.base.length c1,U a2 c.Af.length c2,U a3 c.hooks.length c3,U a4 c.Aa.length c4,U a5 c.now.length c5] 28)):=bA (Zh _ _);have H32:=Zd (fun W (hB:Bl w W)=>WO (h.later hB).base (by omega));have hbb:=MP hv;have HRB:=Zd (lC c.base);go_enter Lp.func47,n47;go_wp2_with (go_at_call 47;refine(H32.out _ Bg).mono ?_;rintro e w1 ⟨u,rfl,Bb,hO⟩;obtain⟨g,cap,cur,rfl,hgb,_⟩:=hO.val (by omega));have hM4:MG w #[U a1 c.base.length c1,U a2 c.Af.length c2,U a3 c.hooks.length c3,U a4 c.Aa.length c4,U a5 c.now.length c5] (U (some ⟨g,0,none⟩) c.base.length cap) c.base.length (fun j=>nth c.base j) w1:=by
  refine⟨Bg.trans (Bb.mono Bg.size),(Bb.block _ (by simp)).trans (Bp _ _),?_⟩;rw[<-HRB.out];rw[ZB]at hO;exact hO
 clear Bb hO hgb;go_loopg [6] l.length (fun gg i wr=>∃(k:Nat) (m:Nat->Int),k<=l.length/\gg=l.length - k/\i=.int J k/\Iw m ((l.zip c.Aa).drop k)=measure c l/\(∀j,-(60+16*k)<=m j/\m j<=60+16*k)/\MG w #[U a1 c.base.length c1,U a2 c.Af.length c2,U a3 c.hooks.length c3,U a4 c.Aa.length c4,U a5 c.now.length c5] (U (some ⟨g,0,none⟩) c.base.length cap) c.base.length m wr)
 case atStart=>exact⟨0,_,Zp _,rfl,rfl,rfl,fun j=>by have:=hbb j;omega,hM4⟩
 obtain⟨k,m,hk,rfl,rfl,CP,hbd,hM⟩:=hrel;have hf:=Zd CP;clear CP;by_cases Az:k<l.length
 .have Xm:k<c.Aa.length:=by omega
  have mr:=hb k Az;have hd:=Zd (SR (m:=m) Az Xm);obtain⟨b6,o6,rfl,Xj,xu⟩:=hl.at_ Az;obtain⟨b,o,s2,s3,rfl,UQ,ER,MM,LO,et,mi,hp,ho⟩:=h.Aa.at_ (i:=k) Xm;obtain⟨a7,c7,rfl,l7,m7⟩:=hp.val;clear ER MM et mi;have Xa:=hv.pull k Xm;have hpn:=hv.Ap k Xm;have Jm:=hv.few;obtain⟨n,Gc⟩:∃n,n=nth l k:=⟨_,rfl⟩;rw[<-Gc]at xu mr hd;clear Gc;obtain⟨ps,lP⟩:∃ps,ps=(Aj c.Aa k).Ap:=⟨_,rfl⟩;rw[<-lP]at LO hp l7 Xa hpn hd;clear lP;have TB:(k:Int)<(l.length:Int):=by omega
  have aym:(k:Int)<(c.Aa.length:Int):=by omega
  go_wp2;go_loopg [7] ps.length (fun gg i wx=>∃(j:Nat) (mm:Nat->Int),j<=ps.length/\gg=ps.length - j/\i=.int J j/\CZ mm n (ps.drop j)=CZ m n ps/\(∀i,-(60+16*(k:Int)+8*j)<=mm i/\mm i<=60+16*(k:Int)+8*j)/\MG w #[U a1 c.base.length c1,U a2 c.Af.length c2,U a3 c.hooks.length c3,U (some ⟨b,o,none⟩) c.Aa.length c4,U a5 c.now.length c5] (U (some ⟨g,0,none⟩) c.base.length cap) c.base.length mm wx)
  case atStart=>exact⟨0,m,Zp _,rfl,rfl,rfl,fun i=>by have:=hbd i;omega,hM⟩
  obtain⟨j,mm,hj,rfl,rfl,CP,eA,U6⟩:=hrel;have MK:=Zd CP;clear CP;have aq5:=(U6.below.cell (p:=⟨b,o+k*5+2,none⟩) (hS b UQ)).trans LO;have g3:=ch (i:=3) U6.box (v:=.slice (some ⟨b,o,none⟩) c.Aa.length c4) rfl;by_cases G4:j<ps.length
  .obtain⟨b7,o7,rfl,U3,p1,p2⟩:=hp.at_ G4
   rw[<-U6.below.cell (p:=⟨b7,o7+j*2,none⟩) (hS b7 U3)]at p1;rw[<-U6.below.cell (p:=⟨b7,o7+j*2+1,none⟩) (hS b7 U3)]at p2;have aiL:=(U6.below.cell (p:=⟨b6,o6+k,none⟩) (hS b6 Xj)).trans xu;have hpd:=Zd (PO (m:=mm) (n:=n) G4);obtain⟨Oo,MF,mC,mD⟩:=Xa j G4;obtain⟨q,hq⟩:∃q,q=BV ps j:=⟨_,rfl⟩;rw[<-hq]at p1 p2 hpd Oo MF mC mD;clear hq;obtain⟨x',y⟩:=q;obtain⟨x,rfl⟩:∃x:Nat,x'=x:=⟨x'.toNat,by simp only at Oo;omega⟩;dsimp only at p1 p2 Oo MF mC mD;have xy:x<c.base.length:=by omega
   have hxi:(x:Int)<(c.base.length:Int):=by omega
   have ayn:(0:Int)<=(x:Int):=by omega
   have ahJ:(0:Int)<=(k:Int):=by omega
   have LZ:(j:Int)<(ps.length:Int):=by omega
   have ayo:(0:Int)<=(j:Int):=by omega
   have hpr:=prod_bound ⟨mC,mD⟩ mr;have hmx:=eA x;have eB:=U6.later (bA (o:=.cells #[.int J x,.int J y] 107) (Zh _ _));go_wp2;obtain⟨W5,Jy⟩:∃W5,W5=wr.alloc (.cells #[.int J x,.int J y] 107):=⟨_,rfl⟩;have e0:W5.cell? ⟨wr.heap.size,0,none⟩=some (.int J x):=by rw[Jy];exact cn _ _ _ rfl
   have e1:W5.cell? ⟨wr.heap.size,1,none⟩=some (.int J y):=by rw[Jy];exact cn _ _ _ rfl
   have e6:W5.cell? ⟨b6,o6+k,none⟩=some (.int J n):=by rw[Jy];exact ca aiL _
   rw[<-Jy]at eB;obtain⟨hgb,cur,Xg,Ox⟩:=eB.row xy;have r0:W5.cell? ⟨g,x,none⟩=some (.int J (mm x)):=ch Xg Ox;have rf:=cf (i:=x) Xg;rw[<-Jy];clear Jy aiL p1 p2 g3 aq5;go_still_tail 17,(by kernel_rfl);change wpList _ _ _ _ _ W5.drew;have hM6:=(eB.later (Zh _ _).drew).set xy n y;go_wp2;go_roundg (ps.length - (j+1))
   case rel=>exact⟨j+1,K7 mm n ((x:Int),y),by omega,rfl,by go_num,by rw[<-MK.out,hpd.out],fun i=>by have:=MO (N:=60+16*(k:Int)+8*j) (p:=((x:Int),y)) eA ⟨mC,mD⟩ mr i;omega,hM6⟩
   omega
  have e2:mm=CZ m n ps:=by rw[<-MK.out,Z7.2 (by omega)];rfl
  subst e2;go_wp2;go_roundg (l.length - (k+1))
  case rel=>exact⟨k+1,_,by omega,rfl,by go_num,by rw[<-hf.out,hd.out],fun i=>by have:=eA i;have:(j:Int)<=2:=(by omega);omega,U6⟩
  omega
 have e1:m=measure c l:=by rw[<-hf.out,Z7.2 (by simp;omega)];rfl
 subst e1;have hs:=hM.own.si;rw[show Qr c.base.length (measure c l)=Cc c l from rfl]at hs;have Lc:=hM.below;go_wp2;go_ret;exact⟨_,rfl,Lc,Sl.imp hs (fun x (hx:Cb (w.heap.size+1) wr x)=>⟨by have:=hx.1;omega,hx.2⟩) (fun _ _ x=>x)⟩
def bU (h:Bl w A)(k:Bl A B):Bl w B:=h.trans (k.mono h.size)
def acZ (c:A_)(l:List Int):List Int:=if Eg c l=0 then AB (DS c l) else []
def ad8:AB 0=[]:=by decide
def c51 (h:RC S w v1 v2 v3 v4 v5 c)(hl:SI S w v6 l)(hS:∀b,S b->b<w.heap.size):
  Calls Lp 29 #[.agg #[v1,v2,v3,v4,v5],v6] w fun e w'=>∃v,e=.returned (.tuple #[v,.int J (Eg c l)])/\Bl w w'/\SI (Cb w.heap.size w') w' v (acZ c l):=by
 obtain⟨a1,c1,rfl,l1,m1⟩:=h.base.val;obtain⟨a2,c2,rfl,l2,m2⟩:=h.Af.val;obtain⟨a3,c3,rfl,l3,m3⟩:=h.hooks.val;obtain⟨a4,c4,rfl,l4,m4⟩:=h.Aa.val;obtain⟨a5,c5,rfl,l5,m5⟩:=h.now.val;obtain⟨a6,c6,rfl,l6,m6⟩:=hl.val;have IX:=DJ;have Bg:Bl w (w.alloc (.cells #[U a1 c.base.length c1,U a2 c.Af.length c2,U a3 c.hooks.length c3,U a4 c.Aa.length c4,U a5 c.now.length c5] 28)):=(Zh _ _).alloc (Zj _) _;have ahe:=Zd (fun W hB=>ao2 (w:=W) (h.later hB) (hl.later hB) (A3 hS hB));have key:∃t,t<8/\AB t=acZ c l/\∀(W:Zb) (hB:Bl w W),Calls Lp 64 #[.agg #[U a1 c.base.length c1,U a2 c.Af.length c2,U a3 c.hooks.length c3,U a4 c.Aa.length c4,U a5 c.now.length c5],U a6 l.length c6] W fun e w'=>∃(q1 q2 q3 q4 q5:Option Addr) (n1 n2 n3 n4 n5 d1 d2 d3 d4 d5 k0 k1 k2:Nat),e=.returned (.tuple #[.agg #[U q1 n1 d1,U q2 n2 d2,U q3 n3 d3,U q4 n4 d4,U q5 n5 d5,I .u8 k0,I .u8 k1,I .u8 k2],I .u8 t,.int J (Eg c l)])/\Bl W w':=by
  by_cases h0:Eg c l=0
  .obtain⟨ha0,_⟩:=Bj h0
   obtain⟨Jz,ER⟩:=Bj ha0;have hv:=EG Jz;have hn:l.length<=c.Aa.length:=by have:=(Fb ER).1;omega
   refine⟨DS c l,U9 (S3 hv.over) (by have:=hv.few;omega),by unfold acZ;rw[if_pos h0],fun W hB=>(ahe.out W hB).mono ?_⟩;rintro e w' ⟨g,t,rfl,Bb,hx,_⟩;obtain⟨rfl,rfl⟩:=hx h0;exact⟨_,_,_,_,_,_,_,_,_,_,_,_,_,_,_,_,_,_,rfl,Bb⟩
  refine⟨0,by omega,by unfold acZ;rw[if_neg h0,ad8],fun W hB=>(ahe.out W hB).mono ?_⟩;rintro e w' ⟨g,t,rfl,Bb,_,hx⟩;obtain⟨rfl,rfl⟩:=hx h0;exact⟨_,_,_,_,_,_,_,_,_,_,_,_,_,_,_,_,_,_,rfl,Bb⟩
 obtain⟨t,pK,cI,hK⟩:=key;have HK:=Zd hK;have HT:=Zd cI;obtain⟨E,hE⟩:∃E,E=Eg c l:=⟨_,rfl⟩;rw[<-hE]at HK⊢;clear hK cI hE;go_enter Lp.func51,n51;go_wp2_with (first|(go_at_call 64;refine(HK.out _ Bg).mono ?_;rintro e w1 ⟨q1,q2,q3,q4,q5,n1,n2,n3,n4,n5,d1,d2,d3,d4,d5,k0,k1,k2,rfl,Bb⟩;have Bv:=Bg.trans (Bb.mono Bg.size))|(go_at_call 65;refine(abf pK).mono ?_;rintro e w2 ⟨v,rfl,De,hv,_⟩;have Cj:=(bA Bv).trans (De.mono (bA Bv).size);obtain⟨a7,c7,rfl,l7,m7⟩:=hv.val));go_ret2;refine⟨_,rfl,Cj,?_⟩;rw[<-HT.out];exact Sl.imp hv (fun x (hx:Cb _ _ x)=>⟨by have h1:=hx.1;have h2:=Bv.size;simp at h1;omega,hx.2⟩) fun _ _ x=>x
def ac4 {fn:Func}{p u:Tmp}{ty:Zs}(h:fn.results= #[.cell p ty,.tmp u])(tmps:Array Zf)(P:Zo)(w:Zb):
  (results fn tmps).run P w=((asAddr (tmps.getD p Ze)).run P w).andThen fun a w₁=>((Zdd ty a).run P w₁).andThen fun v w₂=>.ok (.tuple #[v,tmps.getD u Ze]) w₂:=by
 simp only[results,h];simp[zg,zu]
def abv (h:∃a c,v=.slice a n c/\n<=c/\c<=maxLen):∃n a c,v=.slice a n c:=by
 obtain⟨a,c,e,_⟩:=h;exact⟨n,a,c,e⟩
def afa (w:Zb)(c:A_)(l:List Int)(e:Ending)(w':Zb):Prop:=∃(u1 u2 u3 u4 u5:Zf),e=.returned (.tuple #[.agg #[u1,u2,u3,u4,u5],.int J (Eg c l)])/\Bl w w'/\(Eg c l=0->RC (Cb w.heap.size w') w' u1 u2 u3 u4 u5 (FH c l (DS c l)))
def adz (w:Zb)(v1 v2 v3 v4 v5 a b c:Zf):Sem.run Lp (ZdO 62 (.agg #[v1,v2,v3,v4,v5,a,b,c]) 0) w=.ok (.agg #[v1,v2,v3,v4,v5]) w:=by
 rfl
def c59 (h:RC S w v1 v2 v3 v4 v5 c)(hl:SI S w v6 l)(hS:∀b,S b->b<w.heap.size)(mA:∀i,i<c.Aa.length->(Aj c.Aa i).over.length<=1000):
  Calls Lp 30 #[.agg #[v1,v2,v3,v4,v5],v6] w (afa w c l):=by
 obtain⟨a1,c1,rfl,l1,m1⟩:=h.base.val;obtain⟨a2,c2,rfl,l2,m2⟩:=h.Af.val;obtain⟨a3,c3,rfl,l3,m3⟩:=h.hooks.val;obtain⟨a4,c4,rfl,l4,m4⟩:=h.Aa.val;obtain⟨a5,c5,rfl,l5,m5⟩:=h.now.val;obtain⟨a6,c6,rfl,l6,m6⟩:=hl.val;have IX:=DJ;have Bg:Bl w ((w.alloc (.cells #[U a1 c.base.length c1,U a2 c.Af.length c2,U a3 c.hooks.length c3,U a4 c.Aa.length c4,U a5 c.now.length c5] 28)).alloc (.cells #[U none 0 0,U none 0 0,U none 0 0,U none 0 0,U none 0 0] 28)):=bA (bA (Zh _ _));by_cases h0:Eg c l=0
 .obtain⟨ha0,_⟩:=Bj h0
  obtain⟨Jz,ER⟩:=Bj ha0;have hv:=EG Jz;obtain⟨UO,_⟩:=Fb ER;have uz:=hv.uy;have hfw:=hv.few;have n8:=hv.Fp;have hea:=hv.PN;have hho:=hv.hooks;have bP:∀x,x∈AB (DS c l)->0<=x/\x<c.Aa.length:=MT hv (by omega);have pK:DS c l<8:=U9 (S3 hv.over) (by omega);have ahe:Hid (∀W,Bl w W->Calls Lp 64 #[.agg #[U a1 c.base.length c1,U a2 c.Af.length c2,U a3 c.hooks.length c3,U a4 c.Aa.length c4,U a5 c.now.length c5],U a6 l.length c6] W fun e w'=>e=.returned (.tuple #[.agg #[U a1 c.base.length c1,U a2 c.Af.length c2,U a3 c.hooks.length c3,U a4 c.Aa.length c4,U a5 c.now.length c5,I .u8 (Ax c.Aa 0),I .u8 (Ax c.Aa 1),I .u8 (Ax c.Aa 2)],I .u8 (DS c l),.int J 0])/\Bl W w'):=Zd fun W hB=>(ao2 (w:=W) (h.later hB) (hl.later hB) (A3 hS hB)).mono (by
   rintro e w' ⟨g,t,rfl,Bb,hx,_⟩;obtain⟨rfl,rfl⟩:=hx h0;rw[h0];exact⟨rfl,Bb⟩)
  have H92:=Zd (fun W (hB:Bl w W)=>c92 (w:=W) (l:=l) (t:=DS c l) (h.later hB) (hl.later hB) (A3 hS hB) pK bP (fun i hi=>by have:=hv.left i hi;omega) (by omega) (by omega) (by omega) (by omega) (by omega) (by omega) (fun i hi=>⟨by have:=hv.Ap i hi;omega,mA i hi⟩) (by omega) (Ax c.Aa 0) (Ax c.Aa 1) (Ax c.Aa 2));have HZ:=Zd h0;obtain⟨k0,kq⟩:∃x,x=Ax c.Aa 0:=⟨_,rfl⟩;obtain⟨k1,hk1⟩:∃x,x=Ax c.Aa 1:=⟨_,rfl⟩;obtain⟨k2,hk2⟩:∃x,x=Ax c.Aa 2:=⟨_,rfl⟩;rw[<-kq, <-hk1, <-hk2]at ahe H92;obtain⟨t,ht⟩:∃x,x=DS c l:=⟨_,rfl⟩;have HT:=Zd ht;rw[<-ht]at ahe H92;clear h0 ha0 Jz ER hv UO uz hfw n8 hea hho bP pK kq hk1 hk2 ht;go_enter Lp.func59,n59;go_wp2_with (first|(go_at_call 64;refine(ahe.out _ Bg).mono ?_;rintro e w1 ⟨rfl,Bb⟩;have Bv:=Bg.trans (Bb.mono Bg.size);obtain⟨Fl,DR⟩:=bw Bb;obtain⟨L6,xr⟩:=E7 Bb)|(go_at_call 63;refine(H92.out _ (bA Bv)).mono ?_;rintro e w2 ⟨u1,u2,u3,u4,u5,rfl,De,hRC⟩;obtain⟨n1,q1,d1,rfl⟩:=(abv hRC.base.val);obtain⟨n2,q2,d2,rfl⟩:=(abv hRC.Af.val);obtain⟨n3,q3,d3,rfl⟩:=(abv hRC.hooks.val);obtain⟨n4,q4,d4,rfl⟩:=(abv hRC.Aa.val);obtain⟨n5,q5,d5,rfl⟩:=(abv hRC.now.val);obtain⟨NP,MK⟩:=E7 De;have hz:=bI De;have Cj:=(bA Bv).trans (De.mono (bA Bv).size)));rw[adz];go_wp2_with (fail);refine ZN (v:=.tuple #[.agg #[U q1 n1 d1,U q2 n2 d2,U q3 n3 d3,U q4 n4 d4,U q5 n5 d5],.int J 0]) (by rw[ac4 rfl];go_simp) rfl ?_;have DM:=Cj;refine⟨U q1 n1 d1,U q2 n2 d2,U q3 n3 d3,U q4 n4 d4,U q5 n5 d5,by rw[HZ.out],?_,fun _=>?_⟩
  .repeat (with_reducible first|exact Cj|refine bA ?_|(refine bS ?_ (by omega))|refine bD ?_|refine bN ?_)
  rw[<-HT.out];rw[ZB]at hRC;have BL:∀b,Cb (w1.heap.size+1) w2 b->b≠w.heap.size+1:=fun b hb e=>by have:=hb.1;omega
  exact(hRC.Ar (ahl (ahl (ahl (ahl (ahl (CE.refl _ _) BL) BL) BL) BL) BL)).imp fun b hb=>⟨by have:=hb.1;omega,by simp only[World.size_setCell];exact hb.2⟩
 have ahe:Hid (∀W,Bl w W->Calls Lp 64 #[.agg #[U a1 c.base.length c1,U a2 c.Af.length c2,U a3 c.hooks.length c3,U a4 c.Aa.length c4,U a5 c.now.length c5],U a6 l.length c6] W fun e w'=>e=.returned (.tuple #[.agg #[U none 0 0,U none 0 0,U none 0 0,U none 0 0,U none 0 0,I .u8 0,I .u8 0,I .u8 0],I .u8 0,.int J (Eg c l)])/\Bl W w'):=Zd fun W hB=>(ao2 (w:=W) (h.later hB) (hl.later hB) (A3 hS hB)).mono (by
  rintro e w' ⟨g,t,rfl,Bb,_,hx⟩;obtain⟨rfl,rfl⟩:=hx h0;exact⟨rfl,Bb⟩)
 obtain⟨x,hx⟩:∃x,x=Eg c l:=⟨_,rfl⟩;rw[<-hx]at ahe h0;have HX:=Zd hx;clear hx;go_enter Lp.func59,n59;go_wp2_with (go_at_call 64;refine(ahe.out _ Bg).mono ?_;rintro e w1 ⟨rfl,Bb⟩;have Bv:=Bg.trans (Bb.mono Bg.size);obtain⟨Fl,DR⟩:=bw Bb;obtain⟨L6,xr⟩:=E7 Bb);refine ZN (v:=.tuple #[.agg #[U none 0 0,U none 0 0,U none 0 0,U none 0 0,U none 0 0],.int J x]) (by rw[ac4 rfl];go_simp) rfl ?_;refine⟨U none 0 0,U none 0 0,U none 0 0,U none 0 0,U none 0 0,by rw[HX.out],?_,fun y=>absurd (HX.out.trans y) h0⟩
 repeat (with_reducible first|exact Bv|refine bA ?_|(refine bS ?_ (by omega))|refine bD ?_|refine bN ?_)
attribute [local go_sem] Zdk
def Ev (c:A_)(l:List Int):Bool:=(JU c (DS c l)).isNone
def LU (c:A_):List (List Int):=(EH c).filter (Ev c)
def WV (h:l∈EH c):Tc c l:=Lf _ _ h
def Tn {e:Zs}{base:Nat}{xs:List Zf}(hB:Bl A B)(h:A.ownsRow base e k v n xs):B.ownsRow base e k v n xs:=CO (T:=fun _=>False) (Ak.later hB) (fun _ _ x=>x) h
variable {vals:List Zf}
def AQ.snoc {base m g' Ey ln cc:Nat}{ad:Option Addr}{pre:List (List Int)}{x:List Int}(hI:AQ w base pre A)(hw:w.heap.size<base)(FY:A.heap[w.heap.size]?=some (.cells #[v] 33 (0,0)))(Ci:A.ownsRow base 22 1 v pre.length vals)
 (DF:∀(i:Nat) (x:List Int),pre[i]?=some x->∃u,vals[i]?=some u/\SI (J1 3 base A) A u x) (hu:SI (J1 3 m A) A (U ad ln cc) x) (hm:base<=m) (S4:(A.alloc (.cells #[U ad ln cc] 22)).grownBy w1 v.ownBlock)
 (AX:w1.ownsRow base 22 1 (U (some ⟨g',0,none⟩) (pre.length+1) Ey) (pre.length+1) (vals++ [U ad ln cc])):
  AQ w base (pre++ [x]) (w1.setCell ⟨w.heap.size,0,none⟩ (U (some ⟨g',0,none⟩) (pre.length+1) Ey))/\Ak (fun k=>k=w.heap.size\/base<=k) A (w1.setCell ⟨w.heap.size,0,none⟩ (U (some ⟨g',0,none⟩) (pre.length+1) Ey)):=by
 have Em:∀k,v.ownBlock=some k->base<=k:=fun k hk=>(Ci.lt k hk).1;have hzA:=hI.size;have PZ:w1.heap[w.heap.size]?=some (.cells #[v] 33 (0,0)):=(S4.block _ (by simp;omega) (fun e=>by have:=Em _ e.symm;omega)).trans (Bf FY _);have DR:A.heap.size<w1.heap.size:=by have:=S4.size;simp at this;omega
 have Kd:Ak (fun k=>v.ownBlock=some k) A w1:=(Ak.later (bA (Zh _ _))).trans (Ak.grown S4 fun k hk=>hk);have D3:∀(T:Nat->Prop),T w.heap.size->Ak T w1 (w1.setCell ⟨w.heap.size,0,none⟩ (U (some ⟨g',0,none⟩) (pre.length+1) Ey)):=fun T h=>(Ak.refl _ _).set h;refine⟨⟨?_,?_,_,vals++ [U ad ln cc],Ba PZ _,?_,fun i y hy=>?_⟩,(Kd.mono fun k hk=>.inr (Em k hk)).trans (D3 _ (.inl rfl))⟩
 .exact(hI.below.trans (Kd.below (fun k hk=>by have:=Em k hk;omega) hI.below.size)).trans ((D3 (fun k=>k=w.heap.size) rfl).below (fun k hk=>by omega) (by omega))
 .have:=(D3 (fun k=>k=w.heap.size) rfl).size
  omega
 .rw[ZA]
  exact CO (D3 (fun k=>k=w.heap.size) rfl) (fun b h1 h2=>by omega) AX
 have key:∀u,SI (J1 3 base A) A u y->SI (J1 3 base (w1.setCell ⟨w.heap.size,0,none⟩ (U (some ⟨g',0,none⟩) (pre.length+1) Ey))) (w1.setCell ⟨w.heap.size,0,none⟩ (U (some ⟨g',0,none⟩) (pre.length+1) Ey)) u y:=fun u h=>by
  refine Dx (T:=fun k=>v.ownBlock=some k\/k=w.heap.size) ((Kd.mono fun k hk=>.inl hk).trans (D3 _ (.inr rfl))) (fun b hb h=>?_) h;rcases h with h|h
  .obtain⟨cs,hcs⟩:=hb.2
   rcases Ci.2 with⟨e,_⟩|⟨g,cap,cur,e,_,hg,_⟩
   .rw[e]at h;cases h
   rw[e]at h;cases h;rw[hg]at hcs;cases hcs
  have:=hb.1.1;omega
 by_cases Az:i<pre.length
 .rw[zl Az]at hy
  obtain⟨u,hu,hs⟩:=DF i y hy;exact⟨u,by rw[zl (Zm.1 hu).1];exact hu,key u hs⟩
 have aX:=(Zm.1 hy).1;rw[ZA,zb,zR]at aX;obtain rfl:i=pre.length:=by omega
 rw[Y1]at hy;cases hy;have uM:vals.length=pre.length:=by have:=Ci.1;omega
 refine⟨U ad ln cc,by rw[<-uM,Y1],key _ (Sl.imp hu (fun b hb=>⟨⟨?_,hb.1.2⟩,hb.2⟩) (fun _ _ x=>x))⟩;have:=hb.1.1;omega
def aiM (h:RC S w v1 v2 v3 v4 v5 c)(hS:∀b,S b->b<w.heap.size)(hv:Fq c):
  CallsIn ZbC 0 Lp 34 #[.agg (AW v1 v2 v3 v4 v5 (Ax c.Aa))] w fun e w'=>∃v,e=.returned v/\Bl w w'/\SL (Cb w.heap.size w') w' v (LU c):=by
 obtain⟨a1,c1,rfl,_⟩:=h.base.val;obtain⟨a2,c2,rfl,_⟩:=h.Af.val;obtain⟨a3,c3,rfl,_⟩:=h.hooks.val;obtain⟨a4,c4,rfl,_⟩:=h.Aa.val;obtain⟨a5,c5,rfl,_⟩:=h.now.val;have hfw:=hv.few;have HNW:=Zd hv.uy;have pT:=S3 hv.over;obtain⟨ab,DU⟩:∃ab,ab=Ax c.Aa:=⟨_,rfl⟩;have mG:=Zd DU;rw[<-DU]at pT⊢;clear DU;have hgs:(AW (U a1 c.base.length c1) (U a2 c.Af.length c2) (U a3 c.hooks.length c3) (U a4 c.Aa.length c4) (U a5 c.now.length c5) ab).size=8:=rfl;obtain⟨W1,NL⟩:∃W1,W1=w.alloc (.cells (AW (U a1 c.base.length c1) (U a2 c.Af.length c2) (U a3 c.hooks.length c3) (U a4 c.Aa.length c4) (U a5 c.now.length c5) ab) 62):=⟨_,rfl⟩;refine callsIn_of_wp_marks Lp.func128 rfl trivial ?_ rfl;show Code.wpIn _ _ _ _ _ {tmps:= #[.agg (AW (U a1 c.base.length c1) (U a2 c.Af.length c2) (U a3 c.hooks.length c3) (U a4 c.Aa.length c4) (U a5 c.now.length c5) ab)]++_,defers:=[]} _;unfold AW;simp only[aq4,Zbm,zb,zR,ZaF,Zcw,ZaN,ZaM,Zbn,Za4,zP,Za1]
 gi_wp2
 refine⟨trivial,rfl,(Zcx (n:=0).2 (ahC (AW (U a1 c.base.length c1) (U a2 c.Af.length c2) (U a3 c.hooks.length c3) (U a4 c.Aa.length c4) (U a5 c.now.length c5) ab) rfl (by simp[AW,YT]) _)).mono ?_⟩;rintro e V ⟨rfl,hV⟩;change V=((w.alloc (.cells (AW (U a1 c.base.length c1) (U a2 c.Af.length c2) (U a3 c.hooks.length c3) (U a4 c.Aa.length c4) (U a5 c.now.length c5) ab) 62)).alloc (.cells #[U none 0 0] 33)).alloc (.cells (AW (U a1 c.base.length c1) (U a2 c.Af.length c2) (U a3 c.hooks.length c3) (U a4 c.Aa.length c4) (U a5 c.now.length c5) ab) 62) at hV;rw[<-NL]at hV;have DR:W1.heap.size=w.heap.size+1:=by rw[NL];simp
 have hzV:V.heap.size=w.heap.size+3:=by rw[hV];simp;omega
 have Bg:Bl w W1:=by rw[NL];exact bA (Zh _ _)
 have acG:Bl W1 V:=by rw[hV];exact bA (bA (Zh _ _))
 have lD:W1.heap[w.heap.size]?=some (.cells (AW (U a1 c.base.length c1) (U a2 c.Af.length c2) (U a3 c.hooks.length c3) (U a4 c.Aa.length c4) (U a5 c.now.length c5) ab) 62 (0,0)):=by rw[NL];exact Bp _ _
 have Ia:V.heap[W1.heap.size]?=some (.cells #[U none 0 0] 33 (0,0)):=by rw[hV];exact Bf (Bp _ _) _
 have iz:V.heap[w.heap.size+1+1]?=some (.cells (AW (U a1 c.base.length c1) (U a2 c.Af.length c2) (U a3 c.hooks.length c3) (U a4 c.Aa.length c4) (U a5 c.now.length c5) ab) 62 (0,0)):=by rw[hV, <-DR,show W1.heap.size+1=(W1.alloc (.cells #[U none 0 0] 33)).heap.size by simp];exact Bp _ _
 have Ui:Bl w V:=Bg.trans (acG.mono Bg.size);have HS:=Zd (show∀W,Bl w W->RC S W (U a1 c.base.length c1) (U a2 c.Af.length c2) (U a3 c.hooks.length c3) (U a4 c.Aa.length c4) (U a5 c.now.length c5) c from fun W hB=>h.later hB);have eZ:=qv iz (HS.out V Ui) (fun b hb=>by have:=hS b hb;omega) (by omega) (fun i hi=>by have:=hv.step i hi;omega);clear hV;simp only[ZB];obtain⟨K,hK⟩:∃K:Nat->Prop,K=fun k=>S k\/k=w.heap.size+1+1:=⟨_,rfl⟩;have ju:∀k,K k->k<w.heap.size\/k=w.heap.size+1+1:=fun k h=>by
  rw[hK]at h;rcases h with h|rfl
  .exact .inl (hS k h)
  exact .inr rfl
 rw[<-hK]at eZ;clear hK;have hN:(EH c).length<=125:=by
  have:=H7 c.Aa (fun i hi=>by have:=hv.step i hi;omega);have h2:5^c.Aa.length<=5^3:=YX (by decide) (by omega);exact Zr this h2
 obtain⟨i0,hi,Fl,k9,EB⟩:=zp Hw;have hu:=Cz zW;have HZ:=Zd (show w.heap.size+1<=W1.heap.size/\W1.heap.size<=w.heap.size+1/\w.heap.size+3<=V.heap.size/\V.heap.size<=w.heap.size+3 by omega);have hE1:=Zd DR;clear NL DR hzV
 gi_wp2
 have kL:=HZ.out;refine Vm (gf:=54) (lb:= #[.pointer (some ⟨w.heap.size+1+1,0,none⟩)]) rfl (Go.Proofs.enters_of Lp.func153 (by kernel_rfl) rfl) eZ (Zj _) (fun k hk=>⟨by have:=ju k hk;omega,rfl⟩) (fun pre A=>AQ W1 (V.heap.size+6) (pre.filter (Ev c)) A) (fun A hA hs=>?_) (fun pre A B h hT=>h.CN (n:=V.heap.size) (by omega) rfl hT)
  (fun u=> {tmps:= #[.agg #[U a1 c.base.length c1,U a2 c.Af.length c2,U a3 c.hooks.length c3,U a4 c.Aa.length c4,U a5 c.now.length c5,I .u8 (ab 0),I .u8 (ab 1),I .u8 (ab 2)],.pointer (some ⟨w.heap.size,0,none⟩),U none 0 0,.pointer (some ⟨w.heap.size+1,0,none⟩),u,Ze,Ze,.agg #[U a1 c.base.length c1,U a2 c.Af.length c2,U a3 c.hooks.length c3,U a4 c.Aa.length c4,U a5 c.now.length c5,I .u8 (ab 0),I .u8 (ab 1),I .u8 (ab 2)],.func (.func 54) #[] #[.pointer (some ⟨w.heap.size+1+1,0,none⟩)],u,Ze,Ze,Ze,Ze,Ze,Ze,Ze,Ze,Ze,Ze,Ze,Ze,Ze],defers:=[]}) ?assign ?body ?done
 .exact⟨acG.trans (hA.mono acG.size),by omega,_,[],(hA.block _ (by omega)).trans Ia,zq _ _ _ _,fun i x hx=>by cases hx⟩
 case assign=>
  rintro l u W' K ⟨ad,n,cc,rfl⟩ hK
  gi_wp2
  exact hK
 case body=>
  intro l pre x u A0 A hI0 hT hz hlen iA;have hI:=hI0.CN (n:=V.heap.size) (by omega) rfl hT;obtain⟨v,vals,FY,Ci,DF⟩:=hI.box;obtain⟨ad,cc,rfl,lu,mu⟩:=iA.val;have hzA:V.heap.size+6<=A.heap.size:=hI.size;have hxm:x∈EH c:=hlen.subset (by simp);have aiN:=hlen.length_le;rw[ZA,zb,zR]at aiN;obtain⟨MF,_⟩:=WV hxm;have hBA:Bl w A:=Bg.trans (hI.below.mono Bg.size);have yp:A.heap[w.heap.size]?=some (.cells #[U a1 c.base.length c1,U a2 c.Af.length c2,U a3 c.hooks.length c3,U a4 c.Aa.length c4,U a5 c.now.length c5,I .u8 (ab 0),I .u8 (ab 1),I .u8 (ab 2)] 62 (0,0)):=(hI.below.block w.heap.size (by omega)).trans lD;have kL:=HZ.out;have HI:=Zd hI;have hxl:x.length<=c.now.length:=by have:=HNW.out;omega
  have M_:=c90 ((HS.out A hBA).imp (T:=fun b=>b<A.heap.size) fun b hb=>by have:=hS b hb;have:=hBA.size;show b<_;omega) (Sl.imp iA (T:=fun b=>b<A.heap.size) (fun b hb=>hb.1.2) fun _ _ x=>x) hxl (by have:=HNW.out;omega) (ab:=ab) pT (by rw[mG.out];exact MT hv (by omega)) fun b hb=>hb;have HCB:=Zd (show Ev c x=(JU c (Cx ab c.now x)).isNone by rw[mG.out];rfl);obtain⟨t,ht⟩:∃t,t=Cx ab c.now x:=⟨_,rfl⟩;rw[<-ht]at M_ HCB;clear ht;obtain⟨o,ho⟩:∃o,o=JU c t:=⟨_,rfl⟩;rw[<-ho]at M_ HCB;clear ho;have vw:=Zd ((Zcx (n:=0)).2 M_);have HX1:=Zd (ZY MF hxl);clear M_ hlen hxm MF hxl;have g0:=ch (i:=0) yp rfl;have g1:=ch (i:=1) yp rfl;have g2:=ch (i:=2) yp rfl;have g3:=ch (i:=3) yp rfl;have g4:=ch (i:=4) yp rfl;have g5:=ch (i:=5) yp rfl;have g6:=ch (i:=6) yp rfl;have g7:=ch (i:=7) yp rfl;cases o with
  |some i=>
   dsimp only[uv]at vw
   gi_wp2
   refine⟨trivial,rfl,vw.out.mono ?_⟩;rintro e w2 ⟨rfl,Bb⟩
   gi_wp2
   have Tq:pre.filter (Ev c)++ [x].filter (Ev c)=pre.filter (Ev c):=by rw[ZbB,HCB.out];simp
   rw[Tq];refine⟨?_,Ak.later Bb⟩;obtain⟨v,vals,b1,b2,b3⟩:=hI.box;exact⟨hI.below.trans (Bb.mono hI.below.size),by have:=Bb.size;omega,v,vals,(Bb.block _ (Za.1 b1).1).trans b1,Tn Bb b2,fun i y hy=>by
    obtain⟨u,h1,h2⟩:=b3 i y hy;exact⟨u,h1,Dx (T:=fun _=>False) (Ak.later Bb) (fun _ _ h=>h) h2⟩⟩
  |none=>
   dsimp only[uv]at vw
   gi_wp2
   refine⟨trivial,rfl,vw.out.mono ?_⟩;rintro e w2 ⟨rfl,Bb⟩;have mJ:AQ W1 (V.heap.size+6) (pre.filter (Ev c)) w2:=by
    obtain⟨v,vals,b1,b2,b3⟩:=hI.box;exact⟨hI.below.trans (Bb.mono hI.below.size),by have:=Bb.size;omega,v,vals,(Bb.block _ (Za.1 b1).1).trans b1,Tn Bb b2,fun i y hy=>by
     obtain⟨u,h1,h2⟩:=b3 i y hy;exact⟨u,h1,Dx (T:=fun _=>False) (Ak.later Bb) (fun _ _ h=>h) h2⟩⟩
   have Hb:SI (J1 3 A0.heap.size w2) w2 (U ad x.length cc) x:=Dx (T:=fun _=>False) (Ak.later Bb) (fun _ _ h=>h) iA;clear FY Ci DF;obtain⟨v,vals,FY,Ci,DF⟩:=mJ.box;have kb:=ch (i:=0) FY (v:=v) rfl;have fb:=cf (i:=0) FY;rw[hE1.out]at kb fb;have G9:=Zac (Ev c) pre;have Tq:pre.filter (Ev c)++ [x].filter (Ev c)=pre.filter (Ev c)++ [x]:=by rw[ZbB,HCB.out];simp
   gi_wp2_with (gi_at_builtin;refine wpListIn_append_own _ rfl _ _ 33 rfl (V.heap.size+6) 22 i0 (U none 0 0) 1 24 hu (Dz hi) Fl k9 EB rfl (by decide) _ _ _ rfl (Ci.alloc _) ⟨w2.heap.size,0,none⟩ 1 1 [U ad x.length cc] rfl rfl (cell_one_new _ _ _) (by simp[YT]) (by unfold maxLen;omega) (by omega) (by have:=Bb.size;simp;omega) ?_;intro v' w3 Bi AG Gc;obtain⟨g',Ey,rfl⟩:=Zay Bi;have S4:(w2.alloc (.cells #[U ad x.length cc] 22)).grownBy w3 v.ownBlock:=AG;have Em:∀k,v.ownBlock=some k->V.heap.size+6<=k:=fun k hk=>(Ci.lt k hk).1;have PZ:w3.heap[W1.heap.size]?=some (.cells #[v] 33 (0,0)):=(S4.block _ (by have:=Bb.size;simp;omega) (fun e=>by have:=Em _ e.symm;omega)).trans (Bf FY _);have kb1:=ch (i:=0) PZ (v:=v) rfl;have fb1:=cf (i:=0) PZ;rw[hE1.out]at kb1 fb1)
   obtain⟨q1,q2⟩:=AQ.snoc mJ (by omega) FY Ci DF Hb (by have:=hzA;omega) S4 Bi;rw[hE1.out]at q1 q2;exact⟨q1,(Ak.later Bb).trans (q2.mono fun k hk=>⟨by unfold Kp;omega,fun h=>by have:=ju k h;omega⟩)⟩
 intro A hI hD;obtain⟨v,vals,FY,Ci,DF⟩:=hI.box;have kb:=ch (i:=0) FY (v:=v) rfl;rw[hE1.out]at kb
 gi_wp2
 have hT:Ak (fun k=>k=V.heap.size) A (A.putObj V.heap.size (.deferred none)):=(Ak.refl _ _).put rfl;have aiO:=Bg.trans (hI.below.mono Bg.size);have hBA:Bl w (A.putObj V.heap.size (.deferred none)):=aiO.trans (hT.below (fun k hk=>by omega) aiO.size);have Ox:=CO hT (fun b h1 h2=>by omega) Ci;have gI:∀(i:Nat) (x:List Int),(LU c)[i]?=some x->∃u,vals[i]?=some u/\SI (Cb w.heap.size (A.putObj V.heap.size (.deferred none))) (A.putObj V.heap.size (.deferred none)) u x:=fun i x hx=>by
  obtain⟨u,h1,h2⟩:=DF i x hx;exact⟨u,h1,Sl.imp (Dx hT (fun b hb h=>by have:=hb.1.1;omega) h2) (fun b hb=>⟨by have:=hb.1.1;omega,hb.1.2⟩) (fun _ _ x=>x)⟩
 refine⟨by simp,.inl ⟨_,_,rfl,run_takeDeferred hD,?_⟩⟩;exact⟨_,results_tmp rfl _ _ _,_,rfl,hBA,WM (ls:=LU c) Ox (by omega) gI⟩
def bV {C:Zb}(h:Bl A B)(k:Bl B C):Bl A C:=h.trans (k.mono h.size)
def SL.imp {l:List (List Int)}(h:SL S w v l)(hs:∀b,S b->T b):SL T w v l:=Sl.imp h hs fun _ _ ⟨u,e,hl⟩=>⟨u,e,Sl.imp hl hs fun _ _ x=>x⟩
def lF (c:A_)(s:List (Int×Int)):List (List Int):=(LU c).filter fun l=>BZ c l s
variable {s:List (Int×Int)}
def c64 (h:RC S w v1 v2 v3 v4 v5 c)(hs:SP S w v6 s)(hS:∀b,S b->b<w.heap.size)(Jz:BN c=0)(ER:Fs c.base.length s=0):
  Calls Lp 28 #[.agg #[v1,v2,v3,v4,v5],v6] w fun e w'=>Bl w w'/\((∃a cc,e=.returned (.tuple #[U a (lF c s).length cc,.int J 0])/\SL (fun x=>S x\/Cb w.heap.size w' x) w' (U a (lF c s).length cc) (lF c s))\/∃x,e=.panicked x/\PX x w'):=by
 obtain⟨a1,c1,rfl,_⟩:=h.base.val;obtain⟨a2,c2,rfl,_⟩:=h.Af.val;obtain⟨a3,c3,rfl,_⟩:=h.hooks.val;obtain⟨a4,c4,rfl,_⟩:=h.Aa.val;obtain⟨a5,c5,rfl,_⟩:=h.now.val;obtain⟨a6,c6,rfl,_⟩:=hs.val;have hv:=EG Jz;have HSG:=Zd (Ha ER);have HS0:=Zd ER;have Bg:Bl w (w.alloc (.cells #[U a1 c.base.length c1,U a2 c.Af.length c2,U a3 c.hooks.length c3,U a4 c.Aa.length c4,U a5 c.now.length c5] 28)):=bA (Zh _ _);have ez:=Zd (fun W hB=>Wt (w:=W) (h.later hB) (A3 hS hB) Jz);have lE:=Zd (fun W (hB:Bl w W)=>(Zcx (n:=0)).1 (aiM (w:=W) (h.later hB) (A3 hS hB) hv));unfold AW at lE;have T8:=Zd (fun W (hB:Bl w W)=>abe (w:=W) (h.later hB) (hs.later hB) (A3 hS hB) (Ax c.Aa 0) (Ax c.Aa 1) (Ax c.Aa 2));rw[ER]at T8;clear ER;go_enter Lp.func64,n64;go_wp2_with (first|(go_at_call 20;refine(ez.out _ Bg).mono ?_;rintro e w1 ⟨rfl,Bb⟩;have Bv:=Bg.trans (Bb.mono Bg.size))|(go_at_call 22;refine(T8.out _ (bA Bv)).mono ?_;rintro e w2 ⟨rfl,De⟩));obtain⟨ab,DU⟩:∃ab,ab=Ax c.Aa:=⟨_,rfl⟩;have mG:=Zd DU;rw[<-DU]at lE⊢;rw[<-DU]at De;clear DU ez T8;obtain⟨V,hV⟩:∃V,V=w1.alloc (.cells #[U a1 c.base.length c1,U a2 c.Af.length c2,U a3 c.hooks.length c3,U a4 c.Aa.length c4,U a5 c.now.length c5,I .u8 (ab 0),I .u8 (ab 1),I .u8 (ab 2)] 62):=⟨_,rfl⟩;rw[<-hV]at De;have hXV:V.heap[w1.heap.size]?=some (.cells #[U a1 c.base.length c1,U a2 c.Af.length c2,U a3 c.hooks.length c3,U a4 c.Aa.length c4,U a5 c.now.length c5,I .u8 (ab 0),I .u8 (ab 1),I .u8 (ab 2)] 62 (0,0)):=by rw[hV];exact Bp _ _
 have Ui:Bl w V:=by rw[hV];exact bA Bv
 have Ia:=(De.block _ (Za.1 hXV).1).trans hXV;have aq7:=bV Ui De;clear hV;have k0:=ch (i:=0) Ia rfl;have k1:=ch (i:=1) Ia rfl;have k2:=ch (i:=2) Ia rfl;have k3:=ch (i:=3) Ia rfl;have k4:=ch (i:=4) Ia rfl;have k5:=ch (i:=5) Ia rfl;have k6:=ch (i:=6) Ia rfl;have k7:=ch (i:=7) Ia rfl;obtain⟨K,Ig⟩:∃K:Nat->Prop,K=fun _=>False:=⟨_,rfl⟩;have LP:¬K w1.heap.size:=by rw[Ig];exact fun x=>x
 clear Ig;have g0:=fun p:Tw K w2=>p.cell k0 LP;have g1:=fun p:Tw K w2=>p.cell k1 LP;have g2:=fun p:Tw K w2=>p.cell k2 LP;have g3:=fun p:Tw K w2=>p.cell k3 LP;have g4:=fun p:Tw K w2=>p.cell k4 LP;have g5:=fun p:Tw K w2=>p.cell k5 LP;have g6:=fun p:Tw K w2=>p.cell k6 LP;have g7:=fun p:Tw K w2=>p.cell k7 LP;clear k0 k1 k2 k3 k4 k5 k6 k7;go_wp2;refine B0 (S:=fun W=>∃p:Tw K w2,W=p.v) [] [(false,2),(false,4),(false,5),(false,6)] [0,1,3] (by kernel_rfl) (fun _ _ d _ _ h=>by cases d<;>exact h) (by kernel_rfl) (A5 (Ak.later (Zh _ _).drew)) ?_;refine A4 _ _ (by kernel_rfl) ?_;simp only[Z6,zd,ZG,ZD,ZC]
 repeat (first|go_big_quiet_step (fail)|quiet_step (fail))
 refine Z4 ?_;clear g0 g1 g2 g3 g4 g5 g6 g7;change Dl _ _ _ _ _ _ _;have Uh:Bl w2 w2.drew:=(Zh _ _).drew;have Un:=bV aq7 Uh;refine Dd (f:=34) rfl rfl (by go_simp) ((lE.out _ Un).mono ?_);rintro e W3 ⟨v3,rfl,Cj,Vr⟩;obtain⟨x3,y3,rfl,_⟩:=Vr.val;have rp:=bV Un Cj;refine⟨_,rfl,.inr (A5 (Ak.later (bV Uh Cj))),?_⟩;have hzd:=Un.size;have Rb:=rp.size;have hN:(LU c).length<=125:=by
  have h1:=Zac (Ev c) (EH c);have h0:=H7 c.Aa (fun i hi=>by have:=hv.step i hi;omega);have h2:5^c.Aa.length<=5^3:=YX (by decide) hv.few.2;exact Zr h1 (Zr h0 h2)
 have oh:∀i,i<(LU c).length->(BM (LU c) i).length<=c.Aa.length/\∀j,j<(BM (LU c) i).length->-2<=nth (BM (LU c) i) j/\nth (BM (LU c) i) j<=2:=fun i hi=>by
  have hm:BM (LU c) i∈EH c:=(List.mem_filter.1 (Z3 (BJ hi))).1;obtain⟨m1,m2⟩:=WV hm;refine⟨by omega,fun j hj=>?_⟩;have h1:=m2 j hj;have h2:=hv.step j (by omega);omega
 have aq8:=Zd (xO (S:=fun b=>S b\/Cb w.heap.size W3 b) ((h.later rp).imp fun b hb=>.inl hb) hv (Vr.imp fun b hb=>.inr ⟨by have:=hb.1;omega,hb.2⟩) (Sl.imp (hs.later rp) (fun b hb=>.inl hb) fun _ _ x=>x) oh (by have:=HSG.out.1;omega) HSG.out.2 (by omega) (fun b hb=>by rcases hb with hb|hb;have:=hS b hb;omega;exact hb.2) (ab 0) (ab 1) (ab 2));refine cE (f:=25) rfl rfl (by go_simp) (aq8.out.mono ?_);rintro e W4 ⟨DM,⟨v4,rfl,NK⟩|⟨x,rfl,Ss⟩⟩
 .obtain⟨x4,y4,rfl,_⟩:=Sl.val NK
  have fC:∃p:Tw K w2,W4=p.v:=A5 (Ak.later (bV (bV Uh Cj) DM));refine .inl ⟨_,rfl,.inr fC,?_⟩;refine Dw (v:=.slice x4 (lF c s).length y4) rfl rfl (by go_simp;rfl) (.inr fC) ?_;refine Dw (v:=.int J 0) rfl rfl (by go_simp) (.inr fC) ?_;unfold Dl
  go_simp
  go_wp2;go_ret2;exact⟨bV rp DM,.inl ⟨_,_,rfl,SL.imp NK fun b hb=>by
   rcases hb with(hb|hb)|hb
   .exact .inl hb
   .exact .inr ⟨hb.1,Zl hb.2 DM.size⟩
   exact .inr ⟨Zr Rb hb.1.1,hb.1.2⟩⟩⟩
 exact .inr ⟨x,rfl,rfl,bV rp DM,.inr ⟨_,rfl,Ss⟩⟩
def Ol (hM:H6 c)(hl:Tc c l)(hi:i<c.base.length): -108<=nth (Cc c l) i/\nth (Cc c l) i<=108:=by
 have e:nth (Cc c l) i=measure c l i:=by
  have:=MU (l:=l) hi;rw[Bn (by simp[Cc];exact hi)]at this;exact ZW this
 rw[e];exact Md hM.valid (by have:=hl.1;omega) (fun k hk=>by have:=hl.2 k hk;have:=(hM.seam k (by have:=hl.1;omega)).step;omega) i
def vA (hn:s.length=n)(h:∀p∈s,0<=p.1/\p.1<=p.2/\p.2<=99):Fs n s=0:=by
 unfold Fs;rw[if_neg (by omega),if_neg (by omega)];exact F5 fun p hp=>Tb (h p hp)
def aek (w:Zb)(b:Nat)(lv:Zf)(d n:Nat)(e:Ending)(w':Zb):Prop:=∃(a:Option Addr) (cc:Nat) (s:List (Int×Int)) (d':Nat),e=.returned (U a s.length cc)/\LW b lv w d' w'/\d'<=d+100/\SP (TT w.heap.size w') w' (U a s.length cc) s/\Fs n s=0
def ag8 {d:Nat}(h:RC S w v1 v2 v3 v4 v5 c)(hS:∀x,S x->x<w.heap.size/\x≠b)(hn:SI Sn w lv nums)(E8:∀x,Sn x->x<w.heap.size/\x≠b)(hL:BK w b lv d)(hd:d+1000<4611686018427387904)(hM:H6 c):
  Calls Lp 7 #[.pointer (some ⟨b,0,none⟩),.agg #[v1,v2,v3,v4,v5]] w (aek w b lv d c.base.length):=by
 obtain⟨a1,c1,rfl,_⟩:=h.base.val;obtain⟨a2,c2,rfl,_⟩:=h.Af.val;obtain⟨a3,c3,rfl,_⟩:=h.hooks.val;obtain⟨a4,c4,rfl,_⟩:=h.Aa.val;obtain⟨a5,c5,rfl,_⟩:=h.now.val;have IX:=DJ;have hfw:=hM.few;have n8:=hM.Fp;obtain⟨W1,NL⟩:∃W1,W1=w.alloc (.cells #[U a1 c.base.length c1,U a2 c.Af.length c2,U a3 c.hooks.length c3,U a4 c.Aa.length c4,U a5 c.now.length c5] 28):=⟨_,rfl⟩;have lD:W1.heap[w.heap.size]?=some (.cells #[U a1 c.base.length c1,U a2 c.Af.length c2,U a3 c.hooks.length c3,U a4 c.Aa.length c4,U a5 c.now.length c5] 28 (0,0)):=by rw[NL];exact Bp _ _
 have Bg:Bl w W1:=by rw[NL];exact bA (Zh _ _)
 have GK:=hL.lt;have DR:=Bg.size;obtain⟨q,hq⟩:∃q,q=w.heap.size:=⟨_,rfl⟩;have M9:q<=w.heap.size/\w.heap.size<=q:=by omega
 rw[<-hq]at lD;have T6:=(Za.1 lD).1;obtain⟨K,Ig⟩:∃K:Nat->Prop,K=fun x=>x=b:=⟨_,rfl⟩;have fh:K b:=by rw[Ig]
 have Tg:¬K q:=by rw[Ig];intro x;omega
 have LP:∀x,x≠b->¬K x:=fun x hx=>by rw[Ig];exact hx
 clear Ig;have k0:=ch (i:=0) lD rfl;have k1:=ch (i:=1) lD rfl;have k2:=ch (i:=2) lD rfl;have k3:=ch (i:=3) lD rfl;have k4:=ch (i:=4) lD rfl;have g0:=fun p:Tw K W1=>p.cell k0 Tg;have g1:=fun p:Tw K W1=>p.cell k1 Tg;have g2:=fun p:Tw K W1=>p.cell k2 Tg;have g3:=fun p:Tw K W1=>p.cell k3 Tg;have g4:=fun p:Tw K W1=>p.cell k4 Tg;clear k0 k1 k2 k3 k4;go_enter Lp.func38,n38;go_wp2;rw[<-NL, <-hq];clear NL hq;refine B0 (S:=fun W=>∃p:Tw K W1,W=p.v) [] [(false,3),(false,4),(false,5)] [0,1,2] (by kernel_rfl) (fun _ _ d _ _ h=>by cases d<;>exact h) (by kernel_rfl) (A5 (Ak.later (Zh _ _).drew)) ?_;refine A4 _ _ (by kernel_rfl) ?_;simp only[Z6,zd,ZG,ZD,ZC]
 repeat (first|go_big_quiet_step (fail)|quiet_step (fail))
 refine Z4 ?_;clear g0 g1 g2 g3 g4;change Dl _ _ _ _ _ _ _;have Uh:Bl W1 W1.drew:=(Zh _ _).drew;have Un:=bU Bg Uh;have hzd:=Uh.size;refine Dd (f:=18) rfl rfl (by go_simp) ((c30 ((h.later Un)) (fun x hx=>⟨by have:=hS x hx;omega,(hS x hx).2⟩) (hn.later Un) (fun x hx=>⟨by have:=E8 x hx;omega,(E8 x hx).2⟩) (hL.later Un) (by omega) (by omega) (fun i hi=>by have:=(hM.seam i hi).step;omega)).mono ?_);rintro e W3 ⟨v3,l,d3,rfl,H4,hL3,hd3,Qm,Xc,ig⟩;obtain⟨p3,t3,rfl,_⟩:=Qm.val;have Ba:Tc c l:=⟨Xc,fun i hi=>⟨(ig i (by omega)).1,(ig i (by omega)).2 (hM.seam i (by omega)).step.2.1⟩⟩;have acI:Ak K W1 W3:=(Ak.later Uh).trans (H4.CN fh);refine⟨_,rfl,.inr (A5 acI),?_⟩;have Rb:=H4.size;have O9:=((h.later Un).Ar (H4.same fun x hx=>(hS x hx).2)).imp (T:=fun x=>x<W3.heap.size) fun x hx=>by have:=hS x hx;show x<_;omega
 have aiT:=Zd Ba;refine Dd (f:=19) rfl rfl (by go_simp) ((c47 O9 hM.valid (Sl.imp Qm (T:=fun x=>x<W3.heap.size) (fun x hx=>hx.2) fun _ _ x=>x) (by omega) (fun i hi=>by have:=aiT.out.2 i hi;have:=(hM.seam i (by have:=aiT.out.1;omega)).step;omega) fun x hx=>hx).mono ?_);rintro e W4 ⟨u,rfl,De,hu⟩;have NN:(Cc c l).length=c.base.length:=by simp[Cc]
 have HGB:=Zd (fun i (hi:i<c.base.length)=>Ol hM Ba hi);obtain⟨G,hG⟩:∃G,G=Cc c l:=⟨_,rfl⟩;rw[<-hG]at hu NN HGB;clear hG;obtain⟨ga,gc,rfl,_⟩:=hu.val;rw[NN]at hu⊢;have HGL:=Zd NN;have hz4:=De.size;have fC:Ak K W1 W4:=acI.uJ De;refine⟨_,rfl,.inr (A5 fC),?_⟩;refine Dw (v:=.slice ga c.base.length gc) rfl rfl (by go_simp) (.inr (A5 fC)) ?_;have Ks:=(fC.block q T6 Tg).trans lD;have acJ:B3 b w W4:=((B3.refl b w).below Un).trans ((H4.below De));have hL4:=hL3.later De;have aqi:=GK;have HE:=Zd (show∀W,B3 b W4 W->SP S W (U a2 c.Af.length c2) c.Af from fun W hU=>Sl.Ar h.Af ((acJ.trans hU).same fun x hx=>(hS x hx).2) fun _ _ x=>x);have HGS:=Zd (show∀W,B3 b W4 W->SI (Cb W3.heap.size W4) W (U ga c.base.length gc) G from fun W hU=>hu.Ar (hU.same fun x hx e=>by have:=hx.1;omega));have tX:=hn.Ar (acJ.same fun x hx=>(E8 x hx).2);have rW:=Zd (fun W d lo hi hL hd h1 h2=>abV (w:=W4) (W:=W) (d:=d) (lo:=lo) (hi:=hi) tX (fun x hx=>⟨by have:=E8 x hx;omega,(E8 x hx).2⟩) hL hd h1 h2);have iG:=Zd (fun W d n hL hd h2=>abW (w:=W4) (W:=W) (d:=d) (n:=n) tX (fun x hx=>⟨by have:=E8 x hx;omega,(E8 x hx).2⟩) hL hd h2);have H99:=Zd (fun W d n hL hd h2=>abX (w:=W4) (W:=W) (d:=d) (n:=n) tX (fun x hx=>⟨by have:=E8 x hx;omega,(E8 x hx).2⟩) hL hd h2);have H98:=Zd (fun W d s hL hd h1 h2=>abY (w:=W4) (W:=W) (d:=d) (s:=s) tX (fun x hx=>⟨by have:=E8 x hx;omega,(E8 x hx).2⟩) hL hd h1 h2);unfold Dl;clear O9 acI H4 Uh Un hL3 hu NN ig Xc Ba Qm fC tX aqi
 go_simp
 go_wp2;obtain⟨i8i,i8h,i80,i81,i82⟩:=zp Wu;go_loopg [6,7] c.base.length (fun gg ov i wr=>∃(k dk:Nat) (oa:Option Addr) (oc:Nat) (s:List (Int×Int)),k<=c.base.length/\gg=c.base.length - k/\i=.int J k/\s.length=k/\ov=.slice oa k oc/\dk<=d3+5*k/\B3 b W4 wr/\BK wr b lv dk/\Ih wr W4.heap.size (U oa k oc) s 49/\∀p∈s,0<=p.1/\p.1<=p.2/\p.2<=99)
 case atStart=>exact⟨0,d3,none,0,[],Zp _,rfl,rfl,rfl,rfl,Zj _,B3.refl _ _,hL4,zq _ _ _ _,fun p hp=>by cases hp⟩
 obtain⟨k,dk,oa,oc,s,hk,rfl,rfl,hsk,rfl,jF,hU,oJ,AX,rU⟩:=hrel;have hXk:=hU.at_ Ks (by omega);have yu:=Zd hsk;clear hsk;have hzk:=hU.size;by_cases Az:k<c.base.length
 .have T5:k<c.Af.length:=by have:=hM.PN;omega
  have hkg:k<G.length:=by have:=HGL.out;omega
  obtain⟨b1,o1,ee,FD,tN⟩:=((HGS.out _ hU):SI _ _ _ _)|>fun h=>(by rw[<-HGL.out]at h;exact h.at_ hkg);subst ee;obtain⟨b2,o2,ee,EC,lW,jZ⟩:=(HE.out _ hU).at_ T5;subst ee;have hGk:=HGB.out k Az;have hEk:=hM.Af _ (Z3 (EE T5));obtain⟨gv,hgv⟩:∃gv,gv=nth G k:=⟨_,rfl⟩;obtain⟨el,hel⟩:∃el,el=(BV c.Af k).1:=⟨_,rfl⟩;obtain⟨em,hem⟩:∃em,em=(BV c.Af k).2:=⟨_,rfl⟩;rw[<-hgv]at tN hGk;rw[<-hel]at lW hEk;rw[<-hem]at jZ hEk;clear hgv hel hem;have hk1:(k:Int)<(c.base.length:Int):=by omega
  have hk2:(k:Int)<(c.Af.length:Int):=by omega
  have kq:(0:Int)<=(k:Int):=by omega
  have aqm:¬K b1:=LP b1 (by have:=FD.1;omega);have vB:¬K b2:=LP b2 (hS b2 EC).2;have r0:=fun p:Tw K wr=>p.cell (ch (i:=1) hXk (v:=.slice (some ⟨b2,o2,none⟩) c.Af.length c2) rfl) Tg;have r1:=fun p:Tw K wr=>p.cell tN aqm;have r2:=fun p:Tw K wr=>p.cell lW vB;have r3:=fun p:Tw K wr=>p.cell jZ vB;go_wp2;refine G7 (S:=fun W=>∃p:Tw K wr,W=p.v) 18 [] [(true,10),(false,13),(false,14),(false,15),(false,16),(false,17)] [0,1,2,3,4,5,6,7,8,9,11,12] (by kernel_rfl) (fun _ _ d _ _ h=>by cases d<;>exact h) (by kernel_rfl) (A5 (Ak.later (Zh _ _).drew)) ?_;refine A4 _ _ (by kernel_rfl) ?_;simp only[Z6,zd,ZG,ZD,ZC]
  repeat (first|go_big_quiet_step (fail)|quiet_step (fail))
  refine Z4 ?_;change H2 _ _ _ _ _ _ _ _;obtain⟨V0,tY⟩:∃V0,V0=wr.drew:=⟨_,rfl⟩;have mO:Bl wr V0:=by rw[tY];exact(Zh _ _).drew
  rw[<-tY];clear tY;have aW:Ak K wr V0:=Ak.later mO;have aiW:LW b lv W4 dk V0:=⟨hU.below mO,oJ.later mO⟩;obtain⟨lo,mK⟩:∃lo,lo=gv - em:=⟨_,rfl⟩;have aqn: -200<=lo/\lo<=200:=by omega
  have hw0:IntKind.i64.wrap (gv - em)=lo:=by rw[zE,mK];omega
  clear mK;refine Wz (v:=.int J lo) (A5 aW) rfl rfl (fun w _=>by go_simp) ?_;clear hw0;refine Iy (f:=6) rfl rfl (by go_simp) ((rW.out V0 dk (-3) 3 aiW (by omega) (by omega) (by omega)).mono ?_);rintro e V1 ⟨x1,d1,rfl,MF,Na,fq,hd1⟩;have Kd:=aW.trans (Na.CN fh);refine⟨_,rfl,.inr (A5 Kd),?_⟩;have WQ:=Kd.uJ (bA (o:=.cells #[.int J 0,.int J 0,.int J 0,.int J (-3+(x1:Int))] 3) (Zh _ _));refine EY (v:=.slice (some ⟨V1.heap.size,0,none⟩) 4 4) (w':=V1.alloc (.cells #[.int J 0,.int J 0,.int J 0,.int J (-3+(x1:Int))] 3)) rfl rfl (by go_simp) (.inr (A5 WQ)) ?_;refine Iy (f:=14) rfl rfl (by go_simp) ((H98.out V1 _ [0,0,0,-3+(x1:Int)] fq (by omega) (by simp) (by simp)).mono ?_);rintro e V2 ⟨x2,d2,rfl,mH,Ot,M7,hd2⟩;have D3:=WQ.trans (Ot.CN fh);refine⟨_,rfl,.inr (A5 D3),?_⟩;obtain⟨y,hy,hy2⟩:∃y,y=nth [0,0,0,-3+(x1:Int)] x2/\(-3<=y/\y<=3):=⟨_,rfl,by
   have:x2=0\/x2=1\/x2=2\/x2=3:=by simp at mH;omega
   rcases this with rfl|rfl|rfl|rfl<;>simp[nth]<;>omega⟩
  rw[<-hy];clear hy;obtain⟨l1,T2⟩:∃l1,l1=lo+y:=⟨_,rfl⟩;have ayI: -210<=l1/\l1<=210:=by omega
  have lX:IntKind.i64.wrap (lo+y)=l1:=by rw[zE,T2];omega
  clear T2;refine EY (v:=.int J l1) (w':=V2) rfl rfl (by go_simp) (.inr (A5 D3)) ?_;refine EY (v:=.int J l1) (w':=V2) rfl rfl (by go_simp) (.inr (A5 D3)) ?_;clear lX aqn hy2;unfold H2
  go_simp
  have Vn:Bl V1 (V1.alloc (.cells #[.int J 0,.int J 0,.int J 0,.int J (-3+(x1:Int))] 3)):=bA (Zh _ _);have vC:B3 b wr V2:=((((B3.refl b wr).below mO).trans Na).below Vn).trans Ot;have Cm:=D2 (Fu (D2 (Fu AX mO) Na (by omega:b<W4.heap.size)) Vn) Ot (by omega:b<W4.heap.size);have S5:=hU.trans vC;have ayJ:=vC.size;have z0:=fun p:Tw K V2=>p.cell (ch (i:=1) (vC.at_ hXk (by omega)) (v:=.slice (some ⟨b2,o2,none⟩) c.Af.length c2) rfl) Tg;have Ts:=vC.same (T:=fun x=>x≠b) (fun _ h=>h);have z2:=fun p:Tw K V2=>p.cell (Ts.cell (by exact(hS b2 EC).2) lW) vB;have z3:=fun p:Tw K V2=>p.cell (Ts.cell (by exact(hS b2 EC).2) jZ) vB;clear r0 r1 r2 r3 aW Kd WQ D3 Na Ot aiW fq AX mO Vn tN lW jZ oJ;go_wp2;refine G7 (S:=fun W=>∃p:Tw K V2,W=p.v) 18 [] [(true,14),(false,15),(false,16),(false,17)] [0,1,2,3,4,5,6,7,8,9,10,11,12,13] (by kernel_rfl) (fun _ _ d _ _ h=>by cases d<;>exact h) (by kernel_rfl) (A5 (Ak.later (Zh _ _).drew)) ?_;refine A4 _ _ (by kernel_rfl) ?_;simp only[Z6,zd,ZG,ZD,ZC]
  repeat (first|go_big_quiet_step (fail)|quiet_step (fail))
  refine Z4 ?_;change H2 _ _ _ _ _ _ _ _;clear z0 z2 z3;have ry:Bl V2 V2.drew:=(Zh _ _).drew;have D3:Ak K V2 V2.drew:=Ak.later ry;have aiX:=M7.below ry;obtain⟨ed,hed⟩:∃ed,ed=em - el:=⟨_,rfl⟩;have ayK:0<=ed/\ed<=10:=by omega
  have hw0:IntKind.i64.wrap (em - el)=ed:=by rw[zE,hed];omega
  clear hed;refine Wz (v:=.int J ed) (A5 D3) rfl rfl (fun w _=>by go_simp) ?_;clear hw0;refine Iy (f:=13) rfl rfl (by go_simp) ((iG.out _ d2 ed aiX (by omega) (by omega)).mono ?_);rintro e V3 ⟨x3,d4,rfl,U4,H4,k_,hd4⟩;have Ou:=D3.trans (H4.CN fh);refine⟨_,rfl,.inr (A5 Ou),?_⟩;obtain⟨h1,hh1⟩:∃h1,h1=l1+(x3:Int):=⟨_,rfl⟩;have ayL:l1<=h1/\h1<=300:=by omega
  have lX:IntKind.i64.wrap (l1+(x3:Int))=h1:=by rw[zE,hh1];omega
  clear hh1;refine EY (v:=.int J h1) (w':=V3) rfl rfl (by go_simp) (.inr (A5 Ou)) ?_;refine EY (v:=.int J h1) (w':=V3) rfl rfl (by go_simp) (.inr (A5 Ou)) ?_;clear lX;unfold H2
  go_simp
  have aiY:=((B3.refl b V2).below ry).trans H4;have aiZ:=D2 (Fu Cm ry) H4 (by omega:b<W4.heap.size);have cN:=S5.trans aiY;have ayM:=aiY.size;clear D3 Ou H4 Cm ry aiX M7;go_wp2;refine(H99.out _ d4 8 k_ (by omega) (by omega)).mono ?_;rintro e V4 ⟨rb,d5,rfl,Xp,ld,hd5⟩;have rz:=D2 aiZ Xp (by omega:b<W4.heap.size);have hU7:=cN.trans Xp;have ayN:=Xp.size;have M8:k<=3:=by omega
  have rA:V4.ownsRow W4.heap.size 49 2 (U oa k oc) k (s.flatMap fun p=> [ZL J p.1,.int J p.2]):=by have:=rz;unfold Ih at this;rwa[yu.out]at this
  have hw9:IntKind.i64.wrap (h1+1)=h1+1:=by rw[zE];omega
  cases rb with
  |false=>
   go_wp2_with (at_builtin;refine Yc _ rfl _ _ 25 rfl W4.heap.size 49 i8i (.agg #[.int J 0,.int J 0]) 2 16 (Cz Zdg) (Dz i8h) i80 i81 i82 rfl (by decide) (U oa k oc) k (s.flatMap fun p=> [ZL J p.1,.int J p.2]) rfl (Ya rA _) ⟨V4.heap.size,0,none⟩ 1 1 [.int J (max 0 (min l1 99)),.int J (max 0 (min h1 99))] rfl rfl (Hc _ _ _) (by intro u hu;simp at hu;rcases hu with rfl|rfl<;>rfl) (by unfold maxLen;omega) (by omega) (by simp;omega) ?_;intro v9 w9 hv9 r_ acM);have Em:=J3 rz;have pY:B3 b W4 w9:=(hU7.below (bA (Zh _ _))).grown r_ fun x hx=>(Em x hx).1;have hL9:BK w9 b lv d5:=(ld.alloc _).E4.of (r_.block b (ld.alloc _).E4.lt (fun e=>by have:=(Em b e.symm).1;omega));have hO9:Ih w9 W4.heap.size v9 (s++ [(max 0 (min l1 99),max 0 (min h1 99))]) 49:=by unfold Ih;rw[ZA,yu.out,Zbe];exact hv9
   have hpq:0<=max 0 (min l1 99)/\max 0 (min l1 99)<=max 0 (min h1 99)/\max 0 (min h1 99)<=99:=by omega
   obtain⟨g9,aqo,rfl⟩:=Zay hv9;have Qs:=Zd (ZY pY (ZY hL9 (ZY hO9 hpq)));clear pY hL9 hO9 hpq hv9 r_ acM Em;go_roundg (c.base.length - (k+1))
   case rel=>exact⟨k+1,d5,_,_,s++ [(max 0 (min l1 99),max 0 (min h1 99))],Az,rfl,by go_num,by rw[ZA,yu.out];rfl,rfl,by omega,Qs.out.1,Qs.out.2.1,Qs.out.2.2.1,fun p hp=>by rcases Zab.1 hp with h|h;exact rU p h;rw[Yh.1 h];exact Qs.out.2.2.2⟩
   case measure=>omega
  |true=>
   go_wp2_with (at_builtin;refine Yc _ rfl _ _ 25 rfl W4.heap.size 49 i8i (.agg #[.int J 0,.int J 0]) 2 16 (Cz Zdg) (Dz i8h) i80 i81 i82 rfl (by decide) (U oa k oc) k (s.flatMap fun p=> [ZL J p.1,.int J p.2]) rfl (Ya rA _) ⟨V4.heap.size,0,none⟩ 1 1 [.int J (max 0 (min l1 99)),.int J (max 0 (min (h1+1) 99))] rfl rfl (Hc _ _ _) (by intro u hu;simp at hu;rcases hu with rfl|rfl<;>rfl) (by unfold maxLen;omega) (by omega) (by simp;omega) ?_;intro v9 w9 hv9 r_ acM);have Em:=J3 rz;have pY:B3 b W4 w9:=(hU7.below (bA (Zh _ _))).grown r_ fun x hx=>(Em x hx).1;have hL9:BK w9 b lv d5:=(ld.alloc _).E4.of (r_.block b (ld.alloc _).E4.lt (fun e=>by have:=(Em b e.symm).1;omega));have hO9:Ih w9 W4.heap.size v9 (s++ [(max 0 (min l1 99),max 0 (min (h1+1) 99))]) 49:=by unfold Ih;rw[ZA,yu.out,Zbe];exact hv9
   have hpq:0<=max 0 (min l1 99)/\max 0 (min l1 99)<=max 0 (min (h1+1) 99)/\max 0 (min (h1+1) 99)<=99:=by omega
   obtain⟨g9,aqo,rfl⟩:=Zay hv9;have Qs:=Zd (ZY pY (ZY hL9 (ZY hO9 hpq)));clear pY hL9 hO9 hpq hv9 r_ acM Em;go_roundg (c.base.length - (k+1))
   case rel=>exact⟨k+1,d5,_,_,s++ [(max 0 (min l1 99),max 0 (min (h1+1) 99))],Az,rfl,by go_num,by rw[ZA,yu.out];rfl,rfl,by omega,Qs.out.1,Qs.out.2.1,Qs.out.2.2.1,fun p hp=>by rcases Zab.1 hp with h|h;exact rU p h;rw[Yh.1 h];exact Qs.out.2.2.2⟩
   omega
 have hkn:k=c.base.length:=by omega
 subst hkn;have Jv:SP (TT w.heap.size wr) wr (U oa c.base.length oc) s:=Sl.imp (AX.tt (.inr (.inr rfl))) (fun x hx=>hx.mono (by omega)) fun _ _ x=>x;have HF:=Zd (show aek w b lv d c.base.length (.returned (U oa c.base.length oc)) wr from⟨oa,oc,s,dk,by rw[yu.out],⟨acJ.trans hU,oJ⟩,by omega,by rw[yu.out];exact Jv,vA yu.out rU⟩);clear Jv AX rU hU oJ hXk;go_wp2;go_ret;exact HF.out
def abd (a b:List Int)(r:Int)(i:Nat):Int:=r+max (nth a i - nth b i) (nth b i - nth a i)
def abI (a b:List Int):Int:=(Yr a.length).foldl (abd a b) 0
variable {α:Type}
def ad0 {f:α->Nat->α}{r:α}(h:k<n):((Yr n).drop k).foldl f r=((Yr n).drop (k+1)).foldl f (f r k):=by
 rw[ZO (by simpa using h)];simp
def adq {f:α->Nat->α}{r:α}(h:n<=k):((Yr n).drop k).foldl f r=r:=by
 rw[Z7.2 (by simpa using h)]
 rfl
def abS {a b:List Int}(ha:∀i,i<a.length->-2<=nth a i/\nth a i<=2)(hb:∀i,i<a.length->-2<=nth b i/\nth b i<=2):∀(k:Nat),k<=a.length->0<=((Yr a.length).take k).foldl (abd a b) 0/\((Yr a.length).take k).foldl (abd a b) 0<=4*k
 |0,_=>⟨Int.le_refl _,Int.le_refl _⟩
 |k+1,h=>by
  obtain⟨h1,h2⟩:=abS ha hb k (Zbb h);have e:((Yr a.length).take (k+1)).foldl (abd a b) 0=abd a b (((Yr a.length).take k).foldl (abd a b) 0) k:=by
   rw[ZbH,List.foldl_append,List.getElem?_range (by omega)]
   rfl
  rw[e];have h3:=ha k (by omega);have h4:=hb k (by omega);generalize ((Yr a.length).take k).foldl (abd a b) 0=x at h1 h2⊢;change 0<=x+max (nth a k - nth b k) (nth b k - nth a k)/\x+max (nth a k - nth b k) (nth b k - nth a k)<=4*((k+1:Nat):Int);constructor<;>omega
def adA {a b:List Int}(ha:∀i,i<a.length->-2<=nth a i/\nth a i<=2)(hb:∀i,i<a.length->-2<=nth b i/\nth b i<=2):0<=abI a b/\abI a b<=4*a.length:=by
 have:=abS ha hb a.length (Zj _);rw[Zb3 (by simp)]at this;exact this
def abj (c:A_)(l:List Int):Nat×Int:=((AB (DS c l)).length,abI l c.now)
def abb (x y:Nat×Int):Bool:=decide (x.1<y.1)||(decide (x.1=y.1)&&decide (x.2<y.2))
def ad9 (c:A_)(o:Option (List Int))(l:List Int):Option (List Int):=
 match o with
 |none=>some l
 |some b=>if abb (abj c l) (abj c b)=true then some l else some b
def abo (c:A_)(F:List (List Int)):Option (List Int):=F.foldl (ad9 c) none
def adB (c:A_)(F:List (List Int))(l:List Int):abo c (F++ [l])=ad9 c (abo c F) l:=by
 unfold abo;rw[List.foldl_append]
 rfl
def adC (c:A_){F:List (List Int)}(h:k<F.length):abo c (F.take (k+1))=ad9 c (abo c (F.take k)) (BM F k):=by
 rw[ZbH,BJ h];exact adB c _ _
variable {p1 p2:Option Addr}
def ag9 (a b:Nat)(x y:Int)(w:Zb):Calls Lp 33 #[.agg #[U p1 n1 k1,.int J a,.int J x],.agg #[U p2 n2 k2,.int J b,.int J y]] w fun e w'=>e=.returned (.bool (abb (a,x) (b,y)))/\Bl w w':=by
 have HB:=Zd (show Bl w ((w.alloc (.cells #[U p1 n1 k1,.int J a,.int J x] 90)).alloc (.cells #[U p2 n2 k2,.int J b,.int J y] 90)) from bA (bA (Zh _ _)));have FD:b<0+b+1:=by omega
 by_cases h1:a<b
 .have h1i:(a:Int)<(b:Int):=by omega
  have HL:=Zd (show abb (a,x) (b,y)=true by simp[abb,h1]);clear h1 FD;go_enter Lp.func137,adP;go_wp2;go_ret;exact⟨by rw[HL.out];rfl,HB.out⟩
 have h1i:¬(a:Int)<(b:Int):=by omega
 by_cases h2:a=b
 .subst h2
  by_cases h3:x<y
  .have HL:=Zd (show abb (a,x) (a,y)=true by simp[abb,h3])
   clear h1 FD;go_enter Lp.func137,adP;go_wp2;go_ret;exact⟨by rw[HL.out];rfl,HB.out⟩
  have HL:=Zd (show abb (a,x) (a,y)=false by simp[abb,h3]);clear h1 FD;go_enter Lp.func137,adP;go_wp2;go_ret;exact⟨by rw[HL.out];rfl,HB.out⟩
 have h2i:((a:Int)==(b:Int))=false:=by simp;omega
 have HL:=Zd (show abb (a,x) (b,y)=false by simp[abb,h1,h2]);clear h1 h2 FD;go_enter Lp.func137,adP;go_wp2;go_ret;exact⟨by rw[HL.out];rfl,HB.out⟩
abbrev ad1 (lv:Zf)(m:Nat)(t:Int)(sm:Bool):Array Zf:= #[.func (.func 33) #[] #[],lv,.int J m,.int J t,.bool sm]
def aga {q:Nat}{a:Nat}{x y:Int}{sm:Bool}(hX:w.heap[q]?=some (.cells (ad1 (U p2 n2 k2) b y sm) 93 (0,0))):
  Calls Lp 35 #[.pointer (some ⟨q,0,none⟩),.agg #[U p1 n1 k1,.int J a,.int J x]] w fun e w'=>e=.returned (.tuple #[])/\Ak (fun x=>x=q) w w'/\
   w'.heap[q]?=some (.cells (if(!sm||abb (a,x) (b,y))=true then ad1 (U p1 n1 k1) a x true else ad1 (U p2 n2 k2) b y sm) 93 (0,0)):=by
 have IX:=DJ;obtain⟨V,hV⟩:∃V,V=w.alloc (.cells #[U p1 n1 k1,.int J a,.int J x] 90):=⟨_,rfl⟩;have Ui:Bl w V:=by rw[hV];exact bA (Zh _ _)
 have hqw:=(Za.1 hX).1;have hXV:=(Ui.block _ hqw).trans hX;have hZV:V.heap[w.heap.size]?=some (.cells #[U p1 n1 k1,.int J a,.int J x] 90 (0,0)):=by rw[hV];exact Bp _ _
 have aeF:=Zd (fun W=>ag9 (p1:=p1) (p2:=p2) (n1:=n1) (n2:=n2) (k1:=k1) (k2:=k2) a b x y W);obtain⟨L,hL⟩:∃L,L=abb (a,x) (b,y):=⟨_,rfl⟩;rw[<-hL]at aeF⊢;clear hL;go_enter Lp.func138,afX;go_wp2;rw[<-hV];clear hV;obtain⟨z,hz⟩:∃z,z=w.heap.size:=⟨_,rfl⟩;rw[<-hz]at hZV⊢;have HZ:=Zd hz;clear hz;have z0:=fun p=>Al p (ch (i:=0) hXV (v:=.func (.func 33) #[] #[]) rfl);have z1:=fun p=>Al p (ch (i:=1) hXV (v:=.slice p2 n2 k2) rfl);have z2:=fun p=>Al p (ch (i:=2) hXV (v:=.int J b) rfl);have z3:=fun p=>Al p (ch (i:=3) hXV (v:=.int J y) rfl);have z4:=fun p=>Al p (ch (i:=4) hXV (v:=.bool sm) rfl);have y0:=fun p=>Al p (ch (i:=0) hZV (v:=.slice p1 n1 k1) rfl);have y1:=fun p=>Al p (ch (i:=1) hZV (v:=.int J a) rfl);have y2:=fun p=>Al p (ch (i:=2) hZV (v:=.int J x) rfl);cases sm with
 |false=>
  go_wp2;refine Av (by kernel_rfl) (by kernel_rfl) ?_
  repeat (first|go_big_quiet_step (fail)|quiet_step (fail))
  refine Z4 ?_;rintro _ ⟨p,rfl⟩;have yw:=AE V p;obtain⟨Y,hY⟩:∃Y,Y=calm V p:=⟨_,rfl⟩;rw[<-hY]at yw⊢;clear hY z0 z1 z2 z3 z4 y0 y1 y2;have hXY:=(yw.block _ (Za.1 hXV).1).trans hXV;have hZY:=(yw.block _ (Za.1 hZV).1).trans hZV;have y0:=ch (i:=0) hZY (v:=.slice p1 n1 k1) rfl;have y1:=ch (i:=1) hZY (v:=.int J a) rfl;have y2:=ch (i:=2) hZY (v:=.int J x) rfl;have x1:=ch (i:=1) hXY (v:=.slice p2 n2 k2) rfl;have x2:=ch (i:=2) hXY (v:=.int J b) rfl;have x3:=ch (i:=3) hXY (v:=.int J y) rfl;have x4:=ch (i:=4) hXY (v:=.bool false) rfl;have f1:=cf (i:=1) hXY;have f2:=cf (i:=2) hXY;have f3:=cf (i:=3) hXY;have f4:=cf (i:=4) hXY;go_wp2;refine bodyPost_end (results_none rfl _ _ _) rfl ?_;have hT:Ak (fun x=>x=q) w Y:=(Ak.later Ui).uJ yw;exact⟨rfl,(((hT.set rfl).set rfl).set rfl).set rfl,Ba (i:=4) (Ba (i:=3) (Ba (i:=2) (Ba (i:=1) hXY (U p1 n1 k1)) (.int J a)) (.int J x)) (.bool true)⟩
 |true=>
  go_wp2;refine Av (by kernel_rfl) (by kernel_rfl) ?_
  repeat (first|go_big_quiet_step ((go_at_call 33;exact AV (aeF.out _)))|quiet_step ((go_at_call 33;exact AV (aeF.out _))))
  refine Z4 ?_;rintro _ ⟨p,rfl⟩;have yw:=AE V p;obtain⟨Y,hY⟩:∃Y,Y=calm V p:=⟨_,rfl⟩;rw[<-hY]at yw⊢;clear hY z0 z1 z2 z3 z4 y0 y1 y2;have hXY:=(yw.block _ (Za.1 hXV).1).trans hXV;have hZY:=(yw.block _ (Za.1 hZV).1).trans hZV;have y0:=ch (i:=0) hZY (v:=.slice p1 n1 k1) rfl;have y1:=ch (i:=1) hZY (v:=.int J a) rfl;have y2:=ch (i:=2) hZY (v:=.int J x) rfl;have x1:=ch (i:=1) hXY (v:=.slice p2 n2 k2) rfl;have x2:=ch (i:=2) hXY (v:=.int J b) rfl;have x3:=ch (i:=3) hXY (v:=.int J y) rfl;have x4:=ch (i:=4) hXY (v:=.bool true) rfl;have f1:=cf (i:=1) hXY;have f2:=cf (i:=2) hXY;have f3:=cf (i:=3) hXY;have f4:=cf (i:=4) hXY;cases L with
  |true=>
   go_wp2;refine bodyPost_end (results_none rfl _ _ _) rfl ?_;have hT:Ak (fun x=>x=q) w Y:=(Ak.later Ui).uJ yw;exact⟨rfl,(((hT.set rfl).set rfl).set rfl).set rfl,Ba (i:=4) (Ba (i:=3) (Ba (i:=2) (Ba (i:=1) hXY (U p1 n1 k1)) (.int J a)) (.int J x)) (.bool true)⟩
  |false=>
   go_wp2;refine bodyPost_end (results_none rfl _ _ _) rfl ?_;exact⟨rfl,(Ak.later Ui).uJ yw,hXY⟩
def afb (c:A_)(v:Zf):Option (List Int)->Zf
 |none=>.tuple #[U none 0 0,.int J 0,.int J 11]
 |some l=>.tuple #[v,.int J (AB (DS c l)).length,.int J 0]
def adD (S:Nat->Prop)(W:Zb)(q:Nat)(c:A_)(o:Option (List Int)):Prop:=
 ∃(p:Option Addr) (n k m:Nat) (t:Int),W.heap[q]?=some (.cells (ad1 (U p n k) m t o.isSome) 93 (0,0))/\∀l,o=some l->n=l.length/\SI S W (U p n k) l/\(m,t)=abj c l
def c77 (h:RC S w v1 v2 v3 v4 v5 c)(hs:SP S w v6 s)(hS:∀b,S b->b<w.heap.size)(Jz:BN c=0)(ER:Fs c.base.length s=0):
  Calls Lp 11 #[.agg #[v1,v2,v3,v4,v5],v6] w fun e w'=>Bl w w'/\((∃v,e=.returned (afb c v (abo c (lF c s)))/\∀l,abo c (lF c s)=some l->∃a k,v=.slice a l.length k/\SI (fun x=>S x\/Cb w.heap.size w' x) w' v l)\/∃x,e=.panicked x/\PX x w'):=by
 obtain⟨a1,c1,rfl,_⟩:=h.base.val;obtain⟨a2,c2,rfl,_⟩:=h.Af.val;obtain⟨a3,c3,rfl,_⟩:=h.hooks.val;obtain⟨a4,c4,rfl,_⟩:=h.Aa.val;obtain⟨a5,c5,rfl,_⟩:=h.now.val;obtain⟨a6,c6,rfl,_⟩:=hs.val;have IX:=DJ;have hv:=EG Jz;have HSG:=Zd (Ha ER);have Bg:Bl w (w.alloc (.cells #[U a1 c.base.length c1,U a2 c.Af.length c2,U a3 c.hooks.length c3,U a4 c.Aa.length c4,U a5 c.now.length c5] 28)):=bA (Zh _ _);have ez:=Zd (fun W hB=>Wt (w:=W) (h.later hB) (A3 hS hB) Jz);have lE:=Zd (fun W (hB:Bl w W)=>(Zcx (n:=0)).1 (aiM (w:=W) (h.later hB) (A3 hS hB) hv));unfold AW at lE;have T8:=Zd (fun W (hB:Bl w W)=>abe (w:=W) (h.later hB) (hs.later hB) (A3 hS hB) (Ax c.Aa 0) (Ax c.Aa 1) (Ax c.Aa 2));rw[ER]at T8;clear ER;go_enter Lp.func77,n77;go_wp2_with (first|(go_at_call 20;refine(ez.out _ Bg).mono ?_;rintro e w1 ⟨rfl,Bb⟩;have Bv:=Bg.trans (Bb.mono Bg.size))|(go_at_call 22;refine(T8.out _ (bA Bv)).mono ?_;rintro e w2 ⟨rfl,De⟩));obtain⟨ab,DU⟩:∃ab,ab=Ax c.Aa:=⟨_,rfl⟩;have mG:=Zd DU;rw[<-DU]at lE⊢;rw[<-DU]at De;clear DU ez T8;obtain⟨V,hV⟩:∃V,V=w1.alloc (.cells #[U a1 c.base.length c1,U a2 c.Af.length c2,U a3 c.hooks.length c3,U a4 c.Aa.length c4,U a5 c.now.length c5,I .u8 (ab 0),I .u8 (ab 1),I .u8 (ab 2)] 62):=⟨_,rfl⟩;rw[<-hV]at De;have hXV:V.heap[w1.heap.size]?=some (.cells #[U a1 c.base.length c1,U a2 c.Af.length c2,U a3 c.hooks.length c3,U a4 c.Aa.length c4,U a5 c.now.length c5,I .u8 (ab 0),I .u8 (ab 1),I .u8 (ab 2)] 62 (0,0)):=by rw[hV];exact Bp _ _
 have Ui:Bl w V:=by rw[hV];exact bA Bv
 have Ia:=(De.block _ (Za.1 hXV).1).trans hXV;have aq7:=bV Ui De;clear hV;obtain⟨X,hX⟩:∃X,X=w2.alloc (.cells #[.func (.func 33) #[] #[],U none 0 0,.int J 0,.int J 0,.bool false] 93):=⟨_,rfl⟩;have Ov:Bl w2 X:=by rw[hX];exact bA (Zh _ _)
 have hQX:X.heap[w2.heap.size]?=some (.cells (ad1 (U none 0 0) 0 0 false) 93 (0,0)):=by rw[hX];exact Bp _ _
 obtain⟨q,hq⟩:∃q,q=w2.heap.size:=⟨_,rfl⟩;obtain⟨g,hg⟩:∃g,g=w1.heap.size:=⟨_,rfl⟩;have Rk:g<w2.heap.size:=by rw[hg];exact(Za.1 Ia).1
 have Dk:w.heap.size<=g:=by rw[hg];exact Bv.size
 rw[<-hg]at Ia;rw[<-hq]at hQX Rk;have xS:q<X.heap.size:=(Za.1 hQX).1;have hXX:X.heap[g]?=some (.cells #[U a1 c.base.length c1,U a2 c.Af.length c2,U a3 c.hooks.length c3,U a4 c.Aa.length c4,U a5 c.now.length c5,I .u8 (ab 0),I .u8 (ab 1),I .u8 (ab 2)] 62 (0,0)):=(Ov.block _ (by omega)).trans Ia;have afc:=bV aq7 Ov;rw[<-hX, <-hq, <-hg];clear hX hq hg;have hzq:w2.heap.size<=X.heap.size:=Ov.size;obtain⟨K,Ig⟩:∃K:Nat->Prop,K=fun _=>False:=⟨_,rfl⟩;have LP:∀x,¬K x:=by rw[Ig];exact fun _ x=>x
 clear Ig;have g0:=fun p:Tw K X=>p.cell (ch (i:=0) hXX rfl) (LP _);have g1:=fun p:Tw K X=>p.cell (ch (i:=1) hXX rfl) (LP _);have g2:=fun p:Tw K X=>p.cell (ch (i:=2) hXX rfl) (LP _);have g3:=fun p:Tw K X=>p.cell (ch (i:=3) hXX rfl) (LP _);have g4:=fun p:Tw K X=>p.cell (ch (i:=4) hXX rfl) (LP _);have g5:=fun p:Tw K X=>p.cell (ch (i:=5) hXX rfl) (LP _);have g6:=fun p:Tw K X=>p.cell (ch (i:=6) hXX rfl) (LP _);have g7:=fun p:Tw K X=>p.cell (ch (i:=7) hXX rfl) (LP _);go_wp2;refine B0 (S:=fun W=>∃p:Tw K X,W=p.v) [] [(false,2),(false,4),(false,5)] [0,1,3,6] (by kernel_rfl) (fun _ _ d _ _ h=>by cases d<;>exact h) (by kernel_rfl) (A5 (Ak.later (Zh _ _).drew)) ?_;refine A4 _ _ (by kernel_rfl) ?_;simp only[Z6,zd,ZG,ZD,ZC]
 repeat (first|go_big_quiet_step (fail)|quiet_step (fail))
 refine Z4 ?_;clear g0 g1 g2 g3 g4 g5 g6 g7;change Dl _ _ _ _ _ _ _;have Uh:Bl X X.drew:=(Zh _ _).drew;have Un:=bV afc Uh;refine Dd (f:=34) rfl rfl (by go_simp) ((lE.out _ Un).mono ?_);rintro e W3 ⟨v3,rfl,Cj,Vr⟩;obtain⟨x3,y3,rfl,_⟩:=Vr.val;have rp:=bV Un Cj;refine⟨_,rfl,.inr (A5 (Ak.later (bV Uh Cj))),?_⟩;have hzd:=Uh.size;have Rb:=Cj.size;have hzw:=aq7.size;have hN:(LU c).length<=125:=by
  have h1:=Zac (Ev c) (EH c);have h0:=H7 c.Aa (fun i hi=>by have:=hv.step i hi;omega);have h2:5^c.Aa.length<=5^3:=YX (by decide) hv.few.2;exact Zr h1 (Zr h0 h2)
 have oh:∀i,i<(LU c).length->(BM (LU c) i).length<=c.Aa.length/\∀j,j<(BM (LU c) i).length->-2<=nth (BM (LU c) i) j/\nth (BM (LU c) i) j<=2:=fun i hi=>by
  have hm:BM (LU c) i∈EH c:=(List.mem_filter.1 (Z3 (BJ hi))).1;obtain⟨m1,m2⟩:=WV hm;refine⟨by omega,fun j hj=>?_⟩;have h1:=m2 j hj;have h2:=hv.step j (by omega);omega
 have aq8:=Zd (xO (S:=fun b=>S b\/Cb X.drew.heap.size W3 b) ((h.later rp).imp fun b hb=>.inl hb) hv (Vr.imp fun b hb=>.inr hb) (Sl.imp (hs.later rp) (fun b hb=>.inl hb) fun _ _ x=>x) oh (by have:=HSG.out.1;omega) HSG.out.2 (by omega) (fun b hb=>by rcases hb with hb|hb;have:=hS b hb;omega;exact hb.2) (ab 0) (ab 1) (ab 2));refine cE (f:=25) rfl rfl (by go_simp) (aq8.out.mono ?_);rintro e W4 ⟨DM,⟨v4,rfl,NK⟩|⟨x,rfl,Ss⟩⟩
 rotate_left
 .exact .inr ⟨x,rfl,rfl,bV rp DM,.inr ⟨_,rfl,Ss⟩⟩
 change SL _ _ _ (lF c s) at NK;obtain⟨fa,fc,rfl,_⟩:=Sl.val NK;have afd:=bV Cj DM;have acv:=bV Uh afd;have fC:∃p:Tw K X,W4=p.v:=A5 (Ak.later acv);refine .inl ⟨_,rfl,.inr fC,?_⟩;refine Dw (v:=.int J (lF c s).length) rfl rfl (by go_simp) (.inr fC) ?_;unfold Dl
 go_simp
 have acJ:=bV afc acv;have iu:=(acv.block _ xS).trans hQX;have Ks:=(acv.block _ (by omega)).trans hXX;have hz4:=acv.size;have HF:=Zd (show∀W,Ak (fun x=>x=q) W4 W->SL (fun x=>(S x\/Cb w.heap.size W4 x)/\x<W4.heap.size/\x≠q) W (U fa (lF c s).length fc) (lF c s) from fun W hT=>SL.imp (SL.Ar NK (hT.same fun x hx e=>by
  rcases hx with(hx|hx)|hx
  .have:=hS x hx;omega
  .have:=hx.1;omega
  .have:=hx.1.1;omega)) fun x hx=>by
  have h6:=DM.size;rcases hx with(hx|hx)|hx
  .have:=hS x hx;exact⟨.inl hx,by omega,by omega⟩
  .exact⟨.inr ⟨by have:=hx.1;omega,by have:=hx.2;omega⟩,by have:=hx.2;omega,by have:=hx.1;omega⟩
  exact⟨.inr ⟨by have:=hx.1.1;omega,hx.1.2⟩,hx.1.2,by have:=hx.1.1;omega⟩)
 have HFH:=Zd (fun l (hl:l∈lF c s)=>show Tc c l from WV (List.mem_filter.1 (List.mem_filter.1 hl).1).1);have hFn:(lF c s).length<=125:=Zr (Zac _ _) hN;obtain⟨F,hF⟩:∃F,F=lF c s:=⟨_,rfl⟩;rw[<-hF]at HF HFH hFn⊢;have HFE:=Zd hF;clear hF NK oh hN Vr aq8 lE Uh Un Cj DM afd hQX hXX Ia hXV;have axi:=Zd (ZY hv.uy (S0 hv hv.now));have anV:=Zd (fun W (hB:Bl w W) (l:List Int) (u:Zf) (hu:SI (fun x=>x<W.heap.size) W u l) (hl:l.length<=c.now.length)=>anP (w:=W) (v6:=u) (l:=l) (ab:=ab) (S:=fun x=>x<W.heap.size) ((h.later hB).imp fun x hx=>Zl (hS x hx) hB.size) hu hl (by have:=hv.uy;have:=hv.few.2;omega) (by rw[mG.out];exact S3 hv.over) fun x hx=>hx);have HTC:=Zd (fun l=>show Cx ab c.now l=DS c l by rw[mG.out];rfl);have HT8:=Zd (fun l (hl:Tc c l)=>show DS c l<8 from U8 (S3 hv.over) l 0 0 (by have:=hl.1;have:=hv.few.2;omega) (by decide));go_wp2;go_loopg [38] F.length (fun gg i wx=>∃k:Nat,k<=F.length/\gg=F.length - k/\i=.int J k/\adD (fun x=>(S x\/Cb w.heap.size W4 x)/\x<W4.heap.size/\x≠q) wx q c (abo c (F.take k))/\Ak (fun x=>x=q) W4 wx)
 case atStart=>exact⟨0,Zp _,rfl,rfl,⟨none,0,0,0,0,iu,fun l hl=>by cases hl⟩,Ak.refl _ _⟩
 obtain⟨k,hk,rfl,rfl,⟨aa3,aa4,aa5,aad,aae,hQk,aeC⟩,hTk⟩:=hrel;have adE:=Zd aeC;clear aeC;have acK:=acJ.trans (hTk.below (fun x hx=>by subst hx;omega) (by omega));have hXk:=(hTk.block _ (by omega) (by omega)).trans Ks;have hzk:=hTk.size;by_cases Az:k<F.length
 .have HL:=Zd (HFH.out _ (Z3 (BJ Az)))
  have HNX:=Zd (adC c Az);obtain⟨b6,o6,u,ee,Xj,lH,hu⟩:=(HF.out _ hTk).at_ Az;subst ee;obtain⟨l,hl⟩:∃l,l=BM F k:=⟨_,rfl⟩;rw[<-hl]at hu HL HNX;clear hl;obtain⟨ua,uc,rfl,_⟩:=hu.val;have TB:(k:Int)<(F.length:Int):=by omega
  have Qm:l.length<=3:=by have:=HL.out.1;have:=hv.few.2;omega
  have UO:l.length<=c.now.length:=by have:=HL.out.1;have:=hv.uy;omega
  have HA:=Zd (fun i (hi:i<l.length)=>show -2<=nth l i/\nth l i<=2 by have:=HL.out.2 i hi;have:=hv.step i (by have:=HL.out.1;omega);omega);have HB:=Zd (fun i (hi:i<l.length)=>axi.out.2 i (by omega));have ad2:=Zd (show abj c l=((AB (DS c l)).length,abI l c.now) from rfl);have hE:=Zd (show abI l c.now=((Yr l.length).drop 0).foldl (abd l c.now) 0 from rfl);have hap:=adA HA.out HB.out;obtain⟨R,hR⟩:∃R,R=abI l c.now:=⟨_,rfl⟩;rw[<-hR]at hE ad2 hap;clear hR;have afg:=(h.later acK).now;have n4:=ch (i:=4) hXk (v:=.slice a5 c.now.length c5) rfl;obtain⟨Z,hZ⟩:∃Z,Z=wr:=⟨_,rfl⟩;subst hZ;go_wp2;go_loopg [14,44] l.length (fun gg sv i wy=>∃(j m:Nat) (s1:Int),j<=l.length/\gg=l.length - j/\i=.int J j/\sv=.int J s1/\0<=s1/\s1<=4*j/\((Yr l.length).drop j).foldl (abd l c.now) s1=R/\wy=Z.drewN m)
  case atStart=>exact⟨0,0,0,Zp _,rfl,rfl,rfl,Int.le_refl _,Int.le_refl _,hE.out.symm,rfl⟩
  obtain⟨j,m,s1,hj,rfl,rfl,rfl,MM,LO,CP,rfl⟩:=hrel;have hf:=Zd CP;clear CP;by_cases hjl:j<l.length
  .obtain⟨b1,o1,ee,FD,x1⟩:=hu.at_ hjl
   subst ee;obtain⟨b2,o2,ee,EC,x2⟩:=afg.at_ (show j<c.now.length by omega);subst ee;have mH:=HA.out j hjl;have hy2:=HB.out j hjl;have hd:=Zd (ad0 (f:=abd l c.now) (r:=s1) hjl);have hd2:=Zd (show abd l c.now s1 j=s1+max (nth l j - nth c.now j) (nth c.now j - nth l j) from rfl);obtain⟨x,hx⟩:∃x,x=nth l j:=⟨_,rfl⟩;obtain⟨y,hy⟩:∃y,y=nth c.now j:=⟨_,rfl⟩;rw[<-hx]at x1 mH hd2;rw[<-hy]at x2 hy2 hd2;clear hx hy;have TB:(j:Int)<(l.length:Int):=by omega
   have hkb:(j:Int)<(c.now.length:Int):=by omega
   have lX:IntKind.i64.wrap (x - y)=x - y:=by rw[zE];omega
   have nj:IntKind.i64.wrap (y - x)=y - x:=by rw[zE];omega
   have hw3:IntKind.i64.wrap (s1+max (x - y) (y - x))=s1+max (x - y) (y - x):=by rw[zE];omega
   go_wp2;go_quiet (fail);go_wp2;go_roundg (l.length - (j+1))
   case rel=>exact⟨j+1,m+nq,s1+max (x - y) (y - x),by omega,rfl,by go_num,rfl,by omega,by omega,by rw[<-hf.out,hd.out,hd2.out],by simp⟩
   omega
  have HR:=Zd (show s1=R by rw[<-hf.out,adq (by omega)]);obtain rfl:=HR.out;have D5:Bl Z (Z.drewN m):=Y5 (Zh _ _) m;obtain⟨Y,hY⟩:∃Y,Y=Z.drewN m:=⟨_,rfl⟩;rw[<-hY]at D5⊢;clear hY;have agc:=bV acK D5;have hXY:=(D5.block _ (Za.1 hXk).1).trans hXk;have hQY:=(D5.block _ (Za.1 hQk).1).trans hQk;have fD:=(Za.1 hQY).1;have HTL:=HTC.out l;have HT:=HT8.out l HL.out;have y0:=ch (i:=0) hXY rfl;have y1:=ch (i:=1) hXY rfl;have y2:=ch (i:=2) hXY rfl;have y3:=ch (i:=3) hXY rfl;have y4:=ch (i:=4) hXY rfl;have y5:=ch (i:=5) hXY rfl;have y6:=ch (i:=6) hXY rfl;have y7:=ch (i:=7) hXY rfl;have HC:=Zd (anV.out Y agc l (U ua l.length uc) (Sl.imp (hu.later D5) (fun x hx=>by have:=hx.2.1;have:=D5.size;show x<Y.heap.size;omega) fun _ _ x=>x) UO);rw[HTL]at HC;obtain⟨aas,htc⟩:∃aas,aas=DS c l:=⟨_,rfl⟩;rw[<-htc]at HC HT ad2;clear htc HTL;have HT':=Zd HT;go_wp2_with (first|(go_at_call 36;refine HC.out.mono ?_;rintro e W7 ⟨rfl,NU⟩;have hQ7:=(NU.block _ fD).trans hQY)|(go_at_call 32;refine(anS _ HT'.out _).mono ?_;rintro e W8 ⟨rfl,rfl⟩)|(go_at_call 35;refine(aga hQ7).mono ?_;rintro e W9 ⟨rfl,hT9,hQ9⟩));have fC:Ak (fun x=>x=q) W4 W9:=((hTk.uJ D5).uJ NU).trans hT9;have mN:Ak (fun x=>x=q) Z W9:=(Ak.later (bV D5 NU)).trans hT9;have hBA:adD (fun x=>(S x\/Cb w.heap.size W4 x)/\x<W4.heap.size/\x≠q) W9 q c (abo c (F.take (k+1))):=by
   rw[HNX.out];cases ho:abo c (F.take k) with
   |none=>
    rw[ho]at hQ9;exact⟨ua,l.length,uc,_,_,hQ9,fun l' Ka=>by cases Ka;exact⟨rfl,Sl.Ar hu (mN.same fun x hx e=>hx.2.2 e) fun _ _ x=>x,ad2.out.symm⟩⟩
   |some b=>
    rw[ho]at hQ9;obtain⟨e1,e2,e3⟩:=adE.out b ho;unfold ad9;dsimp only;rw[e3, <-ad2.out]at hQ9;by_cases h:abb (abj c l) (abj c b)=true
    .rw[if_pos h]
     rw[h]at hQ9;exact⟨ua,l.length,uc,_,_,hQ9,fun l' Ka=>by cases Ka;exact⟨rfl,Sl.Ar hu (mN.same fun x hx e=>hx.2.2 e) fun _ _ x=>x,ad2.out.symm⟩⟩
    rw[if_neg h];rw[Bool.eq_false_iff.2 h]at hQ9;exact⟨aa3,aa4,aa5,_,_,hQ9,fun l' Ka=>by cases Ka;exact⟨e1,Sl.Ar e2 (mN.same fun x hx e=>hx.2.2 e) fun _ _ x=>x,e3⟩⟩
  go_roundg (F.length - (k+1))
  case rel=>exact⟨k+1,Az,rfl,by go_num,hBA,fC⟩
  omega
 have hkF:k=F.length:=by omega
 subst hkF;rw[ZcU]at hQk adE;have x4:=ch (i:=4) hQk (v:=.bool (abo c F).isSome) rfl;cases ho:abo c F with
 |none=>
  rw[ho]at x4;dsimp only[Option.isSome]at x4;go_wp2;refine ZN (results_tmp3 rfl _ _ _) rfl ?_;rw[<-HFE.out,ho];exact⟨acK,.inl ⟨U none 0 0,rfl,fun l hl=>by cases hl⟩⟩
 |some l=>
  rw[ho]at x4 hQk;dsimp only[Option.isSome]at x4;obtain⟨rfl,e2,e3⟩:=adE.out l ho;have x1:=ch (i:=1) hQk (v:=.slice aa3 l.length aa5) rfl;have x2:=ch (i:=2) hQk (v:=.int J aad) rfl;go_wp2;go_quiet (fail);go_wp2;refine ZN (results_tmp3 rfl _ _ _) rfl ?_;rw[<-HFE.out,ho];refine⟨Y5 acK _,.inl ⟨U aa3 l.length aa5,?_,fun l' Ka=>?_⟩⟩
  .show Zbx (.tuple #[U aa3 l.length aa5,.int J aad,.int J 0])=.returned (.tuple #[U aa3 l.length aa5,.int J (AB (DS c l)).length,.int J 0])
   rw[show aad=(AB (DS c l)).length from congrArg Prod.fst e3]
  cases Ka;refine⟨aa3,aa5,rfl,Sl.imp (Sl.Ar e2 ((Ak.later (T:=fun x=>x=q) (Y5 (Zh _ _) _)).same fun x hx e=>hx.2.2 e) fun _ _ x=>x) (fun x hx=>?_) fun _ _ x=>x⟩;rcases hx.1 with hx|hx
  .exact .inl hx
  exact .inr ⟨hx.1,Zl hx.2 (by have:=(Y5 (Zh wr.heap.size wr) nq).size;omega)⟩
inductive HT
 |leaf
 |one (i:Nat) (r:HT)
 |free (i:Nat) (r:HT)
 |fork (i:Nat) (x:HT) (j:Nat) (y:HT)
def HT.len:HT->Nat
 | .leaf=>0
 | .one _ r=>r.len+1
 | .free _ r=>r.len+1
 | .fork _ x _ _=>x.len+1
section
variable {P:Zo}{ops:Array Oper}{Q:Exit->Act->Zb->Prop}{md:YO}{S:Zb->Prop}{T:Nat->Zb->Prop}
def abg (P:Zo)(ops:Array Oper)(Q:Exit->Act->Zb->Prop)(S:Zb->Prop)(T:Nat->Zb->Prop):HT->Act->Zb->Prop
 | .leaf,a,w=>Q .normal a w
 | .one i r,a,w=>wpOp P ops Q i (fun a' w'=>T i w'/\abg P ops Q S T r a' w') a w
 | .free i r,a,w=>S w/\∃o v,ops[i]?=some o/\ZbF P ops S o v a/\abg P ops Q S T r (a.put o.dst v) w
 | .fork i x j y,a,w=>wpOp P ops Q i (fun a' w'=>T i w'/\abg P ops Q S T x a' w') a w/\wpOp P ops Q j (fun a' w'=>T j w'/\abg P ops Q S T y a' w') a w
def htB (md:YO)(ops:Array Oper)(n:Nat)(lates:List Nat):HT->Array Bool->Bool
 | .leaf,listed=>(zs md ops listed).isEmpty
 | .one i r,listed=>decide (zs md ops listed=[i])&&htB md ops n lates r (listed.setIfInBounds i true)
 | .free i r,listed=>(zs md ops listed).contains i&&Za3 md ops listed i&&pQ md ops n lates i&&htB md ops n lates r (listed.setIfInBounds i true)
 | .fork i x j y,listed=>decide (zs md ops listed=[i,j])&&decide (x.len=y.len)&&htB md ops n lates x (listed.setIfInBounds i true)&&htB md ops n lates y (listed.setIfInBounds j true)
def abh {n:Nat}{lates:List Nat}(IP:YF ops=true)(hQ:∀c a d v w,Q (.panic c) (Zck a d v) w->Q (.panic c) a w):
  ∀(t:HT) (listed:Array Bool) (a:Act) (w:Zb),Dn md ops listed->htB md ops n lates t listed=true->abg P ops Q S (FG lates S) t a w->Cy P md ops Q (FG lates S) t.len listed a w
 | .leaf,_,_,_,_,hB,h=>⟨by simpa[htB]using hB,h⟩
 | .one i r,listed,a,w,hD,hB,h=>by
  simp only[htB,ZF,decide_eq_true_eq]at hB;refine⟨fun h0=>(by rw[hB.1]at h0;cases h0),fun j hj=>?_⟩;have hj':=hj;rw[hB.1]at hj;have:j=i:=by simpa using hj
  subst this;exact Zcc (fun a' w' x=>⟨x.1,abh IP hQ r _ a' w' (hD.step hj') hB.2 x.2⟩) h
 | .free i r,listed,a,w,hD,hB,h=>by
  simp only[htB,ZF]at hB;obtain⟨hS,o,v,ho,hy,h⟩:=h;have hr:i∈zs md ops listed:=by simpa using hB.1.1.1
  exact Me (S:=S) (n:=n) (f:=r.len) ho IP (fun c a w x=>hQ c a o.dst v w x) (fun w x=>.inr x) (iw hB.1.2) listed a w hD hB.1.1.2 hr hy hS (abh IP hQ r _ _ w (hD.step hr) hB.2 h)
 | .fork i x j y,listed,a,w,hD,hB,h=>by
  simp only[htB,ZF,decide_eq_true_eq]at hB;obtain⟨⟨⟨h1,h2⟩,h3⟩,h4⟩:=hB;refine⟨fun h0=>(by rw[h1]at h0;cases h0),fun k hk=>?_⟩;have Kh:=hk;rw[h1]at hk;rcases List.mem_cons.1 hk with rfl|hk
  .exact Zcc (fun a' w' z=>⟨z.1,abh IP hQ x _ a' w' (hD.step Kh) h3 z.2⟩) h.1
  have:k=j:=by simpa using hk
  subst this;exact Zcc (fun a' w' z=>⟨z.1,by have:=abh IP hQ y _ a' w' (hD.step Kh) h4 z.2;rwa[<-h2]at this⟩) h.2
variable {a:Act}
def acL {id:Nat}{l:List Oper}(n:Nat)(lates:List Nat)(t:HT)(ls:List Nat)(hm:P.follows .mixedOrders=true)(hQ:∀c a d v w,Q (.panic c) (Zck a d v) w->Q (.panic c) a w)
 (hB:(YF l.toArray&&decide (t.len+ls.length=l.toArray.size)&&lsB .any l.toArray n lates (htB .any l.toArray n lates t) ls (Yu l.toArray.size false))=true) (hS:S w.drew)
 (h:MQ P l.toArray S (fun a'=>abg P l.toArray Q S (FG lates S) t a' w.drew) ls a):(zU id l.toArray true).wp P Q a w:=by
 simp only[ZF,decide_eq_true_eq]at hB;refine Zd5 hm (JV (T:=FG lates S) _ _ _ _ ?_);have hD0:Dn .any l.toArray (Yu l.toArray.size false):=fun k ok _ hl=>by
  rw[show(Yu l.toArray.size false).getD k false=false by unfold Array.getD;split<;>simp]at hl;cases hl
 have:=Vd hB.1.1 hQ hS (fun listed a hD h1 h2=>abh hB.1.1 hQ t listed a w.drew hD h1 h2) ls _ a hD0 hB.2 h;rw[hB.1.2]at this;exact this
variable {r:HT}
variable {o:Oper}
def adF (ho:ops[i]?=some o)(hg:o.guard=none)(h:o.wp P a w (fun a' w'=>T i w'/\abg P ops Q S T r a' w') Q):abg P ops Q S T (.one i r) a w:=by
 unfold abg wpOp;simp only[ho];rw[if_pos (by simp[Yf,hg])];exact .inl h
def ade (ho:ops[i]?=some o)(hg:o.guard=none)(hr:(Zby a.eval o).run P w=.ok (.value v) w')(hT:T i w')
 (h:abg P ops Q S T r (a.put o.dst v) w'):abg P ops Q S T (.one i r) a w:=by
 refine adF ho hg ?_;unfold ZbA;rw[hr,Zdi];exact⟨hT,h⟩
def adl {f:ZaQ}(ho:ops[i]?=some o)(hg:o.guard=none)(hr:(Zby a.eval o).run P w=.ok (.enter f args) w)
 (hc:Calls P f args w fun e w'=>(∃v,e=.returned v/\T i w'/\abg P ops Q S T r (a.put o.dst v) w')\/∃x,e=.panicked x/\Q (.panic x) a w'):abg P ops Q S T (.one i r) a w:=by
 refine adF ho hg ?_;unfold ZbA;rw[hr,Zdj];refine hc.mono fun e w' h=>?_;rcases h with⟨v,rfl,h⟩|⟨x,rfl,h⟩
 .exact h
 exact h
def adG (ho:ops[i]?=some o)(hg:o.guard=none)(hr:(Zby a.eval o).run P w=.ok .skip w')(hT:T i w')
 (h:abg P ops Q S T r (a.put o.dst Ze) w'):abg P ops Q S T (.one i r) a w:=by
 refine adF ho hg ?_;unfold ZbA;rw[hr,ZcQ];exact⟨hT,h⟩
def abk (hS:S w)(ho:ops[i]?=some o)(hg:o.guard=none)(hr:∀w,S w->(Zby a.eval o).run P w=.ok (.value v) w)
 (h:abg P ops Q S T r (a.put o.dst v) w):abg P ops Q S T (.free i r) a w:=
 ⟨hS,o,v,ho,.inl ⟨by simp[Yf,hg],hr⟩,h⟩
def adR {j:Nat}{x y:HT}(h1:abg P ops Q S T (.one i x) a w)(h2:abg P ops Q S T (.one j y) a w):abg P ops Q S T (.fork i x j y) a w:=⟨h1,h2⟩
def abx {r:List (Bool×Nat)}{f:ZaQ}(ho:ops[i]?=some o)(hg:o.guard=none)(hr:(Zby a.eval o).run P w=.ok (.enter f args) w)
 (hc:Calls P f args w fun e w'=>(∃v,e=.returned v/\T i w'/\H2 P ops Q S T r (a.put o.dst v) w')\/∃x,e=.panicked x/\Q (.panic x) a w'):H2 P ops Q S T ((false,i)::r) a w:=by
 refine SZ ho hg ?_;unfold ZbA;rw[hr,Zdj];refine hc.mono fun e w' h=>?_;rcases h with⟨v,rfl,h⟩|⟨x,rfl,h⟩
 .exact h
 exact h
end
def ac6:∀(l:List Int) (a b:List Ay) (m:Nat->Int),aaH a=aaH b->Iw m (l.zip a)=Iw m (l.zip b)
 | [],_,_,_,_=>rfl
 |_::_,[],[],_,_=>rfl
 |_::_,[],_::_,_,h=>by cases h
 |_::_,_::_,[],_,h=>by cases h
 |x::l,s::a,t::b,m,h=>by
  have h1: {s with left:=0}= {t with left:=0}:=(zL h).1;have h2:aaH a=aaH b:=(zL h).2;have hp:s.Ap=t.Ap:=by have:=congrArg Ay.Ap h1;exact this
  show Iw (CZ m x s.Ap) (l.zip a)=Iw (CZ m x t.Ap) (l.zip b);rw[hp];exact ac6 l a b _ h2
def acf:∀(a b:List Ay),aaH a=aaH b->EZ a=EZ b
 | [],[],_=>rfl
 | [],_::_,h=>by cases h
 |_::_,[],h=>by cases h
 |s::a,t::b,h=>by
  have h1: {s with left:=0}= {t with left:=0}:=(zL h).1;have hl:s.low=t.low:=by have:=congrArg Ay.low h1;exact this
  have hh:s.high=t.high:=by have:=congrArg Ay.high h1;exact this
  unfold EZ;rw[hl,hh,acf a b (zL h).2]
def abl (g:A_->Option (List (List Int)×Int))(d:A_)(out:Option (List (List Int)×Int))(l:List Int):Option (List (List Int)×Int):=
 match g (FH d l (DS d l)) with
 |none=>out
 |some p=>if LJ ((AB (DS d l)).length+p.2) out=true then some (l::p.1,(AB (DS d l)).length+p.2) else out
def aaZ:List (List (Int×Int))->A_->Option (List (List Int)×Int)
 | [],_=>some ([],0)
 |s::r,d=>(lF d s).foldl (abl (aaZ r) d) none
def aby (h:H6 c):kU c c:=
 ⟨rfl,rfl,rfl,rfl,h.now.1,fun i hi=>(h.seam i hi).left,fun _ _=>⟨rfl,rfl,rfl,rfl⟩⟩
def ad3 (h:kU c d):aaH d.Aa=aaH c.Aa:=by
 apply YA;intro i;unfold aaH;rw[YL,YL];have hlen:=h.len;by_cases hi:i<c.Aa.length
 .obtain⟨e1,e2,e3,e4⟩:=h.rest i hi
  rw[Db hi,Db (show i<d.Aa.length by rw[h.len];exact hi)];simp only[Zdh,e1,e2,e3,e4]
 rw[ZP (by omega),ZP (by omega)]
def adf (hv:Fq c){now:List Int}(hl:l.length<=c.Aa.length):Cx (Ax c.Aa) now l<2^c.Aa.length:=
 JW (LH hv.over) l 0 0 (by omega) (Zdz _)
def aci (h:H6 c)(hl:Tc c l)(hc:Ev c l=true):H6 (FH c l (DS c l)):=by
 have hx:∀x,x∈AB (DS c l)->0<=x/\x<c.Aa.length:=MT h.valid (by have:=hl.1;omega);have hs:JU c (DS c l)=none:=Option.isNone_iff_eq_none.1 hc;have hd:=(aby h).abw (l:=l) hl.1 hx hs;exact adp h (abR _ _) (fun i hi=>hd.left i (by rw[<-O_ (AB (DS c l)) c.Aa];exact hi)) hl
def ac7 {c d:A_}(h1:d.hooks=c.hooks)(h2:d.Af=c.Af)(m:Nat->Int):∀(s:List (Int×Int)) (i:Nat),SV d m i s=SV c m i s
 | [],_=>rfl
 |r::s,i=>by
  unfold SV;rw[h1,h2,ac7 h1 h2 m s (i+1)]
def adH (h:kU c d)(l:List Int)(s:List (Int×Int)):BZ d l s=BZ c l s:=by
 unfold BZ;rw[ac7 h.hooks h.Af]
 congr 1
 unfold measure;rw[h.base];exact ac6 _ _ _ _ (ad3 h)
def aca {α:Type}{f g:α->List Int->α}:∀(l:List (List Int)) (a:α),(∀a,∀x∈l,f a x=g a x)->l.foldl f a=l.foldl g a
 | [],_,_=>rfl
 |x::l,a,h=>by
  rw[List.foldl_cons,List.foldl_cons,h a x (zC ..)];exact aca l _ fun a y hy=>h a y (zm _ hy)
def ac2 {c:A_}(hv:Fq c):∀(ss:List (List (Int×Int))) (d:A_),kU c d->Gx (Ax c.Aa) (ss.map (Jt c)) d=aaZ ss d
 | [],_,_=>rfl
 |s::r,d,hd=>by
  have he:=ad3 hd;have ha:Ax d.Aa=Ax c.Aa:=ad6 he;show(Jt c s).foldl (DL (Ax c.Aa) d (Gx (Ax c.Aa) (r.map (Jt c)))) none=(lF d s).foldl (abl (aaZ r) d) none;unfold Jt lF LU;rw[List.foldl_filter,List.foldl_filter,List.foldl_filter,show EH d=EH c from acf _ _ he];refine aca _ _ fun o l hl=>?_;have mK:=WV hl;rw[adH hd];have ht:DS d l=Cx (Ax c.Aa) d.now l:=by unfold DS;rw[ha]
  have Az:Cx (Ax c.Aa) d.now l<2^c.Aa.length:=adf hv (by have:=mK.1;omega);unfold Ev DL abl;rw[ht];cases hs:JU d (Cx (Ax c.Aa) d.now l) with
  |some x=>simp
  |none=>
   have hw:=hd.abw (l:=l) mK.1 (fun x hx=>by rw[hd.len];exact N_ Az x hx) hs;have e:=ac2 hv r _ hw;unfold Jt at e;rw[e];simp
   rfl
def acj (h:H6 c){ss:List (List (Int×Int))}{p:List (List Int)×Int}(hp:aaZ ss c=some p):0<=p.2/\p.2<=3*ss.length/\p.1.length=ss.length:=by
 have:=M4 (Ax c.Aa) (ss.map (Jt c)) c p (by rw[ac2 h.valid ss c (aby h)];exact hp);rwa[List.length_map]at this
def ad4 (c:A_)(o:Option (List Int))(q:Option (List (List Int)×Int)):Prop:=
 (o=none/\q=none)\/∃b p,o=some b/\q=some p/\p.2=((AB (DS c b)).length:Int)
def adr (c:A_)(l:List Int){o:Option (List Int)}{q:Option (List (List Int)×Int)}(h:ad4 c o q):ad4 c (ad9 c o l) (abl (aaZ []) c q l):=by
 rcases h with⟨rfl,rfl⟩|⟨b,p,rfl,rfl,hp⟩
 .exact .inr ⟨l,([l],((AB (DS c l)).length:Int)+0),rfl,rfl,Int.add_zero _⟩
 unfold ad9 abl aaZ LJ;dsimp only;rw[Int.add_zero];by_cases h1:((AB (DS c l)).length:Int)<p.2
 .rw[if_pos (show abb (abj c l) (abj c b)=true by unfold abb abj;simp;omega),if_pos (decide_eq_true h1)]
  exact .inr ⟨l,_,rfl,rfl,rfl⟩
 rw[if_neg (show¬decide (((AB (DS c l)).length:Int)<p.2)=true by rw[decide_eq_true_eq];exact h1)];by_cases h2:abb (abj c l) (abj c b)=true
 .rw[if_pos h2]
  refine .inr ⟨l,p,rfl,rfl,?_⟩;unfold abb abj at h2;simp only[ZaK,ZF,decide_eq_true_eq]at h2;omega
 rw[if_neg h2];exact .inr ⟨b,p,rfl,rfl,hp⟩
def acm (c:A_):∀(F:List (List Int)) (o:Option (List Int)) (q:Option (List (List Int)×Int)),ad4 c o q->ad4 c (F.foldl (ad9 c) o) (F.foldl (abl (aaZ []) c) q)
 | [],_,_,h=>h
 |l::r,_,_,h=>acm c r _ _ (adr c l h)
def adT (c:A_)(s:List (Int×Int)):ad4 c (abo c (lF c s)) (aaZ [s] c):=acm c (lF c s) none none (.inl ⟨rfl,rfl⟩)
def B3.aj4 (h:Bl w A)(hU:B3 b A B)(hb:w.heap.size<=b):Bl w B:=h.trans ((hU.CN (K:=fun x=>x=b) rfl).below (fun x hx=>by have:x=b:=hx;omega) h.size)
def adm (c:A_)(i:Int):Bool:=decide (0<(Aj c.Aa i.toNat).left)
def abK {t:Nat}:(JU c t=none)↔(AB t).all (adm c)=true:=by
 unfold JU;rw[List.find?_eq_none,Zdm];constructor
 .intro h x hx
  have:=h x hx;simp[SU,adm]at this⊢;omega
 intro h x hx;have:=h x hx;simp[SU,adm]at this⊢;omega
def adg (h:Ca c l=0):Eg c l=if(AB (DS c l)).all (adm c)=true then 0 else 12:=by
 unfold Eg;rw[BR h];by_cases h2:JU c (DS c l)=none
 .rw[if_pos h2,if_pos (abK.1 h2)]
 rw[if_neg h2,if_neg fun x=>h2 (abK.2 x)]
def age (h:RC S w v1 v2 v3 v4 v5 c)(hl:SI S w v6 l)(hS:∀b,S b->b<w.heap.size)(mA:∀i,i<c.Aa.length->(Aj c.Aa i).over.length<=1000)(h0:Eg c l=0)(hn:c.Aa.length=n):
  Calls Lp 30 #[.agg #[v1,v2,v3,v4,v5],v6] w fun e w'=>∃n1 q1 d1 n2 q2 d2 n3 q3 d3 q4 d4 n5 q5 d5,e=.returned (.tuple #[.agg #[U q1 n1 d1,U q2 n2 d2,U q3 n3 d3,U q4 n d4,U q5 n5 d5],.int J 0])/\Bl w w'/\RC (Cb w.heap.size w') w' (U q1 n1 d1) (U q2 n2 d2) (U q3 n3 d3) (U q4 n d4) (U q5 n5 d5) (FH c l (DS c l)):=by
 refine(c59 h hl hS mA).mono ?_;rintro e w' ⟨u1,u2,u3,u4,u5,rfl,hB,hR⟩;have hR:=hR h0;obtain⟨n1,q1,d1,rfl⟩:=abv hR.base.val;obtain⟨n2,q2,d2,rfl⟩:=abv hR.Af.val;obtain⟨n3,q3,d3,rfl⟩:=abv hR.hooks.val;obtain⟨q4,d4,e4,_⟩:=hR.Aa.val;obtain⟨n5,q5,d5,rfl⟩:=abv hR.now.val;have e5:(FH c l (DS c l)).Aa.length=n:=(O_ _ _).trans hn;rw[e5]at e4;subst e4;exact⟨_,_,_,_,_,_,_,_,_,_,_,_,_,_,by rw[h0],hB,hR⟩
def abN (h:H6 c):∀i,i<c.Aa.length->(Aj c.Aa i).over.length<=1000:=fun i hi=>by
 have:=h.few;have:=qK (h.seam i hi).rising fun x hx=>⟨((h.seam i hi).over x hx).1,((h.seam i hi).over x hx).2.1⟩;omega
def ads:Option (List (List Int)×Int)->Int
 |none=> -1
 |some p=>p.2
def acQ:Option (List (List Int)×Int)->List (List Int)
 |none=> []
 |some p=>p.1
def adU (S:Nat->Prop)(w:Zb)(o:Option (List (List Int)×Int))(e:Ending)(w':Zb):Prop:=
 Bl w w'/\((∃v,e=.returned (.tuple #[.int J (ads o),v])/\SL (fun x=>S x\/Cb w.heap.size w' x) w' v (acQ o))\/∃x,e=.panicked x/\PX x w')
def adn:SL S w (U none 0 0) []:=⟨none,0,rfl,Zj _,Zp _,fun i x hx=>by cases hx⟩
def adI {o c:Nat}{r:List (List (Int×Int))}(h:SSP S w (U (some ⟨b,o,none⟩) n c) (s::r)):SSP S w (U (some ⟨b,o+1,none⟩) r.length (c - 1)) r:=by
 obtain⟨a',c',h1,h2,h3,h4⟩:=h;cases h1;refine⟨_,_,rfl,?_,by omega,fun i x hx=>?_⟩
 .rw[zb]at h2
  omega
 obtain⟨b',o',cs,e,g2,g3,g4,g5⟩:=h4 (i+1) x (by simpa using hx);cases e;exact⟨b,o+1,cs,rfl,g2,g3,fun j u hj=>by have:=g4 j u hj;rw[show o+1+i*1+j=o+(i+1)*1+j by omega];exact this,g5⟩
def adt {o c:Nat}{r:List (List (Int×Int))}(h:SSP S w (U (some ⟨b,o,none⟩) n c) (s::r)):SSP S w (U (if c=1 then some ⟨b,o,none⟩ else some ⟨b,o+1,none⟩) (n - 1) (c - 1)) r:=by
 have ht:=adI h;obtain⟨a',c',h1,h2,h3,h4⟩:=h
 injection h1 with e1 e2 e3
 rw[zb]at h2 e2;rw[e2,Nat.add_sub_cancel];split
 .next hc=>
  have hr:r=[]:=List.length_eq_zero_iff.1 (by omega);subst hr;exact⟨_,_,rfl,by simp,by omega,fun i x hx=>by cases hx⟩
 exact ht
def acb {cs:List Zf}{x:List (Int×Int)}(h:Rsp S w cs x)(hw:CE S w w')(hs:∀b,S b->T b):Rsp T w' cs x:=by
 obtain⟨u,e,hu⟩:=h;exact⟨u,e,Sl.imp (SP.Ar hu hw) hs fun _ _ x=>x⟩
def ac3 {base:Nat}{ls:List (List Int)}(h:A.ownsRow base 22 1 v ls.length vals)(hn:∀b,Cb base A b->S b)(hv:∀(i:Nat) (x:List Int),ls[i]?=some x->∃u,vals[i]?=some u/\SI S A u x):SL S A v ls:=by
 obtain⟨a,c,h1,h2,h3,h4⟩:=U7 h;refine⟨a,c,h1,h2,h3,fun i x hx=>?_⟩;obtain⟨u,hu,hs⟩:=hv i x hx;obtain⟨b,hb,hN,hc⟩:=h4 i u hu;refine⟨b,0,[u],hb,hn b hN,rfl,fun j y hy=>?_,u,rfl,hs⟩;cases j with
 |zero=>cases hy;exact hc
 |succ j=>cases hy
def adJ {l:List (List (Int×Int))}(h:SSP S w v l)(hB:Bl w w'):SSP S w' v l:=
 Sl.Ar h (CE.Ec hB) fun _ _ hx=>acb hx (CE.Ec hB) fun _ h=>h
def adV {l:List (List (Int×Int))}(h:SSP S w v l)(hs:∀b,S b->T b):SSP T w v l:=
 Sl.imp h hs fun cs x hx=>acb hx (CE.refl _ _) hs
def adu {l:List (List (Int×Int))}(h:SSP S w v l)(hS:∀b,S b->b<w.heap.size)(hB:Bl w w'):SSP (fun x=>x<w'.heap.size) w' v l:=by
 refine Sl.imp (Sl.Ar h (CE.Ec hB) fun cs x hx=>acb hx (CE.Ec hB) fun _ h=>h) (fun b hb=>Zl (hS b hb) hB.size) fun cs x hx=>?_;obtain⟨u,e,hu⟩:=hx;exact⟨u,e,Sl.imp hu (fun b hb=>Zl (hS b hb) hB.size) fun _ _ x=>x⟩
def c83 (ss:List (List (Int×Int))):∀(S:Nat->Prop) (w:Zb) (v1 v2 v3 v4 v5 v6:Zf) (c:A_),RC S w v1 v2 v3 v4 v5 c->SSP S w v6 ss->(∀b,S b->b<w.heap.size)->H6 c->ss.length<=3->(∀s∈ss,Fs c.base.length s=0)->
  Calls Lp 9 #[.agg #[v1,v2,v3,v4,v5],v6] w (adU S w (aaZ ss c)):=by
 induction ss with
 |nil=>
  intro S w v1 v2 v3 v4 v5 v6 c h hs hS hM hl hse;obtain⟨a1,c1,rfl,_⟩:=h.base.val;obtain⟨a2,c2,rfl,_⟩:=h.Af.val;obtain⟨a3,c3,rfl,_⟩:=h.hooks.val;obtain⟨a4,c4,rfl,_⟩:=h.Aa.val;obtain⟨a5,c5,rfl,_⟩:=h.now.val;obtain⟨a6,c6,rfl,_⟩:=Sl.val hs;have HB:=Zd (show Bl w (w.alloc (.cells #[U a1 c.base.length c1,U a2 c.Af.length c2,U a3 c.hooks.length c3,U a4 c.Aa.length c4,U a5 c.now.length c5] 28)) from bA (Zh _ _));go_enter Lp.func83,n83;go_wp2;go_ret2;exact⟨HB.out,.inl ⟨U none 0 0,rfl,adn⟩⟩
 |cons s r ih=>
  intro S w v1 v2 v3 v4 v5 v6 c h hs hS hM hl hse;obtain⟨a1,c1,rfl,_⟩:=h.base.val;obtain⟨a2,c2,rfl,_⟩:=h.Af.val;obtain⟨a3,c3,rfl,_⟩:=h.hooks.val;obtain⟨a4,c4,rfl,_⟩:=h.Aa.val;obtain⟨a5,c5,rfl,_⟩:=h.now.val;obtain⟨a6,c6,rfl,l6,m6⟩:=Sl.val hs;have IX:=DJ;have HIH:=Zd ih;have HM:=Zd hM;have HS0:=Zd (hse s (zC ..));have HSE:=Zd (fun x (hx:x∈r)=>hse x (zm _ hx));have HSS:=Zd (show∀W,Bl w W->SSP S W (U a6 (s::r).length c6) (s::r) from fun W hB=>adJ hs hB);obtain⟨b6,o6,u,ee,Xj,lH,hu⟩:=hs.at_ (i:=0) (Nat.succ_pos _);subst ee;replace hu:SP S w u s:=hu;obtain⟨ua,uc,rfl,_⟩:=hu.val;have hr3:r.length<=2:=by rw[zb]at hl;omega
  obtain⟨aa0,hn6⟩:∃n,n=(s::r).length:=⟨_,rfl⟩;have afh:aa0=r.length+1:=hn6.trans (zb ..);rw[<-hn6]at l6 HSS⊢;have h6p:0<aa0:=by omega
  have h6c:aa0<=c6:=l6;have HN6:=Zd afh;clear hn6 afh hl hse ih hs l6;have Jm:=hM.few;clear hM;obtain⟨X,hX⟩:∃X,X=w.alloc (.cells #[U a1 c.base.length c1,U a2 c.Af.length c2,U a3 c.hooks.length c3,U a4 c.Aa.length c4,U a5 c.now.length c5] 28):=⟨_,rfl⟩;have Ov:Bl w X:=by rw[hX];exact bA (Zh _ _)
  have hK:X.heap[w.heap.size]?=some (.cells #[U a1 c.base.length c1,U a2 c.Af.length c2,U a3 c.hooks.length c3,U a4 c.Aa.length c4,U a5 c.now.length c5] 28 (0,0)):=by rw[hX];exact Bp _ _
  obtain⟨q,hq⟩:∃q,q=w.heap.size:=⟨_,rfl⟩;have xS:q<X.heap.size:=by rw[hq];exact(Za.1 hK).1
  have HK:=Zd (show∀W,Bl X W->W.heap[q]?=some (.cells #[U a1 c.base.length c1,U a2 c.Af.length c2,U a3 c.hooks.length c3,U a4 c.Aa.length c4,U a5 c.now.length c5] 28 (0,0)) from fun W hB=>(hB.block _ xS).trans (by rw[hq];exact hK));have mI:=Zd (show∀W,Bl w W->RC (fun x=>x<W.heap.size) W (U a1 c.base.length c1) (U a2 c.Af.length c2) (U a3 c.hooks.length c3) (U a4 c.Aa.length c4) (U a5 c.now.length c5) c from fun W hB=>(h.later hB).imp fun x hx=>Zl (hS x hx) hB.size);have HRS:=Zd (show∀W,Bl w W->RC S W (U a1 c.base.length c1) (U a2 c.Af.length c2) (U a3 c.hooks.length c3) (U a4 c.Aa.length c4) (U a5 c.now.length c5) c from fun W hB=>h.later hB);have HSP:=Zd (show∀W,Bl w W->SP S W (U ua s.length uc) s from fun W hB=>hu.later hB);have HCU:=Zd (show∀W,Bl w W->W.cell? ⟨b6,o6,none⟩=some (U ua s.length uc) from fun W hB=>(hB.cell (p:=⟨b6,o6,none⟩) (hS b6 Xj)).trans lH);have HCH:=Zd (show(lF c s).foldl (abl (aaZ r) c) none=aaZ (s::r) c from rfl);obtain⟨C,hC⟩:∃C,C=aaZ (s::r) c:=⟨_,rfl⟩;rw[<-hC]at HCH⊢;clear hC;go_enter Lp.func83,n83;go_wp2;rw[<-hX, <-hq];have HQ:=Zd hq;clear hX hK lH hu h hq;obtain⟨K,Ig⟩:∃K:Nat->Prop,K=fun _=>False:=⟨_,rfl⟩;have LP:∀x,¬K x:=by rw[Ig];exact fun _ x=>x
  clear Ig;have hKX:=HK.out X (Zh _ _);have g0:=fun p:Tw K X=>p.cell (ch (i:=0) hKX rfl) (LP _);have g1:=fun p:Tw K X=>p.cell (ch (i:=1) hKX rfl) (LP _);have g2:=fun p:Tw K X=>p.cell (ch (i:=2) hKX rfl) (LP _);have g3:=fun p:Tw K X=>p.cell (ch (i:=3) hKX rfl) (LP _);have g4:=fun p:Tw K X=>p.cell (ch (i:=4) hKX rfl) (LP _);have g5:=fun p:Tw K X=>p.cell (HCU.out X Ov) (LP _);have h6i:(0:Int)<(aa0:Int):=by omega
  go_wp2;refine G7 (S:=fun W=>∃p:Tw K X,W=p.v) 10 [] [(false,4),(false,5),(true,6),(true,7),(false,8),(false,9)] [0,1,2,3] (by kernel_rfl) (fun _ _ d _ _ h=>by cases d<;>exact h) (by kernel_rfl) (A5 (Ak.later (Zh _ _).drew)) ?_;refine A4 _ _ (by kernel_rfl) ?_;simp only[Z6,zd,ZG,ZD,ZC]
  repeat (first|go_big_quiet_step (fail)|quiet_step (fail))
  refine Z4 ?_;clear g0 g1 g2 g3 g4 g5;change H2 _ _ _ _ _ _ _ _;have Uh:Bl X X.drew:=(Zh _ _).drew;have Un:=bV Ov Uh;have H64:=Zd (c64 (HRS.out _ Un) (HSP.out _ Un) (fun x hx=>Zl (hS x hx) Un.size) HM.out.begin HS0.out);refine abx (f:=28) rfl rfl (by go_simp) (H64.out.mono ?_);rintro e W4 ⟨De,⟨fa,fc,rfl,hf4⟩|⟨x,rfl,Ss⟩⟩
  rotate_left
  .exact .inr ⟨x,rfl,rfl,bV Un De,.inr ⟨_,rfl,Ss⟩⟩
  have acv:=bV Uh De;have fC:∃p:Tw K X,W4=p.v:=A5 (Ak.later acv);refine .inl ⟨_,rfl,.inr fC,?_⟩;refine EY (v:=.tuple #[U fa (lF c s).length fc,.int J 0]) (w':=W4) rfl rfl (by go_simp) (.inr fC) ?_;refine Wz (v:=.slice fa (lF c s).length fc) fC rfl rfl (fun w _=>by go_simp) ?_;refine Wz (v:=.int J 0) fC rfl rfl (fun w _=>by go_simp) ?_;refine EY (v:=.slice fa (lF c s).length fc) (w':=W4) rfl rfl (by go_simp) (.inr fC) ?_;refine EY (v:=.int J 0) (w':=W4) rfl rfl (by go_simp) (.inr fC) ?_;unfold H2
  go_simp
  have acJ:=bV Ov acv;have aj1:=Un.size;have HF:=Zd (show∀W,Bl W4 W->SL (fun x=>S x\/Cb w.heap.size W4 x) W (U fa (lF c s).length fc) (lF c s) from fun W hB=>SL.imp (SL.later hf4 hB) fun x hx=>by
   rcases hx with hx|hx
   .exact .inl hx
   exact .inr ⟨by have:=hx.1;omega,hx.2⟩)
  have HFH:=Zd (fun l (hl:l∈lF c s)=>show Tc c l/\Ev c l=true from by
   have h1:=(List.mem_filter.1 hl).1;have h2:=List.mem_filter.1 h1;exact⟨WV h2.1,h2.2⟩)
  have hFn:(lF c s).length<=125:=by
   have h0:=H7 c.Aa (fun i hi=>by have:=(HM.out.seam i hi).step;omega);have h2:5^c.Aa.length<=5^3:=YX (by decide) (by omega);exact Zr (Zac _ _) (Zr (Zac _ _) (Zr h0 h2))
  obtain⟨F,hF⟩:∃F,F=lF c s:=⟨_,rfl⟩;rw[<-hF]at HF HFH HCH hFn⊢;clear hF hf4 H64 Uh Un De fC;have hz4:=acJ.size;go_wp2;go_loopg [6,7,10] F.length (fun gg le be i wr=>∃(k:Nat) (o:Option (List (List Int)×Int)),k<=F.length/\gg=F.length - k/\i=.int J k/\(F.drop k).foldl (abl (aaZ r) c) o=C/\le=.int J (ads o)/\(∀p,o=some p->0<=p.2/\p.2<=100)/\SL (fun x=>S x\/Cb w.heap.size wr x) wr be (acQ o)/\Bl W4 wr)
  case atStart=>exact⟨0,none,Zp _,rfl,rfl,HCH.out,rfl,(fun p hp=>by cases hp),adn,Zh _ _⟩
  obtain⟨k,o,hk,rfl,rfl,CP,rfl,ho,hbe,hBk⟩:=hrel;have HO:=Zd (ZY CP (ZY ho hbe));clear CP ho hbe;have acK:=bV acJ hBk;have afj:=bV acv hBk;have hKk:=HK.out _ afj;have hzk:=hBk.size;by_cases Az:k<F.length
  .have HL:=Zd (HFH.out _ (Z3 (BJ Az)))
   have iT:=Zd (eW (g:=abl (aaZ r) c) (a:=o) Az);obtain⟨b7,o7,u,ee,U3,lH,hu⟩:=(HF.out _ hBk).at_ Az;subst ee;obtain⟨l,hl⟩:∃l,l=BM F k:=⟨_,rfl⟩;rw[<-hl]at hu HL iT;clear hl;obtain⟨va,vc,rfl,_⟩:=hu.val;have agi:b7<wr.heap.size:=ZH _ _ lH;have HUL:=Zd (show∀W,Bl wr W->SI (fun x=>S x\/Cb w.heap.size W4 x) W (U va l.length vc) l from fun W hB=>hu.later hB);have HLT:=Zd (show∀W,Bl wr W->∀x,(S x\/Cb w.heap.size W4 x)->x<W.heap.size from fun W hB x hx=>by
    have:=hB.size;rcases hx with hx|hx
    .have:=hS x hx;omega
    have:=hx.2;omega)
   have HCV:=Zd (show∀W,Bl wr W->W.cell? ⟨b7,o7+k,none⟩=some (U va l.length vc) from fun W hB=>(hB.cell (p:=⟨b7,o7+k,none⟩) agi).trans lH);have TB:(k:Int)<(F.length:Int):=by omega
   have g0:=fun p:Tw K wr=>p.cell (ch (i:=0) hKk rfl) (LP _);have g1:=fun p:Tw K wr=>p.cell (ch (i:=1) hKk rfl) (LP _);have g2:=fun p:Tw K wr=>p.cell (ch (i:=2) hKk rfl) (LP _);have g3:=fun p:Tw K wr=>p.cell (ch (i:=3) hKk rfl) (LP _);have g4:=fun p:Tw K wr=>p.cell (ch (i:=4) hKk rfl) (LP _);have g5:=fun p:Tw K wr=>p.cell lH (LP _);clear hu lH;go_wp2;refine G7 (S:=fun W=>∃p:Tw K wr,W=p.v) 11 [] [(false,5),(false,6),(true,7),(true,8),(false,9),(false,10)] [0,1,2,3,4] (by kernel_rfl) (fun _ _ d _ _ h=>by cases d<;>exact h) (by kernel_rfl) (A5 (Ak.later (Zh _ _).drew)) ?_;refine A4 _ _ (by kernel_rfl) ?_;simp only[Z6,zd,ZG,ZD,ZC]
   repeat (first|go_big_quiet_step (fail)|quiet_step (fail))
   refine Z4 ?_;clear g0 g1 g2 g3 g4 g5;change H2 _ _ _ _ _ _ _ _;have Uh:Bl wr wr.drew:=(Zh _ _).drew;have hE:Eg c l=0:=by
    rw[adg (HM.out.asked HL.out.1)];have WY:=HL.out.2;unfold Ev at WY;cases hs:JU c (DS c l) with
    |none=>rw[abK.1 hs];rfl
    |some i=>rw[hs]at WY;cases WY
   have jG:acZ c l=AB (DS c l):=if_pos hE;have HE0:=Zd hE;have H51:=Zd (c51 (mI.out _ (bV acK Uh)) (Sl.imp (HUL.out _ Uh) (HLT.out _ Uh) fun _ _ x=>x) fun x hx=>hx);rw[hE,jG]at H51;clear hE jG;refine Iy (f:=29) rfl rfl (by go_simp) (H51.out.mono ?_);rintro e V ⟨sv,rfl,Ui,hsv⟩;obtain⟨n,hn⟩:∃n,n=(AB (DS c l)).length:=⟨_,rfl⟩;have hn3:n<=3:=by rw[hn];exact Jo _ 3
   obtain⟨aav,aax,rfl,_⟩:=hsv.val;rw[<-hn];have aaz:=Zd hn;clear hn;have vE:=bV Uh Ui;have Kd:∃p:Tw K wr,V=p.v:=A5 (Ak.later vE);refine⟨_,rfl,.inr Kd,?_⟩;refine EY (v:=.tuple #[U aav n aax,.int J 0]) (w':=V) rfl rfl (by go_simp) (.inr Kd) ?_;refine Wz (v:=.slice aav n aax) Kd rfl rfl (fun w _=>by go_simp) ?_;refine Wz (v:=.int J 0) Kd rfl rfl (fun w _=>by go_simp) ?_;refine EY (v:=.slice aav n aax) (w':=V) rfl rfl (by go_simp) (.inr Kd) ?_;refine EY (v:=.int J 0) (w':=V) rfl rfl (by go_simp) (.inr Kd) ?_;unfold H2
   go_simp
   clear hsv Ui Uh Kd H51;have aeJ:=bV acK vE;have hKV:=HK.out _ (bV afj vE);have g0:=fun p:Tw K V=>p.cell (ch (i:=0) hKV rfl) (LP _);have g1:=fun p:Tw K V=>p.cell (ch (i:=1) hKV rfl) (LP _);have g2:=fun p:Tw K V=>p.cell (ch (i:=2) hKV rfl) (LP _);have g3:=fun p:Tw K V=>p.cell (ch (i:=3) hKV rfl) (LP _);have g4:=fun p:Tw K V=>p.cell (ch (i:=4) hKV rfl) (LP _);have g5:=fun p:Tw K V=>p.cell (HCV.out _ vE) (LP _);go_wp2;refine acL (S:=fun W=>∃p:Tw K V,W=p.v) 12 [] (.fork 5 (.free 6 (.free 7 (.free 8 (.one 9 (.one 10 (.one 11 .leaf)))))) 9 (.one 5 (.free 6 (.free 7 (.free 8 (.one 10 (.one 11 .leaf))))))) [0,1,2,3,4] (by kernel_rfl) (fun _ _ d _ _ h=>by cases d<;>exact h) (by kernel_rfl) (A5 (Ak.later (Zh _ _).drew)) ?_;refine A4 _ _ (by kernel_rfl) ?_;simp only[Z6,zd,ZG,ZD,ZC]
   repeat (first|go_big_quiet_step (fail)|quiet_step (fail))
   refine Z4 ?_;clear g0 g1 g2 g3 g4 g5;change abg _ _ _ _ _ _ _ _;have Uh:Bl V V.drew:=(Zh _ _).drew;have hzd:=Uh.size;have H59:=Zd (fun W (hB:Bl V W)=>age (n:=c.Aa.length) (mI.out W (bV aeJ hB)) (Sl.imp (HUL.out W (bV vE hB)) (HLT.out W (bV vE hB)) fun _ _ x=>x) (fun x hx=>hx) (abN HM.out) HE0.out rfl);refine adR ?hA ?hB
   case' hA=>
    refine adl (f:=30) rfl rfl (by go_simp) ((H59.out _ Uh).mono ?_);rintro e W5 ⟨n1,q1,d1,n2,q2,d2,n3,q3,d3,q4,d4,n5,q5,d5,rfl,Cj,hR5⟩;have aeM:=bV Uh Cj;have p9:=Cj.size;have hT5:∃p:Tw K V,W5=p.v:=A5 (Ak.later aeM);refine .inl ⟨_,rfl,.inr hT5,?_⟩;refine abk (v:=.tuple #[.agg #[U q1 n1 d1,U q2 n2 d2,U q3 n3 d3,U q4 c.Aa.length d4,U q5 n5 d5],.int J 0]) hT5 rfl rfl (fun w _=>by go_simp) ?_;refine abk (v:=.agg #[U q1 n1 d1,U q2 n2 d2,U q3 n3 d3,U q4 c.Aa.length d4,U q5 n5 d5]) hT5 rfl rfl (fun w _=>by go_simp) ?_;refine abk (v:=.int J 0) hT5 rfl rfl (fun w _=>by go_simp) ?_;obtain⟨A,hA⟩:∃A,A=W5.alloc (.cells #[U none 0 0,U none 0 0,U none 0 0,U none 0 0,U none 0 0] 28):=⟨_,rfl⟩;have hBA:Bl W5 A:=by rw[hA];exact bA (Zh _ _)
    have yp:A.heap[W5.heap.size]?=some (.cells #[U none 0 0,U none 0 0,U none 0 0,U none 0 0,U none 0 0] 28 (0,0)):=by rw[hA];exact Bp _ _
    have adv:=bV aeM hBA;refine ade (v:=.pointer (some ⟨W5.heap.size,0,none⟩)) (w':=A) rfl rfl (by rw[hA];go_simp) (.inr (A5 (Ak.later adv))) ?_;have hRA:RC (fun x=>Cb V.heap.size A x/\x≠W5.heap.size) A (U q1 n1 d1) (U q2 n2 d2) (U q3 n3 d3) (U q4 c.Aa.length d4) (U q5 n5 d5) (FH c l (DS c l)):=(hR5.later hBA).imp fun x hx=>⟨⟨by have:=hx.1;omega,by have:=hx.2;have:=hBA.size;omega⟩,by have:=hx.2;omega⟩;have mr:V.heap.size<=W5.heap.size:=by omega
    obtain⟨bx,H_⟩:∃bx,bx=W5.heap.size:=⟨_,rfl⟩;rw[<-H_]at yp hRA mr⊢;clear H_ hA hBA hT5 hR5 Cj aeM p9
   case' hB=>
    obtain⟨A0,hA0⟩:∃A0,A0=V.drew.alloc (.cells #[U none 0 0,U none 0 0,U none 0 0,U none 0 0,U none 0 0] 28):=⟨_,rfl⟩;have afl:YH V.drew.heap.size V.drew A0:=by rw[hA0];exact bA (Zh _ _)
    have uS:A0.heap[V.drew.heap.size]?=some (.cells #[U none 0 0,U none 0 0,U none 0 0,U none 0 0,U none 0 0] 28 (0,0)):=by rw[hA0];exact Bp _ _
    have adY:=bV Uh afl;refine ade (v:=.pointer (some ⟨V.drew.heap.size,0,none⟩)) (w':=A0) rfl rfl (by rw[hA0];go_simp) (.inr (A5 (Ak.later adY))) ?_;have mr:V.heap.size<=V.drew.heap.size:=hzd;obtain⟨bx,H_⟩:∃bx,bx=V.drew.heap.size:=⟨_,rfl⟩;rw[<-H_]at uS mr⊢;have Jz:=(Za.1 uS).1;clear H_ hA0;refine adl (f:=30) rfl rfl (by go_simp) ((H59.out _ adY).mono ?_);rintro e A ⟨n1,q1,d1,n2,q2,d2,n3,q3,d3,q4,d4,n5,q5,d5,rfl,Cj,hR5⟩;have adv:=bV adY Cj;have hT5:∃p:Tw K V,A=p.v:=A5 (Ak.later adv);refine .inl ⟨_,rfl,.inr hT5,?_⟩;refine abk (v:=.tuple #[.agg #[U q1 n1 d1,U q2 n2 d2,U q3 n3 d3,U q4 c.Aa.length d4,U q5 n5 d5],.int J 0]) hT5 rfl rfl (fun w _=>by go_simp) ?_;refine abk (v:=.agg #[U q1 n1 d1,U q2 n2 d2,U q3 n3 d3,U q4 c.Aa.length d4,U q5 n5 d5]) hT5 rfl rfl (fun w _=>by go_simp) ?_;refine abk (v:=.int J 0) hT5 rfl rfl (fun w _=>by go_simp) ?_;have yp:=(Cj.block _ Jz).trans uS;have hRA:RC (fun x=>Cb V.heap.size A x/\x≠bx) A (U q1 n1 d1) (U q2 n2 d2) (U q3 n3 d3) (U q4 c.Aa.length d4) (U q5 n5 d5) (FH c l (DS c l)):=hR5.imp fun x hx=>⟨⟨by have:=hx.1;omega,hx.2⟩,by have:=hx.1;omega⟩;clear uS afl adY Jz Cj hR5 hT5
   all_goals
    have x0:=ch (i:=0) yp (v:=.slice none 0 0) rfl;have x1:=ch (i:=1) yp (v:=.slice none 0 0) rfl;have x2:=ch (i:=2) yp (v:=.slice none 0 0) rfl;have x3:=ch (i:=3) yp (v:=.slice none 0 0) rfl;have x4:=ch (i:=4) yp (v:=.slice none 0 0) rfl;have f0:=cf (i:=0) yp;have f1:=cf (i:=1) yp;have f2:=cf (i:=2) yp;have f3:=cf (i:=3) yp;have f4:=cf (i:=4) yp;have aW:Ak (fun x=>x=bx) A A:=Ak.refl _ _;have adK:=((((aW.set (i:=0) (v:=.slice q1 n1 d1) rfl).set (i:=1) (v:=.slice q2 n2 d2) rfl).set (i:=2) (v:=.slice q3 n3 d3) rfl).set (i:=3) (v:=.slice q4 c.Aa.length d4) rfl).set (i:=4) (v:=.slice q5 n5 d5) rfl;have ahi:=Ba (i:=4) (Ba (i:=3) (Ba (i:=2) (Ba (i:=1) (Ba (i:=0) yp (U q1 n1 d1)) (U q2 n2 d2)) (U q3 n3 d3)) (U q4 c.Aa.length d4)) (U q5 n5 d5);have O5:Bl V _:=adv.trans (adK.below (fun x hx=>by rw[hx];exact mr) adv.size);refine adG rfl rfl (by go_simp) (.inr (A5 (Ak.later O5))) ?_;refine ade (v:=.int J 0) rfl rfl (by go_simp) (.inr (A5 (Ak.later O5))) ?_;unfold abg
    go_simp
    obtain⟨pZ,uD⟩:∃pZ,pZ=((((A.setCell ⟨bx,0,none⟩ (U q1 n1 d1)).setCell ⟨bx,1,none⟩ (U q2 n2 d2)).setCell ⟨bx,2,none⟩ (U q3 n3 d3)).setCell ⟨bx,3,none⟩ (U q4 c.Aa.length d4)).setCell ⟨bx,4,none⟩ (U q5 n5 d5):=⟨_,rfl⟩;have acr:pZ.heap[bx]?=some (.cells #[U q1 n1 d1,U q2 n2 d2,U q3 n3 d3,U q4 c.Aa.length d4,U q5 n5 d5] 28 (0,0)):=by rw[uD];exact ahi
    rw[<-uD]at adK O5⊢;clear uD ahi x0 x1 x2 x3 x4 f0 f1 f2 f3 f4 aW yp;have hzT:=adK.size;have hzB:=O5.size;have afm:RC (Cb V.heap.size pZ) pZ (U q1 n1 d1) (U q2 n2 d2) (U q3 n3 d3) (U q4 c.Aa.length d4) (U q5 n5 d5) (FH c l (DS c l)):=(hRA.Ar (adK.same fun x hx e=>hx.2 e)).imp fun x hx=>⟨hx.1.1,by have:=hx.1.2;omega⟩;have afn:=bV vE O5;have ado:=bV aeJ O5;have aj6:=aeJ.size;have HO2:=Zd (fun p hp=>acj (ss:=r) (p:=p) (aci HM.out HL.out.1 HL.out.2) hp);obtain⟨d6,hd6⟩:∃d6:Option Addr,d6=(if c6=1 then some ⟨b6,o6,none⟩ else some ⟨b6,o6+1,none⟩):=⟨_,rfl⟩;have HD6:=Zd hd6;clear hd6;have H83:=Zd (fun W (hB:Bl pZ W)=>HIH.out (fun x=>S x\/Cb w.heap.size W x) W (U q1 n1 d1) (U q2 n2 d2) (U q3 n3 d3) (U q4 c.Aa.length d4) (U q5 n5 d5) (U d6 (aa0 - 1) (c6 - 1)) (FH c l (DS c l))
     ((afm.later hB).imp fun x hx=>.inr ⟨by have:=hx.1;omega,by have:=hx.2;have:=hB.size;omega⟩) (adV (by rw[HD6.out];exact adt (HSS.out W (bV ado hB))) fun x hx=>.inl hx)
     (fun x hx=>by
      have:=(bV ado hB).size;rcases hx with hx|hx
      .have:=hS x hx;omega
      exact hx.2) (aci HM.out HL.out.1 HL.out.2) (by omega) HSE.out)
    have qO:=Zd (show abl (aaZ r) c o l=(match aaZ r (FH c l (DS c l)) with
     |none=>o
     |some p=>if LJ ((AB (DS c l)).length+p.2) o=true then some (l::p.1,(AB (DS c l)).length+p.2) else o) from rfl)
    rw[<-aaz.out]at qO;obtain⟨o2,nF⟩:∃o2,o2=aaZ r (FH c l (DS c l)):=⟨_,rfl⟩;rw[<-nF]at HO2 H83 qO;clear nF hRA afm adK adv H59 mr;have g0:=fun p:Tw K pZ=>p.cell (ch (i:=0) acr (v:=.slice q1 n1 d1) rfl) (LP _);have g1:=fun p:Tw K pZ=>p.cell (ch (i:=1) acr (v:=.slice q2 n2 d2) rfl) (LP _);have g2:=fun p:Tw K pZ=>p.cell (ch (i:=2) acr (v:=.slice q3 n3 d3) rfl) (LP _);have g3:=fun p:Tw K pZ=>p.cell (ch (i:=3) acr (v:=.slice q4 c.Aa.length d4) rfl) (LP _);have g4:=fun p:Tw K pZ=>p.cell (ch (i:=4) acr (v:=.slice q5 n5 d5) rfl) (LP _);go_wp2;refine G7 (S:=fun W=>∃p:Tw K pZ,W=p.v) 9 [] [(true,2),(false,3),(false,4),(true,5),(true,6),(false,7),(false,8)] [0,1] (by kernel_rfl) (fun _ _ d _ _ h=>by cases d<;>exact h) (by kernel_rfl) (A5 (Ak.later (Zh _ _).drew)) ?_;refine A4 _ _ (by kernel_rfl) ?_;simp only[Z6,zd,ZG,ZD,ZC]
    repeat (first|go_big_quiet_step (fail)|quiet_step (fail))
    refine Z4 ?_;clear g0 g1 g2 g3 g4;change H2 _ _ _ _ _ _ _ _;have adw:Bl pZ pZ.drew:=(Zh _ _).drew;have afo:∃p:Tw K pZ,pZ.drew=p.v:=A5 (Ak.later adw);have h1n:(1:Int)<=(aa0:Int):=by omega
    refine Wz (v:=(U d6 (aa0 - 1) (c6 - 1))) afo rfl rfl (fun w _=>by rw[HD6.out];go_simp) ?_;refine abx (f:=9) rfl rfl (by go_simp) ((H83.out _ adw).mono ?_);rintro e W11 ⟨Ua,⟨v11,rfl,aeQ⟩|⟨x,rfl,Ss⟩⟩
    rotate_left
    .exact .inr ⟨x,rfl,rfl,bV ado (bV adw Ua),.inr ⟨_,rfl,Ss⟩⟩
    have adh:=bV adw Ua;have adi:∃p:Tw K pZ,W11=p.v:=A5 (Ak.later adh);refine .inl ⟨_,rfl,.inr adi,?_⟩;obtain⟨ra,rc,rfl,_⟩:=Sl.val aeQ;obtain⟨rn,hrn⟩:∃rn,rn=(acQ o2).length:=⟨_,rfl⟩;obtain⟨n2v,aeR⟩:∃x,x=ads o2:=⟨_,rfl⟩;rw[<-hrn, <-aeR];have HRN:=Zd hrn;have HN2:=Zd aeR;clear hrn aeR;refine EY (v:=.tuple #[.int J n2v,U ra rn rc]) (w':=W11) rfl rfl (by go_simp) (.inr adi) ?_;refine Wz (v:=.int J n2v) adi rfl rfl (fun w _=>by go_simp) ?_;refine Wz (v:=.slice ra rn rc) adi rfl rfl (fun w _=>by go_simp) ?_;refine EY (v:=.int J n2v) (w':=W11) rfl rfl (by go_simp) (.inr adi) ?_;refine EY (v:=.slice ra rn rc) (w':=W11) rfl rfl (by go_simp) (.inr adi) ?_;unfold H2
    go_simp
    have abU:=bV afn adh;have ahP:=bV ado adh;have acs:=bV hBk abU;have aj8:=adw.size;have ad5:SL (fun x=>S x\/Cb w.heap.size W11 x) W11 (U ra (acQ o2).length rc) (acQ o2):=SL.imp aeQ fun x hx=>by
     have:=Ua.size;rcases hx with(hx|hx)|hx
     .exact .inl hx
     .exact .inr ⟨hx.1,by have:=hx.2;omega⟩
     exact .inr ⟨by have:=hx.1;omega,hx.2⟩
    have ahR:=abU.size;have uR:=Zd (show(F.drop (k+1)).foldl (abl (aaZ r) c) (abl (aaZ r) c o l)=C by rw[<-iT.out];exact HO.out.1);have HBO:=Zd (show SL (fun x=>S x\/Cb w.heap.size W11 x) W11 _ (acQ o) from SL.imp (SL.later HO.out.2.2 abU) fun x hx=>by
     rcases hx with hx|hx
     .exact .inl hx
     exact .inr ⟨hx.1,by have:=hx.2;omega⟩)
    clear aeQ Ua adw adi afo H83 O5 acr;have kc:=HCV.out _ abU;obtain⟨i0,hi,Fl,DR,EB⟩:=zp Hw;have apL:=Cz zW;cases o2 with
    |none=>
     obtain rfl:n2v= -1:=HN2.out;have ly:=Zd (show abl (aaZ r) c o l=o from qO.out);go_wp2;go_roundg (F.length - (k+1))
     case rel=>exact⟨k+1,o,Az,rfl,by go_num,by have:=uR.out;rwa[ly.out]at this,rfl,HO.out.2.1,HBO.out,acs⟩
     case measure=>omega
    |some p=>
     obtain rfl:n2v=p.2:=HN2.out;have HP:=Zd (show 0<=p.2/\p.2<=6/\p.1.length<=2 by have:=HO2.out p rfl;omega);have hp0:=HP.out.1;have hp6:=HP.out.2.1;have hw:IntKind.i64.wrap (p.2+(n:Int))=p.2+(n:Int):=by rw[zE];omega
     have hm2:(p.2==(-2:Int))=false:=beq_eq_false_iff_ne.2 (by omega);have hge:¬p.2<0:=by omega
     cases o with
     |none=>
      have ly:=Zd (show abl (aaZ r) c none l=some (l::p.1,(n:Int)+p.2) from qO.out);cases ra with
      |none=>
       have lO:p.1=[]:=by
        cases hp:p.1 with
        |nil=>rfl
        |cons x y=>
         have h0:=ad5;change SL _ _ (U none p.1.length rc) p.1 at h0;rw[hp]at h0;obtain⟨_,_,_,e,_⟩:=SL.at_ (i:=0) h0 (Nat.succ_pos _);cases e
       obtain rfl:rn=0:=HRN.out.trans (by show p.1.length=0;rw[lO];rfl);have yj:(W11.alloc (.cells #[U va l.length vc] 22)).ownsRow W11.heap.size 22 1 (U (some ⟨W11.heap.size,0,none⟩) 1 1) 1 [U va l.length vc]:=World.ownsRow_lit W11 #[U va l.length vc] 1 (Zj _) (by decide) rfl;have hBZ:Bl W11 (W11.alloc (.cells #[U va l.length vc] 22)):=bA (Zh _ _);have Qs:=Zd (show SL (fun x=>S x\/Cb w.heap.size (W11.alloc (.cells #[U va l.length vc] 22)) x) (W11.alloc (.cells #[U va l.length vc] 22)) (U (some ⟨W11.heap.size,0,none⟩) 1 1) (l::p.1) from by
        rw[lO];exact ac3 yj (fun b hb=>.inr ⟨by have:=hb.1;omega,hb.2⟩) fun i x hx=>by
         cases i with
         |zero=>cases hx;exact⟨_,rfl,Sl.imp (HUL.out _ (bV abU hBZ)) (fun b hb=>by
           rcases hb with hb|hb
           .exact .inl hb
           .exact .inr ⟨hb.1,by have:=hb.2;have:=hBZ.size;omega⟩) fun _ _ x=>x⟩
         |succ i=>cases hx)
       have HBZ:=Zd (bV acs hBZ);clear yj hBZ ad5;go_wp2;go_roundg (F.length - (k+1))
       case rel=>exact⟨k+1,some (l::p.1,(n:Int)+p.2),Az,rfl,by go_num,by rw[<-ly.out];exact uR.out,by rw[Int.add_comm];rfl,(fun p' lR=>by cases lR;exact⟨by have:=HP.out;show 0<=(n:Int)+p.2;omega,by have:=HP.out;show(n:Int)+p.2<=100;omega⟩),Qs.out,HBZ.out⟩
       case measure=>omega
      |some ad=>
       obtain⟨news,uz,hRw,hcw⟩:=Sl.row ad5 (by decide) ad rfl;have HCW:=Zd hcw;have HRW:=Zd hRw;have h1c:∀u∈news,u.oneCell'=true:=row_one (by decide) uz hRw aic;obtain rfl:rn=p.1.length:=HRN.out;have aeV:news.length=p.1.length*1:=uz;have hp3:p.1.length<=3:=by have:=HP.out;omega
       have yj:(W11.alloc (.cells #[U va l.length vc] 22)).ownsRow W11.heap.size 22 1 (U (some ⟨W11.heap.size,0,none⟩) 1 1) 1 [U va l.length vc]:=World.ownsRow_lit W11 #[U va l.length vc] 1 (Zj _) (by decide) rfl;clear hcw hRw uz ad5;go_wp2_with (at_builtin;refine Yc _ rfl _ _ 33 rfl W11.heap.size 22 i0 (U none 0 0) 1 24 apL (Dz hi) Fl DR EB rfl (by decide) _ 1 [U va l.length vc] rfl yj ad p.1.length rc news rfl aeV (fun j u hj=>ca (HCW.out j u hj) _) h1c (by unfold maxLen;omega) (by omega) (by simp) ?_;intro v9 w9 hv9 r_ acM;obtain⟨ga,gc,rfl,_,_,_⟩:=JS hv9);have hBZ:Bl W11 w9:=Bm (bA (Zh _ _)) r_ (fun q hq=>by cases hq;exact Zj _) (by simp);have Qs:=Zd (show SL (fun x=>S x\/Cb w.heap.size w9 x) w9 (U ga (1+p.1.length) gc) (l::p.1) from
        ac3 (by rw[show(l::p.1).length=1+p.1.length from by rw[zb,Nat.add_comm]];exact hv9) (fun b hb=>.inr ⟨by have:=hb.1;omega,hb.2⟩) fun i x hx=>by
         cases i with
         |zero=>cases hx;exact⟨_,rfl,Sl.imp (HUL.out _ (bV abU hBZ)) (fun b hb=>by
           rcases hb with hb|hb
           .exact .inl hb
           .exact .inr ⟨hb.1,by have:=hb.2;have:=hBZ.size;omega⟩) fun _ _ x=>x⟩
         |succ i=>
          obtain⟨u',e,hsu⟩:=HRW.out i x (show p.1[i]?=some x by simpa using hx);have h1:((news.drop (i*1)).take 1)[0]?=some u':=by rw[e];rfl
          rw[Z2 (by omega),Yl]at h1;exact⟨u',by simpa using h1,Sl.imp (SI.Ar hsu (CE.Ec hBZ)) (fun b hb=>by
           rcases hb with hb|hb
           .exact .inl hb
           exact .inr ⟨hb.1,by have:=hb.2;have:=hBZ.size;omega⟩) fun _ _ x=>x⟩)
       have HBZ:=Zd (bV acs hBZ);clear yj hBZ hv9 r_ acM;go_wp2;go_roundg (F.length - (k+1))
       case rel=>exact⟨k+1,some (l::p.1,(n:Int)+p.2),Az,rfl,by go_num,by rw[<-ly.out];exact uR.out,by rw[Int.add_comm];rfl,(fun p' lR=>by cases lR;exact⟨by have:=HP.out;show 0<=(n:Int)+p.2;omega,by have:=HP.out;show(n:Int)+p.2<=100;omega⟩),Qs.out,HBZ.out⟩
       case measure=>omega
     |some qq=>
      have hq:=HO.out.2.1 qq rfl;have hq0:¬qq.2<0:=by omega
      by_cases hb:(n:Int)+p.2<qq.2
      .have ly:=Zd (show abl (aaZ r) c (some qq) l=some (l::p.1,(n:Int)+p.2) from qO.out.trans (if_pos (decide_eq_true hb)))
       have G1:p.2+(n:Int)<qq.2:=by omega
       have hcq:ads (some qq)=qq.2:=rfl;cases ra with
       |none=>
        have lO:p.1=[]:=by
         cases hp:p.1 with
         |nil=>rfl
         |cons x y=>
          have h0:=ad5;change SL _ _ (U none p.1.length rc) p.1 at h0;rw[hp]at h0;obtain⟨_,_,_,e,_⟩:=SL.at_ (i:=0) h0 (Nat.succ_pos _);cases e
        obtain rfl:rn=0:=HRN.out.trans (by show p.1.length=0;rw[lO];rfl);have yj:(W11.alloc (.cells #[U va l.length vc] 22)).ownsRow W11.heap.size 22 1 (U (some ⟨W11.heap.size,0,none⟩) 1 1) 1 [U va l.length vc]:=World.ownsRow_lit W11 #[U va l.length vc] 1 (Zj _) (by decide) rfl;have hBZ:Bl W11 (W11.alloc (.cells #[U va l.length vc] 22)):=bA (Zh _ _);have Qs:=Zd (show SL (fun x=>S x\/Cb w.heap.size (W11.alloc (.cells #[U va l.length vc] 22)) x) (W11.alloc (.cells #[U va l.length vc] 22)) (U (some ⟨W11.heap.size,0,none⟩) 1 1) (l::p.1) from by
         rw[lO];exact ac3 yj (fun b hb=>.inr ⟨by have:=hb.1;omega,hb.2⟩) fun i x hx=>by
          cases i with
          |zero=>cases hx;exact⟨_,rfl,Sl.imp (HUL.out _ (bV abU hBZ)) (fun b hb=>by
            rcases hb with hb|hb
            .exact .inl hb
            .exact .inr ⟨hb.1,by have:=hb.2;have:=hBZ.size;omega⟩) fun _ _ x=>x⟩
          |succ i=>cases hx)
        have HBZ:=Zd (bV acs hBZ);clear yj hBZ ad5;go_wp2;go_roundg (F.length - (k+1))
        case rel=>exact⟨k+1,some (l::p.1,(n:Int)+p.2),Az,rfl,by go_num,by rw[<-ly.out];exact uR.out,by rw[Int.add_comm];rfl,(fun p' lR=>by cases lR;exact⟨by have:=HP.out;show 0<=(n:Int)+p.2;omega,by have:=HP.out;show(n:Int)+p.2<=100;omega⟩),Qs.out,HBZ.out⟩
        case measure=>omega
       |some ad=>
        obtain⟨news,uz,hRw,hcw⟩:=Sl.row ad5 (by decide) ad rfl;have HCW:=Zd hcw;have HRW:=Zd hRw;have h1c:∀u∈news,u.oneCell'=true:=row_one (by decide) uz hRw aic;obtain rfl:rn=p.1.length:=HRN.out;have aeV:news.length=p.1.length*1:=uz;have hp3:p.1.length<=3:=by have:=HP.out;omega
        have yj:(W11.alloc (.cells #[U va l.length vc] 22)).ownsRow W11.heap.size 22 1 (U (some ⟨W11.heap.size,0,none⟩) 1 1) 1 [U va l.length vc]:=World.ownsRow_lit W11 #[U va l.length vc] 1 (Zj _) (by decide) rfl;clear hcw hRw uz ad5;go_wp2_with (at_builtin;refine Yc _ rfl _ _ 33 rfl W11.heap.size 22 i0 (U none 0 0) 1 24 apL (Dz hi) Fl DR EB rfl (by decide) _ 1 [U va l.length vc] rfl yj ad p.1.length rc news rfl aeV (fun j u hj=>ca (HCW.out j u hj) _) h1c (by unfold maxLen;omega) (by omega) (by simp) ?_;intro v9 w9 hv9 r_ acM;obtain⟨ga,gc,rfl,_,_,_⟩:=JS hv9);have hBZ:Bl W11 w9:=Bm (bA (Zh _ _)) r_ (fun q hq=>by cases hq;exact Zj _) (by simp);have Qs:=Zd (show SL (fun x=>S x\/Cb w.heap.size w9 x) w9 (U ga (1+p.1.length) gc) (l::p.1) from
         ac3 (by rw[show(l::p.1).length=1+p.1.length from by rw[zb,Nat.add_comm]];exact hv9) (fun b hb=>.inr ⟨by have:=hb.1;omega,hb.2⟩) fun i x hx=>by
          cases i with
          |zero=>cases hx;exact⟨_,rfl,Sl.imp (HUL.out _ (bV abU hBZ)) (fun b hb=>by
            rcases hb with hb|hb
            .exact .inl hb
            .exact .inr ⟨hb.1,by have:=hb.2;have:=hBZ.size;omega⟩) fun _ _ x=>x⟩
          |succ i=>
           obtain⟨u',e,hsu⟩:=HRW.out i x (show p.1[i]?=some x by simpa using hx);have h1:((news.drop (i*1)).take 1)[0]?=some u':=by rw[e];rfl
           rw[Z2 (by omega),Yl]at h1;exact⟨u',by simpa using h1,Sl.imp (SI.Ar hsu (CE.Ec hBZ)) (fun b hb=>by
            rcases hb with hb|hb
            .exact .inl hb
            exact .inr ⟨hb.1,by have:=hb.2;have:=hBZ.size;omega⟩) fun _ _ x=>x⟩)
        have HBZ:=Zd (bV acs hBZ);clear yj hBZ hv9 r_ acM;go_wp2;go_roundg (F.length - (k+1))
        case rel=>exact⟨k+1,some (l::p.1,(n:Int)+p.2),Az,rfl,by go_num,by rw[<-ly.out];exact uR.out,by rw[Int.add_comm];rfl,(fun p' lR=>by cases lR;exact⟨by have:=HP.out;show 0<=(n:Int)+p.2;omega,by have:=HP.out;show(n:Int)+p.2<=100;omega⟩),Qs.out,HBZ.out⟩
        omega
      have ly:=Zd (show abl (aaZ r) c (some qq) l=some qq from qO.out.trans (if_neg (by show¬decide _=true;rw[decide_eq_true_eq];exact hb)));have G1:¬p.2+(n:Int)<qq.2:=by omega
      have hcq:ads (some qq)=qq.2:=rfl;go_wp2;go_roundg (F.length - (k+1))
      case rel=>exact⟨k+1,some qq,Az,rfl,by go_num,by have:=uR.out;rwa[ly.out]at this,rfl,HO.out.2.1,HBO.out,acs⟩
      omega
  have hkF:k=F.length:=by omega
  subst hkF;have hoC:o=C:=by have:=HO.out.1;rwa[List.drop_length]at this
  subst hoC;have hzw:=acK.size;have Qs:=Zd HO.out.2.2;go_wp2;go_ret2;exact⟨acK,.inl ⟨_,rfl,Qs.out⟩⟩
def af1:(Tryz.prog.info? 25).map (fun i=>(i.zero,i.size,i.bytes))=some (some (U none 0 0),1,24):=by kernel_rfl
def aaA (base:Nat)(w:Zb)(v:Zf)(ss:List (List (Int×Int))):Prop:=
 ∃vals,w.ownsRow base 25 1 v ss.length vals/\∀(i:Nat) (x:List (Int×Int)),ss[i]?=some x->∃u,vals[i]?=some u/\SP (TT base w) w u x
def aaA.snoc {base:Nat}{v' u:Zf}{ss:List (List (Int×Int))}(h1:A.ownsRow base 25 1 v ss.length vals)(h2:∀(i:Nat) (x:List (Int×Int)),ss[i]?=some x->∃u,vals[i]?=some u/\SP (TT base A) A u x)
 (hu:SP (TT base A) A u s) (S4:(A.alloc (.cells #[u] 25)).grownBy w1 v.ownBlock) (AX:w1.ownsRow base 25 1 v' (ss.length+1) (vals++ [u])):aaA base w1 v' (ss++ [s]):=by
 have hT:Ak (fun k=>v.ownBlock=some k) A w1:=(Ak.later (bA (Zh _ _))).trans (Ak.grown S4 fun k hk=>hk);have hx:∀x,TT base A x->¬v.ownBlock=some x:=fun x hx e=>by
  obtain⟨_,cs,h⟩:=J3 h1 x e;exact hx.not h ⟨by decide,by decide,by decide⟩
 have uM:vals.length=ss.length:=by have:=h1.1;omega
 refine⟨vals++ [u],by rw[ZA];exact AX,fun i x hi=>?_⟩;by_cases Az:i<ss.length
 .rw[zl Az]at hi
  obtain⟨y,hy,hs⟩:=h2 i x hi;exact⟨y,by rw[zl (show i<vals.length by omega)];exact hy,mL hs hT hx⟩
 have aX:=(Zm.1 hi).1;rw[ZA,zb,zR]at aX;obtain rfl:i=ss.length:=by omega
 rw[Y1]at hi;cases hi;exact⟨u,by rw[<-uM,Y1],mL hu hT hx⟩
def aaA.ssp {base:Nat}{ss:List (List (Int×Int))}(h:aaA base w v ss):SSP (fun x=>x<w.heap.size) w v ss:=by
 obtain⟨vals,hr,hv⟩:=h;obtain⟨a,c,h1,h2,h3,h4⟩:=U7 hr;refine⟨a,c,h1,h2,h3,fun i x hx=>?_⟩;obtain⟨u,hu,hs⟩:=hv i x hx;obtain⟨b,hb,hN,hc⟩:=h4 i u hu;refine⟨b,0,[u],hb,hN.2,rfl,fun j y hy=>?_,u,rfl,Sl.imp hs (fun x hx=>hx.lt) fun _ _ x=>x⟩;cases j with
 |zero=>cases hy;exact hc
 |succ j=>cases hy
def adL {a:Option Addr}{c:Nat}{r:List (List (Int×Int))}(h:SSP S w (U a n c) (s::r)):SSP S w (U a 1 c) [s]:=by
 obtain⟨a',c',h1,h2,h3,h4⟩:=h;cases h1;refine⟨_,_,rfl,by rw[zb]at h2;show 1<=c;omega,h3,fun i x hx=>?_⟩;cases i with
 |zero=>cases hx;exact h4 0 s rfl
 |succ i=>cases hx
def adZ (hM:H6 c)(s:List (Int×Int))(v:Zf)(hv:∀l,abo c (lF c s)=some l->∃a k,v=.slice a l.length k):(∃aav aaB aax,afb c v (abo c (lF c s))=.tuple #[U aav aaB aax,.int J (qW c [s]),.int J (qX c [s])])/\(qX c [s]=0\/qX c [s]=11):=by
 have hr:qU c [s]=aaZ [s] c:=ac2 hM.valid [s] c (aby hM);unfold qW qX;rw[hr];rcases adT c s with⟨h1,h2⟩|⟨b,p,h1,h2,h3⟩
 .rw[h1,h2]
  exact⟨⟨none,0,0,rfl⟩,.inr rfl⟩
 rw[h1,h2];obtain⟨a,k,rfl⟩:=hv b h1;refine⟨⟨a,b.length,k,?_⟩,.inl rfl⟩;show YK #[_,.int J ((AB (DS c b)).length:Int),.int J 0]=.tuple #[_,.int J p.2,.int J 0];rw[h3]
def seN:Option (List (List Int)×Int)->Int
 |none=>0
 |some p=>p.2
def seE:Option (List (List Int)×Int)->Int
 |none=>11
 |some _=>0
def af4 (hM:H6 c)(ss:List (List (Int×Int))):qW c ss=seN (aaZ ss c)/\qX c ss=seE (aaZ ss c)/\qV c ss=acQ (aaZ ss c):=by
 have hr:qU c ss=aaZ ss c:=ac2 hM.valid ss c (aby hM);unfold qW qX qV;rw[hr];cases aaZ ss c<;>exact⟨rfl,rfl,rfl⟩
def adj (a:List (List Int)):O' a a=true:=decide_eq_true rfl
def afr (hn:SI Sn w lv nums)(E8:∀x,Sn x->x<w.heap.size)(hG:Jr w):Calls Lp 3 #[lv] w (Two w (.bool true)):=by
 obtain⟨la,lc,rfl,_⟩:=hn.val;have IX:=DJ;have H44:=Zd (fun(W:Zb) (b d:Nat) (h1:SI Sn W (U la nums.length lc) nums) (h2:∀x,Sn x->x<W.heap.size/\x≠b) (h3:BK W b (U la nums.length lc) d) (h4:d+1000<4611686018427387904)=>show Calls Lp 5 #[.pointer (some ⟨b,0,none⟩),.int J 2] W (qL W b (U la nums.length lc) d 2) from c44 (s:=2) h1 h2 h3 h4 (by decide));go_enter Lp.func23,n23;go_wp2_with (first|(go_at_call 4;refine(c27 _ ⟨_,_,_,rfl⟩ _).mono ?_;rintro e W1 ⟨rfl,hw⟩;(have Bg:Bl w W1:=by rw[hw];exact bA (Zh _ _));(have Ue:BK W1 w.heap.size (U la nums.length lc) 0:=⟨1,by rw[hw];exact Bp _ _⟩);clear hw;obtain⟨b,hb⟩:∃b,b=w.heap.size:=⟨_,rfl⟩;rw[<-hb]at Ue⊢;have HB:=Zd hb;clear hb)|(go_at_call 5;refine(H44.out _ _ _ (hn.later Bg) (fun x hx=>⟨by have:=E8 x hx;have:=Bg.size;omega,by have:=E8 x hx;have:=HB.out;omega⟩) Ue (by omega)).mono ?_;rintro e W2 ⟨c,u1,u2,u3,u4,u5,d2,rfl,M7,hd2,yv,hM,hc3⟩;obtain⟨a1,c1,rfl,_⟩:=yv.base.val;obtain⟨a2,c2,rfl,_⟩:=yv.Af.val;obtain⟨a3,c3,rfl,_⟩:=yv.hooks.val;obtain⟨a4,c4,rfl,_⟩:=yv.Aa.val;obtain⟨a5,c5,rfl,_⟩:=yv.now.val));have GK:b<=w.heap.size/\w.heap.size<=b:=by have:=HB.out;omega
 have DR:=Bg.size;have FD:b<W1.heap.size:=Ue.lt;have EB:=M7.Cn.size;have Bb:=B3.aj4 Bg M7.Cn (by omega);have Xo:=(hn.later Bg).Cn M7.Cn (fun x hx=>⟨by have:=E8 x hx;omega,by have:=E8 x hx;omega⟩);obtain⟨X,hX⟩:∃X,X=W2.alloc (.cells #[U a1 c.base.length c1,U a2 c.Af.length c2,U a3 c.hooks.length c3,U a4 c.Aa.length c4,U a5 c.now.length c5] 28):=⟨_,rfl⟩;have Ov:Bl W2 X:=by rw[hX];exact bA (Zh _ _)
 have hK:X.heap[W2.heap.size]?=some (.cells #[U a1 c.base.length c1,U a2 c.Af.length c2,U a3 c.hooks.length c3,U a4 c.Aa.length c4,U a5 c.now.length c5] 28 (0,0)):=by rw[hX];exact Bp _ _
 obtain⟨q,hq⟩:∃q,q=W2.heap.size:=⟨_,rfl⟩;rw[<-hq]at hK;rw[<-hX, <-hq];have xS:q<X.heap.size:=(Za.1 hK).1;have M9:W2.heap.size<=q/\q<=W2.heap.size:=by omega
 clear hX hq;have Jm:=hM.few;have hS:∀x,Cb W1.heap.size W2 x->x<X.heap.size/\x≠b:=fun x hx=>⟨by have:=hx.2;have:=Ov.size;omega,by have:=hx.1;omega⟩;refine(c61 (Xo.later Ov) (fun x hx=>⟨by have:=E8 x hx;have:=Ov.size;omega,by have:=E8 x hx;omega⟩) (M7.E4.later Ov) (by omega) (by omega) (by omega)).mono ?_;rintro e W3 ⟨r1,d3,rfl,Xg,H4,hL3,hd3⟩;have Ox:r1<=2:=Xg;have F1:=H4.at_ hK (by omega);have O9:=(yv.later Ov).Ar (H4.same fun x hx=>(hS x hx).2);have hn3:=(Xo.later Ov).Cn H4 (fun x hx=>⟨by have:=E8 x hx;have:=Ov.size;omega,by have:=E8 x hx;omega⟩);have Bv:=B3.aj4 (Bb.trans (Ov.mono Bb.size)) H4 (by omega);have Rb:=H4.size;have hzX:=Ov.size;have HM:=Zd hM;have mB:=hG.later Bv;have hbX:b<X.heap.size:=by omega
 have hS3:∀x,Cb W1.heap.size W2 x->x<W3.heap.size/\x≠b:=fun x hx=>⟨by have:=(hS x hx).1;omega,(hS x hx).2⟩;have af5:∀x,Sn x->x<W3.heap.size/\x≠b:=fun x hx=>⟨by have:=E8 x hx;omega,by have:=E8 x hx;omega⟩;have HK:=Zd (show∀W,B3 b W3 W->W.heap[q]?=some (.cells #[U a1 c.base.length c1,U a2 c.Af.length c2,U a3 c.hooks.length c3,U a4 c.Aa.length c4,U a5 c.now.length c5] 28 (0,0)) from fun W hU=>hU.at_ F1 (by omega));have HR:=Zd (show∀W,B3 b W3 W->RC (Cb W1.heap.size W2) W (U a1 c.base.length c1) (U a2 c.Af.length c2) (U a3 c.hooks.length c3) (U a4 c.Aa.length c4) (U a5 c.now.length c5) c from fun W hU=>O9.Ar (hU.same fun x hx=>(hS3 x hx).2));have HNS:=Zd (show∀W,B3 b W3 W->SI Sn W (U la nums.length lc) nums from fun W hU=>hn3.Cn hU af5);have iD:=Zd hS3;have HSN:=Zd af5;clear hK F1 Xo yv M7 Ue hM O9 H4 hn3 hS hS3 af5;obtain⟨i0,hi,Fl,k9,abT⟩:=zp af1;have agF:=Cz Tryz.underlying30;go_wp2;go_loopg [5,6] (1+r1) (fun gg sv i wr=>∃(aaC:Int) (d:Nat) (ss:List (List (Int×Int))),gg=aaC.toNat/\i=.int J aaC/\0<=aaC/\aaC+(ss.length:Int)=1+(r1:Int)/\aaA W3.heap.size wr sv ss/\(∀s∈ss,Fs c.base.length s=0)/\B3 b W3 wr/\BK wr b (U la nums.length lc) d/\d<=2000+200*ss.length)
 case atStart=>exact⟨1+(r1:Int),d3,[],by omega,rfl,by omega,by simp,⟨[],zq _ _ _ _,fun i x hx=>by cases hx⟩,(fun s hs=>by cases hs),B3.refl _ _,hL3,by omega⟩
 obtain⟨aaC,d,ss,rfl,rfl,hm0,uY,hsq,hse,hU,hL,hd⟩:=hrel;have HSE:=Zd hse;clear hse;have hzU:=hU.size;by_cases Az:0<aaC
 .obtain⟨vals,Ci,DF⟩:=hsq
  have HV:=Zd DF;clear DF;obtain⟨sa,sc,rfl,_⟩:=JS Ci;have hKk:=HK.out _ hU;have k0:=ch (i:=0) hKk rfl;have k1:=ch (i:=1) hKk rfl;have k2:=ch (i:=2) hKk rfl;have k3:=ch (i:=3) hKk rfl;have k4:=ch (i:=4) hKk rfl;have aji:ss.length<=3:=by omega
  have hw:IntKind.i64.wrap (aaC - 1)=aaC - 1:=by rw[zE];omega
  have HML:=Zd uY;clear uY;go_wp2;refine(ag8 (HR.out _ hU) (fun x hx=>⟨by have:=(iD.out x hx).1;omega,(iD.out x hx).2⟩) (HNS.out _ hU) (fun x hx=>⟨by have:=(HSN.out x hx).1;omega,(HSN.out x hx).2⟩) hL (by omega) HM.out).mono ?_;rintro e W4 ⟨ta,aas,s,d',rfl,ld,hd4,mi,ER⟩;have S5:=ld.Cn;have hz4:=S5.size;have HS0:=Zd ER;clear k0 k1 k2 k3 k4 hKk ER;have yf:=D2 Ci S5 (by omega:b<W3.heap.size);have HV4:=Zd (show∀(i:Nat) (x:List (Int×Int)),ss[i]?=some x->∃u,vals[i]?=some u/\SP (TT W3.heap.size W4) W4 u x from fun i x hx=>by
   obtain⟨u,e,h⟩:=HV.out i x hx;exact⟨u,e,mL (T:=fun x=>x=b) h (S5.CN (K:=fun x=>x=b) rfl) fun x hx e=>by have:=hx.1;omega⟩)
  have hs5:SP (TT W3.heap.size W4) W4 (U ta s.length aas) s:=Ug mi (by omega);have hL4:=ld.E4;dsimp only;clear mi Ci hL;go_wp2_with (at_builtin;refine Yc _ rfl _ _ 30 rfl W3.heap.size 25 i0 (U none 0 0) 1 24 agF (Dz hi) Fl k9 abT rfl (by decide) _ ss.length vals rfl (Ya yf _) ⟨W4.heap.size,0,none⟩ 1 1 [U ta s.length aas] rfl rfl (cell_one_new _ _ _) (by simp[YT]) (by unfold maxLen;omega) (by omega) (by simp;omega) ?_;intro v9 w9 hv9 r_ acM);have afs:aaA W3.heap.size w9 v9 (ss++ [s]):=aaA.snoc yf HV4.out hs5 r_ hv9;have Em:=J3 yf;have pY:B3 b W3 w9:=((hU.trans S5).below (bA (Zh _ _))).grown r_ fun x hx=>by have:=(Em x hx).1;omega
  have hL9:BK w9 b (U la nums.length lc) d':=(hL4.later (bA (Zh _ _))).of (r_.block b (hL4.later (bA (Zh _ _))).lt (fun e=>by have:=(Em b e.symm).1;omega));have Qs:=Zd (ZY afs (ZY pY hL9));clear afs pY hL9 yf hs5 r_ hv9 acM Em hL4;go_roundg (aaC - 1).toNat
  case rel=>exact⟨aaC - 1,d',ss++ [s],rfl,rfl,by omega,by have:=HML.out;rw[ZA];simp;omega,Qs.out.1,(fun x hx=>by
   rcases Zab.1 hx with h|h
   .exact HSE.out x h
   rw[Yh.1 h];exact HS0.out),Qs.out.2.1,Qs.out.2.2,by rw[ZA];simp;omega⟩
  omega
 have hmi:aaC=0:=by omega
 subst hmi;have adM:1<=ss.length/\ss.length<=3:=by omega
 have ae3:=hsq.ssp;clear hsq;obtain⟨s0,r0,rfl⟩:∃s0 r0,ss=s0::r0:=by
  cases ss with
  |nil=>exact absurd adM.1 (by simp)
  |cons s0 r0=>exact⟨_,_,rfl⟩
 obtain⟨sa,sc,rfl,NK,_⟩:=Sl.val ae3;obtain⟨b6,o6,u,ee,Xj,lH,hu⟩:=ae3.at_ (i:=0) (Nat.succ_pos _);subst ee;replace hu:SP (fun x=>x<wr.heap.size) wr u s0:=hu;obtain⟨ua,uc,rfl,_⟩:=hu.val;obtain⟨Z,hZ⟩:∃Z,Z=wr:=⟨_,rfl⟩;subst hZ;have hBZ:=B3.aj4 Bv hU (by omega);have hGZ:=hG.later hBZ;have hKZ:=HK.out _ hU;have HKZ:=Zd (show∀W,Bl Z W->W.heap[q]?=some (.cells #[U a1 c.base.length c1,U a2 c.Af.length c2,U a3 c.hooks.length c3,U a4 c.Aa.length c4,U a5 c.now.length c5] 28 (0,0)) from fun W hB=>(hB.block _ (Za.1 hKZ).1).trans hKZ);have mI:=Zd (show∀W,Bl Z W->RC (fun x=>x<W.heap.size) W (U a1 c.base.length c1) (U a2 c.Af.length c2) (U a3 c.hooks.length c3) (U a4 c.Aa.length c4) (U a5 c.now.length c5) c from fun W hB=>((HR.out _ hU).later hB).imp fun x hx=>by have:=(iD.out x hx).1;have:=hB.size;show x<W.heap.size;omega);have HSS:=Zd (show∀W,Bl Z W->SSP (fun x=>x<W.heap.size) W (U (some ⟨b6,o6,none⟩) (s0::r0).length sc) (s0::r0) from fun W hB=>adu ae3 (fun x hx=>hx) hB);have HCU:=Zd (show∀W,Bl Z W->W.cell? ⟨b6,o6,none⟩=some (U ua s0.length uc) from fun W hB=>(hB.cell (p:=⟨b6,o6,none⟩) Xj).trans lH);have HSP:=Zd (show∀W,Bl Z W->SP (fun x=>x<W.heap.size) W (U ua s0.length uc) s0 from fun W hB=>Sl.imp (hu.later hB) (fun x (hx:x<Z.heap.size)=>by have:=hB.size;show x<W.heap.size;omega) fun _ _ x=>x);have H41:=Zd (fun W (hB:Bl Z W)=>c41 (mI.out W hB) (HSS.out W hB) (fun x hx=>hx) HM.out.begin adM HSE.out (abN HM.out));have H83:=Zd (fun W (hB:Bl Z W)=>c83 (s0::r0) (fun x=>x<W.heap.size) W (U a1 c.base.length c1) (U a2 c.Af.length c2) (U a3 c.hooks.length c3) (U a4 c.Aa.length c4) (U a5 c.now.length c5) (U (some ⟨b6,o6,none⟩) (s0::r0).length sc) c (mI.out W hB) (HSS.out W hB) (fun x hx=>hx) HM.out adM.2 HSE.out);have H77:=Zd (fun W (hB:Bl Z W)=>c77 (mI.out W hB) (HSP.out W hB) (fun x hx=>hx) HM.out.begin (HSE.out s0 (zC ..)));have ah1:=Zd (fun W (hB:Bl Z W)=>c41 (mI.out W hB) (adL (HSS.out W hB)) (fun x hx=>hx) HM.out.begin (ss:=[s0]) ⟨Zj _,by simp⟩ (fun s hs=>by rw[Yh.1 hs];exact HSE.out s0 (zC ..)) (abN HM.out));have HFS:=Zd (adZ HM.out s0);have HSO:=Zd (af4 HM.out (s0::r0));have HCB:=Zd (fun p (hp:aaZ (s0::r0) c=some p)=>(acj HM.out hp).1);obtain⟨sn,hsn⟩:∃n,n=(s0::r0).length:=⟨_,rfl⟩;have ajo:1<=sn/\sn<=3:=by rw[hsn];exact adM
 rw[<-hsn]at H41 H83 NK⊢;have hsc:sn<=sc:=NK;clear hsn adM ae3 lH hu NK hm0 uY;have k0:=ch (i:=0) hKZ rfl;have k1:=ch (i:=1) hKZ rfl;have k2:=ch (i:=2) hKZ rfl;have k3:=ch (i:=3) hKZ rfl;have k4:=ch (i:=4) hKZ rfl;go_wp2;refine(H41.out _ (Zh _ _)).mono ?_;rintro e W4 ⟨De,⟨v4,rfl,hv4⟩|⟨x,rfl,Ss⟩⟩
 rotate_left
 .exact⟨rfl,bU hBZ De,.inr ⟨_,rfl,Ss⟩⟩
 obtain⟨e1,e2,e3⟩:=HSO.out;rw[e3]at hv4;rw[e1,e2];clear e1 e2 e3;have Qn:=HKZ.out _ De;clear k0 k1 k2 k3 k4;have k0:=ch (i:=0) Qn rfl;have k1:=ch (i:=1) Qn rfl;have k2:=ch (i:=2) Qn rfl;have k3:=ch (i:=3) Qn rfl;have k4:=ch (i:=4) Qn rfl;have aft:=Zd (H83.out _ De);obtain⟨o,ho⟩:∃o,o=aaZ (s0::r0) c:=⟨_,rfl⟩;rw[<-ho]at hv4 aft HCB⊢;clear ho H83;obtain⟨ga,gc,rfl,-⟩:=Sl.val hv4;obtain⟨aa1,hn8⟩:∃x,x=seN o:=⟨_,rfl⟩;obtain⟨e8,he8⟩:∃x,x=seE o:=⟨_,rfl⟩;obtain⟨aaD,hg8⟩:∃x,x=(acQ o).length:=⟨_,rfl⟩;rw[<-hn8, <-he8, <-hg8];have HN8:=Zd hn8;have HE8:=Zd he8;have HG8:=Zd hg8;clear hn8 he8 hg8;dsimp only;go_wp2;refine aft.out.mono ?_;rintro e W5 ⟨Cj,⟨v5,rfl,hv5⟩|⟨x,rfl,Ss⟩⟩
 rotate_left
 .exact⟨rfl,bU hBZ (bU De Cj),.inr ⟨_,rfl,Ss⟩⟩
 obtain⟨pa,pc,rfl,-⟩:=Sl.val hv5;obtain⟨aa2,hn9⟩:∃x,x=ads o:=⟨_,rfl⟩;rw[<-hn9];have HN9:=Zd hn9;clear hn9 k0 k1 k2 k3 k4;have afu:=bU De Cj;dsimp only;obtain⟨aaE,hmN⟩:∃x,x=qW c [s0]:=⟨_,rfl⟩;obtain⟨aaF,hfE⟩:∃x,x=qX c [s0]:=⟨_,rfl⟩;rw[<-hmN, <-hfE]at HFS;have HMN:=Zd hmN;have HFE:=Zd hfE;clear hmN hfE;cases o
 case' none=>
  obtain rfl:aa1=0:=HN8.out;obtain rfl:e8=11:=HE8.out;obtain rfl:aaD=0:=HG8.out;obtain rfl:aa2= -1:=HN9.out;go_wp2;obtain⟨W6,hW6⟩:∃W6,W6=W5:=⟨_,rfl⟩;subst hW6;have adx:=afu
 case' some p=>
  obtain rfl:aa1=p.2:=HN8.out;obtain rfl:e8=0:=HE8.out;obtain rfl:aa2=p.2:=HN9.out;have hp0:0<=p.2:=HCB.out p rfl;have hm2:(p.2==(-2:Int))=false:=beq_eq_false_iff_ne.2 (by omega);have hge:¬p.2<0:=by omega
  have h37:=Zd (c37 (w:=W5) (SL.imp (SL.later hv4 Cj) (T:=fun x=>x<W5.heap.size) (fun x hx=>by have:=hx.2;have:=Cj.size;show x<W5.heap.size;omega)) (SL.imp hv5 (T:=fun x=>x<W5.heap.size) (fun x hx=>by
   have:=Cj.size;show x<W5.heap.size;rcases hx with hx|hx
   .have hx:x<W4.heap.size:=hx
    omega
   exact hx.2)) (fun x hx=>hx) fun x hx=>hx)
  rw[adj]at h37;obtain rfl:aaD=(acQ (some p)).length:=HG8.out;go_wp2_with (go_at_call 10;refine h37.out.mono ?_;rintro e W6 ⟨rfl,DM⟩);have adx:=bU afu DM
 all_goals
  have JB:=HKZ.out _ adx;obtain⟨K,Ig⟩:∃K:Nat->Prop,K=fun _=>False:=⟨_,rfl⟩;have LP:∀x,¬K x:=by rw[Ig];exact fun _ x=>x
  clear Ig;have g0:=fun p:Tw K W6=>p.cell (ch (i:=0) JB rfl) (LP _);have g1:=fun p:Tw K W6=>p.cell (ch (i:=1) JB rfl) (LP _);have g2:=fun p:Tw K W6=>p.cell (ch (i:=2) JB rfl) (LP _);have g3:=fun p:Tw K W6=>p.cell (ch (i:=3) JB rfl) (LP _);have g4:=fun p:Tw K W6=>p.cell (ch (i:=4) JB rfl) (LP _);have g5:=fun p:Tw K W6=>p.cell (HCU.out _ adx) (LP _);have ajr:0<sn:=by omega
  have ajs:(0:Int)<(sn:Int):=by omega
  go_wp2;refine G7 (S:=fun W=>∃p:Tw K W6,W=p.v) 12 [] [(false,4),(false,5),(true,6),(true,7),(true,8),(false,9),(false,10),(false,11)] [0,1,2,3] (by kernel_rfl) (fun _ _ d _ _ h=>by cases d<;>exact h) (by kernel_rfl) (A5 (Ak.later (Zh _ _).drew)) ?_;refine A4 _ _ (by kernel_rfl) ?_;simp only[Z6,zd,ZG,ZD,ZC]
  repeat (first|go_big_quiet_step (fail)|quiet_step (fail))
  refine Z4 ?_;clear g0 g1 g2 g3 g4 g5;change H2 _ _ _ _ _ _ _ _;have Uh:Bl W6 W6.drew:=(Zh _ _).drew;refine abx (f:=11) rfl rfl (by go_simp) ((H77.out _ (bU adx Uh)).mono ?_);rintro e W7 ⟨NU,⟨fv,rfl,hfv⟩|⟨x,rfl,Ss⟩⟩
  rotate_left
  .exact .inr ⟨x,rfl,rfl,bU hBZ (bU (bU adx Uh) NU),.inr ⟨_,rfl,Ss⟩⟩
  obtain⟨⟨aav,aaB,aax,ex⟩,yJ⟩:=HFS.out fv (fun l hl=>by obtain⟨a,k,h,_⟩:=hfv l hl;exact⟨a,k,h⟩);rw[ex];have ahb:=Zd yJ;have af7:=bU Uh NU;have hT7:∃p:Tw K W6,W7=p.v:=A5 (Ak.later af7);clear ex yJ hfv;refine .inl ⟨_,rfl,.inr hT7,?_⟩;refine EY (v:=.tuple #[U aav aaB aax,.int J aaE,.int J aaF]) (w':=W7) rfl rfl (by go_simp) (.inr hT7) ?_;refine Wz (v:=.slice aav aaB aax) hT7 rfl rfl (fun w _=>by go_simp) ?_;refine Wz (v:=.int J aaE) hT7 rfl rfl (fun w _=>by go_simp) ?_;refine Wz (v:=.int J aaF) hT7 rfl rfl (fun w _=>by go_simp) ?_;refine EY (v:=.slice aav aaB aax) (w':=W7) rfl rfl (by go_simp) (.inr hT7) ?_;refine EY (v:=.int J aaE) (w':=W7) rfl rfl (by go_simp) (.inr hT7) ?_;refine EY (v:=.int J aaF) (w':=W7) rfl rfl (by go_simp) (.inr hT7) ?_;unfold H2
  go_simp
  have ae5:=bU adx af7;clear Uh NU hT7 af7 JB;have T9:=HKZ.out _ ae5;have g0:=fun p:Tw K W7=>p.cell (ch (i:=0) T9 rfl) (LP _);have g1:=fun p:Tw K W7=>p.cell (ch (i:=1) T9 rfl) (LP _);have g2:=fun p:Tw K W7=>p.cell (ch (i:=2) T9 rfl) (LP _);have g3:=fun p:Tw K W7=>p.cell (ch (i:=3) T9 rfl) (LP _);have g4:=fun p:Tw K W7=>p.cell (ch (i:=4) T9 rfl) (LP _);go_wp2;refine G7 (S:=fun W=>∃p:Tw K W7,W=p.v) 11 [] [(true,2),(false,3),(false,4),(true,5),(true,6),(true,7),(false,8),(false,9),(false,10)] [0,1] (by kernel_rfl) (fun _ _ d _ _ h=>by cases d<;>exact h) (by kernel_rfl) (A5 (Ak.later (Zh _ _).drew)) ?_;refine A4 _ _ (by kernel_rfl) ?_;simp only[Z6,zd,ZG,ZD,ZC]
  repeat (first|go_big_quiet_step (fail)|quiet_step (fail))
  refine Z4 ?_;clear g0 g1 g2 g3 g4;change H2 _ _ _ _ _ _ _ _;have Uh:Bl W7 W7.drew:=(Zh _ _).drew;have hTd:∃p:Tw K W7,W7.drew=p.v:=A5 (Ak.later Uh);have h1c:(1:Int)<=(sc:Int):=by omega
  have h1n:1<=sc:=by omega
  refine Wz (v:=.slice (some ⟨b6,o6,none⟩) 1 sc) hTd rfl rfl (fun w _=>by go_simp) ?_;refine abx (f:=8) rfl rfl (by go_simp) ((ah1.out _ (bU ae5 Uh)).mono ?_);rintro e W8 ⟨Jn,⟨v8,rfl,hv8⟩|⟨x,rfl,Ss⟩⟩
  rotate_left
  .exact .inr ⟨x,rfl,rfl,bU hBZ (bU (bU ae5 Uh) Jn),.inr ⟨_,rfl,Ss⟩⟩
  rw[<-HMN.out, <-HFE.out];obtain⟨ya,yc,rfl,-⟩:=Sl.val hv8;obtain⟨aaG,hyn⟩:∃n,n=(qV c [s0]).length:=⟨_,rfl⟩;rw[<-hyn];clear hyn hv8;have af8:=bU Uh Jn;have hT8:∃p:Tw K W7,W8=p.v:=A5 (Ak.later af8);refine .inl ⟨_,rfl,.inr hT8,?_⟩;refine EY (v:=.tuple #[U ya aaG yc,.int J aaE,.int J aaF]) (w':=W8) rfl rfl (by go_simp) (.inr hT8) ?_;refine Wz (v:=.slice ya aaG yc) hT8 rfl rfl (fun w _=>by go_simp) ?_;refine Wz (v:=.int J aaE) hT8 rfl rfl (fun w _=>by go_simp) ?_;refine Wz (v:=.int J aaF) hT8 rfl rfl (fun w _=>by go_simp) ?_;refine EY (v:=.slice ya aaG yc) (w':=W8) rfl rfl (by go_simp) (.inr hT8) ?_;refine EY (v:=.int J aaE) (w':=W8) rfl rfl (by go_simp) (.inr hT8) ?_;refine EY (v:=.int J aaF) (w':=W8) rfl rfl (by go_simp) (.inr hT8) ?_;unfold H2
  go_simp
  have afv:=bU ae5 af8;have ahf:=hGZ.later afv;have afw:=bU hBZ afv;clear Uh hTd Jn af8 hT8 T9;rcases ahb.out with rfl|rfl
  all_goals
   go_wp2_with (go_at_call 12;refine(c26 _ ahf).mono ?_;rintro e V ⟨Ui,rfl|⟨x,rfl,Ss⟩⟩)
   .go_ret
    exact⟨bU afw Ui,.inl rfl⟩
   exact⟨rfl,bU afw Ui,.inr ⟨_,rfl,Ss⟩⟩
end Go.Proofs.Fit
namespace Go.Proofs.YtdhgoldgnnpnmaaGreatDoor
open Go Go.Conc Go.RowKit Go.Proofs.Fit
set_option maxRecDepth 100000
def ady:(Rows.seamSeasonRow.inPlace==Tryz.prog.inPlace 3)=true:=by kernel_rfl
def acX:(Rows.seamSeasonRow.unfollowed==Tryz.prog.unfollowed 3)=true:=by kernel_rfl
def adk:(Rows.seamSeasonRow.recurses==Tryz.prog.recurses 3)=true:=by kernel_rfl
def aef:(Rows.seamSeasonRow.named==Tryz.prog.varsNamed 3)=true:=by kernel_rfl
def aej:joinedFacts Zc 3 Tryz.f3 Rows.seamSeasonSpec Rows.seamSeasonRow=true:=
 kQ (by kernel_rfl) (by kernel_rfl) (by kernel_rfl) (by kernel_rfl) (by kernel_rfl) ady acX adk aef (by kernel_rfl) (by kernel_rfl) (by kernel_rfl) (by kernel_rfl) (by kernel_rfl) (by kernel_rfl) (by kernel_rfl) (by kernel_rfl) (by kernel_rfl) rfl rfl rfl rfl rfl rfl (by kernel_rfl) (by kernel_rfl) (by kernel_rfl)
def adN (os:Os)(started:os.Started)(H:Type)(enc:Zs×Zf->H):ReturnsInLeavingWide {} Tryz.checked os 3 .any (fun w args=>(Rows.seamSeasonSpec.pre enc Zc Tryz.f3 [] false w args/\laidMetH Zc PT w)/\sizedMet enc Zc Tryz.f3 (ZbV Rows.seamSeasonSpec) false w args)
   (Rows.seamSeasonSpec.post enc Zc Tryz.f3 false true false false):=
 eO (s:=Rows.seamSeasonSpec) started rfl rfl Tryz.func3 rfl rfl (by kernel_rfl) (by kernel_rfl) rfl (by kernel_rfl) (fun ds h=>by
    match ds,h with
    | [_],_=>rfl)
   (ChangeSpec.witness_shaped (enc:=enc) (C:=Tryz.checked) (os:=os) (X:=fun w _=>laidMetH Zc PT w) false (Vg os) #[U none 0 0] 8 rfl (World.shaped_of_RefB (by kernel_rfl) (by kernel_rfl)) (by kernel_rfl) (by kernel_rfl) (by kernel_rfl) (Ub os _))
   (fun W base args ds ps hval hA _ hG=>qc rfl hval hA hG fun w v nums hn hG=>afr hn (fun x hx=>hx) hG)
def afx:Rows.SeamSeasonSaid:=
 OpenClaim.holds_of_wide_leaving 3 Tryz.f3 rfl rfl rfl rfl rfl rfl rfl ⟨rfl,rfl,rfl,rfl,rfl⟩ rfl rfl rfl rfl rfl (by kernel_rfl) Tryz.func3 aej
  (of_decide_eq_true (by kernel_rfl)) (by unfold Func.isWrapper;rw[if_neg (by decide+kernel)];exact⟨rfl,rfl⟩) (fun os started H enc _=>adN os started H enc)
def af9:true=Rows.seamSeasonRow.goesBy Tryz.pinned.checked.prog:=by kernel_rfl
theorem season_holds:Rows.SeamSeasonCardSaid:=
 kM [.handle] (true,"d8e58fcbf126457d3529a0300f1afd9e09a20b255874a5e6f07e244531e82ea6") afx (by kernel_rfl) (OpenClaim.laidByTextAt_later rfl rfl qd abD) rfl ⟨rfl,rfl⟩ uI
  (fun f fn hf G9=>by
   obtain rfl:f=3:=ZW ((show Tryz.prog.funcNamed "galloon/galloonlaw02.SeamSeason" =some 3 by kernel_rfl).symm.trans hf)|>.symm;obtain rfl:fn=Tryz.f3:=(ZW (Tryz.func3.symm.trans G9)).symm;exact⟨abE,fun j t ht=>by
    have hm:t∈ [22]:=by simpa using zY ht
    have FJ:([22].all fun u=> !Tryz.prog.wantsStandIn u)=true:=by kernel_rfl
    exact(show Tryz.prog.wantsStandIn t=false by simpa using Zdm.1 FJ t hm)⟩)
  af9
#print axioms season_holds
end Go.Proofs.YtdhgoldgnnpnmaaGreatDoor
