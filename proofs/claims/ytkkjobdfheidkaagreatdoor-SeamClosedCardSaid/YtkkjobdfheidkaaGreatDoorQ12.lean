/- SeamClosed: for every list of numbers, on every schedule and without a data race, the law returns true, and the list reads afterwards as it read before. Conditions: those of the given row alone (the variable errors.errorType starts as the program's text lays it; the card ties that to the text). -/
import Derived.Test.YtkkjobdfheidkaaGreatDoorQ11
import Derived.Test.YtkkjobdfheidkaaGreatDoorQ08
set_option maxRecDepth 100000
set_option maxHeartbeats 6400000
noncomputable section
set_option linter.all false
open And renaming intro->ZX
open Array renaming getElem?_eq_some_iff->Za,mem_of_getElem?->zC
open Bool renaming eq_iff_iff->Zdj,not_not->ZdD
open Go renaming World->Zc,Value->Ze,below_drewN->zl,TypeId->Zr,info_parts->zq,ownsRow_succ->ZbD,wpQuiet_nil->zD,laidMetH->ZbZ
open Go.Calls renaming quiet_of_same->Zay
open Go.Ending renaming returned->ZbP
open Go.Func renaming isWrapper->ZcV
open Go.IntKind renaming wrap_i64->Yp,i64->I
open Go.Lib renaming hid->Zb
open Go.Obj renaming cells->ZbM
open Go.OpenSpec renaming ofChange->Zav
open Go.Proofs.Tryz renaming underlying22->Yg,underlying27->zY,prog->Zd,f7->Zdn
open Go.RowKit.Below renaming refl->Zg
open Go.Value renaming slice->ZA,int->ZS,oneCell'->Yv,slice->J
open Go.World renaming ownsRow_lit->Zcr,ownsRow_nil->zh,block_lt_of_cell?->Zy
open Go.World.ownsRow renaming lt->Yq,alloc->zO
open List renaming range->ZL,getElem?_eq_some_iff->Zl,drop_eq_getElem_cons->Zu,drop_eq_nil_iff->Zz,all_cons->Zba,getElem?_eq_getElem->ZE,getElem?_set_self->ze,getElem?_set_ne->ZD,getElem?_append_left->Z4,getElem?_append_right->zx,mem_of_getElem?->Z8,take_add_one->ZbN,length_append->ZF,map_append->Zaa,append_nil->Zap,getD_eq_getElem?_getD->ZR,all_eq_true->zt,getElem?_map->zU,nil_append->zZ,mem_map->Zby,getElem_of_mem->Yo,find?_cons->Zdh,take_of_length_le->ZaQ
open Nat renaming zero_le->Zn,le_refl->Zj,lt_of_lt_of_le->Zm,zero_add->zK
open Option.some renaming inj->ZK
namespace Go.Proofs.Fit
open Go Go.RowKit
def akV (l:List Int)(out:List Bool):List Bool:=l.foldl (fun o x=>o.set x.toNat true) out
def abx (n:Nat):Nat->List (List Int)->List Bool->List Bool
 |_,[],out=>out
 |i,s::r,out=>abx n (i+1) r (if i=n\/out.getD i false=true then akV s out else out)
def lx (n:Nat)(l:List (List Int)):Nat->List Bool->List Bool
 |0,out=>out
 |k+1,out=>lx n l k (abx n 0 l out)
def Bh (l:List Aq):List (List Int):=l.map (·.over)
def aby (o:List (List Int))(n:Nat):List Bool:=lx n o o.length (List.replicate o.length false)
def ai (ab:Nat->Nat)(i:Nat):List (List Int)->Nat->Nat
 | []=>ab
 |s::r=>ai (F9 ab i s) (i+1) r
def Sj (ab:Nat->Nat)(l:List (List Int)):Nat->Nat->Nat
 |0=>ab
 |n+1=>Sj (ai ab 0 l) l n
def Ii (l:List (List Int)):Nat->Nat:=Sj (fun _=>0) l l.length
def dY:∀(l:List Aq) (ab:Nat->Nat) (i:Nat),Fz ab i l=ai ab i (Bh l)
 | [],_,_=>rfl
 |s::r,ab,i=>dY r (F9 ab i s.over) (i+1)
def Wt (l:List Aq):∀(n:Nat) (ab:Nat->Nat),DR ab l n=Sj ab (Bh l) n
 |0,_=>rfl
 |n+1,ab=>by
  show DR (Fz ab 0 l) l n=Sj (ai ab 0 (Bh l)) (Bh l) n;rw[Wt l n,dY]
def OU (l:List Aq):Au l=Ii (Bh l):=by
 unfold Au Ii;rw[Wt,show(Bh l).length=l.length by simp[Bh]]
def Um (o:List (List Int)):Bool:=(ZL o.length).all fun n=>(ZL o.length).all fun k=>(aby o n).getD k false==hasB (Ii o n) k
def Ij:List (List Int):=[[],[0],[1],[2],[0,1],[0,2],[1,2],[0,1,2]]
def aeC:∀a∈Ij,Um [a.filter (· <1)]=true:=by decide+kernel
def aeD:∀a∈Ij,∀b∈Ij,Um [a.filter (· <2),b.filter (· <2)]=true:=by decide+kernel
def aeE:∀a∈Ij,∀b∈Ij,∀c∈Ij,Um [a,b,c]=true:=by decide+kernel
variable {l a b s x:List Int}
def C5 (hr:l.Pairwise (· < ·))(hx:∀x∈l,0<=x/\x<3):l∈Ij:=by
 have key:∀x:Int,0<=x/\x<3->x=0\/x=1\/x=2:=fun x h=>by omega
 match l,hr,hx with
 | [],_,_=>simp[Ij]
 | [a],_,hx=>
  rcases key a (hx a (by simp)) with rfl|rfl|rfl<;>simp[Ij]
 | [a,b],hr,hx=>
  have h1:a<b:=by simpa using hr
  rcases key a (hx a (by simp)) with rfl|rfl|rfl<;>rcases key b (hx b (by simp)) with rfl|rfl|rfl<;>first|(exfalso;omega)|simp[Ij]
 | [a,b,c],hr,hx=>
  have h1:a<b/\b<c:=by
   simp at hr;exact⟨hr.1.1,hr.2⟩
  have ha:=hx a (by simp);have hc:=hx c (by simp);obtain rfl:a=0:=by omega
  obtain rfl:c=2:=by omega
  obtain rfl:b=1:=by omega
  simp[Ij]
 |a::b::c::d::r,hr,hx=>
  exfalso;simp only[List.pairwise_cons]at hr;have h1:=hr.1 b (by simp);have h2:=hr.2.1 c (by simp);have h3:=hr.2.2.1 d (by simp);have ha:=hx a (by simp);have hd:=hx d (by simp);omega
def filter_lt {n:Int}(hx:∀x∈l,0<=x/\x<n):l.filter (· <n)=l:=List.filter_eq_self.2 fun x h=>by simpa using(hx x h).2
variable {o L:List (List Int)}
def qk (hn:o.length<=3)(hr:∀l∈o,l.Pairwise (· < ·))(hx:∀l∈o,∀x∈l,0<=x/\x<o.length):Um o=true:=by
 match o,hn,hr,hx with
 | [],_,_,_=>rfl
 | [a],_,hr,hx=>
  have h1:=hx a (by simp);have:=aeC a (C5 (hr a (by simp)) fun x h=>by have:=h1 x h;simp at this;omega);rwa[filter_lt (fun x h=>by have:=h1 x h;simpa using this)]at this
 | [a,b],_,hr,hx=>
  have h1:=hx a (by simp);have h2:=hx b (by simp);have:=aeD a (C5 (hr a (by simp)) fun x h=>by have:=h1 x h;simp at this;omega) b (C5 (hr b (by simp)) fun x h=>by have:=h2 x h;simp at this;omega);rwa[filter_lt (fun x h=>by have:=h1 x h;simpa using this),filter_lt (fun x h=>by have:=h2 x h;simpa using this)]at this
 | [a,b,c],_,hr,hx=>
  exact aeE a (C5 (hr a (by simp)) fun x h=>by have:=hx a (by simp) x h;simpa using this) b (C5 (hr b (by simp)) fun x h=>by have:=hx b (by simp) x h;simpa using this)
   c (C5 (hr c (by simp)) fun x h=>by have:=hx c (by simp) x h;simpa using this)
 |_::_::_::_::_,hn,_,_=>simp at hn
variable {w A B W:Zc}
def bU (h:Bl w A)(k:Bl A B):Bl w B:=h.trans (k.mono h.size)
def JL {a b:Bool}(h:a=b):ZbP (.bool a)=.returned (.bool b):=by rw[h]
def yv (n:Int):List Int->Nat->Int
 | [],_=> -1
 |x::r,k=>if x=n then k else yv n r (k+1)
def tV (l:List Int)(n:Int):Int:=yv n l 0
variable {n k m i:Nat}
def tW {n:Int}(h:k<l.length):yv n (l.drop k) k=if nth l k=n then(k:Int) else yv n (l.drop (k+1)) (k+1):=by
 obtain⟨hk,e⟩:=Zl.1 (A_ h);rw[Zu hk,e]
 rfl
def tX (n:Int):∀(l:List Int) (k:Nat),decide (yv n l k<0)= !l.contains n
 | [],_=>rfl
 |x::r,k=>by
  unfold yv;by_cases h:x=n
  .subst h
   simp
  .rw[if_neg h,tX n r (k+1)]
   have:(n==x)=false:=by simpa using fun e:n=x=>h e.symm
   rw[List.contains_cons,this,Bool.false_or]
def ak (l:List Int)(n:Int):decide (tV l n<0)= !l.contains n:=tX n l 0
variable {S T:Nat->Prop}
variable {v v1 v2 v3 v4 v5 v6 u:Ze}
def c56 {n:Int}(hl:SI S w v l):Calls Lp 56 #[v,.int I n] w fun e w'=>e=.returned (.int I (tV l n))/\w'=w:=by
 obtain⟨a,c,rfl,TG,MI⟩:=hl.val;have Gx:=CI;have HE:=Zb (show tV l n=yv n (l.drop 0) 0 from rfl);go_enter Lp.func56,n56;go_wp2;go_loopg [5] l.length (fun gg i wr=>∃k:Nat,k<=l.length/\gg=l.length - k/\i=.int I k/\yv n (l.drop k) k=tV l n/\wr=w)
 case atStart=>exact⟨0,Zn _,rfl,rfl,HE.out.symm,rfl⟩
 case round=>
  obtain⟨k,hk,rfl,rfl,Cn,rfl⟩:=hrel;have hf:=Zb Cn;clear Cn;by_cases AA:k<l.length
  .obtain⟨b,o,rfl,hb,hc⟩:=hl.at_ AA
   have hd:=Zb (tW (n:=n) AA);obtain⟨x,hx⟩:∃x,x=nth l k:=⟨_,rfl⟩;rw[<-hx]at hc hd;clear hx;by_cases he:x=n
   .have heq:(x==n)=true:=by simpa using he
    have hr:=Zb (show(k:Int)=tV l n by rw[<-hf.out,hd.out,if_pos he]);clear he;go_wp2;go_ret;exact⟨Bp hr.out,rfl⟩
   .have heq:(x==n)=false:=by simpa using he
    have hr:=Zb (show yv n (l.drop (k+1)) (k+1)=tV l n by rw[<-hf.out,hd.out,if_neg he]);clear he;go_wp2;go_roundg (l.length - (k+1))
    case rel=>exact⟨k+1,by omega,rfl,by go_num,hr.out,rfl⟩
    case measure=>omega
  .have hr:=Zb (show(-1:Int)=tV l n by rw[<-hf.out,Zz.2 (by omega)];rfl)
   go_wp2;go_ret;exact⟨Bp hr.out,rfl⟩
def QR (c:A4)(l:List Int):List Int:=if Bx c l=0 then Av (Ay c l) else []
def i_:Av 0=[]:=by decide
variable {c:A4}
def c51 (h:RC S w v1 v2 v3 v4 v5 c)(hl:SI S w v6 l)(hS:∀b,S b->b<w.heap.size):
  Calls Lp 51 #[.agg #[v1,v2,v3,v4,v5],v6] w fun e w'=>∃v,e=.returned (.tuple #[v,.int I (Bx c l)])/\Bl w w'/\SI (Cf w.heap.size w') w' v (QR c l):=by
 obtain⟨a1,c1,rfl,l1,m1⟩:=h.base.val;obtain⟨a2,c2,rfl,l2,m2⟩:=h.Af.val;obtain⟨a3,c3,rfl,l3,m3⟩:=h.hooks.val;obtain⟨a4,c4,rfl,l4,m4⟩:=h.Aa.val;obtain⟨a5,c5,rfl,l5,m5⟩:=h.now.val;obtain⟨a6,c6,rfl,l6,m6⟩:=hl.val;have Gx:=CI;have Bb:Bl w (w.alloc (.cells #[J a1 c.base.length c1,J a2 c.Af.length c2,J a3 c.hooks.length c3,J a4 c.Aa.length c4,J a5 c.now.length c5] 26)):=(Zg _ _).alloc (Zj _) _;have Rk:=Zb (fun W hB=>xu (w:=W) (h.later hB) (hl.later hB) (AE hS hB));have key:∃t,t<8/\Av t=QR c l/\∀(W:Zc) (hB:Bl w W),Calls Lp 119 #[.agg #[J a1 c.base.length c1,J a2 c.Af.length c2,J a3 c.hooks.length c3,J a4 c.Aa.length c4,J a5 c.now.length c5],J a6 l.length c6] W fun e w'=>∃(q1 q2 q3 q4 q5:Option Addr) (n1 n2 n3 n4 n5 d1 d2 d3 d4 d5 k0 k1 k2:Nat),e=.returned (.tuple #[.agg #[J q1 n1 d1,J q2 n2 d2,J q3 n3 d3,J q4 n4 d4,J q5 n5 d5,.int .u8 k0,.int .u8 k1,.int .u8 k2],.int .u8 t,.int I (Bx c l)])/\Bl W w':=by
  by_cases h0:Bx c l=0
  .obtain⟨xv,_⟩:=A7 h0
   obtain⟨Kd,Fp⟩:=A7 xv;have hv:=EU Kd;have hn:l.length<=c.Aa.length:=by have:=(D6 Fp).1;omega
   refine⟨Ay c l,Mc (PQ hv.over) (by have:=hv.few;omega),by unfold QR;rw[if_pos h0],fun W hB=>(Rk.out W hB).mono ?_⟩;rintro e w' ⟨g,t,rfl,AW,hx,_⟩;obtain⟨rfl,rfl⟩:=hx h0;exact⟨_,_,_,_,_,_,_,_,_,_,_,_,_,_,_,_,_,_,rfl,AW⟩
  .refine⟨0,by omega,by unfold QR;rw[if_neg h0,i_],fun W hB=>(Rk.out W hB).mono ?_⟩
   rintro e w' ⟨g,t,rfl,AW,_,hx⟩;obtain⟨rfl,rfl⟩:=hx h0;exact⟨_,_,_,_,_,_,_,_,_,_,_,_,_,_,_,_,_,_,rfl,AW⟩
 obtain⟨t,eL,O2,hK⟩:=key;have HK:=Zb hK;have HT:=Zb O2;obtain⟨E,hE⟩:∃E,E=Bx c l:=⟨_,rfl⟩;rw[<-hE]at HK⊢;clear hK O2 hE;go_enter Lp.func51,n51;go_wp2_with (first|(go_at_call 119;refine(HK.out _ Bb).mono ?_;rintro e w1 ⟨q1,q2,q3,q4,q5,n1,n2,n3,n4,n5,d1,d2,d3,d4,d5,k0,k1,k2,rfl,AW⟩;have Bg:=Bb.trans (AW.mono Bb.size))|(go_at_call 120;refine(xm eL).mono ?_;rintro e w2 ⟨v,rfl,CU,hv,_⟩;have BS:=(bA Bg).trans (CU.mono (bA Bg).size);obtain⟨a7,c7,rfl,l7,m7⟩:=hv.val));go_ret2;refine⟨_,rfl,BS,?_⟩;rw[<-HT.out];exact Sl.imp hv (fun x (hx:Cf _ _ x)=>⟨by have h1:=hx.1;have h2:=Bg.size;simp at h1;omega,hx.2⟩) fun _ _ x=>x
def EZ (c:A4)(s l:List Int):Bool:=((ZL c.Aa.length).all fun i=>nth s i==nth c.now i||l.contains (i:Int))&&l.all fun x=>(Ah c.Aa x.toNat).over.all fun o=>l.contains o
def ja {f:Nat->Bool}(h:k<n):((ZL n).drop k).all f=(f k&&((ZL n).drop (k+1)).all f):=by
 rw[Zu (by simpa using h),Zba];simp
variable {f:Int->Bool}
def Wu (h:k<l.length):(l.drop k).all f=(f (nth l k)&&(l.drop (k+1)).all f):=by
 obtain⟨hk,e⟩:=Zl.1 (A_ h);rw[Zu hk,e,Zba]
def c53 {v7:Ze}(h:RC S w v1 v2 v3 v4 v5 c)(hs:SI S w v6 s)(hl:SI S w v7 l)(hS:∀b,S b->b<w.heap.size)
 (KI:s.length=c.Aa.length) (O4:c.now.length=c.Aa.length) (Ni:∀x∈l,0<=x/\x<c.Aa.length):
  Calls Lp 53 #[.agg #[v1,v2,v3,v4,v5],v6,v7] w fun e w'=>e=.returned (.bool (EZ c s l))/\Bl w w':=by
 obtain⟨a1,c1,rfl,l1,m1⟩:=h.base.val;obtain⟨a2,c2,rfl,l2,m2⟩:=h.Af.val;obtain⟨a3,c3,rfl,l3,m3⟩:=h.hooks.val;obtain⟨a4,c4,rfl,l4,m4⟩:=h.Aa.val;obtain⟨a5,c5,rfl,l5,m5⟩:=h.now.val;obtain⟨a6,c6,rfl,l6,m6⟩:=hs.val;obtain⟨a7,c7,rfl,l7,m7⟩:=hl.val;have Gx:=CI;obtain⟨W,hW⟩:∃W,W=w.alloc (.cells #[J a1 c.base.length c1,J a2 c.Af.length c2,J a3 c.hooks.length c3,J a4 c.Aa.length c4,J a5 c.now.length c5] 26):=⟨_,rfl⟩;have Bb:Bl w W:=by rw[hW];exact bA (Zg _ _)
 have hN:=Bt w (.cells #[J a1 c.base.length c1,J a2 c.Af.length c2,J a3 c.hooks.length c3,J a4 c.Aa.length c4,J a5 c.now.length c5] 26);rw[<-hW]at hN;obtain⟨q,hq⟩:∃q,q=w.heap.size:=⟨_,rfl⟩;rw[<-hq]at hN;have hqW:=(Za.1 hN).1;have HQ:=Zb hq;have HE:=Zb (show EZ c s l=(((ZL c.Aa.length).drop 0).all (fun i=>nth s i==nth c.now i||l.contains (i:Int))&&(l.drop 0).all fun x=>(Ah c.Aa x.toNat).over.all fun o=>l.contains o) from rfl);obtain⟨f1,eK⟩:∃f1:Nat->Bool,f1=fun i=>nth s i==nth c.now i||l.contains (i:Int):=⟨_,rfl⟩;obtain⟨f2,Kx⟩:∃f2:Int->Bool,f2=fun x=>(Ah c.Aa x.toNat).over.all fun o=>l.contains o:=⟨_,rfl⟩;rw[<-eK, <-Kx]at HE;have HF1:=Zb eK;have HF2:=Zb Kx;obtain⟨R,hR⟩:∃R,R=EZ c s l:=⟨_,rfl⟩;rw[<-hR]at HE⊢;have hSL:=Zb KI;have hNL:=Zb O4;clear eK Kx hR KI O4;have hat:=Zb (fun(W':Zc) (hB:Bl w W') (n:Int)=>c56 (n:=n) (hl.later hB));go_enter Lp.func53,n53;go_wp2;rw[<-hW, <-HQ.out];clear hW hq;go_loopg [7] c.Aa.length (fun gg i wr=>∃k:Nat,k<=c.Aa.length/\gg=c.Aa.length - k/\i=.int I k/\(((ZL c.Aa.length).drop k).all f1&&(l.drop 0).all f2)=R/\Bl W wr)
 case atStart=>exact⟨0,Zn _,rfl,rfl,HE.out.symm,Zg _ _⟩
 case round=>
  obtain⟨k,hk,rfl,rfl,Cn,MN⟩:=hrel;have hf:=Zb Cn;clear Cn;have EV:=bU Bb MN;have eO:=(MN.block _ hqW).trans hN;have k3:=ch (i:=3) eO (v:=.slice a4 c.Aa.length c4) rfl;have k4:=ch (i:=4) eO (v:=.slice a5 c.now.length c5) rfl;by_cases AA:k<c.Aa.length
  .obtain⟨b5,o5,rfl,wD,x5⟩:=(h.now.later EV).at_ (i:=k) (by rw[hNL.out];exact AA)
   obtain⟨b6,o6,rfl,Xt,x6⟩:=(hs.later EV).at_ (i:=k) (by rw[hSL.out];exact AA);have hd:=Zb (ja (f:=f1) AA);have HA:=Zb (show f1 k=(nth s k==nth c.now k||l.contains (k:Int)) by rw[HF1.out]);have hk1:(k:Int)<(c.now.length:Int):=by have:=hNL.out;omega
   have hk2:(k:Int)<(s.length:Int):=by have:=hSL.out;omega
   have eH:(0:Int)<=(k:Int):=by omega
   obtain⟨x,hx⟩:∃x,x=nth s k:=⟨_,rfl⟩;obtain⟨y,hy⟩:∃y,y=nth c.now k:=⟨_,rfl⟩;rw[<-hx]at x6 HA;rw[<-hy]at x5 HA;clear hx hy;by_cases he:x=y
   .have e1:(x==y)=true:=by simpa using he
    have e2:(x !=y)=false:=by simpa using he
    have HR:=Zb (show(((ZL c.Aa.length).drop (k+1)).all f1&&(l.drop 0).all f2)=R by rw[<-hf.out,hd.out,HA.out,e1];rfl);clear he;go_wp2;go_quiet (fail);obtain⟨Y,hY⟩:∃Y,Y=wr.drewN nq:=⟨_,rfl⟩;have oL:Bl wr Y:=by rw[hY];exact zl (Zg _ _) nq
    rw[<-hY];clear hY;go_wp2;go_roundg (c.Aa.length - (k+1))
    case rel=>exact⟨k+1,AA,rfl,by go_num,HR.out,bU MN oL⟩
    case measure=>omega
   .have e1:(x==y)=false:=by simpa using he
    have e2:(x !=y)=true:=by simpa using he
    have fD:=Zb (ak l (k:Int));have Vj:=Zb (fun(n:Nat)=>hat.out (wr.drewN n) (zl EV n) (k:Int));obtain⟨r,hr⟩:∃r,r=tV l (k:Int):=⟨_,rfl⟩;rw[<-hr]at fD Vj;clear hr he;by_cases hr:r<0
    .have HR:=Zb (show false=R by rw[<-hf.out,hd.out,HA.out,e1,show l.contains (k:Int)=false by have:=fD.out;simpa[hr]using this.symm];rfl)
     go_wp2;go_quiet ((go_at_call 56;refine Zay (Vj.out _)));go_wp2;go_ret;exact⟨JL HR.out,zl EV nq⟩
    .have HR:=Zb (show(((ZL c.Aa.length).drop (k+1)).all f1&&(l.drop 0).all f2)=R by rw[<-hf.out,hd.out,HA.out,e1,show l.contains (k:Int)=true by have:=fD.out;simpa[hr]using this.symm];rfl)
     go_wp2;go_quiet ((go_at_call 56;refine Zay (Vj.out _)));obtain⟨Y,hY⟩:∃Y,Y=wr.drewN nq:=⟨_,rfl⟩;have oL:Bl wr Y:=by rw[hY];exact zl (Zg _ _) nq
     rw[<-hY];clear hY;go_wp2;go_roundg (c.Aa.length - (k+1))
     case rel=>exact⟨k+1,AA,rfl,by go_num,HR.out,bU MN oL⟩
     case measure=>omega
  .have HR:=Zb (show(l.drop 0).all f2=R by rw[<-hf.out,Zz.2 (show(ZL c.Aa.length).length<=k by simp;omega)];rfl)
   clear hf k4;go_wp2;have HLB:=Zb Ni;clear Ni;go_loopg [8] l.length (fun gg i wx=>∃j:Nat,j<=l.length/\gg=l.length - j/\i=.int I j/\(l.drop j).all f2=R/\Bl wr wx)
   case atStart=>exact⟨0,Zn _,rfl,rfl,HR.out,Zg _ _⟩
   case round=>
    obtain⟨j,hj,rfl,rfl,xB,JP⟩:=hrel;have hg:=Zb xB;clear xB;have yw:=bU EV JP;have eU:=(JP.block _ (Zm hqW MN.size)).trans ((MN.block _ hqW).trans hN);have k3:=ch (i:=3) eU (v:=.slice a4 c.Aa.length c4) rfl;by_cases QQ:j<l.length
    .obtain⟨b7,o7,rfl,U2,x7⟩:=(hl.later yw).at_ QQ
     have hdj:=Zb (Wu (f:=f2) QQ);obtain⟨Ll,O5⟩:=HLB.out _ (IG QQ);obtain⟨x,fT⟩:∃x:Nat,nth l j=x:=⟨(nth l j).toNat,by omega⟩;rw[fT]at x7 Ll O5 hdj;clear fT;have ic:x<c.Aa.length:=by omega
     obtain⟨b4,o4,s2,s3,rfl,Uv,_,_,_,y3,_,_,ho⟩:=(h.Aa.later yw).at_ (i:=x) ic;have HA:=Zb (show f2 (x:Int)=(Ah c.Aa x).over.all fun o=>l.contains o by rw[HF2.out];rfl);obtain⟨ov,UE⟩:∃ov,ov=(Ah c.Aa x).over:=⟨_,rfl⟩;rw[<-UE]at HA ho;clear UE;obtain⟨a9,c9,rfl,l9,m9⟩:=ho.val;have Ku:(j:Int)<(l.length:Int):=by omega
     have hj0:(0:Int)<=(j:Int):=by omega
     go_wp2;go_quiet (fail);obtain⟨Y,hY⟩:∃Y,Y=wr.drewN nq:=⟨_,rfl⟩;have oL:Bl wr Y:=by rw[hY];exact zl (Zg _ _) nq
     rw[<-hY];clear hY x7 y3;go_wp2;go_loopg [10] ov.length (fun gg i wy=>∃m:Nat,m<=ov.length/\gg=ov.length - m/\i=.int I m/\((ov.drop m).all (fun o=>l.contains o)&&(l.drop (j+1)).all f2)=R/\Bl wr wy)
     case atStart=>exact⟨0,Zn _,rfl,rfl,by rw[<-hg.out,hdj.out,HA.out];rfl,oL⟩
     case round=>
      obtain⟨m,hm,rfl,rfl,hh0,lz⟩:=hrel;have hh:=Zb hh0;clear hh0;have akY:=bU yw lz;by_cases tT:m<ov.length
      .obtain⟨b8,o8,rfl,hb8,x8⟩:=(ho.later lz).at_ tT
       have hdm:=Zb (Wu (f:=fun o=>l.contains o) tT);obtain⟨z,hz⟩:∃z,z=nth ov m:=⟨_,rfl⟩;rw[<-hz]at x8 hdm;clear hz;have hmi:(m:Int)<(ov.length:Int):=by omega
       have hm0:(0:Int)<=(m:Int):=by omega
       have fD:=Zb (ak l z);have Vj:=Zb (hat.out wr akY z);obtain⟨r,hr⟩:∃r,r=tV l z:=⟨_,rfl⟩;rw[<-hr]at fD Vj;clear hr;by_cases hr:r<0
       .have HR:=Zb (show false=R by rw[<-hh.out,hdm.out,show l.contains z=false by have:=fD.out;simpa[hr]using this.symm];rfl)
        go_wp2_with (go_at_call 56;refine Vj.out.mono ?_;rintro e w' ⟨rfl,rfl⟩);go_ret;exact⟨JL HR.out,akY⟩
       .have HR:=Zb (show((ov.drop (m+1)).all (fun o=>l.contains o)&&(l.drop (j+1)).all f2)=R by rw[<-hh.out,hdm.out,show l.contains z=true by have:=fD.out;simpa[hr]using this.symm];rfl)
        go_wp2_with (go_at_call 56;refine Vj.out.mono ?_;rintro e w' ⟨rfl,rfl⟩);go_roundg (ov.length - (m+1))
        case rel=>exact⟨m+1,tT,rfl,by go_num,HR.out,lz⟩
        case measure=>omega
      .have HR:=Zb (show(l.drop (j+1)).all f2=R by rw[<-hh.out,Zz.2 (show ov.length<=m by omega)];rfl)
       go_wp2;go_roundg (l.length - (j+1))
       case rel=>exact⟨j+1,QQ,rfl,by go_num,HR.out,bU JP lz⟩
       case measure=>omega
    .have mK:=Zb (show true=R by rw[<-hg.out,Zz.2 (by omega)];rfl)
     go_wp2;go_ret;exact⟨JL mK.out,yw⟩
def Hb:List Int->List Int->Bool
 |x::a,y::b=>if x=y then Hb a b else decide (x<y)
 | [],b=>decide (0<b.length)
 |_::_,[]=>false
def jb (h1:k<a.length)(h2:k<b.length):Hb (a.drop k) (b.drop k)=if nth a k=nth b k then Hb (a.drop (k+1)) (b.drop (k+1)) else decide (nth a k<nth b k):=by
 obtain⟨k1,e1⟩:=Zl.1 (A_ h1);obtain⟨k2,e2⟩:=Zl.1 (A_ h2);rw[Zu k1,e1,Zu k2,e2];simp only[Hb]
def oM (ha:k<=a.length)(hb:k<=b.length)(h:¬(k<a.length/\k<b.length)):Hb (a.drop k) (b.drop k)=decide (a.length<b.length):=by
 by_cases h1:k<a.length
 .rw[show b.drop k=[] from Zz.2 (by omega),Zu h1]
  simp[Hb];omega
 .rw[show a.drop k=[] from Zz.2 (by omega)]
  simp[Hb];omega
def ass (ha:SI S w v a)(hb:SI T w u b):Calls Lp 121 #[v,u] w fun e w'=>e=.returned (.bool (Hb a b))/\∃m,w'=w.drewN m:=by
 obtain⟨a1,c1,rfl,l1,m1⟩:=ha.val;obtain⟨a2,c2,rfl,l2,m2⟩:=hb.val;have Gx:=CI;have HE:=Zb (show Hb a b=Hb (a.drop 0) (b.drop 0) from rfl);obtain⟨R,hR⟩:∃R,R=Hb a b:=⟨_,rfl⟩;rw[<-hR]at HE⊢;clear hR;go_enter Lp.func121,apz;go_wp2;go_loopg [5] a.length (fun gg i wr=>∃k n:Nat,k<=a.length/\k<=b.length/\gg=a.length - k/\i=.int I k/\Hb (a.drop k) (b.drop k)=R/\wr=w.drewN n)
 case atStart=>exact⟨0,0,Zn _,Zn _,rfl,rfl,HE.out.symm,rfl⟩
 case round=>
  obtain⟨k,n,hk,hkb,rfl,rfl,Cn,rfl⟩:=hrel;have hf:=Zb Cn;clear Cn;by_cases AA:k<a.length/\k<b.length
  .obtain⟨qu,Ni⟩:=AA
   obtain⟨b1,o1,rfl,EJ,x1⟩:=ha.at_ qu;obtain⟨b2,o2,rfl,EA,x2⟩:=hb.at_ Ni;have hd:=Zb (jb qu Ni);obtain⟨x,hx⟩:∃x,x=nth a k:=⟨_,rfl⟩;obtain⟨y,hy⟩:∃y,y=nth b k:=⟨_,rfl⟩;rw[<-hx]at x1 hd;rw[<-hy]at x2 hd;clear hx hy;by_cases he:x=y
   .have e1:(x==y)=true:=by simpa using he
    have e2:(x !=y)=false:=by simpa using he
    have HR:=Zb (show Hb (a.drop (k+1)) (b.drop (k+1))=R by rw[<-hf.out,hd.out,if_pos he]);clear he;go_wp2;go_quiet (fail);go_wp2;go_roundg (a.length - (k+1))
    case rel=>exact⟨k+1,n+nq,by omega,by omega,rfl,by go_num,HR.out,by simp⟩
    case measure=>omega
   .have e1:(x==y)=false:=by simpa using he
    have e2:(x !=y)=true:=by simpa using he
    have HR:=Zb (show decide (x<y)=R by rw[<-hf.out,hd.out,if_neg he]);clear he;go_wp2;go_quiet (fail);go_wp2;go_quiet (fail);go_wp2;go_ret;exact⟨JL HR.out,_,by simp;rfl⟩
  .have HR:=Zb (show decide (a.length<b.length)=R by rw[<-hf.out,oM hk hkb AA])
   by_cases h3:k<a.length
   .have h4:¬k<b.length:=fun h=>AA ⟨h3,h⟩
    clear AA;go_wp2;go_ret;exact⟨JL HR.out,n,rfl⟩
   .clear AA
    go_wp2;go_ret;exact⟨JL HR.out,n,rfl⟩
def BB:Nat->Nat->List (List Int)
 |0,_=> [[]]
 |m+1,n=>((ZL n).drop m).flatMap fun last=>(BB m last).map (· ++ [(last:Int)])
def jc {last:Nat}(h:m<=last):BB (m+1) (last+1)=BB (m+1) last++(BB m last).map (· ++ [(last:Int)]):=by
 simp only[BB];rw[List.range_succ,List.drop_append_of_le_length (by simpa using h),List.flatMap_append];simp
def Mo (h:n<=m):BB (m+1) n=[]:=by
 simp only[BB];rw[Zz.2 (by simpa using h)]
 rfl
def GM:∀m<4,∀n<4,(BB m n).length<=3/\(∀x∈BB m n,x.length=m):=by decide+kernel
def aw:∀m<4,∀n<4,∀i,i+1<(BB m n).length->Hb ((BB m n).getD (i+1) []) ((BB m n).getD i [])=false:=by
 have h:∀m<4,∀n<4,∀i<3,i+1<(BB m n).length->Hb ((BB m n).getD (i+1) []) ((BB m n).getD i [])=false:=by decide+kernel
 intro m hm n hn i hi;have:=(GM m hm n hn).1;exact h m hm n hn i (by omega) hi
structure FA (w:Zc)(base:Nat)(U:List Ze)(L:List (List Int)):Prop where
 len:U.length=L.length
 own:∀(i:Nat) (u:Ze) (x:List Int),U[i]?=some u->L[i]?=some x->Own w base u x
 apart:∀(i j:Nat) (u u':Ze),i≠j->U[i]?=some u->U[j]?=some u'->∀b,u.ownBlock=some b->u'.ownBlock≠some b
def FA.nil (w:Zc)(base:Nat):FA w base [] []:=⟨rfl,fun i u x h=>by simp at h,fun i j u u' _ h=>by simp at h⟩
variable {U xs:List Ze}
def FA.CX {base:Nat}(h:FA w base U L)(hT:Am T w W)(hx:∀x cs,w.heap[x]?=some (ZbM cs 3 (0,0))->¬T x):FA W base U L:=
 ⟨h.len,fun i u x hu hl=>D7 (h.own i u x hu hl) hT hx,h.apart⟩
def FA.later {base:Nat}(h:FA w base U L)(hB:Bl w W):FA W base U L:=h.CX (T:=fun _=>False) ((Am.later hB).mono fun _ x=>x) fun _ _ _ x=>x
def FA.idx {base:Nat}(h:FA w base U L)(hx:L[i]?=some x):∃u,U[i]?=some u/\Own w base u x:=by
 have hi:=(Zl.1 hx).1;have:U[i]?=some (U[i]'(by rw[h.len];exact hi)):=ZE _;exact⟨_,this,h.own i _ x this hx⟩
def FA.blk {base:Nat}(h:FA w base U L)(hu:U[i]?=some u):∀b,u.ownBlock=some b->base<=b/\b<w.heap.size:=by
 have hi:=(Zl.1 hu).1;have:=h.own i u _ hu (ZE (by rw[<-h.len];exact hi));exact fun b hb=>Yq this b hb
def FA.set {base nb:Nat}{u':Ze}{x':List Int}(h:FA w base U L)(hu:U[i]?=some u)(hT:Am (fun b=>u.ownBlock=some b) w W)(ho:Own W base u' x')
 (hb:u'.ownBlock=u.ownBlock\/u'.ownBlock=some nb) (hn:w.heap.size<=nb):FA W base (U.set i u') (L.set i x'):=by
 have hi:=(Zl.1 hu).1;have hiL:i<L.length:=by rw[<-h.len];exact hi
 refine⟨by simp[h.len],fun j v x hv hl=>?_,fun j k v v' Bn hv Vm b h1 h2=>?_⟩
 .by_cases hj:i=j
  .subst hj
   rw[ze hi]at hv;rw[ze hiL]at hl;cases hv;cases hl;exact ho
  .rw[ZD hj]at hv hl
   exact(h.own j v x hv hl).apart hT fun b GZ e=>h.apart i j u v hj hu hv b e GZ
 .have key:∀ {k:Nat} {v:Ze},i≠k->U[k]?=some v->∀b,u'.ownBlock=some b->v.ownBlock≠some b:=fun {k v} hk hv b h1 h2=>by
   rcases hb with e|e
   .exact h.apart i k u v hk hu hv b (by rw[<-e];exact h1) h2
   .rw[e]at h1
    have e2:nb=b:=ZK h1;have:=(h.blk hv b h2).2;omega
  by_cases hj:i=j
  .subst hj
   rw[ze hi]at hv;rw[ZD Bn]at Vm;cases hv;exact key Bn Vm b h1 h2
  .rw[ZD hj]at hv
   by_cases hk:i=k
   .subst hk
    rw[ze hi]at Vm;cases Vm;exact key hj hv b h2 h1
   .rw[ZD hk]at Vm
    exact h.apart j k v v' Bn hv Vm b h1 h2
def FA.append {base b2:Nat}{V:List Ze}{M:List (List Int)}(h:FA w base U L)(k:FA w b2 V M)(hU:∀(i:Nat) u,U[i]?=some u->∀b,u.ownBlock=some b->b<b2)(hbb:base<=b2):FA w base (U++V) (L++M):=by
 have hl:=h.len;refine⟨by simp[h.len,k.len],fun i u x hu hx=>?_,fun i j u u' Bn hu O' b h1 h2=>?_⟩
 .by_cases hi:i<U.length
  .rw[Z4 hi]at hu
   rw[Z4 (by omega)]at hx;exact h.own i u x hu hx
  .rw[zx (by omega)]at hu
   rw[zx (by omega), <-hl]at hx;exact(k.own _ u x hu hx).mono hbb
 .have key:∀ {i j:Nat} {u u':Ze},U[i]?=some u->V[j]?=some u'->∀b,u.ownBlock=some b->u'.ownBlock≠some b:=fun {i j u u'} hu O' b h1 h2=>by
   have:=hU i u hu b h1;have:=(k.blk O' b h2).1;omega
  by_cases hi:i<U.length
  .rw[Z4 hi]at hu
   by_cases hj:j<U.length
   .rw[Z4 hj]at O'
    exact h.apart i j u u' Bn hu O' b h1 h2
   .rw[zx (by omega)]at O'
    exact key hu O' b h1 h2
  .rw[zx (by omega)]at hu
   by_cases hj:j<U.length
   .rw[Z4 hj]at O'
    exact key O' hu b h2 h1
   .rw[zx (by omega)]at O'
    exact k.apart _ _ u u' (by omega) hu O' b h1 h2
def PK (base:Nat)(w:Zc)(v:Ze)(ls:List (List Int)):Prop:=∃vals,w.ownsRow base 22 1 v ls.length vals/\FA w base vals ls
def PK.sl {base:Nat}{ls:List (List Int)}(h:PK base w v ls):SL (Cf base w) w v ls:=by
 obtain⟨vals,h1,h2⟩:=h;refine X9 h1 (Zj _) fun i x hx=>?_;obtain⟨u,hu,ho⟩:=h2.idx hx;exact⟨u,hu,ho.si⟩
def tY (w:Zc)(ls:List (List Int))(e:Ending)(w':Zc):Prop:=∃v,e=.returned v/\Bl w w'/\PK w.heap.size w' v ls
variable {e:Zr}
def ax {base:Nat}{a:Option Addr}{c:Nat}(h:w.ownsRow base e 1 (J a n c) n xs)(hu:xs[i]?=some u):∃b,a=some ⟨b,0,none⟩/\w.cell? ⟨b,i,none⟩=some u:=by
 obtain⟨a',c',h1,_,_,h4⟩:=Df h;cases h1;obtain⟨b,hb,_,hc⟩:=h4 i u hu;exact⟨b,hb,by simpa using hc⟩
def oN {base:Nat}(h:A.ownsRow base e k v n xs)(hT:Am T A B)(hx:∀x,v.ownBlock=some x->¬T x):B.ownsRow base e k v n xs:=by
 refine⟨h.1,?_⟩;rcases h.2 with h1|⟨g,cap,cur,h1,h2,h3,h4⟩
 .exact .inl h1
 .exact .inr ⟨g,cap,cur,h1,h2,(hT.block g (Za.1 h3).1 (hx g (by rw[h1];rfl))).trans h3,h4⟩
def lA {wr w1:Zc}{n0 b:Nat}{o:Obj}{vo:Ze}{B:List Ze}(eW:wr.ownsRow b 22 1 vo n B)(hu:wr.ownsRow n0 3 1 u k xs)(hg:(wr.alloc o).grownBy w1 u.ownBlock):w1.ownsRow b 22 1 vo n B:=
 D7 (T:=fun b=>u.ownBlock=some b) eW ((Am.later (bA (Zg _ _))).trans (Am.grown hg fun k hk=>hk)) fun x cs hx e=>by
  obtain⟨_,cs',h⟩:=Hk hu x e;rw[hx]at h;cases h
def lB {α:Type}{A B:List α}{x y:α}:(A++x::B).set A.length y=(A++ [y])++B:=by
 rw[List.set_append_right _ _ (Zj _)];simp
def c52:∀(m n:Nat) (w:Zc),m<=3->n<=3->Calls Lp 52 #[.int I n,.int I m] w (tY w (BB m n))
 |0,n,w,_,_=>by
  go_enter Lp.func52,n52;go_wp2;go_ret;refine⟨_,rfl,bA (Zg _ _),[J none 0 0],Zcr w #[J none 0 0] 1 (Zj _) (by decide) rfl,rfl,fun i u x hu hx=>?_,fun i j u u' Bn hu O'=>?_⟩
  .match i,hu,hx with
   |0,hu,hx=>cases hu;cases hx;exact zh _ _ _ _
  .match i,j,Bn,hu,O' with
   |0,0,Bn,_,_=>exact absurd rfl Bn
 |m+1,n,w,hm,hn=>by
  have IH:=Zb fun(last:Nat) (W:Zc) (h:last<=3)=>c52 m last W (by omega) h;have Gx:=CI;obtain⟨i3,xH,h30,h31,h32⟩:=zq Jx;obtain⟨i22,tZ,t_,ua,ub⟩:=zq G3;have h0:(((m+1:Nat):Int)==0)=false:=by simp;omega
  have hw:IntKind.i64.wrap (((m+1:Nat):Int) - 1)=m:=by rw[Yp];omega
  go_enter Lp.func52,n52;go_wp2;go_loopg [5,6] (n - m) (fun gg vo il wr=>∃(last:Nat) (A:List Ze),m<=last/\(last<=n\/last=m)/\gg=n - last/\il=.int I last/\wr.ownsRow w.heap.size 22 1 vo (BB (m+1) last).length A/\FA wr w.heap.size A (BB (m+1) last)/\Bl w wr)
  case atStart=>exact⟨m,[],Zj _,.inr rfl,rfl,rfl,by rw[Mo (Zj _)];exact zh _ _ _ _,by rw[Mo (Zj _)];exact FA.nil _ _,Zg _ _⟩
  case round=>
   obtain⟨last,A,ast,Tl,rfl,rfl,Cr,vj,hB⟩:=hrel;obtain⟨va,vc,rfl,_,_,_⟩:=Df Cr;have hLs:=(GM (m+1) (by omega) last (by omega)).1;by_cases AA:last<n
   .have hli:(last:Int)<(n:Int):=by omega
    obtain⟨hMs,hMm⟩:=GM m (by omega) last (by omega);have B5:=Zb (jc ast);obtain⟨L,hL⟩:∃L,L=BB (m+1) last:=⟨_,rfl⟩;obtain⟨M,hM⟩:∃M,M=BB m last:=⟨_,rfl⟩;rw[<-hL]at Cr vj hLs B5;rw[<-hM]at hMs hMm B5;have IH2:=Zb (show Calls Lp 52 #[.int I last,.int I m] wr (tY wr M) from hM▸IH.out last wr (by omega));have Vk:=Zb Cr;have yx:=Zb vj;have HMM:=Zb hMm;obtain⟨n0,NG⟩:∃n0,n0=w.heap.size:=⟨_,rfl⟩;rw[<-NG]at Vk yx;have hz:=hB.size;rw[<-hL];clear Cr vj hMm hL hM;go_wp2_with (go_at_call 52;refine IH2.out.mono ?_;rintro e W1 ⟨vl,rfl,Bb,QS,ef,hFL⟩;obtain⟨al,cl,rfl,lcl,mcl,_⟩:=Df ef);obtain⟨b1,EJ⟩:∃b1,b1=wr.heap.size:=⟨_,rfl⟩;rw[<-EJ]at ef hFL;have hlA:A.length=L.length:=by have:=Vk.out.1;omega
    have hlV:QS.length=M.length:=by have:=ef.1;omega
    have al3:=Ey Vk.out Bb;have asv:FA W1 n0 (A++QS) (L++M):=(yx.out.later Bb).append hFL (fun i u hu b hb=>by have:=(yx.out.blk hu b hb).2;omega) (by omega);have hap:∀b,(ZA va L.length vc).ownBlock=some b->(ZA al M.length cl).ownBlock≠some b:=fun b h1 h2=>by
     have:=(Yq Vk.out b h1).2;have:=(Yq ef b h2).1;omega
    have DX:=Bb.size;have asw:=bU hB Bb;have nB:b1<=wr.heap.size/\wr.heap.size<=b1:=by omega
    clear EJ;go_loopg [5,8] M.length (fun gg vo i wx=>∃(k:Nat) (B:List Ze) (P:List (List Int)),k<=M.length/\gg=M.length - k/\i=.int I k/\P=L++(M.take k).map (· ++ [(last:Int)])/\wx.ownsRow n0 22 1 vo (L.length+k) B/\wx.ownsRow b1 22 1 (J al M.length cl) M.length QS/\
     FA wx n0 (B++QS.drop k) (P++M.drop k)/\(∀b,vo.ownBlock=some b->(ZA al M.length cl).ownBlock≠some b)/\Bl w wx)
    case atStart=>exact⟨0,A,L,Zn _,rfl,rfl,by simp,al3,ef,asv,hap,asw⟩
    case round=>
     obtain⟨k,B,P,hk,rfl,rfl,hP,eW,Fq,hF,iU,QF⟩:=hrel;obtain⟨vb,vd,rfl,lvd,mvd,_⟩:=Df eW;have hlB:B.length=L.length+k:=by have:=eW.1;omega
     have hlP:P.length=L.length+k:=by rw[hP];simp;omega
     have HP:=Zb hP;clear hP;by_cases hkm:k<M.length
     .obtain⟨u,hu⟩:∃u,QS[k]?=some u:=⟨_,ZE (by omega)⟩
      obtain⟨x,hx⟩:∃x,M[k]?=some x:=⟨_,ZE hkm⟩;have hdV:QS.drop k=u::QS.drop (k+1):=by
       obtain⟨h1,h2⟩:=Zl.1 hu;rw[Zu h1,h2]
      have hdM:M.drop k=x::M.drop (k+1):=by
       obtain⟨h1,h2⟩:=Zl.1 hx;rw[Zu h1,h2]
      rw[hdV,hdM]at hF;have hui:(B++u::QS.drop (k+1))[B.length]?=some u:=by simp
      have hxi:(P++x::M.drop (k+1))[B.length]?=some x:=by rw[hlB, <-hlP];simp
      have hOu:=hF.own _ _ _ hui hxi;obtain⟨bl,rfl,gp⟩:=ax Fq hu;have hxl:x.length=m:=HMM.out x (Z8 hx);obtain⟨au,cu,rfl,lcu,mcu,_⟩:=Df hOu;have HF:=Zb hF;have HOU:=Zb hOu;have pE:=Zb eW;have HRL:=Zb Fq;have HUI:=Zb hui;have HXL:=Zb hxl;have hzx:=QF.size;have Rh:(k:Int)<(M.length:Int):=by omega
      have hx4:x.length<=3:=by omega
      have aBt:n0<=wr.heap.size:=by omega
      have HPN:=Zb (show P++ [x++ [(last:Int)]]=L++(M.take (k+1)).map (· ++ [(last:Int)]) by rw[ZbN,hx];simp[HP.out]);clear hF hOu eW Fq hui hxl hdV hdM hu hxi;go_wp2_with (first|(at_builtin;refine wpList_append_own_at _ rfl _ _ 22 rfl n0 3 i3 (.int I 0) 1 8 (CG Yg) (DC xH) h30 h31 h32 rfl (by decide) (J au x.length cu) x.length (x.map (ZS I)) rfl (zO HOU.out _) ⟨wr.heap.size,0,none⟩ 1 1 [.int I last] rfl rfl (BR _ _ _) (by simp[Yv]) (by unfold maxLen;omega) (by omega) (by simp;omega) ?_;intro v1 w1 XE ks aeG al4;obtain⟨g1,p1,rfl⟩:=ZbD XE)|(at_builtin;have aeH:=lA pE.out HOU.out ks;refine wpList_append_own_at _ rfl _ _ 27 rfl n0 22 i22 (J none 0 0) 1 24 (CG zY) (DC tZ) t_ ua ub rfl (by decide) (J vb (L.length+k) vd) (L.length+k) B rfl (zO aeH _) ⟨w1.heap.size,0,none⟩ 1 1 [J (some ⟨g1,0,none⟩) (x.length+1) p1] rfl rfl (BR _ _ _) (by simp[Yv]) (by unfold maxLen;omega) (by omega) (by simp;have:=ks.size;simp at this;omega) ?_;intro v2 w2 eF XC uc Vj));have Mr:Am (fun b=>(ZA au x.length cu).ownBlock=some b) wr w1:=(Am.later (bA (Zg _ _))).trans (Am.grown ks fun k hk=>hk);have Ff:Am (fun b=>(ZA vb (L.length+k) vd).ownBlock=some b) w1 w2:=(Am.later (bA (Zg _ _))).trans (Am.grown XC fun k hk=>hk);have hub:=fun b hb=>(Hk HOU.out b hb).1;have uR:=fun b hb=>(Yq pE.out b hb).1;have Ni:=fun b hb=>(Yq HRL.out b hb).2;have DX:=Mr.size;have Ax:=HF.out.set HUI.out Mr (show Own w1 n0 (J (some ⟨g1,0,none⟩) (x.length+1) p1) (x++ [(last:Int)]) by unfold Own;rw[ZF,Zaa];exact XE) al4 (by simp);have TQ:=Ax.CX Ff (fun y cs hy e=>by
       obtain⟨_,cs',h⟩:=Hk aeH y e;rw[hy]at h;cases h)
      rw[lB,show B.length=P.length by omega,lB]at TQ;have al5:=oN (lA HRL.out HOU.out ks) Ff (fun y hy e=>iU y e hy);have XM:w.heap.size<=wr.heap.size:=QF.size;have AW:Bl w w2:=QF.trans ((Mr.below (fun y hy=>by have:=hub y hy;omega) XM).trans (Ff.below (fun y hy=>by have:=uR y hy;omega) (by omega)));have al6:∀b,v2.ownBlock=some b->(ZA (some ⟨bl,0,none⟩) M.length cl).ownBlock≠some b:=fun b h1 h2=>by
       rcases Vj with e|e
       .exact iU b (by rw[<-e];exact h1) h2
       .rw[e]at h1
        have e2:w1.heap.size+1=b:=by simpa using h1
        have:=Ni b h2;omega
      have MV:=Zb (ZX eF (ZX al5 (ZX TQ (ZX al6 AW))));clear eF al5 TQ al6 AW Ax Mr Ff XE ks XC al4 Vj aeG uc aeH iU hub uR Ni;go_roundg (M.length - (k+1))
      case rel=>
       obtain⟨q1,q2,q3,q4,q5⟩:=MV.out;exact⟨k+1,_,_,hkm,rfl,by go_num,HPN.out,q1,q2,q3,q4,q5⟩
      case measure=>omega
     .have hkM:k=M.length:=by omega
      subst hkM;rw[Zz.2 (by omega),Zz.2 (Zj _),Zap,Zap]at hF;have hPl:P=BB (m+1) (last+1):=by rw[B5.out,HP.out,List.take_length]
      subst hPl;have MV:=Zb (ZX eW (ZX hF QF));have HLP:=Zb hlP;clear eW hF QF hlP Fq iU;go_wp2;go_roundg (n - (last+1))
      case rel=>
       obtain⟨q1,q2,q3⟩:=MV.out;exact⟨last+1,B,by omega,.inl (by omega),rfl,by go_num,by rw[HLP.out, <-NG];exact q1,NG▸q2,q3⟩
      case measure=>omega
   .have ql:BB (m+1) last=BB (m+1) n:=by
     rcases Tl with h|h
     .rw[show last=n by omega]
     .rw[Mo (show last<=m by omega),Mo (show n<=m by omega)]
    rw[ql]at Cr vj hLs⊢;have abz:=Zb (aw (m+1) (by omega) n (by omega));obtain⟨R,hR⟩:∃R,R=BB (m+1) n:=⟨_,rfl⟩;rw[<-hR]at Cr vj hLs abz⊢;have yx:=Zb vj;have hlA:=Cr.1;have Vk:=Zb Cr;have HB:=Zb hB;have HRR:=Zb hR;clear hR ql vj Cr hB;go_wp2;have hzB:=HB.out.size;go_loopg [9] (R.length - 1) (fun gg i wx=>∃k:Nat,1<=k/\gg=R.length - k/\i=.int I k/\Bl wr wx)
    case atStart=>exact⟨1,Zj _,rfl,rfl,Zg _ _⟩
    case round=>
     obtain⟨k,hk1,rfl,rfl,MN⟩:=hrel;by_cases GG:k<R.length
     .obtain⟨j,rfl⟩:∃j,k=j+1:=⟨k - 1,by omega⟩
      have hwj:IntKind.i64.wrap (((j+1:Nat):Int) - 1)=(j:Int):=by rw[Yp];omega
      obtain⟨x1,O5⟩:∃x,R[j+1]?=some x:=⟨_,ZE GG⟩;obtain⟨x0,Ll⟩:∃x,R[j]?=some x:=⟨_,ZE (by omega)⟩;obtain⟨u1,nO,jE⟩:=yx.out.idx O5;obtain⟨u0,hu0,ho0⟩:=yx.out.idx Ll;obtain⟨bo,rfl,NC⟩:=ax Vk.out nO;obtain⟨bo',e,Oo⟩:=ax Vk.out hu0;cases e;have abA:Hb x1 x0=false:=by
       have:=abz.out j (by omega);rwa[ZR,ZR,O5,Ll]at this
      replace NC:=(MN.cell (p:=⟨bo,j+1,none⟩) (Zy _ _ NC)).trans NC;replace Oo:=(MN.cell (p:=⟨bo,j,none⟩) (Zy _ _ Oo)).trans Oo;have asC:=Zb (fun n=>show Calls Lp 121 #[u1,u0] (World.drewN _ n) fun e w'=>e=.returned (.bool false)/\∃m,w'=(World.drewN _ n).drewN m from abA▸ass (jE.si.later (zl MN n)) (ho0.si.later (zl MN n)));have hj1:((j+1:Nat):Int)<(R.length:Int):=by omega
      have hj0:(j:Int)<(R.length:Int):=by omega
      obtain⟨b1,p1,rfl,_⟩:=jE.si.val;obtain⟨b0,p0,rfl,_⟩:=ho0.si.val;clear O5 Ll nO hu0 jE ho0 abA;go_wp2;obtain⟨Y,hY⟩:∃Y,Y=wr:=⟨_,rfl⟩;go_loopg [10] 1 (fun gg i wy=>gg=1/\i=.int I ((j+1:Nat):Int)/\wy=wr)
      case atStart=>exact⟨rfl,rfl,rfl⟩
      case round=>
       obtain⟨rfl,rfl,rfl⟩:=hrel;have E7:(0:Int)<((j+1:Nat):Int):=by omega
       have awS:(0:Int)<=((j+1:Nat):Int):=by omega
       have awT:(0:Int)<=(j:Int):=by omega
       clear hY;go_wp2;go_quiet ((go_at_call 121;refine Calls.quiet_of (asC.out _)));go_wp2;go_roundg (R.length - (j+1+1))
       case rel=>exact⟨j+2,by omega,rfl,by go_num,zl MN nq⟩
       case measure=>omega
     .go_wp2
      go_ret;exact⟨_,rfl,bU HB.out MN,by rw[<-HRR.out];exact⟨A,Ey Vk.out MN,yx.out.later MN⟩⟩
def IQ (now:List Int):Nat->List Int->List Bool
 |_,[]=> []
 |i,n::r=>(!decide (n=nth now i))::IQ now (i+1) r
def Kk (ab:Nat->Nat):Nat->List Bool->Nat->Nat
 |_,[],s=>s
 |i,b::r,s=>Kk ab (i+1) r (if b=true then s|||IE (ab i) i else s)
def Uo (ab:Nat->Nat)(now:List Int):∀(l:List Int) (i s:Nat),Ga ab now i l s=Kk ab i (IQ now i l) s
 | [],_,_=>rfl
 |n::r,i,s=>by
  unfold Ga IQ Kk;rw[Uo ab now r];by_cases h:n=nth now i<;>simp[h]
def P_ (now:List Int):∀(l:List Int) (i:Nat),(IQ now i l).length=l.length
 | [],_=>rfl
 |_::r,i=>by simp[IQ,P_ now r]
def Qa (now:List Int):∀(l:List Int) (i k:Nat),k<l.length->(IQ now i l).getD k false= !(nth l k==nth now (i+k))
 |n::r,i,0,_=>by simp[IQ,nth];rfl
 |n::r,i,k+1,h=>by
  have:=Qa now r (i+1) k (by simpa using h);rw[show i+(k+1)=i+1+k by omega, <-show nth r k=nth (n::r) (k+1) by simp[nth], <-this];simp[IQ]
def Sk (o:List (List Int))(D:List Bool)(l:List Int):Bool:=((ZL o.length).all fun i=> !(D.getD i false)||l.contains (i:Int))&&l.all fun x=>(o.getD x.toNat []).all fun y=>l.contains y
def uh (hs:s.length=c.Aa.length):EZ c s l=Sk (Bh c.Aa) (IQ c.now 0 s) l:=by
 unfold EZ Sk
 congr 1
 .rw[show(Bh c.Aa).length=c.Aa.length by simp[Bh],Zdj,zt,zt]
  refine forall_congr' fun i=>?_;constructor
  .intro h hi
   have Da:i<s.length:=by rw[hs];simpa using hi
   have:=Qa c.now s 0 i Da;rw[zK]at this;rw[this,ZdD];exact h hi
  .intro h hi
   have Da:i<s.length:=by rw[hs];simpa using hi
   have:=Qa c.now s 0 i Da;rw[zK]at this;have h2:=h hi;rwa[this,ZdD]at h2
 .congr 1
  funext x
  congr 1
  unfold Bh Ah;rw[ZR,ZR,zU];cases c.Aa[x.toNat]? <;>rfl
def Hc (n m i:Nat):List (List Int):=(BB m n).drop i++((ZL (n+1)).drop (m+1)).flatMap fun k=>BB k n
def ui (h:(BB m n)[i]?=some x):Hc n m i=x::Hc n m (i+1):=by
 obtain⟨hi,e⟩:=Zl.1 h;unfold Hc;rw[Zu hi,e]
 rfl
def jg (h:(BB m n).length<=i)(hm:m<n):Hc n m i=Hc n (m+1) 0:=by
 unfold Hc;rw[Zz.2 h,zZ,Zu (show m+1<(ZL (n+1)).length by simp;omega)];simp
def oO (h:(BB m n).length<=i)(hm:n<=m):Hc n m i=[]:=by
 unfold Hc;rw[Zz.2 h,Zz.2 (by simp;omega)]
 rfl
def Up (o:List (List Int))(D:List Bool):Bool:=(Hc o.length 0 0).find? (Sk o D)==some (Av (Kk (Ii o) 0 D 0))
def IU:List Bool:=[true,false]
def Dg (b:Bool):b∈IU:=by cases b<;>simp[IU]
def aeK:∀a∈Ij,∀d∈IU,Up [a.filter (· <1)] [d]=true:=by decide+kernel
def aeL:∀a∈Ij,∀b∈Ij,∀d∈IU,∀e∈IU,Up [a.filter (· <2),b.filter (· <2)] [d,e]=true:=by decide+kernel
def aeM:∀a∈Ij,∀b∈Ij,∀c∈Ij,∀d∈IU,∀e∈IU,∀f∈IU,Up [a,b,c] [d,e,f]=true:=by decide+kernel
def least {D:List Bool}(h1:1<=o.length)(hn:o.length<=3)(hD:D.length=o.length)(hr:∀l∈o,l.Pairwise (· < ·))(hx:∀l∈o,∀x∈l,0<=x/\x<o.length):Up o D=true:=by
 match o,D,h1,hn,hD,hr,hx with
 | [a],[d],_,_,_,hr,hx=>
  have h1:=hx a (by simp);have:=aeK a (C5 (hr a (by simp)) fun x h=>by have:=h1 x h;simp at this;omega) d (Dg d);rwa[filter_lt (fun x h=>by have:=h1 x h;simpa using this)]at this
 | [a,b],[d,e],_,_,_,hr,hx=>
  have h1:=hx a (by simp);have h2:=hx b (by simp);have:=aeL a (C5 (hr a (by simp)) fun x h=>by have:=h1 x h;simp at this;omega) b (C5 (hr b (by simp)) fun x h=>by have:=h2 x h;simp at this;omega) d (Dg d) e (Dg e);rwa[filter_lt (fun x h=>by have:=h1 x h;simpa using this),filter_lt (fun x h=>by have:=h2 x h;simpa using this)]at this
 | [a,b,c],[d,e,f],_,_,_,hr,hx=>
  exact aeM a (C5 (hr a (by simp)) fun x h=>by have:=hx a (by simp) x h;simpa using this) b (C5 (hr b (by simp)) fun x h=>by have:=hx b (by simp) x h;simpa using this)
   c (C5 (hr c (by simp)) fun x h=>by have:=hx c (by simp) x h;simpa using this) d (Dg d) e (Dg e) f (Dg f)
 |_::_::_::_::_,_,_,hn,_,_,_=>simp at hn
def OY (hM:FG c)(hl:Ig c l):(Hc c.Aa.length 0 0).find? (EZ c l)=some (Av (Ay c l)):=by
 have tw:(Bh c.Aa).length=c.Aa.length:=by simp[Bh]
 have Xg:∀o∈Bh c.Aa,∃i,i<c.Aa.length/\o=(Ah c.Aa i).over:=fun o ho=>by
  obtain⟨s,hs,rfl⟩:=Zby.1 ho;obtain⟨i,hi,rfl⟩:=Yo hs;exact⟨i,hi,by simp[Ah,hi]⟩
 have:=least (o:=Bh c.Aa) (D:=IQ c.now 0 l) (by have:=hM.few;omega) (by have:=hM.few;omega) (by rw[P_,tw];exact hl.1)
  (fun o ho=>by obtain⟨i,hi,rfl⟩:=Xg o ho;exact(hM.seam i hi).rising) (fun o ho x hx=>by obtain⟨i,hi,rfl⟩:=Xg o ho;have:=(hM.seam i hi).over x hx;rw[tw];omega)
 unfold Up at this;have e:=eq_of_beq this;rw[tw]at e;rw[show EZ c l=Sk (Bh c.Aa) (IQ c.now 0 l) from funext fun x=>uh hl.1,e];unfold Ay Cb;rw[Uo,OU]
def Wx (l:List Int):IM l l=true:=by simp[IM]
def Cj.yD {b:Nat}(h:Bl w A)(hU:Cj b A B)(hb:w.heap.size<=b):Bl w B:=h.trans ((hU.CX (K:=fun x=>x=b) rfl).below (fun x hx=>by have:x=b:=hx;omega) h.size)
def IV (c:A4)(i:Int):Bool:=decide (0<(Ah c.Aa i.toNat).left)
def Wy {t:Nat}:(J_ c t=none)↔(Av t).all (IV c)=true:=by
 unfold J_;rw[List.find?_eq_none,zt];constructor
 .intro h x hx
  have:=h x hx;simp[Oz,IV]at this⊢;omega
 .intro h x hx
  have:=h x hx;simp[Oz,IV]at this⊢;omega
def Kl (h:Ca c l=0):Bx c l=if(Av (Ay c l)).all (IV c)=true then 0 else 12:=by
 unfold Bx;rw[B0 h];by_cases h2:J_ c (Ay c l)=none
 .rw[if_pos h2,if_pos (Wy.1 h2)]
 .rw[if_neg h2,if_neg fun x=>h2 (Wy.2 x)]
def ew:∀m<4,∀n<4,∀x∈BB m n,∀y∈x,0<=y/\y<(n:Int):=by decide+kernel
def ey {j:Nat}(h:j<l.length):(l.take (j+1)).all f=((l.take j).all f&&f (nth l j)):=by
 rw[ZbN,A_ h,List.all_append];simp
def atb {Sn:Nat->Prop}{lv:Ze}{nums:List Int}(hn:SI Sn w lv nums)(EP:∀x,Sn x->x<w.heap.size)(hG:Iv w):Calls Lp 7 #[lv] w (Two w (.bool true)):=by
 obtain⟨la,lc,rfl,_⟩:=hn.val;have Gx:=CI;have H44:=Zb (fun(W:Zc) (b d:Nat) (h1:SI Sn W (J la nums.length lc) nums) (h2:∀x,Sn x->x<W.heap.size/\x≠b) (h3:BQ W b (J la nums.length lc) d) (h4:d+1000<4611686018427387904)=>show Calls Lp 44 #[.pointer (some ⟨b,0,none⟩),.int I 3] W (ae W b (J la nums.length lc) d 3) from c44 (s:=3) h1 h2 h3 h4 (by decide));go_enter Lp.func7,n7;go_wp2_with (first|(go_at_call 27;refine(c27 _ ⟨_,_,_,rfl⟩ _).mono ?_;rintro e W1 ⟨rfl,hw⟩;(have Bb:Bl w W1:=by rw[hw];exact bA (Zg _ _));(have LK:BQ W1 w.heap.size (J la nums.length lc) 0:=⟨1,by rw[hw];exact Bt _ _⟩);clear hw;obtain⟨b,hb⟩:∃b,b=w.heap.size:=⟨_,rfl⟩;rw[<-hb]at LK⊢;have HB:=Zb hb;clear hb)|(go_at_call 44;refine(H44.out _ _ _ (hn.later Bb) (fun x hx=>⟨by have:=EP x hx;have:=Bb.size;omega,by have:=EP x hx;have:=HB.out;omega⟩) LK (by omega)).mono ?_;rintro e W2 ⟨c,u1,u2,u3,u4,u5,d2,rfl,Hl,vK,QU,hM,xX⟩;obtain⟨a1,c1,rfl,_⟩:=QU.base.val;obtain⟨a2,c2,rfl,_⟩:=QU.Af.val;obtain⟨a3,c3,rfl,_⟩:=QU.hooks.val;obtain⟨a4,c4,rfl,_⟩:=QU.Aa.val;obtain⟨a5,c5,rfl,_⟩:=QU.now.val));have G0:b<=w.heap.size/\w.heap.size<=b:=by have:=HB.out;omega
 have DX:=Bb.size;have EJ:b<W1.heap.size:=LK.lt;have EI:=Hl.Cg.size;have AW:=Cj.yD Bb Hl.Cg (by omega);have eM:=(hn.later Bb).Cg Hl.Cg (fun x hx=>⟨by have:=EP x hx;omega,by have:=EP x hx;omega⟩);obtain⟨X,hX⟩:∃X,X=W2.alloc (.cells #[J a1 c.base.length c1,J a2 c.Af.length c2,J a3 c.hooks.length c3,J a4 c.Aa.length c4,J a5 c.now.length c5] 26):=⟨_,rfl⟩;have Io:Bl W2 X:=by rw[hX];exact bA (Zg _ _)
 have hK:X.heap[W2.heap.size]?=some (.cells #[J a1 c.base.length c1,J a2 c.Af.length c2,J a3 c.hooks.length c3,J a4 c.Aa.length c4,J a5 c.now.length c5] 26 (0,0)):=by rw[hX];exact Bt _ _
 obtain⟨q,hq⟩:∃q,q=W2.heap.size:=⟨_,rfl⟩;rw[<-hq]at hK;rw[<-hX, <-hq];have uV:q<X.heap.size:=(Za.1 hK).1;have Nk:W2.heap.size<=q/\q<=W2.heap.size:=by omega
 clear hX hq;have I9:=hM.few;have hS:∀x,Cf W1.heap.size W2 x->x<X.heap.size/\x≠b:=fun x hx=>⟨by have:=hx.2;have:=Io.size;omega,by have:=hx.1;omega⟩;refine(c30 (QU.later Io) hS (eM.later Io) (fun x hx=>⟨by have:=EP x hx;have:=Io.size;omega,by have:=EP x hx;omega⟩) (Hl.FH.later Io) (by omega) (by omega) (fun i hi=>by have:=(hM.seam i hi).step;omega)).mono ?_;rintro e W3 ⟨v3,l,d3,rfl,Ho,uZ,hd3,Nn,Rx,Ni⟩;obtain⟨p3,t3,rfl,_⟩:=Nn.val;have A8:Ig c l:=⟨Rx,fun i hi=>⟨(Ni i (by omega)).1,(Ni i (by omega)).2 (hM.seam i (by omega)).step.2.1⟩⟩;have Ep:=Ho.at_ hK (by omega);have O6:=(QU.later Io).Aw (Ho.same fun x hx=>(hS x hx).2);have Bg:=Cj.yD (AW.trans (Io.mono AW.size)) Ho (by omega);have Sa:=Ho.size;have hzX:=Io.size;have O0:=Zb A8;have HM:=Zb hM;clear A8 Rx Ni uZ Ho hK eM QU Hl LK vK hd3 hM;have pB:=Zb (show∀W,Bl W3 W->RC (fun x=>x<W.heap.size) W (J a1 c.base.length c1) (J a2 c.Af.length c2) (J a3 c.hooks.length c3) (J a4 c.Aa.length c4) (J a5 c.now.length c5) c from fun W hB=>(O6.later hB).imp fun x hx=>by have:=hx.2;have:=hB.size;show x<W.heap.size;omega);have lj:=Zb (show∀W,Bl W3 W->SI (fun x=>x<W.heap.size) W (J p3 l.length t3) l from fun W hB=>Sl.imp (Nn.later hB) (fun x hx=>by have:=hx.2;have:=hB.size;show x<W.heap.size;omega) fun _ _ x=>x);have k0:=ch (i:=0) Ep rfl;have k1:=ch (i:=1) Ep rfl;have k2:=ch (i:=2) Ep rfl;have k3:=ch (i:=3) Ep rfl;have k4:=ch (i:=4) Ep rfl;dsimp only;go_wp2;refine(c51 (pB.out W3 (Zg _ _)) (lj.out W3 (Zg _ _)) fun x hx=>hx).mono ?_;rintro e W4 ⟨v4,rfl,CU,Wp⟩;obtain⟨p4,t4,rfl,_⟩:=Wp.val;have HLC:=Zb (OY HM.out O0.out);have HE:=Zb (Kl (HM.out.asked O0.out));have O7:=Zb (show QR c l=if Bx c l=0 then Av (Ay c l) else [] from rfl);obtain⟨T,hT⟩:∃T,T=Av (Ay c l):=⟨_,rfl⟩;obtain⟨E,hE⟩:∃E,E=Bx c l:=⟨_,rfl⟩;obtain⟨G,hGL⟩:∃G,G=QR c l:=⟨_,rfl⟩;rw[<-hT]at HLC HE O7;rw[<-hE]at HE O7⊢;rw[<-hGL]at O7 Wp⊢;have Kz:=(CU.block _ (Za.1 Ep).1).trans Ep;have HVL:=Zb (show∀W,Bl W4 W->SI (fun x=>x<W.heap.size) W (J p4 G.length t4) G from fun W hB=>Sl.imp (Wp.later hB) (fun x hx=>by have:=hx.2;have:=hB.size;show x<W.heap.size;omega) fun _ _ x=>x);have hG4:=hG.later (bU Bg CU);have eo:=bU Bg CU;clear hT hE hGL k0 k1 k2 k3 k4 hG Ep Bg Wp Nn O6 hn EP hS;dsimp only;go_wp2;go_loopg [8] (c.Aa.length+1) (fun gg i wr=>∃m:Nat,m<=c.Aa.length/\gg=c.Aa.length+1 - m/\i=.int I m/\(Hc c.Aa.length m 0).find? (EZ c l)=some T/\Bl W4 wr)
 case atStart=>exact⟨0,Zn _,rfl,rfl,HLC.out,Zg _ _⟩
 case round=>
  obtain⟨m,hm,rfl,rfl,Cn,MN⟩:=hrel;have hf:=Zb Cn;clear Cn;have eO:=(MN.block _ (Za.1 Kz).1).trans Kz;have k3:=ch (i:=3) eO (v:=.slice a4 c.Aa.length c4) rfl;have hmi:(m:Int)<=(c.Aa.length:Int):=by omega
  have HPS:=Zb (GM m (by omega) c.Aa.length (by omega));have HPL:=Zb (ew m (by omega) c.Aa.length (by omega));have HCI:=Zb (fun(i:Nat) (x:List Int) (h:(BB m c.Aa.length)[i]?=some x)=>ui h);have HCN:=Zb (fun(i:Nat) (h:(BB m c.Aa.length).length<=i) (h2:m<c.Aa.length)=>jg h h2);have HCE:=Zb (fun(i:Nat) (h:(BB m c.Aa.length).length<=i) (h2:c.Aa.length<=m)=>oO h h2);have H52:=Zb (c52 m c.Aa.length wr (by omega) (by omega));obtain⟨P,hP⟩:∃P,P=BB m c.Aa.length:=⟨_,rfl⟩;rw[<-hP]at HPS HPL HCI HCN HCE H52;clear hP;go_wp2_with (go_at_call 52;refine H52.out.mono ?_;rintro e W5 ⟨v5,rfl,BS,UZ⟩);have KI:=UZ.sl;obtain⟨p5,t5,rfl,_⟩:=KI.val;have ate:=bU MN BS;have iX:=(BS.block _ (Za.1 eO).1).trans eO;have hP3:=HPS.out.1;have atf:=Zb KI;clear k3 UZ KI;go_loopg [10] P.length (fun gg i wx=>∃k:Nat,k<=P.length/\gg=P.length - k/\i=.int I k/\(Hc c.Aa.length m k).find? (EZ c l)=some T/\Bl W5 wx)
  case atStart=>exact⟨0,Zn _,rfl,rfl,hf.out,Zg _ _⟩
  case round=>
   obtain⟨k,hk,rfl,rfl,xB,JP⟩:=hrel;have hg:=Zb xB;clear xB;have oR:=bU ate JP;have aeT:=bU CU oR;have eU:=(JP.block _ (Za.1 iX).1).trans iX;by_cases AA:k<P.length
   .obtain⟨b6,o6,u,rfl,Xt,hcu,hu⟩:=(atf.out.later JP).at_ AA
    have hxP:=C2 AA;have hxl:=Zb (HPS.out.2 _ (Z8 hxP));have vq:=Zb (HPL.out _ (Z8 hxP));have hci:=Zb (HCI.out _ _ hxP);obtain⟨x,hx⟩:∃x,x=Cu P k:=⟨_,rfl⟩;rw[<-hx]at hxl vq hci hu;have HXL:=hxl;clear hxl;clear hxP hx;have HU:=Zb hu;obtain⟨pu,cu,rfl,lu,mu⟩:=hu.val;have Rh:(k:Int)<(P.length:Int):=by omega
    have k0:=ch (i:=0) eU (v:=.slice a1 c.base.length c1) rfl;have k1:=ch (i:=1) eU (v:=.slice a2 c.Af.length c2) rfl;have k2:=ch (i:=2) eU (v:=.slice a3 c.hooks.length c3) rfl;have k3:=ch (i:=3) eU (v:=.slice a4 c.Aa.length c4) rfl;have k4:=ch (i:=4) eU (v:=.slice a5 c.now.length c5) rfl;have z0:=fun p=>Al p k0;have z1:=fun p=>Al p k1;have z2:=fun p=>Al p k2;have z3:=fun p=>Al p k3;have z4:=fun p=>Al p k4;have z5:=fun p=>Al p hcu;have HUL:=Zb (show∀W,Bl wr W->SI (fun y=>y<W.heap.size) W (J pu x.length cu) x from fun W hB=>Sl.imp (hu.later hB) (fun y hy=>by have:=hy.2;have:=hB.size;have:=JP.size;show y<W.heap.size;omega) fun _ _ z=>z);have H53:=Zb (fun W (EV:Bl wr W)=>c53 (w:=W) (pB.out W (bU aeT EV)) (lj.out W (bU aeT EV)) (HUL.out W EV) (fun y hy=>hy) O0.out.1 HM.out.now.1 vq.out);have HB:=Zb (fun p=>BA wr p);clear hu;cases hq:EZ c l x with
    |false=>
     rw[hq]at H53;have HR:=Zb (show(Hc c.Aa.length m (k+1)).find? (EZ c l)=some T by rw[<-hg.out,hci.out,Zdh,hq]);clear hq;go_wp2;refine AH (by kernel_rfl) (by kernel_rfl) ?_
     repeat (first|go_big_quiet_step ((go_at_call 53;exact Bc (H53.out _ (HB.out _))))|quiet_step ((go_at_call 53;exact Bc (H53.out _ (HB.out _)))))
     refine zD ?_;rintro _ ⟨p,rfl⟩;have AW:=HB.out p;clear z0 z1 z2 z3 z4 z5 k0 k1 k2 k3 k4 hcu;go_wp2;go_roundg (P.length - (k+1))
     case rel=>exact⟨k+1,by omega,rfl,by go_num,HR.out,bU JP AW⟩
     case measure=>omega
    |true=>
     rw[hq]at H53;have hxT:x=T:=by
      have:=hg.out;rw[hci.out,Zdh,hq]at this;exact ZK this
     subst hxT;clear hq;go_wp2;refine AH (by kernel_rfl) (by kernel_rfl) ?_
     repeat (first|go_big_quiet_step ((go_at_call 53;exact Bc (H53.out _ (HB.out _))))|quiet_step ((go_at_call 53;exact Bc (H53.out _ (HB.out _)))))
     refine zD ?_;rintro _ ⟨p,rfl⟩;have AW:=HB.out p;clear z0 z1 z2 z3 z4 z5 k0 k1 k2 k3 k4;obtain⟨Y,hY⟩:∃Y,Y=calm wr p:=⟨_,rfl⟩;rw[<-hY]at AW⊢;clear hY;go_wp2;have ati:=bU oR AW;have atj:=bU aeT AW;have aC0:=bU JP AW;have hKy:=(AW.block _ (Za.1 eU).1).trans eU;have aeV:=(AW.cell (p:=⟨b6,o6+k,none⟩) (Zy _ _ hcu)).trans hcu;clear hcu eU H53 HB;go_loopg [11,12] x.length (fun gg fl i wx=>∃j:Nat,j<=x.length/\gg=x.length - j/\i=.int I j/\fl=.bool ((x.take j).all (IV c))/\Bl Y wx)
     case atStart=>exact⟨0,Zn _,rfl,rfl,rfl,Zg _ _⟩
     case round=>
      obtain⟨j,hj,rfl,rfl,rfl,hBy⟩:=hrel;have yE:=bU ati hBy;have atk:=bU atj hBy;have ali:=bU AW hBy;have hKz:=(hBy.block _ (Za.1 hKy).1).trans hKy;have k3:=ch (i:=3) hKz (v:=.slice a4 c.Aa.length c4) rfl;have aC2:=(hBy.cell (p:=⟨b6,o6+k,none⟩) (Zy _ _ aeV)).trans aeV;by_cases QQ:j<x.length
      .have Ku:(j:Int)<(m:Int):=by have:=HXL.out;omega
       have hjx:(j:Int)<(x.length:Int):=by omega
       have ud:=Zb (ey (f:=IV c) QQ);obtain⟨fb,aK⟩:∃fb,fb=(x.take j).all (IV c):=⟨_,rfl⟩;rw[<-aK]at ud⊢;clear aK;obtain⟨b7,o7,rfl,U2,hc7⟩:=(HUL.out _ ali).at_ QQ;obtain⟨Ll,O5⟩:=vq.out _ (IG QQ);obtain⟨y,hyy⟩:∃y:Nat,nth x j=y:=⟨(nth x j).toNat,by omega⟩;rw[hyy]at hc7 Ll O5 ud;clear hyy;have hyn:y<c.Aa.length:=by omega
       obtain⟨b8,o8,s2,s3,rfl,hb8,_,_,_,_,hl8,_,_⟩:=(pB.out _ atk).Aa.at_ (i:=y) hyn;have HPY:=Zb (show IV c (y:Int)=decide (0<(Ah c.Aa y).left) from rfl);obtain⟨lf,nT⟩:∃lf,lf=(Ah c.Aa y).left:=⟨_,rfl⟩;rw[<-nT]at hl8 HPY;clear nT;cases fb with
       |true=>
        have HR:=Zb (show decide (0<lf)=(x.take (j+1)).all (IV c) by rw[ud.out,HPY.out];rfl);go_wp2;go_quiet (fail);obtain⟨V,hV⟩:∃V,V=wr.drewN nq:=⟨_,rfl⟩;have UG:Bl wr V:=by rw[hV];exact zl (Zg _ _) nq
        rw[<-hV];clear hV;go_wp2;go_roundg (x.length - (j+1))
        case rel=>exact⟨j+1,QQ,rfl,by go_num,by rw[<-HR.out],bU hBy UG⟩
        case measure=>omega
       |false=>
        have HR:=Zb (show false=(x.take (j+1)).all (IV c) by rw[ud.out];rfl);go_wp2;go_quiet (fail);obtain⟨V,hV⟩:∃V,V=wr.drewN nq:=⟨_,rfl⟩;have UG:Bl wr V:=by rw[hV];exact zl (Zg _ _) nq
        rw[<-hV];clear hV;go_wp2;go_roundg (x.length - (j+1))
        case rel=>exact⟨j+1,QQ,rfl,by go_num,by rw[<-HR.out],bU hBy UG⟩
        case measure=>omega
      .have Ku:¬(j:Int)<(m:Int):=by have:=HXL.out;omega
       have O2:x.take j=x:=ZaQ (by omega);rw[O2];have HBZ:=Zb yE;have yF:=bU eo yE;have hG5:=hG4.later yE;obtain⟨fb,aK⟩:∃fb,fb=x.all (IV c):=⟨_,rfl⟩;rw[<-aK]at HE⊢;clear aK O2;cases fb with
       |false=>
        obtain rfl:E=12:=by rw[HE.out];rfl
        obtain rfl:G=[]:=by rw[O7.out];rfl
        clear hG4;go_wp2_with (go_at_call 26;refine(c26 wr hG5).mono ?_;rintro e Z ⟨lC,rfl|⟨x,rfl,PG⟩⟩)
        .go_ret
         exact⟨bU yF lC,.inl rfl⟩
        .exact⟨rfl,bU yF lC,.inr ⟨_,rfl,PG⟩⟩
       |true=>
        obtain rfl:E=0:=by rw[HE.out];rfl
        obtain rfl:G=x:=by rw[O7.out];rfl
        clear hG4;have n9:=Zb (uP (HVL.out _ yE) (HUL.out _ ali) (fun y hy=>hy) fun y hy=>hy);go_wp2_with (first|(go_at_call 46;refine n9.out.mono ?_;rintro e W6 ⟨rfl,Dv⟩;rw[Wx])|(go_at_call 26;refine(c26 _ (hG5.later Dv)).mono ?_;rintro e Z ⟨lC,rfl|⟨x,rfl,PG⟩⟩))
        .go_ret
         exact⟨bU yF (bU Dv lC),.inl rfl⟩
        .exact⟨rfl,bU yF (bU Dv lC),.inr ⟨_,rfl,PG⟩⟩
   .have hge:P.length<=k:=by omega
    by_cases xW:m<c.Aa.length
    .have HR:=Zb (show(Hc c.Aa.length (m+1) 0).find? (EZ c l)=some T by rw[<-HCN.out k hge xW];exact hg.out)
     go_wp2;go_roundg (c.Aa.length+1 - (m+1))
     case rel=>exact⟨m+1,xW,rfl,by go_num,HR.out,oR⟩
     case measure=>omega
    .exfalso
     have:=hg.out;rw[HCE.out k hge (by omega)]at this;cases this
end Go.Proofs.Fit
namespace Go.Proofs.YtkkjobdfheidkaaGreatDoor
open Go Go.Conc Go.RowKit Go.Proofs.Fit
set_option maxRecDepth 100000
def um:(Rows.seamClosedRow.inPlace==Tryz.prog.inPlace 7)=true:=by kernel_rfl
def ez:(Rows.seamClosedRow.unfollowed==Tryz.prog.unfollowed 7)=true:=by kernel_rfl
def oS:(Rows.seamClosedRow.recurses==Tryz.prog.recurses 7)=true:=by kernel_rfl
def aeX:(Rows.seamClosedRow.named==Tryz.prog.varsNamed 7)=true:=by kernel_rfl
def aeY:joinedFacts Zd 7 Zdn Rows.seamClosedSpec Rows.seamClosedRow=true:=
 PT (by kernel_rfl) (by kernel_rfl) (by kernel_rfl) (by kernel_rfl) (by kernel_rfl) um ez oS aeX (by kernel_rfl) (by kernel_rfl) (by kernel_rfl) (by kernel_rfl) (by kernel_rfl) (by kernel_rfl) (by kernel_rfl) (by kernel_rfl) (by kernel_rfl) rfl rfl rfl rfl rfl rfl (by kernel_rfl) (by kernel_rfl) (by kernel_rfl)
def yG (os:Os)(started:os.Started)(H:Type)(enc:Zr×Ze->H):ReturnsInLeavingWide {} Tryz.checked os 7 .any (fun w args=>(Rows.seamClosedSpec.pre enc Zd Zdn [] false w args/\ZbZ Zd KA w)/\sizedMet enc Zd Zdn (Zav Rows.seamClosedSpec) false w args)
   (Rows.seamClosedSpec.post enc Zd Zdn false true false false):=
 Nr (s:=Rows.seamClosedSpec) started rfl rfl Tryz.func7 rfl rfl (by kernel_rfl) (by kernel_rfl) rfl (by kernel_rfl) (fun ds h=>by
    match ds,h with
    | [_],_=>rfl)
   (ChangeSpec.witness_shaped (enc:=enc) (C:=Tryz.checked) (os:=os) (X:=fun w _=>ZbZ Zd KA w) false (Mi os) #[J none 0 0] 8 rfl (World.shaped_of_RefB (by kernel_rfl) (by kernel_rfl)) (by kernel_rfl) (by kernel_rfl) (by kernel_rfl) (Ja os _))
   (fun W base args ds ps hval hA _ hG=>T3 rfl hval hA hG fun w v nums hn hG=>atb hn (fun x hx=>hx) hG)
def atm:Rows.SeamClosedSaid:=
 OpenClaim.holds_of_wide_leaving 7 Zdn rfl rfl rfl rfl rfl rfl rfl ⟨rfl,rfl,rfl,rfl,rfl⟩ rfl rfl rfl rfl rfl (by kernel_rfl) Tryz.func7 aeY
  (of_decide_eq_true (by kernel_rfl)) (by unfold ZcV;rw[if_neg (by decide+kernel)];exact⟨rfl,rfl⟩) (fun os started H enc _=>yG os started H enc)
def alk:true=Rows.seamClosedRow.goesBy Tryz.pinned.checked.prog:=by kernel_rfl
theorem closed_holds:Rows.SeamClosedCardSaid:=
 PS [.handle] (true,"d58ada5a772cea19d6c1f322b38be8e13f90afce78f95e9e644b853f050ce369") atm (by kernel_rfl) (OpenClaim.laidByTextAt_later rfl rfl T4 iG) rfl ⟨rfl,rfl⟩ XW
  (fun f fn hf G7=>by
   obtain rfl:f=7:=ZK ((show Tryz.prog.funcNamed "galloon/galloonlaw02.SeamClosed" =some 7 by kernel_rfl).symm.trans hf)|>.symm;obtain rfl:fn=Zdn:=(ZK (Tryz.func7.symm.trans G7)).symm;exact⟨iH,fun j t ht=>by
    have hm:t∈ [22]:=by simpa using zC ht
    have Eb:([22].all fun u=> !Tryz.prog.wantsStandIn u)=true:=by kernel_rfl
    exact(show Tryz.prog.wantsStandIn t=false by simpa using zt.1 Eb t hm)⟩)
  alk
#print axioms closed_holds
end Go.Proofs.YtkkjobdfheidkaaGreatDoor
