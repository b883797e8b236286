/- SeamOrder: for every list of numbers, on every schedule and without a data race, the law returns true, and the list reads afterwards as it read before. Conditions: those of the given row alone (the variable errors.errorType starts as the program's text lays it; the card ties that to the text). -/
import Derived.Test.YtkkjobdfheidkaaGreatDoorQ11
import Derived.Test.YtkkjobdfheidkaaGreatDoorQ08
set_option maxRecDepth 100000
set_option maxHeartbeats 6400000
noncomputable section
set_option linter.all false
open And renaming intro->ZX
open Array renaming getElem?_eq_some_iff->Za,mem_of_getElem?->zC
open Bool renaming not_not->ZdD,eq_iff_iff->Zdj,or_eq_true->Za1
open Go renaming World->Zc,Value->Ze,TypeId->Zr,info_parts->zq,wpList_append_own->Yj,ownsRow_succ->ZbD,below_drewN->zl,laidMetH->ZbZ
open Go.Calls renaming quiet_of_same->Zay
open Go.Func renaming isWrapper->ZcV
open Go.IntKind renaming wrap_i64->Yp,i64->I
open Go.Lib renaming hid->Zb
open Go.Obj renaming cells->ZbM
open Go.OpenSpec renaming ofChange->Zav
open Go.Proofs.Tryz renaming underlying22->Yg,underlying27->zY,prog->Zd,f8->Zdm
open Go.RowKit.Below renaming refl->Zg
open Go.Value renaming int->ZS,oneCell'->Yv,slice->J
open Go.World renaming ownsRow_nil->zh,ownsRow_lit->Zcr,block_lt_of_cell?->Zy
open Go.World.ownsRow renaming lt->Yq,alloc->zO
open List renaming range->ZL,getElem?_eq_some_iff->Zl,drop_eq_getElem_cons->Zu,drop_eq_nil_iff->Zz,getElem?_eq_getElem->ZE,getElem?_append_left->Z4,getElem?_append_right->zx,length_append->ZF,length->ZbH,mem_of_getElem?->Z8,drop_zero->Zb9,append_assoc->Zah,map_append->Zaa,take_add_one->ZbN,take_of_length_le->ZaQ,append_nil->Zap,all_eq_true->zt,getD_eq_getElem?_getD->ZR,getElem?_map->zU,mem_map->Zby,getElem_of_mem->Yo,cons_append->Za7,mem_append->Zas,mem_of_mem_drop->ZdZ,find?_cons->Zdh,nil_append->zZ
open Nat renaming zero_le->Zn,le_refl->Zj,le_trans->Zt,lt_of_lt_of_le->Zm,zero_add->zK
open Option.some renaming inj->ZK
namespace Go.Proofs.Fit
open Go Go.RowKit
def akV (l:List Int)(out:List Bool):List Bool:=l.foldl (fun o x=>o.set x.toNat true) out
def abx (n:Nat):Nat->List (List Int)->List Bool->List Bool
 |_,[],out=>out
 |i,s::r,out=>abx n (i+1) r (if i=n\/out.getD i false=true then akV s out else out)
def lx (n:Nat)(l:List (List Int)):Nat->List Bool->List Bool
 |0,out=>out
 |k+1,out=>lx n l k (abx n 0 l out)
def Bh (l:List Aq):List (List Int):=l.map (·.over)
def aby (o:List (List Int))(n:Nat):List Bool:=lx n o o.length (List.replicate o.length false)
def ai (ab:Nat->Nat)(i:Nat):List (List Int)->Nat->Nat
 | []=>ab
 |s::r=>ai (F9 ab i s) (i+1) r
def Sj (ab:Nat->Nat)(l:List (List Int)):Nat->Nat->Nat
 |0=>ab
 |n+1=>Sj (ai ab 0 l) l n
def Ii (l:List (List Int)):Nat->Nat:=Sj (fun _=>0) l l.length
def dY:∀(l:List Aq) (ab:Nat->Nat) (i:Nat),Fz ab i l=ai ab i (Bh l)
 | [],_,_=>rfl
 |s::r,ab,i=>dY r (F9 ab i s.over) (i+1)
def Wt (l:List Aq):∀(n:Nat) (ab:Nat->Nat),DR ab l n=Sj ab (Bh l) n
 |0,_=>rfl
 |n+1,ab=>by
  show DR (Fz ab 0 l) l n=Sj (ai ab 0 (Bh l)) (Bh l) n;rw[Wt l n,dY]
def OU (l:List Aq):Au l=Ii (Bh l):=by
 unfold Au Ii;rw[Wt,show(Bh l).length=l.length by simp[Bh]]
def Um (o:List (List Int)):Bool:=(ZL o.length).all fun n=>(ZL o.length).all fun k=>(aby o n).getD k false==hasB (Ii o n) k
def Ij:List (List Int):=[[],[0],[1],[2],[0,1],[0,2],[1,2],[0,1,2]]
def aeC:∀a∈Ij,Um [a.filter (· <1)]=true:=by decide+kernel
def aeD:∀a∈Ij,∀b∈Ij,Um [a.filter (· <2),b.filter (· <2)]=true:=by decide+kernel
def aeE:∀a∈Ij,∀b∈Ij,∀c∈Ij,Um [a,b,c]=true:=by decide+kernel
variable {l x:List Int}
def C5 (hr:l.Pairwise (· < ·))(hx:∀x∈l,0<=x/\x<3):l∈Ij:=by
 have key:∀x:Int,0<=x/\x<3->x=0\/x=1\/x=2:=fun x h=>by omega
 match l,hr,hx with
 | [],_,_=>simp[Ij]
 | [a],_,hx=>
  rcases key a (hx a (by simp)) with rfl|rfl|rfl<;>simp[Ij]
 | [a,b],hr,hx=>
  have h1:a<b:=by simpa using hr
  rcases key a (hx a (by simp)) with rfl|rfl|rfl<;>rcases key b (hx b (by simp)) with rfl|rfl|rfl<;>first|(exfalso;omega)|simp[Ij]
 | [a,b,c],hr,hx=>
  have h1:a<b/\b<c:=by
   simp at hr;exact⟨hr.1.1,hr.2⟩
  have ha:=hx a (by simp);have hc:=hx c (by simp);obtain rfl:a=0:=by omega
  obtain rfl:c=2:=by omega
  obtain rfl:b=1:=by omega
  simp[Ij]
 |a::b::c::d::r,hr,hx=>
  exfalso;simp only[List.pairwise_cons]at hr;have h1:=hr.1 b (by simp);have h2:=hr.2.1 c (by simp);have h3:=hr.2.2.1 d (by simp);have ha:=hx a (by simp);have hd:=hx d (by simp);omega
def filter_lt {n:Int}(hx:∀x∈l,0<=x/\x<n):l.filter (· <n)=l:=List.filter_eq_self.2 fun x h=>by simpa using(hx x h).2
variable {o L ls:List (List Int)}
def qk (hn:o.length<=3)(hr:∀l∈o,l.Pairwise (· < ·))(hx:∀l∈o,∀x∈l,0<=x/\x<o.length):Um o=true:=by
 match o,hn,hr,hx with
 | [],_,_,_=>rfl
 | [a],_,hr,hx=>
  have h1:=hx a (by simp);have:=aeC a (C5 (hr a (by simp)) fun x h=>by have:=h1 x h;simp at this;omega);rwa[filter_lt (fun x h=>by have:=h1 x h;simpa using this)]at this
 | [a,b],_,hr,hx=>
  have h1:=hx a (by simp);have h2:=hx b (by simp);have:=aeD a (C5 (hr a (by simp)) fun x h=>by have:=h1 x h;simp at this;omega) b (C5 (hr b (by simp)) fun x h=>by have:=h2 x h;simp at this;omega);rwa[filter_lt (fun x h=>by have:=h1 x h;simpa using this),filter_lt (fun x h=>by have:=h2 x h;simpa using this)]at this
 | [a,b,c],_,hr,hx=>
  exact aeE a (C5 (hr a (by simp)) fun x h=>by have:=hx a (by simp) x h;simpa using this) b (C5 (hr b (by simp)) fun x h=>by have:=hx b (by simp) x h;simpa using this)
   c (C5 (hr c (by simp)) fun x h=>by have:=hx c (by simp) x h;simpa using this)
 |_::_::_::_::_,hn,_,_=>simp at hn
variable {w A B W:Zc}
def bU (h:Bl w A)(k:Bl A B):Bl w B:=h.trans (k.mono h.size)
def yv (n:Int):List Int->Nat->Int
 | [],_=> -1
 |x::r,k=>if x=n then k else yv n r (k+1)
def tV (l:List Int)(n:Int):Int:=yv n l 0
variable {n k i:Nat}
def tW {n:Int}(h:k<l.length):yv n (l.drop k) k=if nth l k=n then(k:Int) else yv n (l.drop (k+1)) (k+1):=by
 obtain⟨hk,e⟩:=Zl.1 (A_ h);rw[Zu hk,e]
 rfl
def tX (n:Int):∀(l:List Int) (k:Nat),decide (yv n l k<0)= !l.contains n
 | [],_=>rfl
 |x::r,k=>by
  unfold yv;by_cases h:x=n
  .subst h
   simp
  .rw[if_neg h,tX n r (k+1)]
   have:(n==x)=false:=by simpa using fun e:n=x=>h e.symm
   rw[List.contains_cons,this,Bool.false_or]
def ak (l:List Int)(n:Int):decide (tV l n<0)= !l.contains n:=tX n l 0
variable {S:Nat->Prop}
variable {v v1 v2 u:Ze}
def c56 {n:Int}(hl:SI S w v l):Calls Lp 56 #[v,.int I n] w fun e w'=>e=.returned (.int I (tV l n))/\w'=w:=by
 obtain⟨a,c,rfl,TG,MI⟩:=hl.val;have Gx:=CI;have HE:=Zb (show tV l n=yv n (l.drop 0) 0 from rfl);go_enter Lp.func56,n56;go_wp2;go_loopg [5] l.length (fun gg i wr=>∃k:Nat,k<=l.length/\gg=l.length - k/\i=.int I k/\yv n (l.drop k) k=tV l n/\wr=w)
 case atStart=>exact⟨0,Zn _,rfl,rfl,HE.out.symm,rfl⟩
 case round=>
  obtain⟨k,hk,rfl,rfl,Cn,rfl⟩:=hrel;have hf:=Zb Cn;clear Cn;by_cases AA:k<l.length
  .obtain⟨b,o,rfl,hb,hc⟩:=hl.at_ AA
   have hd:=Zb (tW (n:=n) AA);obtain⟨x,hx⟩:∃x,x=nth l k:=⟨_,rfl⟩;rw[<-hx]at hc hd;clear hx;by_cases he:x=n
   .have heq:(x==n)=true:=by simpa using he
    have hr:=Zb (show(k:Int)=tV l n by rw[<-hf.out,hd.out,if_pos he]);clear he;go_wp2;go_ret;exact⟨Bp hr.out,rfl⟩
   .have heq:(x==n)=false:=by simpa using he
    have hr:=Zb (show yv n (l.drop (k+1)) (k+1)=tV l n by rw[<-hf.out,hd.out,if_neg he]);clear he;go_wp2;go_roundg (l.length - (k+1))
    case rel=>exact⟨k+1,by omega,rfl,by go_num,hr.out,rfl⟩
    case measure=>omega
  .have hr:=Zb (show(-1:Int)=tV l n by rw[<-hf.out,Zz.2 (by omega)];rfl)
   go_wp2;go_ret;exact⟨Bp hr.out,rfl⟩
def QR (c:A4)(l:List Int):List Int:=if Bx c l=0 then Av (Ay c l) else []
def i_:Av 0=[]:=by decide
variable {c:A4}
def c51 {v3 v4 v5 v6:Ze}(h:RC S w v1 v2 v3 v4 v5 c)(hl:SI S w v6 l)(hS:∀b,S b->b<w.heap.size):
  Calls Lp 51 #[.agg #[v1,v2,v3,v4,v5],v6] w fun e w'=>∃v,e=.returned (.tuple #[v,.int I (Bx c l)])/\Bl w w'/\SI (Cf w.heap.size w') w' v (QR c l):=by
 obtain⟨a1,c1,rfl,l1,m1⟩:=h.base.val;obtain⟨a2,c2,rfl,l2,m2⟩:=h.Af.val;obtain⟨a3,c3,rfl,l3,m3⟩:=h.hooks.val;obtain⟨a4,c4,rfl,l4,m4⟩:=h.Aa.val;obtain⟨a5,c5,rfl,l5,m5⟩:=h.now.val;obtain⟨a6,c6,rfl,l6,m6⟩:=hl.val;have Gx:=CI;have Bb:Bl w (w.alloc (.cells #[J a1 c.base.length c1,J a2 c.Af.length c2,J a3 c.hooks.length c3,J a4 c.Aa.length c4,J a5 c.now.length c5] 26)):=(Zg _ _).alloc (Zj _) _;have Rk:=Zb (fun W hB=>xu (w:=W) (h.later hB) (hl.later hB) (AE hS hB));have key:∃t,t<8/\Av t=QR c l/\∀(W:Zc) (hB:Bl w W),Calls Lp 119 #[.agg #[J a1 c.base.length c1,J a2 c.Af.length c2,J a3 c.hooks.length c3,J a4 c.Aa.length c4,J a5 c.now.length c5],J a6 l.length c6] W fun e w'=>∃(q1 q2 q3 q4 q5:Option Addr) (n1 n2 n3 n4 n5 d1 d2 d3 d4 d5 k0 k1 k2:Nat),e=.returned (.tuple #[.agg #[J q1 n1 d1,J q2 n2 d2,J q3 n3 d3,J q4 n4 d4,J q5 n5 d5,.int .u8 k0,.int .u8 k1,.int .u8 k2],.int .u8 t,.int I (Bx c l)])/\Bl W w':=by
  by_cases h0:Bx c l=0
  .obtain⟨xv,_⟩:=A7 h0
   obtain⟨Kd,Fp⟩:=A7 xv;have hv:=EU Kd;have hn:l.length<=c.Aa.length:=by have:=(D6 Fp).1;omega
   refine⟨Ay c l,Mc (PQ hv.over) (by have:=hv.few;omega),by unfold QR;rw[if_pos h0],fun W hB=>(Rk.out W hB).mono ?_⟩;rintro e w' ⟨g,t,rfl,AW,hx,_⟩;obtain⟨rfl,rfl⟩:=hx h0;exact⟨_,_,_,_,_,_,_,_,_,_,_,_,_,_,_,_,_,_,rfl,AW⟩
  .refine⟨0,by omega,by unfold QR;rw[if_neg h0,i_],fun W hB=>(Rk.out W hB).mono ?_⟩
   rintro e w' ⟨g,t,rfl,AW,_,hx⟩;obtain⟨rfl,rfl⟩:=hx h0;exact⟨_,_,_,_,_,_,_,_,_,_,_,_,_,_,_,_,_,_,rfl,AW⟩
 obtain⟨t,eL,O2,hK⟩:=key;have HK:=Zb hK;have HT:=Zb O2;obtain⟨E,hE⟩:∃E,E=Bx c l:=⟨_,rfl⟩;rw[<-hE]at HK⊢;clear hK O2 hE;go_enter Lp.func51,n51;go_wp2_with (first|(go_at_call 119;refine(HK.out _ Bb).mono ?_;rintro e w1 ⟨q1,q2,q3,q4,q5,n1,n2,n3,n4,n5,d1,d2,d3,d4,d5,k0,k1,k2,rfl,AW⟩;have Bg:=Bb.trans (AW.mono Bb.size))|(go_at_call 120;refine(xm eL).mono ?_;rintro e w2 ⟨v,rfl,CU,hv,_⟩;have BS:=(bA Bg).trans (CU.mono (bA Bg).size);obtain⟨a7,c7,rfl,l7,m7⟩:=hv.val));go_ret2;refine⟨_,rfl,BS,?_⟩;rw[<-HT.out];exact Sl.imp hv (fun x (hx:Cf _ _ x)=>⟨by have h1:=hx.1;have h2:=Bg.size;simp at h1;omega,hx.2⟩) fun _ _ x=>x
def EZ (c:A4)(s l:List Int):Bool:=((ZL c.Aa.length).all fun i=>nth s i==nth c.now i||l.contains (i:Int))&&l.all fun x=>(Ah c.Aa x.toNat).over.all fun o=>l.contains o
def BB:Nat->Nat->List (List Int)
 |0,_=> [[]]
 |m+1,n=>((ZL n).drop m).flatMap fun last=>(BB m last).map (· ++ [(last:Int)])
def GM:∀m<4,∀n<4,(BB m n).length<=3/\(∀x∈BB m n,x.length=m):=by decide+kernel
structure FA (w:Zc)(base:Nat)(U:List Ze)(L:List (List Int)):Prop where
 len:U.length=L.length
 own:∀(i:Nat) (u:Ze) (x:List Int),U[i]?=some u->L[i]?=some x->Own w base u x
 apart:∀(i j:Nat) (u u':Ze),i≠j->U[i]?=some u->U[j]?=some u'->∀b,u.ownBlock=some b->u'.ownBlock≠some b
def FA.nil (w:Zc)(base:Nat):FA w base [] []:=⟨rfl,fun i u x h=>by simp at h,fun i j u u' _ h=>by simp at h⟩
variable {U:List Ze}
def FA.CX {base:Nat}{T:Nat->Prop}(h:FA w base U L)(hT:Am T w W)(hx:∀x cs,w.heap[x]?=some (ZbM cs 3 (0,0))->¬T x):FA W base U L:=
 ⟨h.len,fun i u x hu hl=>D7 (h.own i u x hu hl) hT hx,h.apart⟩
def FA.later {base:Nat}(h:FA w base U L)(hB:Bl w W):FA W base U L:=h.CX (T:=fun _=>False) ((Am.later hB).mono fun _ x=>x) fun _ _ _ x=>x
def FA.idx {base:Nat}(h:FA w base U L)(hx:L[i]?=some x):∃u,U[i]?=some u/\Own w base u x:=by
 have hi:=(Zl.1 hx).1;have:U[i]?=some (U[i]'(by rw[h.len];exact hi)):=ZE _;exact⟨_,this,h.own i _ x this hx⟩
def FA.blk {base:Nat}(h:FA w base U L)(hu:U[i]?=some u):∀b,u.ownBlock=some b->base<=b/\b<w.heap.size:=by
 have hi:=(Zl.1 hu).1;have:=h.own i u _ hu (ZE (by rw[<-h.len];exact hi));exact fun b hb=>Yq this b hb
def FA.append {base b2:Nat}{V:List Ze}{M:List (List Int)}(h:FA w base U L)(k:FA w b2 V M)(hU:∀(i:Nat) u,U[i]?=some u->∀b,u.ownBlock=some b->b<b2)(hbb:base<=b2):FA w base (U++V) (L++M):=by
 have hl:=h.len;refine⟨by simp[h.len,k.len],fun i u x hu hx=>?_,fun i j u u' Bn hu O' b h1 h2=>?_⟩
 .by_cases hi:i<U.length
  .rw[Z4 hi]at hu
   rw[Z4 (by omega)]at hx;exact h.own i u x hu hx
  .rw[zx (by omega)]at hu
   rw[zx (by omega), <-hl]at hx;exact(k.own _ u x hu hx).mono hbb
 .have key:∀ {i j:Nat} {u u':Ze},U[i]?=some u->V[j]?=some u'->∀b,u.ownBlock=some b->u'.ownBlock≠some b:=fun {i j u u'} hu O' b h1 h2=>by
   have:=hU i u hu b h1;have:=(k.blk O' b h2).1;omega
  by_cases hi:i<U.length
  .rw[Z4 hi]at hu
   by_cases hj:j<U.length
   .rw[Z4 hj]at O'
    exact h.apart i j u u' Bn hu O' b h1 h2
   .rw[zx (by omega)]at O'
    exact key hu O' b h1 h2
  .rw[zx (by omega)]at hu
   by_cases hj:j<U.length
   .rw[Z4 hj]at O'
    exact key O' hu b h2 h1
   .rw[zx (by omega)]at O'
    exact k.apart _ _ u u' (by omega) hu O' b h1 h2
def PK (base:Nat)(w:Zc)(v:Ze)(ls:List (List Int)):Prop:=∃vals,w.ownsRow base 22 1 v ls.length vals/\FA w base vals ls
def PK.sl {base:Nat}(h:PK base w v ls):SL (Cf base w) w v ls:=by
 obtain⟨vals,h1,h2⟩:=h;refine X9 h1 (Zj _) fun i x hx=>?_;obtain⟨u,hu,ho⟩:=h2.idx hx;exact⟨u,hu,ho.si⟩
def tY (w:Zc)(ls:List (List Int))(e:Ending)(w':Zc):Prop:=∃v,e=.returned v/\Bl w w'/\PK w.heap.size w' v ls
def ax {base:Nat}{e:Zr}{a:Option Addr}{c:Nat}{xs:List Ze}(h:w.ownsRow base e 1 (J a n c) n xs)(hu:xs[i]?=some u):∃b,a=some ⟨b,0,none⟩/\w.cell? ⟨b,i,none⟩=some u:=by
 obtain⟨a',c',h1,_,_,h4⟩:=Df h;cases h1;obtain⟨b,hb,_,hc⟩:=h4 i u hu;exact⟨b,hb,by simpa using hc⟩
def OX (n:Nat):Nat->List (List Int)
 |0=> [[]]
 |k+1=>(OX n k).flatMap fun x=>(ZL n).map fun y:Nat=>x++ [(y:Int)]
def P9:∀n<4,∀k<4,(OX n k).length<=27/\∀x∈OX n k,x.length=k:=by decide+kernel
def FA.one {base:Nat}(h:Own w base v l):FA w base [v] [l]:=by
 refine⟨rfl,fun i u x hu hx=>?_,fun i j u u' Bn hu O'=>?_⟩
 .match i,hu,hx with
  |0,hu,hx=>cases hu;cases hx;exact h
 .match i,j,Bn,hu,O' with
  |0,0,Bn,_,_=>exact absurd rfl Bn
def PK.nil (w:Zc)(base:Nat):PK base w (J none 0 0) []:=⟨[],zh _ _ _ _,FA.nil _ _⟩
def PK.mono {base m:Nat}(h:PK base w v ls)(hm:m<=base):PK m w v ls:=by
 obtain⟨vals,h1,h2⟩:=h;refine⟨vals,⟨h1.1,?_⟩,h2.len,fun i u x hu hx=>(h2.own i u x hu hx).mono hm,h2.apart⟩;rcases h1.2 with e|⟨g,cap,cur,q1,q2,q3⟩
 .exact .inl e
 .exact .inr ⟨g,cap,cur,q1,Zt hm q2,q3⟩
def PK.snoc {base:Nat}{wx w1 w2:Zc}{vl:Ze}{P:List (List Int)}{B:List Ze}{o:Obj}(hr:wx.ownsRow base 22 1 vl P.length B)(hF:FA wx base B P)(hB:Bl wx w1)(h1:Own w1 wx.heap.size v1 x)(hb:base<=wx.heap.size)
 (h2:w2.ownsRow base 22 1 v2 (P.length+1) (B++ [v1])) (hg:(w1.alloc o).grownBy w2 vl.ownBlock):PK base w2 v2 (P++ [x]):=by
 refine⟨B++ [v1],by rw[ZF];exact h2,?_⟩;have Wa:FA w1 base (B++ [v1]) (P++ [x]):=(hF.later hB).append (FA.one h1) (fun i u hu b hb=>(hF.blk hu b hb).2) hb;refine Wa.CX (T:=fun b=>vl.ownBlock=some b) ((Am.later (bA (Zg _ _))).trans (Am.grown hg fun k hk=>hk)) fun y cs hy e=>?_;obtain⟨_,cs',h⟩:=Hk (Ey hr hB) y e;rw[hy]at h;cases h
def asD (hn:n<=3)(hk:k<=3)(w:Zc):Calls Lp 124 #[.int I n,.int I k] w (tY w (OX n k)):=by
 have Gx:=CI;obtain⟨i3,xH,h30,h31,h32⟩:=zq Jx;obtain⟨i22,tZ,t_,ua,ub⟩:=zq G3;obtain⟨n0,NG⟩:∃n0,n0=w.heap.size:=⟨_,rfl⟩;have HN0:=Zb NG;have B5:PK n0 (w.alloc (.cells #[J none 0 0] 22)) (J (some ⟨w.heap.size,0,none⟩) 1 1) (OX n 0):=by
  rw[NG];exact⟨[J none 0 0],Zcr w #[J none 0 0] 1 (Zj _) (by decide) rfl,FA.one (zh _ _ _ _)⟩
 have vg:=Zb B5;clear B5 NG;go_enter Lp.func124,apC;go_wp2;go_loopg [1,5] k (fun gg mm vo wr=>∃j:Nat,j<=k/\gg=k - j/\mm=.int I ((k:Int) - j)/\PK n0 wr vo (OX n j)/\Bl w wr)
 case atStart=>exact⟨0,Zn _,rfl,by simp,vg.out,bA (Zg _ _)⟩
 case round=>
  obtain⟨j,hj,rfl,rfl,UZ,hB⟩:=hrel;by_cases AA:j<k
  .have E7:(0:Int)<(k:Int) - j:=by omega
   have ox:IntKind.i64.wrap ((k:Int) - j - 1)=(k:Int) - ((j+1:Nat):Int):=by rw[Yp];omega
   obtain⟨hLs,hLm⟩:=P9 n (by omega) j (by omega);have hTS:=(P9 n (by omega) (j+1) (by omega)).1;have HTD:=Zb (show OX n (j+1)=(OX n j).flatMap fun x=>(ZL n).map fun y:Nat=>x++ [(y:Int)] from rfl);obtain⟨L,hL⟩:∃L,L=OX n j:=⟨_,rfl⟩;obtain⟨R,hR⟩:∃R,R=OX n (j+1):=⟨_,rfl⟩;rw[<-hL]at UZ hLs hLm HTD;rw[<-hR]at hTS HTD;have HRR:=Zb hR;have HLM:=Zb hLm;have HPK:=Zb UZ;obtain⟨A,Cr,vj⟩:=UZ;obtain⟨va,vc,rfl,_,_,_⟩:=Df Cr;have Vk:=Zb Cr;have yx:=Zb vj;have hz:=hB.size;clear hL hR hLm Cr vj;obtain⟨n1,oa⟩:∃n1,n1=wr.heap.size:=⟨_,rfl⟩;have FI:n1<=wr.heap.size/\wr.heap.size<=n1:=by omega
   clear oa;obtain⟨F,hFF⟩:∃F:List Int->List (List Int),F=fun x=>(ZL n).map fun y:Nat=>x++ [(y:Int)]:=⟨_,rfl⟩;rw[<-hFF]at HTD;have HF:=Zb hFF;clear hFF;obtain⟨W0,hW0⟩:∃W0,W0=wr:=⟨_,rfl⟩;subst hW0;go_wp2;go_loopg [6,7] L.length (fun gg vl i wx=>∃(p:Nat) (P:List (List Int)),p<=L.length/\gg=L.length - p/\i=.int I p/\P++(L.drop p).flatMap F=R/\PK n1 wx vl P/\Bl W0 wx)
   case atStart=>exact⟨0,[],Zn _,rfl,rfl,HTD.out.symm,PK.nil _ _,Zg _ _⟩
   case round=>
    obtain⟨p,P,hp,rfl,rfl,yy,yz,AW⟩:=hrel;have al7:P.length<=27:=by have:=congrArg ZbH yy;rw[ZF]at this;omega
    by_cases iw:p<L.length
    .obtain⟨x,hx⟩:∃x,L[p]?=some x:=⟨_,ZE iw⟩
     obtain⟨u,hu,ho⟩:=yx.out.idx hx;obtain⟨bo,rfl,hc⟩:=ax Vk.out hu;obtain⟨au,cu,rfl,lcu,mcu,_⟩:=Df ho;have hxl:x.length<=3:=by have:=HLM.out x (Z8 hx);omega
     have HSI:=Zb ho.si;have HD:=Zb (show(L.drop p).flatMap F=F x++(L.drop (p+1)).flatMap F by
      obtain⟨h1,h2⟩:=Zl.1 hx;rw[Zu h1,h2,List.flatMap_cons])
     have jd:=Zb (show P++(((ZL n).drop 0).map fun y:Nat=>x++ [(y:Int)])++(L.drop (p+1)).flatMap F=R by rw[<-yy,HD.out,HF.out,Zb9,Zah]);have asF:=Zb yz;have hpi:(p:Int)<(L.length:Int):=by omega
     clear hx hu ho yy yz;go_wp2;go_loopg [6,8] n (fun gg vl i wy=>∃(y:Nat) (Q:List (List Int)),y<=n/\gg=n - y/\i=.int I y/\Q++(((ZL n).drop y).map fun y:Nat=>x++ [(y:Int)])++(L.drop (p+1)).flatMap F=R/\PK n1 wy vl Q/\Bl W0 wy)
     case atStart=>exact⟨0,P,Zn _,rfl,rfl,jd.out,asF.out,AW⟩
     case round=>
      obtain⟨y,Q,hy,rfl,rfl,hQR,aeI,Bg⟩:=hrel;have awV:Q.length<=27:=by have:=congrArg ZbH hQR;rw[ZF,ZF]at this;omega
      have HQR:=Zb hQR;clear hQR;by_cases hyn:y<n
      .have hyi:(y:Int)<(n:Int):=by omega
       have HQ2:=Zb (show Q++ [x++ [(y:Int)]]++(((ZL n).drop (y+1)).map fun y:Nat=>x++ [(y:Int)])++(L.drop (p+1)).flatMap F=R by
        rw[<-HQR.out,Zu (show y<(ZL n).length by simpa using hyn)];simp)
       obtain⟨B,eW,hFB⟩:=aeI;obtain⟨vb,vd,rfl,_,_,_⟩:=Df eW;have ND:=(Bg.cell (p:=⟨bo,p,none⟩) (Zy _ _ hc)).trans hc;have H32:=Zb (Ue (HSI.out.later Bg) (by omega));have Sa:=Bg.size;have pE:=Zb eW;have HFB:=Zb hFB;clear eW hFB;go_wp2_with (first|(go_at_call 32;refine H32.out.mono ?_;rintro e W1 ⟨u1,rfl,CU,hO1⟩;obtain⟨ac,cc,rfl,_,_,_⟩:=Df hO1;have hz4:=CU.size)|(at_builtin;refine Yj _ rfl _ _ 22 rfl wr.heap.size 3 i3 (.int I 0) 1 8 (CG Yg) (DC xH) h30 h31 h32 rfl (by decide) (J ac x.length cc) x.length (x.map (ZS I)) rfl (zO hO1 _) ⟨W1.heap.size,0,none⟩ 1 1 [.int I y] rfl rfl (BR _ _ _) (by simp[Yv]) (by unfold maxLen;omega) (by omega) (by simp;omega) ?_;intro v1 w1 XE ks aeG;obtain⟨g1,p1,rfl⟩:=ZbD XE;have BS:=Ba (bA CU) ks (fun b hb=>(Yq hO1 b hb).1) (by simp;omega);have sL:=BS.size)|(at_builtin;refine Yj _ rfl _ _ 27 rfl n1 22 i22 (J none 0 0) 1 24 (CG zY) (DC tZ) t_ ua ub rfl (by decide) (J vb Q.length vd) Q.length B rfl (zO (Ey pE.out BS) _) ⟨w1.heap.size,0,none⟩ 1 1 [J (some ⟨g1,0,none⟩) (x.length+1) p1] rfl rfl (BR _ _ _) (by simp[Yv]) (by unfold maxLen;omega) (by omega) (by simp;omega) ?_;intro v2 w2 eF XC uc));have uT:Own w1 wr.heap.size (J (some ⟨g1,0,none⟩) (x.length+1) p1) (x++ [(y:Int)]):=by unfold Own;rw[ZF,Zaa];exact XE
       have hpn:=PK.snoc pE.out HFB.out BS uT (by omega) eF XC;have Dv:Bl W0 w2:=Ba (bA (bU Bg BS)) XC (fun b hb=>by have:=(Yq pE.out b hb).1;omega) (by simp;omega);have Nz:=Zb (ZX hpn Dv);clear hpn Dv uT XE ks aeG eF XC uc BS CU hO1 H32;go_roundg (n - (y+1))
       case rel=>exact⟨y+1,_,hyn,rfl,by go_num,HQ2.out,Nz.out.1,Nz.out.2⟩
       case measure=>omega
      .have HQ2:=Zb (show Q++(L.drop (p+1)).flatMap F=R by rw[<-HQR.out,Zz.2 (show(ZL n).length<=y by simp;omega)];simp)
       have Nz:=Zb (ZX aeI Bg);clear aeI Bg;go_wp2;go_roundg (L.length - (p+1))
       case rel=>exact⟨p+1,Q,iw,rfl,by go_num,HQ2.out,Nz.out.1,Nz.out.2⟩
       case measure=>omega
    .have jd:P=R:=by rw[<-yy,Zz.2 (by omega)];simp
     have Nz:=Zb (show PK n0 wr _ (OX n (j+1)) from by rw[<-HRR.out, <-jd];exact yz.mono (by have:=HN0.out;omega));have HB2:=Zb (bU hB AW);clear yz yy jd AW;go_wp2;go_roundg (k - (j+1))
     case rel=>exact⟨j+1,AA,rfl,rfl,Nz.out,HB2.out⟩
     case measure=>omega
  .have di:j=k:=by omega
   subst di;have E7:¬(0:Int)<(j:Int) - j:=by omega
   obtain⟨va,vc,rfl,_⟩:=UZ.sl.val;have Nz:=Zb UZ;have HB:=Zb hB;clear UZ hB;go_wp2;go_ret;exact⟨_,rfl,HB.out,HN0.out▸Nz.out⟩
def LQ (n:Nat)(l:List Int):Bool:=(ZL n).all fun x=>l.contains (x:Int)
def QT (n:Nat):List (List Int):=(OX n n).filter (LQ n)
def je {f:Nat->Bool}(h:k<n):((ZL n).take (k+1)).all f=(((ZL n).take k).all f&&f k):=by
 rw[ZbN,List.all_append];simp[h]
def c55 (hn:n<=3)(w:Zc):Calls Lp 55 #[.int I n] w fun e w'=>∃v,e=.returned v/\Bl w w'/\SL (Cf w.heap.size w') w' v (QT n):=by
 have Gx:=CI;obtain⟨i22,tZ,t_,ua,ub⟩:=zq G3;have al8:=Zb (asD hn hn w);have Ro:=(P9 n (by omega) n (by omega)).1;have HR:=Zb (show QT n=(OX n n).filter (LQ n) from rfl);obtain⟨L,hL⟩:∃L,L=OX n n:=⟨_,rfl⟩;rw[<-hL]at al8 Ro HR;obtain⟨R,hR⟩:∃R,R=QT n:=⟨_,rfl⟩;rw[<-hR]at HR⊢;clear hL hR;go_enter Lp.func55,n55;go_wp2_with (go_at_call 124;refine al8.out.mono ?_;rintro e W1 ⟨v1,rfl,Bb,UZ⟩);have KI:=UZ.sl;obtain⟨va,vc,rfl,_⟩:=KI.val;have O7:=Zb KI;have DX:=Bb.size;have HB1:=Zb Bb;clear UZ KI Bb;go_loopg [3,5] L.length (fun gg vo i wr=>∃(k:Nat) (P:List (List Int)) (vals:List Ze),k<=L.length/\gg=L.length - k/\i=.int I k/\P++(L.drop k).filter (LQ n)=R/\wr.ownsRow W1.heap.size 22 1 vo P.length vals/\(∀(q:Nat) (x:List Int),P[q]?=some x->∃u,vals[q]?=some u/\SI (Cf w.heap.size W1) W1 u x)/\Bl W1 wr)
 case atStart=>exact⟨0,[],[],Zn _,rfl,rfl,HR.out.symm,zh _ _ _ _,fun q x h=>by simp at h,Zg _ _⟩
 case round=>
  obtain⟨k,P,vals,hk,rfl,rfl,yy,eW,hvs,AW⟩:=hrel;obtain⟨vb,vd,rfl,_,_,_⟩:=Df eW;have al7:P.length<=27:=by have:=congrArg ZbH yy;have h2:=List.length_filter_le (LQ n) L;rw[<-HR.out]at h2;rw[ZF]at this;omega
  have pE:=Zb eW;have HVS:=Zb hvs;have HPR:=Zb yy;have EI:=AW.size;clear eW hvs yy;by_cases AA:k<L.length
  .obtain⟨b,o,u,rfl,hb,hc,hu⟩:=O7.out.at_ AA
   have HD:=Zb (show(L.drop k).filter (LQ n)=if LQ n (Cu L k)=true then Cu L k::(L.drop (k+1)).filter (LQ n) else(L.drop (k+1)).filter (LQ n) by
    obtain⟨h1,h2⟩:=Zl.1 (C2 AA);rw[Zu h1,h2,List.filter_cons])
   obtain⟨x,hx⟩:∃x,x=Cu L k:=⟨_,rfl⟩;rw[<-hx]at hu HD;clear hx;obtain⟨au,cu,rfl,_⟩:=hu.val;have HU:=Zb hu;have Rh:(k:Int)<(L.length:Int):=by omega
   clear hu;go_wp2;go_loopg [6,7] n (fun gg fl i wx=>∃j:Nat,j<=n/\gg=n - j/\i=.int I j/\fl=.bool (((ZL n).take j).all fun y=>x.contains (y:Int))/\wx=wr)
   case atStart=>exact⟨0,Zn _,rfl,rfl,rfl,rfl⟩
   case round=>
    obtain⟨j,hj,rfl,rfl,rfl,rfl⟩:=hrel;have ND:=(AW.cell (p:=⟨b,o+k,none⟩) (Zy _ _ hc)).trans hc;by_cases QQ:j<n
    .have Ku:(j:Int)<(n:Int):=by omega
     have ud:=Zb (je (f:=fun y=>x.contains (y:Int)) QQ);obtain⟨fb,aK⟩:∃fb,fb=((ZL n).take j).all fun y=>x.contains (y:Int):=⟨_,rfl⟩;rw[<-aK]at ud⊢;clear aK;cases fb with
     |true=>
      have fD:=Zb (ak x (j:Int));have H56:=Zb (c56 (n:=(j:Int)) (HU.out.later AW));obtain⟨r,hr⟩:∃r,r=tV x (j:Int):=⟨_,rfl⟩;rw[<-hr]at fD H56;clear hr;have mK:=Zb (show decide (0<=r)=((ZL n).take (j+1)).all fun y=>x.contains (y:Int) by
       rw[ud.out,show x.contains (j:Int)= !decide (r<0) by rw[fD.out,ZdD],Bool.true_and];by_cases h:r<0
       .simp[h]
       .simp[h];omega)
      go_wp2_with (go_at_call 56;refine H56.out.mono ?_;rintro e w' ⟨rfl,rfl⟩);go_roundg (n - (j+1))
      case rel=>exact⟨j+1,QQ,rfl,by go_num,by rw[<-mK.out],rfl⟩
      case measure=>omega
     |false=>
      have mK:=Zb (show false=((ZL n).take (j+1)).all fun y=>x.contains (y:Int) by rw[ud.out,Bool.false_and]);go_wp2;go_roundg (n - (j+1))
      case rel=>exact⟨j+1,QQ,rfl,by go_num,by rw[<-mK.out],rfl⟩
      case measure=>omega
    .have hjn:j=n:=by omega
     subst hjn;have hte:(ZL j).take j=ZL j:=ZaQ (by simp);rw[hte];have HO:=Zb (show LQ j x=(ZL j).all fun y=>x.contains (y:Int) from rfl);obtain⟨fb,aK⟩:∃fb,fb=(ZL j).all fun y=>x.contains (y:Int):=⟨_,rfl⟩;rw[<-aK]at HO⊢;clear aK hte;cases fb with
     |true=>
      have HP2:=Zb (show P++ [x]++(L.drop (k+1)).filter (LQ j)=R by rw[<-HPR.out,HD.out,if_pos HO.out];simp);go_wp2_with (at_builtin;refine Yj _ rfl _ _ 27 rfl W1.heap.size 22 i22 (J none 0 0) 1 24 (CG zY) (DC tZ) t_ ua ub rfl (by decide) (J vb P.length vd) P.length vals rfl (zO pE.out _) ⟨wr.heap.size,0,none⟩ 1 1 [J au x.length cu] rfl rfl (BR _ _ _) (by simp[Yv]) (by unfold maxLen;omega) (by omega) (by simp;omega) ?_;intro v2 w2 eF XC uc);have Bg:Bl W1 w2:=Ba (bA AW) XC (fun b hb=>(Yq pE.out b hb).1) (by simp;omega);have Nz:=Zb (ZX eF Bg);clear eF Bg XC uc;go_roundg (L.length - (k+1))
      case rel=>
       refine⟨k+1,P++ [x],vals++ [J au x.length cu],AA,rfl,by go_num,HP2.out,by rw[ZF];exact Nz.out.1,fun q y hq=>?_,Nz.out.2⟩;have hvl:vals.length=P.length:=by have:=pE.out.1;omega
       by_cases h:q<P.length
       .rw[Z4 h]at hq
        obtain⟨u,h1,h2⟩:=HVS.out q y hq;exact⟨u,by rw[Z4 (by omega)];exact h1,h2⟩
       .rw[zx (by omega)]at hq
        have hq0:q - P.length=0:=by
         have:=(Zl.1 hq).1;simp at this;omega
        rw[hq0]at hq;cases hq;exact⟨_,by rw[zx (by omega),show q - vals.length=0 by omega];rfl,HU.out⟩
      case measure=>omega
     |false=>
      have HP2:=Zb (show P++(L.drop (k+1)).filter (LQ j)=R by rw[<-HPR.out,HD.out,if_neg (by rw[HO.out];decide)]);go_wp2;go_roundg (L.length - (k+1))
      case rel=>exact⟨k+1,P,vals,AA,rfl,by go_num,HP2.out,pE.out,HVS.out,AW⟩
      case measure=>omega
  .have jd:P=R:=by have:=HPR.out;rwa[Zz.2 (show L.length<=k by omega),List.filter_nil,Zap]at this
   have HE:=Zb (show SL (Cf w.heap.size wr) wr (J vb P.length vd) R from by
    rw[<-jd];refine X9 pE.out DX fun q x hq=>?_;obtain⟨u,h1,h2⟩:=HVS.out q x hq;exact⟨u,h1,Sl.imp (h2.later AW) (fun y hy=>⟨hy.1,Zm hy.2 EI⟩) fun _ _ z=>z⟩)
   have HB2:=Zb (bU HB1.out AW);clear jd AW;go_wp2;go_ret;exact⟨_,rfl,HB2.out,HE.out⟩
def IQ (now:List Int):Nat->List Int->List Bool
 |_,[]=> []
 |i,n::r=>(!decide (n=nth now i))::IQ now (i+1) r
def Kk (ab:Nat->Nat):Nat->List Bool->Nat->Nat
 |_,[],s=>s
 |i,b::r,s=>Kk ab (i+1) r (if b=true then s|||IE (ab i) i else s)
def Uo (ab:Nat->Nat)(now:List Int):∀(l:List Int) (i s:Nat),Ga ab now i l s=Kk ab i (IQ now i l) s
 | [],_,_=>rfl
 |n::r,i,s=>by
  unfold Ga IQ Kk;rw[Uo ab now r];by_cases h:n=nth now i<;>simp[h]
def P_ (now:List Int):∀(l:List Int) (i:Nat),(IQ now i l).length=l.length
 | [],_=>rfl
 |_::r,i=>by simp[IQ,P_ now r]
def Qa (now:List Int):∀(l:List Int) (i k:Nat),k<l.length->(IQ now i l).getD k false= !(nth l k==nth now (i+k))
 |n::r,i,0,_=>by simp[IQ,nth];rfl
 |n::r,i,k+1,h=>by
  have:=Qa now r (i+1) k (by simpa using h);rw[show i+(k+1)=i+1+k by omega, <-show nth r k=nth (n::r) (k+1) by simp[nth], <-this];simp[IQ]
def Sk (o:List (List Int))(D:List Bool)(l:List Int):Bool:=((ZL o.length).all fun i=> !(D.getD i false)||l.contains (i:Int))&&l.all fun x=>(o.getD x.toNat []).all fun y=>l.contains y
def uh {s:List Int}(hs:s.length=c.Aa.length):EZ c s l=Sk (Bh c.Aa) (IQ c.now 0 s) l:=by
 unfold EZ Sk
 congr 1
 .rw[show(Bh c.Aa).length=c.Aa.length by simp[Bh],Zdj,zt,zt]
  refine forall_congr' fun i=>?_;constructor
  .intro h hi
   have Da:i<s.length:=by rw[hs];simpa using hi
   have:=Qa c.now s 0 i Da;rw[zK]at this;rw[this,ZdD];exact h hi
  .intro h hi
   have Da:i<s.length:=by rw[hs];simpa using hi
   have:=Qa c.now s 0 i Da;rw[zK]at this;have h2:=h hi;rwa[this,ZdD]at h2
 .congr 1
  funext x
  congr 1
  unfold Bh Ah;rw[ZR,ZR,zU];cases c.Aa[x.toNat]? <;>rfl
def Hc (n m i:Nat):List (List Int):=(BB m n).drop i++((ZL (n+1)).drop (m+1)).flatMap fun k=>BB k n
def Up (o:List (List Int))(D:List Bool):Bool:=(Hc o.length 0 0).find? (Sk o D)==some (Av (Kk (Ii o) 0 D 0))
def IU:List Bool:=[true,false]
def Dg (b:Bool):b∈IU:=by cases b<;>simp[IU]
def aeK:∀a∈Ij,∀d∈IU,Up [a.filter (· <1)] [d]=true:=by decide+kernel
def aeL:∀a∈Ij,∀b∈Ij,∀d∈IU,∀e∈IU,Up [a.filter (· <2),b.filter (· <2)] [d,e]=true:=by decide+kernel
def aeM:∀a∈Ij,∀b∈Ij,∀c∈Ij,∀d∈IU,∀e∈IU,∀f∈IU,Up [a,b,c] [d,e,f]=true:=by decide+kernel
variable {D:List Bool}
def least (h1:1<=o.length)(hn:o.length<=3)(hD:D.length=o.length)(hr:∀l∈o,l.Pairwise (· < ·))(hx:∀l∈o,∀x∈l,0<=x/\x<o.length):Up o D=true:=by
 match o,D,h1,hn,hD,hr,hx with
 | [a],[d],_,_,_,hr,hx=>
  have h1:=hx a (by simp);have:=aeK a (C5 (hr a (by simp)) fun x h=>by have:=h1 x h;simp at this;omega) d (Dg d);rwa[filter_lt (fun x h=>by have:=h1 x h;simpa using this)]at this
 | [a,b],[d,e],_,_,_,hr,hx=>
  have h1:=hx a (by simp);have h2:=hx b (by simp);have:=aeL a (C5 (hr a (by simp)) fun x h=>by have:=h1 x h;simp at this;omega) b (C5 (hr b (by simp)) fun x h=>by have:=h2 x h;simp at this;omega) d (Dg d) e (Dg e);rwa[filter_lt (fun x h=>by have:=h1 x h;simpa using this),filter_lt (fun x h=>by have:=h2 x h;simpa using this)]at this
 | [a,b,c],[d,e,f],_,_,_,hr,hx=>
  exact aeM a (C5 (hr a (by simp)) fun x h=>by have:=hx a (by simp) x h;simpa using this) b (C5 (hr b (by simp)) fun x h=>by have:=hx b (by simp) x h;simpa using this)
   c (C5 (hr c (by simp)) fun x h=>by have:=hx c (by simp) x h;simpa using this) d (Dg d) e (Dg e) f (Dg f)
 |_::_::_::_::_,_,_,hn,_,_,_=>simp at hn
def OY (hM:FG c)(hl:Ig c l):(Hc c.Aa.length 0 0).find? (EZ c l)=some (Av (Ay c l)):=by
 have tw:(Bh c.Aa).length=c.Aa.length:=by simp[Bh]
 have Xg:∀o∈Bh c.Aa,∃i,i<c.Aa.length/\o=(Ah c.Aa i).over:=fun o ho=>by
  obtain⟨s,hs,rfl⟩:=Zby.1 ho;obtain⟨i,hi,rfl⟩:=Yo hs;exact⟨i,hi,by simp[Ah,hi]⟩
 have:=least (o:=Bh c.Aa) (D:=IQ c.now 0 l) (by have:=hM.few;omega) (by have:=hM.few;omega) (by rw[P_,tw];exact hl.1)
  (fun o ho=>by obtain⟨i,hi,rfl⟩:=Xg o ho;exact(hM.seam i hi).rising) (fun o ho x hx=>by obtain⟨i,hi,rfl⟩:=Xg o ho;have:=(hM.seam i hi).over x hx;rw[tw];omega)
 unfold Up at this;have e:=eq_of_beq this;rw[tw]at e;rw[show EZ c l=Sk (Bh c.Aa) (IQ c.now 0 l) from funext fun x=>uh hl.1,e];unfold Ay Cb;rw[Uo,OU]
def jh (o:List (List Int))(done:List Int)(n:Int):Bool:=done.all fun m=> !(o.getD n.toNat []).contains m
def Et (o:List (List Int)):List Int->List Int->Bool
 |_,[]=>true
 |done,n::r=>jh o done n&&Et o (done++ [n]) r
def Uq (o:List (List Int))(n:Int):∀(r done:List Int),Et o done (r++ [n])=(Et o done r&&jh o (done++r) n)
 | [],done=>by simp[Et]
 |m::r,done=>by
  rw[Za7,Et,Uq o n r (done++ [m]),Et,Bool.and_assoc,Zah]
  rfl
def LR (S:List Int)(p:List Int):List Int:=p.map fun i=>nth S i.toNat
def oP (o:List (List Int)):Bool:=((ZL o.length).all fun i=>(o.getD i []).all fun x=>decide ((i:Int)<x))||(ZL o.length).all fun i=>(o.getD i []).all fun x=>decide (x<(i:Int))
def OZ (o:List (List Int))(D:List Bool):Bool:=
 match G6 (Ii o) (Kk (Ii o) 0 D 0) 3 [] 0 with
 |none=>false
 |some L=>((QT (Av (Kk (Ii o) 0 D 0)).length).map (LR (Av (Kk (Ii o) 0 D 0)))).find? (Et o [])==some L
def asR:∀a∈Ij,∀d∈IU,(!oP [a.filter (· <1)]||OZ [a.filter (· <1)] [d])=true:=by decide+kernel
def asT:∀a∈Ij,∀b∈Ij,∀d∈IU,∀e∈IU,(!oP [a.filter (· <2),b.filter (· <2)]||OZ [a.filter (· <2),b.filter (· <2)] [d,e])=true:=by decide+kernel
def asU:∀a∈Ij,∀b∈Ij,∀c∈Ij,∀d∈IU,∀e∈IU,∀f∈IU,(!oP [a,b,c]||OZ [a,b,c] [d,e,f])=true:=by decide+kernel
def yA (h1:1<=o.length)(hn:o.length<=3)(hD:D.length=o.length)(hr:∀l∈o,l.Pairwise (· < ·))(hx:∀l∈o,∀x∈l,0<=x/\x<o.length):(!oP o||OZ o D)=true:=by
 match o,D,h1,hn,hD,hr,hx with
 | [a],[d],_,_,_,hr,hx=>
  have h1:=hx a (by simp);have:=asR a (C5 (hr a (by simp)) fun x h=>by have:=h1 x h;simp at this;omega) d (Dg d);rwa[filter_lt (fun x h=>by have:=h1 x h;simpa using this)]at this
 | [a,b],[d,e],_,_,_,hr,hx=>
  have h1:=hx a (by simp);have h2:=hx b (by simp);have:=asT a (C5 (hr a (by simp)) fun x h=>by have:=h1 x h;simp at this;omega) b (C5 (hr b (by simp)) fun x h=>by have:=h2 x h;simp at this;omega) d (Dg d) e (Dg e);rwa[filter_lt (fun x h=>by have:=h1 x h;simpa using this),filter_lt (fun x h=>by have:=h2 x h;simpa using this)]at this
 | [a,b,c],[d,e,f],_,_,_,hr,hx=>
  exact asU a (C5 (hr a (by simp)) fun x h=>by have:=hx a (by simp) x h;simpa using this) b (C5 (hr b (by simp)) fun x h=>by have:=hx b (by simp) x h;simpa using this)
   c (C5 (hr c (by simp)) fun x h=>by have:=hx c (by simp) x h;simpa using this) d (Dg d) e (Dg e) f (Dg f)
 |_::_::_::_::_,_,_,hn,_,_,_=>simp at hn
def Qb (s:List Aq)(i:Nat):(Bh s).getD i []=(Ah s i).over:=by
 unfold Bh Ah;rw[ZR,ZR,zU];cases s[i]? <;>rfl
def ej (hM:FG c)(hl:Ig c l):∃L,PR c l=some L/\((QT (Av (Ay c l)).length).map (LR (Av (Ay c l)))).find? (Et (Bh c.Aa) [])=some L:=by
 have tw:(Bh c.Aa).length=c.Aa.length:=by simp[Bh]
 have Xg:∀o∈Bh c.Aa,∃i,i<c.Aa.length/\o=(Ah c.Aa i).over:=fun o ho=>by
  obtain⟨s,hs,rfl⟩:=Zby.1 ho;obtain⟨i,hi,rfl⟩:=Yo hs;exact⟨i,hi,by simp[Ah,hi]⟩
 have hw:oP (Bh c.Aa)=true:=by
  unfold oP;rw[Za1];rcases hM.way with h|h
  .left
   rw[zt];intro i hi;rw[Qb,zt];intro x hx;exact decide_eq_true (h i (by simpa[tw]using hi) x hx)
  .right
   rw[zt];intro i hi;rw[Qb,zt];intro x hx;exact decide_eq_true (h i (by simpa[tw]using hi) x hx)
 have:=yA (o:=Bh c.Aa) (D:=IQ c.now 0 l) (by have:=hM.few;omega) (by have:=hM.few;omega) (by rw[P_,tw];exact hl.1)
  (fun o ho=>by obtain⟨i,hi,rfl⟩:=Xg o ho;exact(hM.seam i hi).rising) (fun o ho x hx=>by obtain⟨i,hi,rfl⟩:=Xg o ho;have:=(hM.seam i hi).over x hx;rw[tw];omega)
 rw[hw,Bool.not_true,Bool.false_or]at this;have ht:Ay c l=Kk (Ii (Bh c.Aa)) 0 (IQ c.now 0 l) 0:=by
  unfold Ay Cb;rw[Uo,OU]
 unfold PR;rw[ht,OU];unfold OZ at this;cases e:G6 (Ii (Bh c.Aa)) (Kk (Ii (Bh c.Aa)) 0 (IQ c.now 0 l) 0) 3 [] 0 with
 |none=>rw[e]at this;cases this
 |some L=>rw[e]at this;exact⟨L,rfl,eq_of_beq this⟩
def ji:∀n<4,∀p∈QT n,p.length=n/\∀i∈p,0<=i/\i<(n:Int):=by decide+kernel
def uj:∀n<4,(QT n).length<=6:=by decide+kernel
def Wx (l:List Int):IM l l=true:=by simp[IM]
def Cj.yD {b:Nat}(h:Bl w A)(hU:Cj b A B)(hb:w.heap.size<=b):Bl w B:=h.trans ((hU.CX (K:=fun x=>x=b) rfl).below (fun x hx=>by have:x=b:=hx;omega) h.size)
def IV (c:A4)(i:Int):Bool:=decide (0<(Ah c.Aa i.toNat).left)
def Wy {t:Nat}:(J_ c t=none)↔(Av t).all (IV c)=true:=by
 unfold J_;rw[List.find?_eq_none,zt];constructor
 .intro h x hx
  have:=h x hx;simp[Oz,IV]at this⊢;omega
 .intro h x hx
  have:=h x hx;simp[Oz,IV]at this⊢;omega
def Kl (h:Ca c l=0):Bx c l=if(Av (Ay c l)).all (IV c)=true then 0 else 12:=by
 unfold Bx;rw[B0 h];by_cases h2:J_ c (Ay c l)=none
 .rw[if_pos h2,if_pos (Wy.1 h2)]
 .rw[if_neg h2,if_neg fun x=>h2 (Wy.2 x)]
def ew:∀m<4,∀n<4,∀x∈BB m n,∀y∈x,0<=y/\y<(n:Int):=by decide+kernel
def ey {f:Int->Bool}{j:Nat}(h:j<l.length):(l.take (j+1)).all f=((l.take j).all f&&f (nth l j)):=by
 rw[ZbN,A_ h,List.all_append];simp
def uo (hn:n<4)(h:x∈Hc n 0 0):x.length<=n/\∀y∈x,0<=y/\y<(n:Int):=by
 have key:∀k,k<=n->x∈BB k n->x.length<=n/\∀y∈x,0<=y/\y<(n:Int):=fun k hk hx=>by
  have h1:=(GM k (by omega) n hn).2 x hx;exact⟨by omega,ew k (by omega) n hn x hx⟩
 unfold Hc at h;rcases Zas.1 h with h|h
 .exact key 0 (Zn _) (ZdZ h)
 .obtain⟨k,hk,hx⟩:=List.mem_flatMap.1 h
  have:=ZdZ hk;exact key k (by simp at this;omega) hx
def Vl {l:List (List Int)}{f:List Int->List Int}{g:List Int->Bool}(h:l[k]?=some x):((l.drop k).map f).find? g=if g (f x)=true then some (f x) else((l.drop (k+1)).map f).find? g:=by
 obtain⟨hk,e⟩:=Zl.1 h;rw[Zu hk,e,List.map_cons,Zdh];cases g (f x)<;>rfl
def uq {S p:List Int}(h:k<p.length):LR S (p.take (k+1))=LR S (p.take k)++ [nth S (nth p k).toNat]:=by
 unfold LR;rw[ZbN,A_ h];simp
def atn {Sn:Nat->Prop}{lv:Ze}{nums:List Int}(hn:SI Sn w lv nums)(EP:∀x,Sn x->x<w.heap.size)(hG:Iv w):Calls Lp 8 #[lv] w (Two w (.bool true)):=by
 obtain⟨la,lc,rfl,_⟩:=hn.val;have Gx:=CI;have H44:=Zb (fun(W:Zc) (b d:Nat) (h1:SI Sn W (J la nums.length lc) nums) (h2:∀x,Sn x->x<W.heap.size/\x≠b) (h3:BQ W b (J la nums.length lc) d) (h4:d+1000<4611686018427387904)=>show Calls Lp 44 #[.pointer (some ⟨b,0,none⟩),.int I 3] W (ae W b (J la nums.length lc) d 3) from c44 (s:=3) h1 h2 h3 h4 (by decide));go_enter Lp.func8,n8;go_wp2_with (first|(go_at_call 27;refine(c27 _ ⟨_,_,_,rfl⟩ _).mono ?_;rintro e W1 ⟨rfl,hw⟩;(have Bb:Bl w W1:=by rw[hw];exact bA (Zg _ _));(have LK:BQ W1 w.heap.size (J la nums.length lc) 0:=⟨1,by rw[hw];exact Bt _ _⟩);clear hw;obtain⟨b,hb⟩:∃b,b=w.heap.size:=⟨_,rfl⟩;rw[<-hb]at LK⊢;have HB:=Zb hb;clear hb)|(go_at_call 44;refine(H44.out _ _ _ (hn.later Bb) (fun x hx=>⟨by have:=EP x hx;have:=Bb.size;omega,by have:=EP x hx;have:=HB.out;omega⟩) LK (by omega)).mono ?_;rintro e W2 ⟨c,u1,u2,u3,u4,u5,d2,rfl,Hl,vK,QU,hM,xX⟩;obtain⟨a1,c1,rfl,_⟩:=QU.base.val;obtain⟨a2,c2,rfl,_⟩:=QU.Af.val;obtain⟨a3,c3,rfl,_⟩:=QU.hooks.val;obtain⟨a4,c4,rfl,_⟩:=QU.Aa.val;obtain⟨a5,c5,rfl,_⟩:=QU.now.val));have G0:b<=w.heap.size/\w.heap.size<=b:=by have:=HB.out;omega
 have DX:=Bb.size;have EJ:b<W1.heap.size:=LK.lt;have EI:=Hl.Cg.size;have AW:=Cj.yD Bb Hl.Cg (by omega);have eM:=(hn.later Bb).Cg Hl.Cg (fun x hx=>⟨by have:=EP x hx;omega,by have:=EP x hx;omega⟩);obtain⟨X,hX⟩:∃X,X=W2.alloc (.cells #[J a1 c.base.length c1,J a2 c.Af.length c2,J a3 c.hooks.length c3,J a4 c.Aa.length c4,J a5 c.now.length c5] 26):=⟨_,rfl⟩;have Io:Bl W2 X:=by rw[hX];exact bA (Zg _ _)
 have hK:X.heap[W2.heap.size]?=some (.cells #[J a1 c.base.length c1,J a2 c.Af.length c2,J a3 c.hooks.length c3,J a4 c.Aa.length c4,J a5 c.now.length c5] 26 (0,0)):=by rw[hX];exact Bt _ _
 obtain⟨q,hq⟩:∃q,q=W2.heap.size:=⟨_,rfl⟩;rw[<-hq]at hK;rw[<-hX, <-hq];have uV:q<X.heap.size:=(Za.1 hK).1;have Nk:W2.heap.size<=q/\q<=W2.heap.size:=by omega
 clear hX hq;have I9:=hM.few;have hS:∀x,Cf W1.heap.size W2 x->x<X.heap.size/\x≠b:=fun x hx=>⟨by have:=hx.2;have:=Io.size;omega,by have:=hx.1;omega⟩;refine(c30 (QU.later Io) hS (eM.later Io) (fun x hx=>⟨by have:=EP x hx;have:=Io.size;omega,by have:=EP x hx;omega⟩) (Hl.FH.later Io) (by omega) (by omega) (fun i hi=>by have:=(hM.seam i hi).step;omega)).mono ?_;rintro e W3 ⟨v3,l,d3,rfl,Ho,uZ,hd3,Nn,Rx,Ni⟩;obtain⟨p3,t3,rfl,_⟩:=Nn.val;have A8:Ig c l:=⟨Rx,fun i hi=>⟨(Ni i (by omega)).1,(Ni i (by omega)).2 (hM.seam i (by omega)).step.2.1⟩⟩;have Ep:=Ho.at_ hK (by omega);have O6:=(QU.later Io).Aw (Ho.same fun x hx=>(hS x hx).2);have Bg:=Cj.yD (AW.trans (Io.mono AW.size)) Ho (by omega);have Sa:=Ho.size;have hzX:=Io.size;have O0:=Zb A8;have HM:=Zb hM;clear A8 Rx Ni uZ Ho hK eM QU Hl LK vK hd3 hM;have pB:=Zb (show∀W,Bl W3 W->RC (fun x=>x<W.heap.size) W (J a1 c.base.length c1) (J a2 c.Af.length c2) (J a3 c.hooks.length c3) (J a4 c.Aa.length c4) (J a5 c.now.length c5) c from fun W hB=>(O6.later hB).imp fun x hx=>by have:=hx.2;have:=hB.size;show x<W.heap.size;omega);have lj:=Zb (show∀W,Bl W3 W->SI (fun x=>x<W.heap.size) W (J p3 l.length t3) l from fun W hB=>Sl.imp (Nn.later hB) (fun x hx=>by have:=hx.2;have:=hB.size;show x<W.heap.size;omega) fun _ _ x=>x);have k0:=ch (i:=0) Ep rfl;have k1:=ch (i:=1) Ep rfl;have k2:=ch (i:=2) Ep rfl;have k3:=ch (i:=3) Ep rfl;have k4:=ch (i:=4) Ep rfl;dsimp only;go_wp2;refine(c51 (pB.out W3 (Zg _ _)) (lj.out W3 (Zg _ _)) fun x hx=>hx).mono ?_;rintro e W4 ⟨v4,rfl,CU,Wp⟩;obtain⟨p4,t4,rfl,_⟩:=Wp.val;have Kz:=(CU.block _ (Za.1 Ep).1).trans Ep;clear k0 k1 k2 k3 k4;have k0:=ch (i:=0) Kz rfl;have k1:=ch (i:=1) Kz rfl;have k2:=ch (i:=2) Kz rfl;have k3:=ch (i:=3) Kz rfl;have k4:=ch (i:=4) Kz rfl;obtain⟨L,LK,ou⟩:=ej HM.out O0.out;have HLC:=Zb (uo (by omega) (List.mem_of_find?_eq_some (OY HM.out O0.out)));have HE:=Zb (Kl (HM.out.asked O0.out));have O7:=Zb (show QR c l=if Bx c l=0 then Av (Ay c l) else [] from rfl);have kZ:=Zb (show I' c l=if Bx c l=0 then L else [] by unfold I';rw[LK];rfl);have H54:=Zb (c54 (pB.out W4 CU) (lj.out W4 CU) (fun x hx=>hx) fun _=>⟨L,LK⟩);have HF:=Zb ou;clear LK ou;obtain⟨T,hT⟩:∃T,T=Av (Ay c l):=⟨_,rfl⟩;obtain⟨E,hE⟩:∃E,E=Bx c l:=⟨_,rfl⟩;obtain⟨G,hGL⟩:∃G,G=QR c l:=⟨_,rfl⟩;obtain⟨O,hOL⟩:∃O,O=I' c l:=⟨_,rfl⟩;rw[<-hT]at HLC HE O7 HF;rw[<-hE]at HE O7 kZ H54⊢;rw[<-hGL]at O7 Wp⊢;rw[<-hOL]at kZ H54;clear hT hE hGL hOL;dsimp only;have hzq:=(Za.1 Kz).1;have eo:=bU Bg CU;have hG4:=hG.later eo;by_cases Eb:T.all (IV c)=true
 case neg=>
  obtain rfl:E=12:=by rw[HE.out,if_neg Eb]
  obtain rfl:G=[]:=by rw[O7.out];rfl
  obtain rfl:O=[]:=by rw[kZ.out];rfl
  clear Eb hG Bg;go_wp2_with (first|(go_at_call 54;refine H54.out.mono ?_;rintro e W5 ⟨v5,rfl,BS,hv5⟩;obtain⟨p5,t5,rfl,_⟩:=hv5.val;have k3':=ch (i:=3) ((BS.block _ hzq).trans Kz) (v:=.slice a4 c.Aa.length c4) rfl)|(go_at_call 26;refine(c26 _ (hG4.later BS)).mono ?_;rintro e Z ⟨lC,rfl|⟨x,rfl,PG⟩⟩))
  .go_ret
   exact⟨bU eo (bU BS lC),.inl rfl⟩
  .exact⟨rfl,bU eo (bU BS lC),.inr ⟨_,rfl,PG⟩⟩
 case pos=>
  obtain rfl:E=0:=by rw[HE.out,if_pos Eb]
  obtain rfl:G=T:=by rw[O7.out];rfl
  obtain rfl:O=L:=by rw[kZ.out];rfl
  have hGn:=HLC.out.1;have hng:¬(c.Aa.length:Int)<(G.length:Int):=by omega
  have HVL:=Zb (show∀W,Bl W4 W->SI (fun x=>x<W.heap.size) W (J p4 G.length t4) G from fun W hB=>Sl.imp (Wp.later hB) (fun x hx=>by have:=hx.2;have:=hB.size;show x<W.heap.size;omega) fun _ _ x=>x);have HRS:=Zb (ji G.length (by omega));have HRF:=Zb (uj G.length (by omega));have H55:=Zb (fun W=>c55 (n:=G.length) (by omega) W);obtain⟨R,hR⟩:∃R,R=QT G.length:=⟨_,rfl⟩;rw[<-hR]at HRS HRF HF H55;clear Eb hG Bg Wp hR;go_wp2_with (first|(go_at_call 54;refine H54.out.mono ?_;rintro e W5 ⟨v5,rfl,BS,hv5⟩;obtain⟨p5,t5,rfl,_⟩:=hv5.val;have iX:=(BS.block _ hzq).trans Kz;have k3':=ch (i:=3) iX (v:=.slice a4 c.Aa.length c4) rfl)|(go_at_call 55;refine(H55.out _).mono ?_;rintro e W6 ⟨v6,rfl,Dv,fX⟩;obtain⟨p6,t6,rfl,_⟩:=fX.val));have aeN:=bU BS Dv;have Jb:=(Dv.block _ (Za.1 iX).1).trans iX;have HV5:=Zb (show∀W,Bl W5 W->SI (fun x=>x<W.heap.size) W (J p5 O.length t5) O from fun W hB=>Sl.imp (hv5.later hB) (fun x hx=>by have:=hx.2;have:=hB.size;show x<W.heap.size;omega) fun _ _ x=>x);have HV6:=Zb fX;obtain⟨i3,xH,h30,h31,h32⟩:=zq Jx;obtain⟨os,UC⟩:∃os,os=Bh c.Aa:=⟨_,rfl⟩;rw[<-UC]at HF;have HOS:=Zb UC;have IP:=HRF.out;clear hv5 fX k3' UC;go_loopg [11] R.length (fun gg i wr=>∃k:Nat,k<=R.length/\gg=R.length - k/\i=.int I k/\((R.drop k).map (LR G)).find? (Et os [])=some O/\Bl W6 wr)
  case atStart=>exact⟨0,Zn _,rfl,rfl,HF.out,Zg _ _⟩
  case round=>
   obtain⟨k,hk,rfl,rfl,Cn,MN⟩:=hrel;have hf:=Zb Cn;clear Cn;have eO:=(MN.block _ (Za.1 Jb).1).trans Jb;have ato:=bU aeN MN;by_cases AA:k<R.length
   .obtain⟨b6,o6,u,rfl,Xt,hcu,hu⟩:=(HV6.out.later MN).at_ AA
    have hp:=C2 AA;have HD:=Zb (Vl (f:=LR G) (g:=Et os []) hp);have jO:=HRS.out _ (Z8 hp);obtain⟨p,uW⟩:∃p,p=Cu R k:=⟨_,rfl⟩;rw[<-uW]at hu HD jO;have HPL:=Zb jO.1;have HPB:=Zb jO.2;clear hp uW jO;obtain⟨pu,cu,rfl,lu,mu⟩:=hu.val;have HU:=Zb hu;have Rh:(k:Int)<(R.length:Int):=by omega
    clear hu;go_wp2;obtain⟨W7,hW7⟩:∃W7,W7=wr:=⟨_,rfl⟩;subst hW7;go_loopg [12,13,14] G.length (fun gg vo fl i wx=>∃j:Nat,j<=G.length/\gg=G.length - j/\i=.int I j/\Own wx W7.heap.size vo (LR G (p.take j))/\fl=.bool (Et os [] (LR G (p.take j)))/\Bl W7 wx)
    case atStart=>exact⟨0,Zn _,rfl,rfl,by rw[List.take_zero];exact zh _ _ _ _,rfl,Zg _ _⟩
    case round=>
     obtain⟨j,hj,rfl,rfl,how,rfl,JP⟩:=hrel;have eU:=(JP.block _ (Za.1 eO).1).trans eO;have k3:=ch (i:=3) eU (v:=.slice a4 c.Aa.length c4) rfl;have oR:=bU ato JP;have aeV:=(JP.cell (p:=⟨b6,o6+k,none⟩) (Zy _ _ hcu)).trans hcu;have hQl:(LR G (p.take j)).length=j:=by have:=HPL.out;simp[LR];omega
     by_cases QQ:j<G.length
     .have iw:j<p.length:=by have:=HPL.out;omega
      have HSN:=Zb (uq (S:=G) iw);obtain⟨b7,o7,e7,U2,hc7⟩:=(HU.out.later JP).at_ iw;subst e7;obtain⟨xv,ha1⟩:=HPB.out _ (IG iw);obtain⟨a,haa⟩:∃a:Nat,nth p j=a:=⟨(nth p j).toNat,by omega⟩;rw[haa]at hc7 xv ha1 HSN;clear haa;have haG:a<G.length:=by omega
      obtain⟨b8,o8,e8,hb8,hc8⟩:=(HVL.out _ oR).at_ haG;subst e8;obtain⟨NG,oa⟩:=HLC.out.2 _ (IG haG);rw[show(a:Int).toNat=a from rfl]at HSN;obtain⟨y,hyy⟩:∃y:Nat,nth G a=y:=⟨(nth G a).toNat,by omega⟩;rw[hyy]at hc8 NG oa HSN;clear hyy;have hyn:y<c.Aa.length:=by omega
      have Ku:(j:Int)<(G.length:Int):=by omega
      have hjp:(j:Int)<(p.length:Int):=by omega
      have nD:¬(y:Int)<0:=by omega
      have hy2:¬(c.Aa.length:Int)<=(y:Int):=by omega
      obtain⟨Q,hQ⟩:∃Q,Q=LR G (p.take j):=⟨_,rfl⟩;rw[<-hQ]at how hQl HSN⊢;clear hQ;obtain⟨fb,aK⟩:∃fb,fb=Et os [] Q:=⟨_,rfl⟩;rw[<-aK];have HFB:=Zb aK;obtain⟨vb,vd,rfl,_⟩:=how.si.val;have HOW:=Zb how;have HQL:=Zb hQl;clear aK how hQl;obtain⟨b9,o9,s2,s3,e9,hb9,_,_,_,dS,_,_,UE⟩:=(pB.out _ (bU CU oR)).Aa.at_ (i:=y) hyn;subst e9;have aln:=Zb (Qb c.Aa y);obtain⟨ov,alo⟩:∃ov,ov=(Ah c.Aa y).over:=⟨_,rfl⟩;rw[<-alo]at UE aln;clear alo;obtain⟨av,cv,rfl,_⟩:=UE.val;have atp:=Zb UE;clear UE;go_wp2;obtain⟨W8,hW8⟩:∃W8,W8=wr:=⟨_,rfl⟩;subst hW8;go_loopg [13,16] Q.length (fun gg fl i wy=>∃m:Nat,m<=Q.length/\gg=Q.length - m/\i=.int I m/\fl=.bool (fb&&(Q.take m).all fun z=> !ov.contains z)/\Bl W8 wy)
      case atStart=>exact⟨0,Zn _,rfl,rfl,by simp,Zg _ _⟩
      case round=>
       obtain⟨m,hm,rfl,rfl,rfl,lz⟩:=hrel;have hKm:=(lz.block _ (Za.1 eU).1).trans eU;have k3m:=ch (i:=3) hKm (v:=.slice (some ⟨b9,o9,none⟩) c.Aa.length c4) rfl;by_cases tT:m<Q.length
       .obtain⟨b10,o10,e10,aCd,atq⟩:=(HOW.out.si.later lz).at_ tT
        subst e10;have aCe:=(lz.cell (p:=⟨b9,o9+y*5+3,none⟩) (Zy _ _ dS)).trans dS;have ud:=Zb (ey (f:=fun z=> !ov.contains z) tT);obtain⟨z,hz⟩:∃z,z=nth Q m:=⟨_,rfl⟩;rw[<-hz]at atq ud;clear hz;have hmi:(m:Int)<(Q.length:Int):=by omega
        obtain⟨ff,yY⟩:∃ff,ff=(fb&&(Q.take m).all fun z=> !ov.contains z):=⟨_,rfl⟩;rw[<-yY];have HFF:=Zb (show(ff&& !ov.contains z)=(fb&&(Q.take (m+1)).all fun z=> !ov.contains z) by rw[yY,ud.out,Bool.and_assoc]);clear yY;cases ff with
        |true=>
         have fD:=Zb (ak ov z);have H56:=Zb (fun(n:Nat)=>c56 (n:=z) (atp.out.later (zl lz n)));obtain⟨r,hr⟩:∃r,r=tV ov z:=⟨_,rfl⟩;rw[<-hr]at fD H56;clear hr;have mK:=Zb (show decide (r<0)=(fb&&(Q.take (m+1)).all fun z=> !ov.contains z) by rw[<-HFF.out,fD.out];rfl);go_wp2;go_quiet ((go_at_call 56;refine Zay (H56.out _)));obtain⟨V,hV⟩:∃V,V=wr.drewN nq:=⟨_,rfl⟩;have UG:Bl wr V:=by rw[hV];exact zl (Zg _ _) nq
         rw[<-hV];clear hV;go_wp2;go_roundg (Q.length - (m+1))
         case rel=>exact⟨m+1,tT,rfl,by go_num,by rw[<-mK.out],bU lz UG⟩
         case measure=>omega
        |false=>
         have mK:=Zb (show false=(fb&&(Q.take (m+1)).all fun z=> !ov.contains z) by rw[<-HFF.out];rfl);go_wp2;go_quiet (fail);obtain⟨V,hV⟩:∃V,V=wr.drewN nq:=⟨_,rfl⟩;have UG:Bl wr V:=by rw[hV];exact zl (Zg _ _) nq
         rw[<-hV];clear hV;go_wp2;go_roundg (Q.length - (m+1))
         case rel=>exact⟨m+1,tT,rfl,by go_num,by rw[<-mK.out],bU lz UG⟩
         case measure=>omega
       .have hmQ:m=Q.length:=by omega
        subst hmQ;have O2:Q.take Q.length=Q:=List.take_length;rw[O2];have HNF:=Zb (show(fb&&Q.all fun z=> !ov.contains z)=Et os [] (Q++ [(y:Int)]) by
         rw[Uq, <-HFB.out,zZ];unfold jh;rw[HOS.out,show((y:Int)).toNat=y from rfl,aln.out])
        obtain⟨ff,yY⟩:∃ff,ff=(fb&&Q.all fun z=> !ov.contains z):=⟨_,rfl⟩;rw[<-yY]at HNF⊢;clear yY O2;have alp:=HOW.out.later lz;have hz8:=JP.size;have hz9:=lz.size;have JH:Q.length<=3:=by have:=HQL.out;omega
        have alq:=Zb alp;clear alp;go_wp2_with (at_builtin;refine Yj _ rfl _ _ 22 rfl W7.heap.size 3 i3 (.int I 0) 1 8 (CG Yg) (DC xH) h30 h31 h32 rfl (by decide) (J vb Q.length vd) Q.length (Q.map (ZS I)) rfl (zO alq.out _) ⟨wr.heap.size,0,none⟩ 1 1 [.int I y] rfl rfl (BR _ _ _) (by simp[Yv]) (by unfold maxLen;omega) (by omega) (by simp;omega) ?_;intro v9 w9 hv9 hg9 atr);have hO9:Own w9 W7.heap.size v9 (Q++ [(y:Int)]):=by unfold Own;rw[ZF,Zaa];exact hv9
        have H_:Bl W7 w9:=Ba (bA (bU JP lz)) hg9 (fun b hb=>(Yq alq.out b hb).1) (by simp;omega);have Nz:=Zb (ZX hO9 H_);clear hO9 H_ hv9 hg9 atr;go_roundg (G.length - (j+1))
        case rel=>exact⟨j+1,QQ,rfl,by go_num,by rw[HSN.out];exact Nz.out.1,by rw[HSN.out,HNF.out],Nz.out.2⟩
        case measure=>omega
     .have hjG:j=G.length:=by omega
      have O2:p.take j=p:=ZaQ (by have:=HPL.out;omega);rw[O2]at how⊢;have HHD:=Zb (show(if Et os [] (LR G p)=true then some (LR G p) else((R.drop (k+1)).map (LR G)).find? (Et os []))=some O by rw[<-HD.out];exact hf.out);obtain⟨Q,hQ⟩:∃Q,Q=LR G p:=⟨_,rfl⟩;rw[<-hQ]at how HHD⊢;obtain⟨fb,aK⟩:∃fb,fb=Et os [] Q:=⟨_,rfl⟩;rw[<-aK]at HHD⊢;obtain⟨vb,vd,rfl,_⟩:=how.si.val;have HOW:=Zb how;clear hQ aK O2 hQl how;have hzj:=JP.size;cases fb with
      |false=>
       have mK:=Zb (show((R.drop (k+1)).map (LR G)).find? (Et os [])=some O by have:=HHD.out;rwa[if_neg (by decide)]at this);go_wp2;go_roundg (R.length - (k+1))
       case rel=>exact⟨k+1,AA,rfl,by go_num,mK.out,bU MN JP⟩
       case measure=>omega
      |true=>
       obtain rfl:O=Q:=by
        have:=HHD.out;rw[if_pos rfl]at this;exact(ZK this).symm
       have aeZ:=bU (bU Dv MN) JP;have alr:=bU eo (bU BS aeZ);have hGj:=hG4.later (bU BS aeZ);have n9:=Zb (uP (HV5.out _ aeZ) (Sl.imp HOW.out.si (fun x (hx:Cf _ _ x)=>hx.2) fun _ _ x=>x) (fun x hx=>hx) fun x hx=>hx);go_wp2_with (first|(go_at_call 46;refine n9.out.mono ?_;rintro e W9 ⟨rfl,H_⟩;rw[Wx])|(go_at_call 26;refine(c26 _ (hGj.later H_)).mono ?_;rintro e Z ⟨lC,rfl|⟨x,rfl,PG⟩⟩))
       .go_ret
        exact⟨bU alr (bU H_ lC),.inl rfl⟩
       .exact⟨rfl,bU alr (bU H_ lC),.inr ⟨_,rfl,PG⟩⟩
   .exfalso
    have:=hf.out;rw[Zz.2 (by omega)]at this;cases this
end Go.Proofs.Fit
namespace Go.Proofs.YtkkjobdfheidkaaGreatDoor
open Go Go.Conc Go.RowKit Go.Proofs.Fit
set_option maxRecDepth 100000
def ur:(Rows.seamOrderRow.inPlace==Tryz.prog.inPlace 8)=true:=by kernel_rfl
def eA:(Rows.seamOrderRow.unfollowed==Tryz.prog.unfollowed 8)=true:=by kernel_rfl
def oT:(Rows.seamOrderRow.recurses==Tryz.prog.recurses 8)=true:=by kernel_rfl
def af0:(Rows.seamOrderRow.named==Tryz.prog.varsNamed 8)=true:=by kernel_rfl
def af1:joinedFacts Zd 8 Zdm Rows.seamOrderSpec Rows.seamOrderRow=true:=
 PT (by kernel_rfl) (by kernel_rfl) (by kernel_rfl) (by kernel_rfl) (by kernel_rfl) ur eA oT af0 (by kernel_rfl) (by kernel_rfl) (by kernel_rfl) (by kernel_rfl) (by kernel_rfl) (by kernel_rfl) (by kernel_rfl) (by kernel_rfl) (by kernel_rfl) rfl rfl rfl rfl rfl rfl (by kernel_rfl) (by kernel_rfl) (by kernel_rfl)
def yH (os:Os)(started:os.Started)(H:Type)(enc:Zr×Ze->H):ReturnsInLeavingWide {} Tryz.checked os 8 .any (fun w args=>(Rows.seamOrderSpec.pre enc Zd Zdm [] false w args/\ZbZ Zd KA w)/\sizedMet enc Zd Zdm (Zav Rows.seamOrderSpec) false w args)
   (Rows.seamOrderSpec.post enc Zd Zdm false true false false):=
 Nr (s:=Rows.seamOrderSpec) started rfl rfl Tryz.func8 rfl rfl (by kernel_rfl) (by kernel_rfl) rfl (by kernel_rfl) (fun ds h=>by
    match ds,h with
    | [_],_=>rfl)
   (ChangeSpec.witness_shaped (enc:=enc) (C:=Tryz.checked) (os:=os) (X:=fun w _=>ZbZ Zd KA w) false (Mi os) #[J none 0 0] 8 rfl (World.shaped_of_RefB (by kernel_rfl) (by kernel_rfl)) (by kernel_rfl) (by kernel_rfl) (by kernel_rfl) (Ja os _))
   (fun W base args ds ps hval hA _ hG=>T3 rfl hval hA hG fun w v nums hn hG=>atn hn (fun x hx=>hx) hG)
def ats:Rows.SeamOrderSaid:=
 OpenClaim.holds_of_wide_leaving 8 Zdm rfl rfl rfl rfl rfl rfl rfl ⟨rfl,rfl,rfl,rfl,rfl⟩ rfl rfl rfl rfl rfl (by kernel_rfl) Tryz.func8 af1
  (of_decide_eq_true (by kernel_rfl)) (by unfold ZcV;rw[if_neg (by decide+kernel)];exact⟨rfl,rfl⟩) (fun os started H enc _=>yH os started H enc)
def als:true=Rows.seamOrderRow.goesBy Tryz.pinned.checked.prog:=by kernel_rfl
theorem order_holds:Rows.SeamOrderCardSaid:=
 PS [.handle] (true,"d58ada5a772cea19d6c1f322b38be8e13f90afce78f95e9e644b853f050ce369") ats (by kernel_rfl) (OpenClaim.laidByTextAt_later rfl rfl T4 iG) rfl ⟨rfl,rfl⟩ XW
  (fun f fn hf G7=>by
   obtain rfl:f=8:=ZK ((show Tryz.prog.funcNamed "galloon/galloonlaw02.SeamOrder" =some 8 by kernel_rfl).symm.trans hf)|>.symm;obtain rfl:fn=Zdm:=(ZK (Tryz.func8.symm.trans G7)).symm;exact⟨iH,fun j t ht=>by
    have hm:t∈ [22]:=by simpa using zC ht
    have Eb:([22].all fun u=> !Tryz.prog.wantsStandIn u)=true:=by kernel_rfl
    exact(show Tryz.prog.wantsStandIn t=false by simpa using zt.1 Eb t hm)⟩)
  als
#print axioms order_holds
end Go.Proofs.YtkkjobdfheidkaaGreatDoor
