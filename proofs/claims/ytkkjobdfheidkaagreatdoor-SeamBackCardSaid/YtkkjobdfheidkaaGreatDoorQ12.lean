/- SeamBack: for every list of numbers, on every schedule and without a data race, the law returns true, and the list reads afterwards as it read before. Conditions: those of the given row alone (the variable errors.errorType starts as the program's text lays it; the card ties that to the text). -/
import Derived.Test.YtkkjobdfheidkaaGreatDoorQ11
import Derived.Test.YtkkjobdfheidkaaGreatDoorQ08
set_option maxRecDepth 100000
set_option maxHeartbeats 6400000
noncomputable section
set_option linter.all false
open And renaming intro->ZX
open Array renaming toList_setIfInBounds->Zdl,getElem?_eq_some_iff->Za,mem_of_getElem?->zC
open Go renaming Value->Ze,World->Zc,callFunc->ZB,Operand->ZbX,below_drewN->zl,TypeId->Zr,Program->Zp,undef->Zf,bodyPost_ret->ZU,wpQuiet_nil->zD,laidMetH->ZbZ
open Go.Func renaming isWrapper->ZcV
open Go.IntKind renaming wrap_i64->Yp,i64->J
open Go.Lib renaming hid->Zb
open Go.Obj renaming cells->I
open Go.OpenSpec renaming ofChange->Zav
open Go.Proofs.Tryz renaming prog->Zd
open Go.Result renaming andThen->zB
open Go.RowKit renaming Below->YS
open Go.RowKit.Below renaming refl->Zg
open Go.Sem renaming run_bind->zm
open Go.Value renaming slice->U,int->R
open Go.World renaming size_alloc->ZG,block_lt_of_cell?->Zy
open List renaming ext_getElem?->zM,getElem?_eq_none->ZJ,range->ZL,drop_zero->Zb9,length->ZbH,getElem?_map->zU,length_set->Za6,getD_eq_getElem?_getD->ZR,getElem?_set_self->ze,getElem?_set_ne->ZD,take_set->ZdY,getElem?_eq_some_iff->Zl,getElem?_take_of_lt->ZV,getElem?_drop->Yi,all_eq_true->zt,mem_cons_self->zo,mem_cons_of_mem->Z9,drop_eq_getElem_cons->Zu,filterMap_cons->zr,filterMap_nil->zL,getElem?_toArray->Z1,getElem?_cons_succ->ZQ,getElem?_cons_zero->ZP
open Nat renaming zero_le->Zn,not_lt_zero->ZaM,le_refl->Zj,lt_of_lt_of_le->Zm,zero_add->zK
open Ne renaming symm->Zbq
open Option renaming map_some->Zdz
open Option.some renaming inj->ZK
namespace Go.Proofs.Fit
open Go
@[simp] def Lp.func11:Lp.funcs[11]?=some Tryz.f11:=(AK.same 11 rfl rfl).trans Tryz.func11
@[simp] def Lp.call36 (args:Array Ze)(w:Zc):(ZB 36 args).run Lp w=.ok (.enter 36 args) w:=Ap Lp 36 Lp.func36 rfl rfl args w
@[simp] def Lp.call59 (args:Array Ze)(w:Zc):(ZB 59 args).run Lp w=.ok (.enter 59 args) w:=Ap Lp 59 Lp.func59 rfl rfl args w
def n11:Tryz.f11.ntmps=193:=rfl
end Go.Proofs.Fit
namespace Go.Proofs.Fit
open Go Go.RowKit
def g80 (w:Zc)(x y:ZbX)(xs ys:Array Ze):(eqGuard .neq 80 x y (.agg xs) (.agg ys)).run Lp w=.ok () w:=run_eqGuard_agg w _ _ _ _ _ _ (by kernel_rfl)
def q80 (w:Zc)(a b c d:Int):(binOp .neq 80 (.agg #[R J a,R J b]) (.agg #[R J c,R J d])).run Lp w=.ok (.bool ((a,b) !=(c,d))) w:=by
 rw[run_neq_struct,run_equalIn_agg (ht:=by kernel_rfl) (hp:=by kernel_rfl)];simp[go_sem];by_cases h1:a=c<;>by_cases h2:b=d<;>simp[h1,h2]
def Wr (a b:List (Int×Int)):Bool:=decide (a=b)
def oI {a b:List (Int×Int)}(hl:a.length=b.length)(h:∀j,j<a.length->BF a j=BF b j):a=b:=by
 apply zM;intro i;by_cases hi:i<a.length
 .rw[DH hi,DH (by omega),h i hi]
 .rw[ZJ (by omega),ZJ (by omega)]
variable {S T:Nat->Prop}
variable {w A B:Zc}
variable {v v' v1 v2 v3 v4 v5 v6 u2 u1 u4 u5:Ze}
def c43 {a b:List (Int×Int)}(ha:SP S w v a)(hb:SP T w v' b)(hS:∀b,S b->b<w.heap.size)(hT:∀b,T b->b<w.heap.size):
  Calls Lp 43 #[v,v'] w fun e w'=>e=.returned (.bool (Wr a b))/\Bl w w':=by
 obtain⟨a1,c1,rfl,l1,m1⟩:=ha.val;obtain⟨a2,c2,rfl,l2,m2⟩:=hb.val;have Gx:=CI;by_cases hl:a.length=b.length
 .have HL:=Zb hl
  clear hl;have hli:((a.length:Int) !=b.length)=false:=by simp[HL.out]
  go_enter Lp.func43,n43;go_wp2;go_loopg [5] a.length (fun g i wr=>∃k:Nat,k<=a.length/\g=a.length - k/\i=.int J k/\(∀j,j<k->BF a j=BF b j)/\Bl w wr)
  case atStart=>exact⟨0,Zn _,rfl,rfl,fun j hj=>absurd hj (ZaM _),Zg _ _⟩
  case round=>
   obtain⟨k,hk,rfl,rfl,Cn,hB⟩:=hrel;have hf:=Zb Cn;clear Cn;by_cases AA:k<a.length
   .have sR:k<b.length:=by have:=HL.out;omega
    obtain⟨b1,o1,rfl,EJ,h1,lL⟩:=ha.at_ AA;obtain⟨b2,o2,rfl,EA,h2,h2'⟩:=hb.at_ sR;rw[<-hB.cell (p:=⟨b1,o1+k*2,none⟩) (hS b1 EJ)]at h1;rw[<-hB.cell (p:=⟨b1,o1+k*2+1,none⟩) (hS b1 EJ)]at lL;rw[<-hB.cell (p:=⟨b2,o2+k*2,none⟩) (hT b2 EA)]at h2;rw[<-hB.cell (p:=⟨b2,o2+k*2+1,none⟩) (hT b2 EA)]at h2';have i1:(k:Int)<(a.length:Int):=by omega
    have i2:(k:Int)<(b.length:Int):=by omega
    have aB9:=q80;have aBa:=g80;go_wp2;go_quiet (fail);go_wp2
    .have q:(((BF a k).fst,(BF a k).snd) !=((BF b k).fst,(BF b k).snd))=true:=by assumption
     go_ret;refine⟨?_,zl hB _⟩;have:Wr a b=false:=by
      unfold Wr;refine decide_eq_false fun e=>?_;rw[e]at q;simp at q
     rw[this];rfl
    .have q:(((BF a k).fst,(BF a k).snd) !=((BF b k).fst,(BF b k).snd))=false:=by assumption
     have q':BF a k=BF b k:=by simp at q;exact Prod.ext q.1 q.2
     go_roundg (a.length - (k+1))
     case rel=>exact⟨k+1,by omega,rfl,by go_num,fun j hj=>by
      by_cases e:j=k
      .rw[e];exact q'
      .exact hf.out j (by omega),zl hB _⟩
     case measure=>omega
   .have e1:Wr a b=true:=decide_eq_true (oI HL.out fun j hj=>hf.out j (by omega))
    have E1:=Zb e1;clear e1 hf;go_wp2;go_ret;exact⟨by rw[E1.out];rfl,hB⟩
 .have hli:((a.length:Int) !=b.length)=true:=by simp;omega
  have E1:=Zb (show Wr a b=false from decide_eq_false fun e=>hl (by rw[e]));clear hl;go_enter Lp.func43,n43;go_wp2;go_ret;exact⟨by rw[E1.out];rfl,Zg _ _⟩
def akV (l:List Int)(out:List Bool):List Bool:=l.foldl (fun o x=>o.set x.toNat true) out
def abx (n:Nat):Nat->List (List Int)->List Bool->List Bool
 |_,[],out=>out
 |i,s::r,out=>abx n (i+1) r (if i=n\/out.getD i false=true then akV s out else out)
def lx (n:Nat)(l:List (List Int)):Nat->List Bool->List Bool
 |0,out=>out
 |k+1,out=>lx n l k (abx n 0 l out)
def aby (o:List (List Int))(n:Nat):List Bool:=lx n o o.length (List.replicate o.length false)
def ai (ab:Nat->Nat)(i:Nat):List (List Int)->Nat->Nat
 | []=>ab
 |s::r=>ai (F9 ab i s) (i+1) r
def Sj (ab:Nat->Nat)(l:List (List Int)):Nat->Nat->Nat
 |0=>ab
 |n+1=>Sj (ai ab 0 l) l n
def Ii (l:List (List Int)):Nat->Nat:=Sj (fun _=>0) l l.length
def Um (o:List (List Int)):Bool:=(ZL o.length).all fun n=>(ZL o.length).all fun k=>(aby o n).getD k false==hasB (Ii o n) k
def Ij:List (List Int):=[[],[0],[1],[2],[0,1],[0,2],[1,2],[0,1,2]]
def aeC:∀a∈Ij,Um [a.filter (· <1)]=true:=by decide+kernel
def aeD:∀a∈Ij,∀b∈Ij,Um [a.filter (· <2),b.filter (· <2)]=true:=by decide+kernel
def aeE:∀a∈Ij,∀b∈Ij,∀c∈Ij,Um [a,b,c]=true:=by decide+kernel
variable {l:List Int}
def C5 (hr:l.Pairwise (· < ·))(hx:∀x∈l,0<=x/\x<3):l∈Ij:=by
 have key:∀x:Int,0<=x/\x<3->x=0\/x=1\/x=2:=fun x h=>by omega
 match l,hr,hx with
 | [],_,_=>simp[Ij]
 | [a],_,hx=>
  rcases key a (hx a (by simp)) with rfl|rfl|rfl<;>simp[Ij]
 | [a,b],hr,hx=>
  have h1:a<b:=by simpa using hr
  rcases key a (hx a (by simp)) with rfl|rfl|rfl<;>rcases key b (hx b (by simp)) with rfl|rfl|rfl<;>first|(exfalso;omega)|simp[Ij]
 | [a,b,c],hr,hx=>
  have h1:a<b/\b<c:=by
   simp at hr;exact⟨hr.1.1,hr.2⟩
  have ha:=hx a (by simp);have hc:=hx c (by simp);obtain rfl:a=0:=by omega
  obtain rfl:c=2:=by omega
  obtain rfl:b=1:=by omega
  simp[Ij]
 |a::b::c::d::r,hr,hx=>
  exfalso;simp only[List.pairwise_cons]at hr;have h1:=hr.1 b (by simp);have h2:=hr.2.1 c (by simp);have h3:=hr.2.2.1 d (by simp);have ha:=hx a (by simp);have hd:=hx d (by simp);omega
def filter_lt {n:Int}(hx:∀x∈l,0<=x/\x<n):l.filter (· <n)=l:=List.filter_eq_self.2 fun x h=>by simpa using(hx x h).2
variable {o:List (List Int)}
def qk (hn:o.length<=3)(hr:∀l∈o,l.Pairwise (· < ·))(hx:∀l∈o,∀x∈l,0<=x/\x<o.length):Um o=true:=by
 match o,hn,hr,hx with
 | [],_,_,_=>rfl
 | [a],_,hr,hx=>
  have h1:=hx a (by simp);have:=aeC a (C5 (hr a (by simp)) fun x h=>by have:=h1 x h;simp at this;omega);rwa[filter_lt (fun x h=>by have:=h1 x h;simpa using this)]at this
 | [a,b],_,hr,hx=>
  have h1:=hx a (by simp);have h2:=hx b (by simp);have:=aeD a (C5 (hr a (by simp)) fun x h=>by have:=h1 x h;simp at this;omega) b (C5 (hr b (by simp)) fun x h=>by have:=h2 x h;simp at this;omega);rwa[filter_lt (fun x h=>by have:=h1 x h;simpa using this),filter_lt (fun x h=>by have:=h2 x h;simpa using this)]at this
 | [a,b,c],_,hr,hx=>
  exact aeE a (C5 (hr a (by simp)) fun x h=>by have:=hx a (by simp) x h;simpa using this) b (C5 (hr b (by simp)) fun x h=>by have:=hx b (by simp) x h;simpa using this)
   c (C5 (hr c (by simp)) fun x h=>by have:=hx c (by simp) x h;simpa using this)
 |_::_::_::_::_,hn,_,_=>simp at hn
variable {ab:Nat->Nat}
def dZ {a:List Int}(h:a.length=l.length):∀(n k s:Nat),l.length - k=n->Ga ab a k (l.drop k) s=Ga ab l k (a.drop k) s:=by
 intro n
 induction n with
 |zero=>
  intro k s hk;rw[Nj (by omega),Nj (by omega)]
 |succ n ih=>
  intro k s hk;rw[Lx (now:=a) (l:=l) (k:=k) (by omega),Lx (now:=l) (l:=a) (k:=k) (by omega),ih _ _ (by omega)];by_cases e:nth l k=nth a k
  .rw[if_pos e,if_pos e.symm]
  .rw[if_neg e,if_neg fun x=>e x.symm]
def d_ {a:List Int}(h:a.length=l.length):Cb ab a l=Cb ab l a:=by
 have:=dZ (ab:=ab) h l.length 0 0 (by omega);rw[Zb9,Zb9]at this;exact this
def Cv (l:List Aq):List Aq:=l.map fun x=> {x with left:=0}
def OV:∀(l:List Aq) (ab:Nat->Nat) (i:Nat),Fz ab i (Cv l)=Fz ab i l
 | [],_,_=>rfl
 |s::r,ab,i=>OV r (F9 ab i s.over) (i+1)
def MM (l:List Aq):∀(n:Nat) (ab:Nat->Nat),DR ab (Cv l) n=DR ab l n
 |0,_=>rfl
 |n+1,ab=>by
  show DR (Fz ab 0 (Cv l)) (Cv l) n=DR (Fz ab 0 l) l n;rw[OV,MM l n]
def OW (l:List Aq):Au (Cv l)=Au l:=by
 unfold Au;rw[MM];simp[Cv]
variable {a b s:List Aq}
def iY (h:Cv a=Cv b):Au a=Au b:=by rw[<-OW a,h,OW]
def P8 (h:Cv a=Cv b):a.length=b.length:=by
 have:=congrArg ZbH h;simpa[Cv]using this
def iZ (s:List Aq)(i:Nat):Cv (EW s i)=Cv s:=by
 unfold Cv EW;apply zM;intro j;simp only[zU,List.getElem?_modify];cases s[j]? with
 |none=>rfl
 |some x=>by_cases h:i=j<;>simp[h]
def LO:∀(l:List Int) (s:List Aq),Cv (BP s l)=Cv s
 | [],_=>rfl
 |i::r,s=>(LO r (EW s i.toNat)).trans (iZ s _)
variable {c:A4}
def aj (h:c.now.length=l.length)(t:Nat):Ay (Ea c l t) c.now=Ay c l:=by
 show Cb (Au (BP c.Aa (Av t))) l c.now=Cb (Au c.Aa) c.now l;rw[iY (LO _ _),d_ h]
variable {n i g cap:Nat}
def ly (h:Cv a=Cv b)(hi:i<a.length): {Ah a i with left:=0}= {Ah b i with left:=0}:=by
 have e:=congrArg (fun l=>l[i]?) h;simp only[Cv,zU,Ct hi,Ct (show i<b.length by rw[<-P8 h];exact hi),Zdz]at e;exact ZK e
def oJ {n:List Int}(h:FG c)(he:Cv s=Cv c.Aa)(hl:∀i,i<s.length->0<=(Ah s i).left/\(Ah s i).left<=4)(hn:Ig c n):FG {c with Aa:=s,now:=n}:=by
 have hz:=P8 he;have key:∀i,i<s.length->(Ah s i).low=(Ah c.Aa i).low/\(Ah s i).high=(Ah c.Aa i).high/\(Ah s i).Ak=(Ah c.Aa i).Ak/\(Ah s i).over=(Ah c.Aa i).over:=fun i hi=>by
  have:=ly he hi;simp only[Aq.mk.injEq]at this;obtain⟨e1,e2,e3,e4,_⟩:=this;exact⟨e1,e2,e3,e4⟩
 refine⟨h.EG,h.base,h.QG,h.Af,h.hooks,h.hook,by show 1<=s.length/\s.length<=3;rw[hz];exact h.few,fun i hi=>?_,?_,?_⟩
 .have Da:i<s.length:=hi
  obtain⟨e1,e2,e3,e4⟩:=key i Da;have hm:=h.seam i (by omega);show LI c.base.length s.length i (Ah s i);refine⟨by rw[e1,e2];exact hm.step,by rw[e3];exact hm.few,by rw[e3];exact hm.pull,by rw[e3];exact hm.twice,by rw[e4,hz];exact hm.over,by rw[e4];exact hm.rising,hl i Da⟩
 .rcases h.way with w|w
  .exact .inl fun i (hi:i<s.length) o (ho:o∈(Ah s i).over)=>w i (by omega) o (by rw[<- (key i hi).2.2.2];exact ho)
  .exact .inr fun i (hi:i<s.length) o (ho:o∈(Ah s i).over)=>w i (by omega) o (by rw[<- (key i hi).2.2.2];exact ho)
 .have h1:=hn.1
  refine⟨by show n.length=s.length;omega,fun i (hi:i<n.length)=>?_⟩;show(Ah s i).low<=nth n i/\nth n i<=(Ah s i).high;rw[(key i (by omega)).1,(key i (by omega)).2.1];exact hn.2 i hi
def bU (h:Bl w A)(k:Bl A B):Bl w B:=h.trans (k.mono h.size)
def QR (c:A4)(l:List Int):List Int:=if Bx c l=0 then Av (Ay c l) else []
def i_:Av 0=[]:=by decide
def c51 (h:RC S w v1 v2 v3 v4 v5 c)(hl:SI S w v6 l)(hS:∀b,S b->b<w.heap.size):
  Calls Lp 51 #[.agg #[v1,v2,v3,v4,v5],v6] w fun e w'=>∃v,e=.returned (.tuple #[v,R J (Bx c l)])/\Bl w w'/\SI (Cf w.heap.size w') w' v (QR c l):=by
 obtain⟨a1,c1,rfl,l1,m1⟩:=h.base.val;obtain⟨a2,c2,rfl,l2,m2⟩:=h.Af.val;obtain⟨a3,c3,rfl,l3,m3⟩:=h.hooks.val;obtain⟨a4,c4,rfl,l4,m4⟩:=h.Aa.val;obtain⟨a5,c5,rfl,l5,m5⟩:=h.now.val;obtain⟨a6,c6,rfl,l6,m6⟩:=hl.val;have Gx:=CI;have Bb:Bl w (w.alloc (I #[U a1 c.base.length c1,U a2 c.Af.length c2,U a3 c.hooks.length c3,U a4 c.Aa.length c4,U a5 c.now.length c5] 26)):=(Zg _ _).alloc (Zj _) _;have Rk:=Zb (fun W hB=>xu (w:=W) (h.later hB) (hl.later hB) (AE hS hB));have key:∃t,t<8/\Av t=QR c l/\∀(W:Zc) (hB:Bl w W),Calls Lp 119 #[.agg #[U a1 c.base.length c1,U a2 c.Af.length c2,U a3 c.hooks.length c3,U a4 c.Aa.length c4,U a5 c.now.length c5],U a6 l.length c6] W fun e w'=>∃(q1 q2 q3 q4 q5:Option Addr) (n1 n2 n3 n4 n5 d1 d2 d3 d4 d5 k0 k1 k2:Nat),e=.returned (.tuple #[.agg #[U q1 n1 d1,U q2 n2 d2,U q3 n3 d3,U q4 n4 d4,U q5 n5 d5,R .u8 k0,R .u8 k1,R .u8 k2],R .u8 t,R J (Bx c l)])/\Bl W w':=by
  by_cases h0:Bx c l=0
  .obtain⟨xv,_⟩:=A7 h0
   obtain⟨Kd,Fp⟩:=A7 xv;have hv:=EU Kd;have hn:l.length<=c.Aa.length:=by have:=(D6 Fp).1;omega
   refine⟨Ay c l,Mc (PQ hv.over) (by have:=hv.few;omega),by unfold QR;rw[if_pos h0],fun W hB=>(Rk.out W hB).mono ?_⟩;rintro e w' ⟨g,t,rfl,AW,hx,_⟩;obtain⟨rfl,rfl⟩:=hx h0;exact⟨_,_,_,_,_,_,_,_,_,_,_,_,_,_,_,_,_,_,rfl,AW⟩
  .refine⟨0,by omega,by unfold QR;rw[if_neg h0,i_],fun W hB=>(Rk.out W hB).mono ?_⟩
   rintro e w' ⟨g,t,rfl,AW,_,hx⟩;obtain⟨rfl,rfl⟩:=hx h0;exact⟨_,_,_,_,_,_,_,_,_,_,_,_,_,_,_,_,_,_,rfl,AW⟩
 obtain⟨t,eL,O2,hK⟩:=key;have HK:=Zb hK;have HT:=Zb O2;obtain⟨E,hE⟩:∃E,E=Bx c l:=⟨_,rfl⟩;rw[<-hE]at HK⊢;clear hK O2 hE;go_enter Lp.func51,n51;go_wp2_with (first|(go_at_call 119;refine(HK.out _ Bb).mono ?_;rintro e w1 ⟨q1,q2,q3,q4,q5,n1,n2,n3,n4,n5,d1,d2,d3,d4,d5,k0,k1,k2,rfl,AW⟩;have Bg:=Bb.trans (AW.mono Bb.size))|(go_at_call 120;refine(xm eL).mono ?_;rintro e w2 ⟨v,rfl,CU,hv,_⟩;have BS:=(bA Bg).trans (CU.mono (bA Bg).size);obtain⟨a7,c7,rfl,l7,m7⟩:=hv.val));go_ret2;refine⟨_,rfl,BS,?_⟩;rw[<-HT.out];exact Sl.imp hv (fun x (hx:Cf _ _ x)=>⟨by have h1:=hx.1;have h2:=Bg.size;simp at h1;omega,hx.2⟩) fun _ _ x=>x
def BB:Nat->Nat->List (List Int)
 |0,_=> [[]]
 |m+1,n=>((ZL n).drop m).flatMap fun last=>(BB m last).map (· ++ [(last:Int)])
def Un {fn:Func}{p u:Tmp}{ty:Zr}(h:fn.results= #[.cell p ty,.tmp u])(tmps:Array Ze)(P:Zp)(w:Zc):
  (results fn tmps).run P w=((asAddr (tmps.getD p Zf)).run P w).andThen fun a w₁=>((loadVar ty a).run P w₁).andThen fun v w₂=>.ok (.tuple #[v,tmps.getD u Zf]) w₂:=by
 simp only[results,h];simp[zm,zB]
def eh (h:∃a c,v=.slice a n c/\n<=c/\c<=maxLen):∃n a c,v=.slice a n c:=by
 obtain⟨a,c,e,_⟩:=h;exact⟨n,a,c,e⟩
def ala (w:Zc)(c:A4)(l:List Int)(e:Ending)(w':Zc):Prop:=∃(u1 u2 u3 u4 u5:Ze),e=.returned (.tuple #[.agg #[u1,u2,u3,u4,u5],R J (Bx c l)])/\Bl w w'/\(Bx c l=0->RC (Cf w.heap.size w') w' u1 u2 u3 u4 u5 (Ea c l (Ay c l)))
def ue (w:Zc)(v1 v2 v3 v4 v5 a b c:Ze):Sem.run Lp (Instr.field 112 (.agg #[v1,v2,v3,v4,v5,a,b,c]) 0) w=.ok (.agg #[v1,v2,v3,v4,v5]) w:=by
 rfl
def c59 (h:RC S w v1 v2 v3 v4 v5 c)(hl:SI S w v6 l)(hS:∀b,S b->b<w.heap.size)(UE:∀i,i<c.Aa.length->(Ah c.Aa i).over.length<=1000):
  Calls Lp 59 #[.agg #[v1,v2,v3,v4,v5],v6] w (ala w c l):=by
 obtain⟨a1,c1,rfl,l1,m1⟩:=h.base.val;obtain⟨a2,c2,rfl,l2,m2⟩:=h.Af.val;obtain⟨a3,c3,rfl,l3,m3⟩:=h.hooks.val;obtain⟨a4,c4,rfl,l4,m4⟩:=h.Aa.val;obtain⟨a5,c5,rfl,l5,m5⟩:=h.now.val;obtain⟨a6,c6,rfl,l6,m6⟩:=hl.val;have Gx:=CI;have Bb:Bl w ((w.alloc (I #[U a1 c.base.length c1,U a2 c.Af.length c2,U a3 c.hooks.length c3,U a4 c.Aa.length c4,U a5 c.now.length c5] 26)).alloc (I #[U none 0 0,U none 0 0,U none 0 0,U none 0 0,U none 0 0] 26)):=bA (bA (Zg _ _));by_cases h0:Bx c l=0
 .obtain⟨xv,_⟩:=A7 h0
  obtain⟨Kd,Fp⟩:=A7 xv;have hv:=EU Kd;obtain⟨Tl,_⟩:=D6 Fp;have sD:=hv.xr;have hfw:=hv.few;have oV:=hv.EG;have hea:=hv.QG;have hho:=hv.hooks;have TZ:∀x,x∈Av (Ay c l)->0<=x/\x<c.Aa.length:=Kc hv (by omega);have eL:Ay c l<8:=Mc (PQ hv.over) (by omega);have Rk:Hid (∀W,Bl w W->Calls Lp 119 #[.agg #[U a1 c.base.length c1,U a2 c.Af.length c2,U a3 c.hooks.length c3,U a4 c.Aa.length c4,U a5 c.now.length c5],U a6 l.length c6] W fun e w'=>e=.returned (.tuple #[.agg #[U a1 c.base.length c1,U a2 c.Af.length c2,U a3 c.hooks.length c3,U a4 c.Aa.length c4,U a5 c.now.length c5,R .u8 (Au c.Aa 0),R .u8 (Au c.Aa 1),R .u8 (Au c.Aa 2)],R .u8 (Ay c l),R J 0])/\Bl W w'):=Zb fun W hB=>(xu (w:=W) (h.later hB) (hl.later hB) (AE hS hB)).mono (by
   rintro e w' ⟨g,t,rfl,AW,hx,_⟩;obtain⟨rfl,rfl⟩:=hx h0;rw[h0];exact⟨rfl,AW⟩)
  have sM:=Zb (fun W (hB:Bl w W)=>c92 (w:=W) (l:=l) (t:=Ay c l) (h.later hB) (hl.later hB) (AE hS hB) eL TZ (fun i hi=>by have:=hv.left i hi;omega) (by omega) (by omega) (by omega) (by omega) (by omega) (by omega) (fun i hi=>⟨by have:=hv.Ak i hi;omega,UE i hi⟩) (by omega) (Au c.Aa 0) (Au c.Aa 1) (Au c.Aa 2));have HZ:=Zb h0;obtain⟨k0,eH⟩:∃x,x=Au c.Aa 0:=⟨_,rfl⟩;obtain⟨k1,hk1⟩:∃x,x=Au c.Aa 1:=⟨_,rfl⟩;obtain⟨k2,hk2⟩:∃x,x=Au c.Aa 2:=⟨_,rfl⟩;rw[<-eH, <-hk1, <-hk2]at Rk sM;obtain⟨t,ht⟩:∃x,x=Ay c l:=⟨_,rfl⟩;have HT:=Zb ht;rw[<-ht]at Rk sM;clear h0 xv Kd Fp hv Tl sD hfw oV hea hho TZ eL eH hk1 hk2 ht;go_enter Lp.func59,n59;go_wp2_with (first|(go_at_call 119;refine(Rk.out _ Bb).mono ?_;rintro e w1 ⟨rfl,AW⟩;have Bg:=Bb.trans (AW.mono Bb.size);obtain⟨Fo,DX⟩:=QE AW;obtain⟨NC,eK⟩:=DV AW)|(go_at_call 92;refine(sM.out _ (bA Bg)).mono ?_;rintro e w2 ⟨u1,u2,u3,u4,u5,rfl,CU,iy⟩;obtain⟨n1,q1,d1,rfl⟩:=(eh iy.base.val);obtain⟨n2,q2,d2,rfl⟩:=(eh iy.Af.val);obtain⟨n3,q3,d3,rfl⟩:=(eh iy.hooks.val);obtain⟨n4,q4,d4,rfl⟩:=(eh iy.Aa.val);obtain⟨n5,q5,d5,rfl⟩:=(eh iy.now.val);obtain⟨ND,Kx⟩:=DV CU;have hz:=Wf CU;have BS:=(bA Bg).trans (CU.mono (bA Bg).size)));rw[ue];go_wp2_with (fail);refine ZU (v:=.tuple #[.agg #[U q1 n1 d1,U q2 n2 d2,U q3 n3 d3,U q4 n4 d4,U q5 n5 d5],R J 0]) (by rw[Un rfl];go_simp) rfl ?_;have Dv:=BS;refine⟨U q1 n1 d1,U q2 n2 d2,U q3 n3 d3,U q4 n4 d4,U q5 n5 d5,by rw[HZ.out],?_,fun _=>?_⟩
  .repeat (with_reducible first|exact BS|refine bA ?_|(refine bS ?_ (by omega))|refine bD ?_|refine bN ?_)
  .rw[<-HT.out]
   rw[ZG]at iy;have Bn:∀b,Cf (w1.heap.size+1) w2 b->b≠w.heap.size+1:=fun b hb e=>by have:=hb.1;omega
   exact(iy.Aw (iA (iA (iA (iA (iA (CC.refl _ _) Bn) Bn) Bn) Bn) Bn)).imp fun b hb=>⟨by have:=hb.1;omega,by simp only[World.size_setCell];exact hb.2⟩
 .have Rk:Hid (∀W,Bl w W->Calls Lp 119 #[.agg #[U a1 c.base.length c1,U a2 c.Af.length c2,U a3 c.hooks.length c3,U a4 c.Aa.length c4,U a5 c.now.length c5],U a6 l.length c6] W fun e w'=>e=.returned (.tuple #[.agg #[U none 0 0,U none 0 0,U none 0 0,U none 0 0,U none 0 0,R .u8 0,R .u8 0,R .u8 0],R .u8 0,R J (Bx c l)])/\Bl W w'):=Zb fun W hB=>(xu (w:=W) (h.later hB) (hl.later hB) (AE hS hB)).mono (by
   rintro e w' ⟨g,t,rfl,AW,_,hx⟩;obtain⟨rfl,rfl⟩:=hx h0;exact⟨rfl,AW⟩)
  obtain⟨x,hx⟩:∃x,x=Bx c l:=⟨_,rfl⟩;rw[<-hx]at Rk h0;have HX:=Zb hx;clear hx;go_enter Lp.func59,n59;go_wp2_with (go_at_call 119;refine(Rk.out _ Bb).mono ?_;rintro e w1 ⟨rfl,AW⟩;have Bg:=Bb.trans (AW.mono Bb.size);obtain⟨Fo,DX⟩:=QE AW;obtain⟨NC,eK⟩:=DV AW);refine ZU (v:=.tuple #[.agg #[U none 0 0,U none 0 0,U none 0 0,U none 0 0,U none 0 0],R J x]) (by rw[Un rfl];go_simp) rfl ?_;refine⟨U none 0 0,U none 0 0,U none 0 0,U none 0 0,U none 0 0,by rw[HX.out],?_,fun y=>absurd (HX.out.trans y) h0⟩
  repeat (with_reducible first|exact Bg|refine bA ?_|(refine bS ?_ (by omega))|refine bD ?_|refine bN ?_)
def g64 (w:Zc)(x y:ZbX)(xs ys:Array Ze):(eqGuard .neq 64 x y (.agg xs) (.agg ys)).run Lp w=.ok () w:=run_eqGuard_agg w _ _ _ _ _ _ (by kernel_rfl)
def q64 (w:Zc)(a b:Int):(binOp .neq 64 (.agg #[R J a,R J b]) (.agg #[R J a,R J b])).run Lp w=.ok (.bool false) w:=by
 rw[run_neq_struct,run_equalIn_agg (ht:=by kernel_rfl) (hp:=by kernel_rfl)];simp[go_sem]
def Wv:IM l l=true:=decide_eq_true rfl
def jf {l:List (Int×Int)}:Wr l l=true:=decide_eq_true rfl
def c97 {u3:Ze}{s:Aq}(hp:SP S w v2 s.Ak)(ho:SI S w v3 s.over)(Xd:SP T w u2 s.Ak)(aM:SI T w u3 s.over)(hS:∀b,S b->b<w.heap.size)(hT:∀b,T b->b<w.heap.size):
  Calls Lp 97 #[.agg #[R J s.low,R J s.high,v2,v3,R J s.left],.agg #[R J s.low,R J s.high,u2,u3,R J s.left]] w fun e w'=>e=.returned (.bool true)/\Bl w w':=by
 obtain⟨a1,c1,rfl,l1,m1⟩:=hp.val;obtain⟨a2,c2,rfl,l2,m2⟩:=ho.val;obtain⟨a3,c3,rfl,l3,m3⟩:=Xd.val;obtain⟨a4,c4,rfl,l4,m4⟩:=aM.val;have Gx:=CI;have Bb:Bl w ((w.alloc (I #[R J s.low,R J s.high,U a1 s.Ak.length c1,U a2 s.over.length c2,R J s.left] 62)).alloc (I #[R J s.low,R J s.high,U a3 s.Ak.length c3,U a4 s.over.length c4,R J s.left] 62)):=bA (bA (Zg _ _));have n9:=Zb (fun W (hB:Bl w W)=>uP (w:=W) (ho.later hB) (aM.later hB) (AE hS hB) (AE hT hB));rw[Wv]at n9;go_enter Lp.func97,n97;go_wp2_with (go_at_call 46;refine(n9.out _ Bb).mono ?_;rintro e w1 ⟨rfl,AW⟩;have Bg:=Bb.trans (AW.mono Bb.size);obtain⟨Fo,DX⟩:=QE AW;obtain⟨NC,eK⟩:=DV AW);have n1:=(AW.block w.heap.size (by simp;omega)).trans (Bo (Bt w (I #[R J s.low,R J s.high,U a1 s.Ak.length c1,U a2 s.over.length c2,R J s.left] 62)) _);have n2:=(AW.block (w.heap.size+1) (by simp)).trans (IJ w _ _);have r1:=ch (i:=2) n1 rfl;have r2:=ch (i:=2) n2 rfl;clear n1 n2 AW NC eK;go_loopg [5] s.Ak.length (fun g i wr=>∃k:Nat,k<=s.Ak.length/\g=s.Ak.length - k/\i=.int J k/\Bl w1 wr)
 case atStart=>exact⟨0,Zn _,rfl,rfl,Zg _ _⟩
 case round=>
  obtain⟨k,hk,rfl,rfl,hB⟩:=hrel;have EV:=Bg.trans (hB.mono Bg.size);have r1':=(hB.cell (p:=⟨w.heap.size,2,none⟩) Fo).trans r1;have r2':=(hB.cell (p:=⟨w.heap.size+1,2,none⟩) DX).trans r2;by_cases AA:k<s.Ak.length
  .obtain⟨b1,o1,rfl,EJ,h1,lL⟩:=hp.at_ AA
   obtain⟨b2,o2,rfl,EA,h2,h2'⟩:=Xd.at_ AA;rw[<-EV.cell (p:=⟨b1,o1+k*2,none⟩) (hS b1 EJ)]at h1;rw[<-EV.cell (p:=⟨b1,o1+k*2+1,none⟩) (hS b1 EJ)]at lL;rw[<-EV.cell (p:=⟨b2,o2+k*2,none⟩) (hT b2 EA)]at h2;rw[<-EV.cell (p:=⟨b2,o2+k*2+1,none⟩) (hT b2 EA)]at h2';have i1:(k:Int)<(s.Ak.length:Int):=by omega
   have aBF:=q64;have aBG:=g64;go_wp2;go_quiet (fail);go_wp2;go_roundg (s.Ak.length - (k+1))
   case rel=>exact⟨k+1,by omega,rfl,by go_num,zl hB _⟩
   case measure=>omega
  .go_wp2
   go_ret;exact⟨rfl,EV⟩
def asN {u3:Ze}{s:Aq}(hp:SP S w v2 s.Ak)(ho:SI S w v3 s.over)(Xd:SP T w u2 s.Ak)(aM:SI T w u3 s.over)(hS:∀b,S b->b<w.heap.size)(hT:∀b,T b->b<w.heap.size):
  ∀W,Bl w W->Calls Lp 97 #[.agg #[R J s.low,R J s.high,v2,v3,R J s.left],.agg #[R J s.low,R J s.high,u2,u3,R J s.left]] W fun e w'=>e=.returned (.bool true)/\Bl W w':=
 fun _ hB=>c97 (hp.later hB) (ho.later hB) (Xd.later hB) (aM.later hB) (AE hS hB) (AE hT hB)
def c36 {u3:Ze}(h:RC S w v1 v2 v3 v4 v5 c)(g:RC T w u1 u2 u3 u4 u5 c)(hS:∀b,S b->b<w.heap.size)(hT:∀b,T b->b<w.heap.size):
  Calls Lp 36 #[.agg #[v1,v2,v3,v4,v5],.agg #[u1,u2,u3,u4,u5]] w fun e w'=>e=.returned (.bool true)/\Bl w w':=by
 obtain⟨a1,c1,rfl,l1,m1⟩:=h.base.val;obtain⟨a2,c2,rfl,l2,m2⟩:=h.Af.val;obtain⟨a3,c3,rfl,l3,m3⟩:=h.hooks.val;obtain⟨a4,c4,rfl,l4,m4⟩:=h.Aa.val;obtain⟨a5,c5,rfl,l5,m5⟩:=h.now.val;obtain⟨b1,d1,rfl,k1,n1⟩:=g.base.val;obtain⟨b2,d2,rfl,k2,n2⟩:=g.Af.val;obtain⟨b3,d3,rfl,k3,n3⟩:=g.hooks.val;obtain⟨b4,d4,rfl,k4,n4⟩:=g.Aa.val;obtain⟨b5,d5,rfl,k5,n5⟩:=g.now.val;have Gx:=CI;have Bb:Bl w ((w.alloc (I #[U a1 c.base.length c1,U a2 c.Af.length c2,U a3 c.hooks.length c3,U a4 c.Aa.length c4,U a5 c.now.length c5] 26)).alloc (I #[U b1 c.base.length d1,U b2 c.Af.length d2,U b3 c.hooks.length d3,U b4 c.Aa.length d4,U b5 c.now.length d5] 26)):=bA (bA (Zg _ _));have r0:=fun {i:Nat} {v:Ze}=>ch (i:=i) (v:=v) (Bo (Bt w (I #[U a1 c.base.length c1,U a2 c.Af.length c2,U a3 c.hooks.length c3,U a4 c.Aa.length c4,U a5 c.now.length c5] 26)) (I #[U b1 c.base.length d1,U b2 c.Af.length d2,U b3 c.hooks.length d3,U b4 c.Aa.length d4,U b5 c.now.length d5] 26));have r1:=fun {i:Nat} {v:Ze}=>ch (i:=i) (v:=v) (IJ w (I #[U a1 c.base.length c1,U a2 c.Af.length c2,U a3 c.hooks.length c3,U a4 c.Aa.length c4,U a5 c.now.length c5] 26) (I #[U b1 c.base.length d1,U b2 c.Af.length d2,U b3 c.hooks.length d3,U b4 c.Aa.length d4,U b5 c.now.length d5] 26));have HR:Hid (∀(W:Zc),YS ((w.alloc (I #[U a1 c.base.length c1,U a2 c.Af.length c2,U a3 c.hooks.length c3,U a4 c.Aa.length c4,U a5 c.now.length c5] 26)).alloc (I #[U b1 c.base.length d1,U b2 c.Af.length d2,U b3 c.hooks.length d3,U b4 c.Aa.length d4,U b5 c.now.length d5] 26)).heap.size ((w.alloc (I #[U a1 c.base.length c1,U a2 c.Af.length c2,U a3 c.hooks.length c3,U a4 c.Aa.length c4,U a5 c.now.length c5] 26)).alloc (I #[U b1 c.base.length d1,U b2 c.Af.length d2,U b3 c.hooks.length d3,U b4 c.Aa.length d4,U b5 c.now.length d5] 26)) W->
   W.cell? ⟨w.heap.size,1,none⟩=some (U a2 c.Af.length c2)/\W.cell? ⟨w.heap.size,2,none⟩=some (U a3 c.hooks.length c3)/\W.cell? ⟨w.heap.size,3,none⟩=some (U a4 c.Aa.length c4)/\W.cell? ⟨w.heap.size,4,none⟩=some (U a5 c.now.length c5)/\
   W.cell? ⟨w.heap.size+1,1,none⟩=some (U b2 c.Af.length d2)/\W.cell? ⟨w.heap.size+1,2,none⟩=some (U b3 c.hooks.length d3)/\W.cell? ⟨w.heap.size+1,3,none⟩=some (U b4 c.Aa.length d4)/\W.cell? ⟨w.heap.size+1,4,none⟩=some (U b5 c.now.length d5)):=Zb fun W hB=>by
  obtain⟨hc,_⟩:=DV hB;exact⟨(hc _ _ (by simp;omega)).trans (r0 rfl),(hc _ _ (by simp;omega)).trans (r0 rfl),(hc _ _ (by simp;omega)).trans (r0 rfl),(hc _ _ (by simp;omega)).trans (r0 rfl),(hc _ _ (by simp)).trans (r1 rfl),(hc _ _ (by simp)).trans (r1 rfl),(hc _ _ (by simp)).trans (r1 rfl),(hc _ _ (by simp)).trans (r1 rfl)⟩
 clear r0 r1;have HA:=Zb (fun W (hB:Bl w W)=>uP (w:=W) (h.base.later hB) (g.base.later hB) (AE hS hB) (AE hT hB));have HE:=Zb (fun W (hB:Bl w W)=>c43 (w:=W) (h.Af.later hB) (g.Af.later hB) (AE hS hB) (AE hT hB));have HH:=Zb (fun W (hB:Bl w W)=>uP (w:=W) (h.hooks.later hB) (g.hooks.later hB) (AE hS hB) (AE hT hB));have HN:=Zb (fun W (hB:Bl w W)=>uP (w:=W) (h.now.later hB) (g.now.later hB) (AE hS hB) (AE hT hB));rw[Wv]at HA HH HN;rw[jf]at HE;go_enter Lp.func36,n36;go_wp2_with (go_at_call 46;refine(HA.out _ Bb).mono ?_;rintro e w1 ⟨rfl,AW⟩;have gw:=Bb.trans (AW.mono Bb.size);obtain⟨x1,x2,x3,x4,y1,y2,y3,y4⟩:=HR.out _ AW);have hQ1:=AW;clear AW;refine(HE.out _ gw).mono ?_;rintro e w2 ⟨rfl,hC⟩;have hQ2:=hQ1.trans (hC.mono hQ1.size);have U0:=gw.trans (hC.mono gw.size);clear hC x1 x2 x3 x4 y1 y2 y3 y4;obtain⟨x1,x2,x3,x4,y1,y2,y3,y4⟩:=HR.out _ hQ2;dsimp only;go_wp2_with (fail);refine(HH.out _ U0).mono ?_;rintro e w3 ⟨rfl,hC⟩;have hQ3:=hQ2.trans (hC.mono hQ2.size);have pf:=U0.trans (hC.mono U0.size);clear hC x1 x2 x3 x4 y1 y2 y3 y4;obtain⟨x1,x2,x3,x4,y1,y2,y3,y4⟩:=HR.out _ hQ3;dsimp only;go_wp2_with (fail);refine(HN.out _ pf).mono ?_;rintro e w4 ⟨rfl,hC⟩;have aJ:=hQ3.trans (hC.mono hQ3.size);have hA4:=pf.trans (hC.mono pf.size);clear hC x1 x2 x3 x4 y1 y2 y3 y4;obtain⟨x1,x2,x3,x4,y1,y2,y3,y4⟩:=HR.out _ aJ;dsimp only;go_wp2_with (fail);clear x1 x2 x4 y1 y2 y4;go_loopg [5] c.Aa.length (fun g i wr=>∃k:Nat,k<=c.Aa.length/\g=c.Aa.length - k/\i=.int J k/\Bl w4 wr)
 case atStart=>exact⟨0,Zn _,rfl,rfl,Zg _ _⟩
 case round=>
  obtain⟨k,hk,rfl,rfl,hB⟩:=hrel;have EV:=hA4.trans (hB.mono hA4.size);have hQw:=aJ.trans (hB.mono aJ.size);clear x3 y3;obtain⟨_,_,x3,_,_,_,y3,_⟩:=HR.out _ hQw;by_cases AA:k<c.Aa.length
  .obtain⟨e1,o1,s2,s3,rfl,q1,h0,h1,h2,h3,h4,hp,ho⟩:=h.Aa.at_ AA
   obtain⟨e2,o2,t2,t3,rfl,q2,j0,j1,j2,j3,j4,Xd,aM⟩:=g.Aa.at_ AA;have H97:=Zb (asN hp ho Xd aM hS hT);obtain⟨sm,Nb⟩:∃sm,sm=Ah c.Aa k:=⟨_,rfl⟩;rw[<-Nb]at h0 h1 h4 j0 j1 j4 H97;clear Nb;have i1:(k:Int)<(c.Aa.length:Int):=by omega
   have X:=fun p=>Al p x3;have Y:=fun p=>Al p y3;have h0:=fun p=>Al p ((EV.cell (p:=⟨e1,o1+k*5,none⟩) (hS e1 q1)).trans h0);have h1:=fun p=>Al p ((EV.cell (p:=⟨e1,o1+k*5+1,none⟩) (hS e1 q1)).trans h1);have h2:=fun p=>Al p ((EV.cell (p:=⟨e1,o1+k*5+2,none⟩) (hS e1 q1)).trans h2);have h3:=fun p=>Al p ((EV.cell (p:=⟨e1,o1+k*5+3,none⟩) (hS e1 q1)).trans h3);have h4:=fun p=>Al p ((EV.cell (p:=⟨e1,o1+k*5+4,none⟩) (hS e1 q1)).trans h4);have j0:=fun p=>Al p ((EV.cell (p:=⟨e2,o2+k*5,none⟩) (hT e2 q2)).trans j0);have j1:=fun p=>Al p ((EV.cell (p:=⟨e2,o2+k*5+1,none⟩) (hT e2 q2)).trans j1);have j2:=fun p=>Al p ((EV.cell (p:=⟨e2,o2+k*5+2,none⟩) (hT e2 q2)).trans j2);have j3:=fun p=>Al p ((EV.cell (p:=⟨e2,o2+k*5+3,none⟩) (hT e2 q2)).trans j3);have j4:=fun p=>Al p ((EV.cell (p:=⟨e2,o2+k*5+4,none⟩) (hT e2 q2)).trans j4);have HB:=Zb (fun p=>EV.trans ((BA wr p).mono EV.size));have HQ:=Zb (fun p=>hB.trans ((BA wr p).mono hB.size));go_wp2;refine AH (by kernel_rfl) (by kernel_rfl) ?_
   repeat (first|go_big_quiet_step ((go_at_call 97;exact Bc (H97.out _ (HB.out _))))|quiet_step ((go_at_call 97;exact Bc (H97.out _ (HB.out _)))))
   refine zD ?_;rintro _ ⟨p,rfl⟩;clear X Y h0 h1 h2 h3 h4 j0 j1 j2 j3 j4;have hBp:=HQ.out p;go_wp2;go_roundg (c.Aa.length - (k+1))
   case rel=>exact⟨k+1,by omega,rfl,by go_num,hBp⟩
   case measure=>omega
  .go_wp2
   go_ret;exact⟨rfl,EV⟩
def ei (l:List Aq)(i:Nat)(x:Int):List Aq:=l.set i {Ah l i with left:=x}
def JM (l:List Aq)(i:Nat)(x:Int):(ei l i x).length=l.length:=Za6
def amx {l:List Aq}(hi:i<l.length)(x:Int)(j:Nat):Ah (ei l i x) j=if j=i then {Ah l i with left:=x} else Ah l j:=by
 unfold Ah ei;by_cases h:j=i
 .subst h
  simp[ZR,hi,Ah]
 .simp[ZR,h,Zbq h]
def aeJ {l:List Aq}(hi:i<l.length)(x:Int):Cv (ei l i x)=Cv l:=by
 unfold Cv ei;apply zM;intro j;simp only[zU];by_cases h:i=j
 .subst h
  rw[ze hi,Ct hi]
  rfl
 .rw[ZD h]
variable {x:Int}
def D'.left {base:Nat}{l:List Aq}(h:D' n w base (U (some ⟨g,0,none⟩) l.length cap) l)(hi:i<l.length):
  D' n (w.setCell ⟨g,i*5+4,none⟩ (R J x)) base (U (some ⟨g,0,none⟩) l.length cap) (ei l i x):=by
 obtain⟨vals,h1,h2⟩:=h;rcases h1.2 with⟨e,_⟩|⟨g',GR,cur,e,h3,h4,h5,h6,h7,h8⟩
 .cases e
 .cases e
  have hT:=(Am.refl (fun x=>x=g) w).DJ (i:=i*5+4) (v:=.int J x);have Bn:∀x,TT n w x->¬x=g:=fun x hx e=>TT.not (e▸hx) h4 ⟨by decide,by decide,by decide⟩;have hvl:=h1.1;refine⟨vals.set (i*5+4) (R J x),⟨by simp[hvl,JM],.inr ⟨g,cap,_,by rw[JM],h3,A8 h4 _,by simpa[JM]using h5,h6,by simpa[JM]using h7,?_⟩⟩,fun j y hy=>?_⟩
  .simp only[Zdl,ZdY,JM,h8]
  .have hj:=(Zl.1 hy).1
   rw[JM]at hj;unfold ei at hy;by_cases uX:i=j
   .subst uX
    rw[ze hi]at hy;cases hy;obtain⟨v2,v3,e1,e2,e3⟩:=h2 i _ (Ct hi);have e:((vals.set (i*5+4) (R J x)).drop (i*5)).take 5=[R J (Ah l i).low,R J (Ah l i).high,v2,v3,R J x]:=by
     have e0:((vals.set (i*5+4) (R J x)).drop (i*5)).take 5=(((vals.drop (i*5)).take 5).set 4 (R J x)):=by
      rw[List.drop_set,if_neg (by omega),ZdY,show i*5+4 - i*5=4 by omega]
     rw[e0,e1]
     rfl
    rw[e];exact uU ⟨v2,v3,rfl,e2,e3⟩ hT Bn
   .rw[ZD uX]at hy
    have e:((vals.set (i*5+4) (R J x)).drop (j*5)).take 5=(vals.drop (j*5)).take 5:=by
     apply zM;intro k;by_cases hk:k<5
     .rw[ZV hk,Yi,ZV hk,Yi,ZD (by omega)]
     .rw[ZJ (by simp;omega),ZJ (by simp;omega)]
    rw[e];exact uU (h2 j y hy) hT Bn
def uY.left {u3:Ze}(h:uY n w u1 u2 u3 (U (some ⟨g,0,none⟩) c.Aa.length cap) u5 c)(hi:i<c.Aa.length):
  uY n (w.setCell ⟨g,i*5+4,none⟩ (R J x)) u1 u2 u3 (U (some ⟨g,0,none⟩) c.Aa.length cap) u5 {c with Aa:=ei c.Aa i x}:=by
 obtain⟨_,cs,hg⟩:=h.row.own g rfl;have hT:=(Am.refl (fun x=>x=g) w).DJ (i:=i*5+4) (v:=.int J x);have Bn:∀x,TT n w x->¬x=g:=fun x hx e=>TT.not (e▸hx) hg ⟨by decide,by decide,by decide⟩;have hz:=hT.size;exact⟨O9 h.base hT Bn,kU h.Af hT Bn,O9 h.hooks hT Bn,h.row.left hi,Sl.imp (h.now.Aw (hT.same fun b hb e=>hb.2 (by rw[e];rfl))) (fun b hb=>⟨⟨hb.1.1,Zm hb.1.2 hz⟩,hb.2⟩) fun _ _ x=>x⟩
def uY.CX {u3:Ze}(h:uY n A u1 u2 u3 u4 u5 c)(hT:Am T A B)(hx:∀x,n<=x->¬T x):uY n B u1 u2 u3 u4 u5 c:=
 ⟨O9 h.base hT fun x h=>hx x h.1,kU h.Af hT fun x h=>hx x h.1,O9 h.hooks hT fun x h=>hx x h.1,h.row.CX hT (fun x h=>hx x h.1) (fun g hg=>hx g (h.row.own g hg).1),Sl.imp (h.now.Aw (hT.same fun b hb=>hx b hb.1.1)) (fun b hb=>⟨⟨hb.1.1,Zm hb.1.2 hT.size⟩,hb.2⟩) fun _ _ x=>x⟩
def Kk (ab:Nat->Nat):Nat->List Bool->Nat->Nat
 |_,[],s=>s
 |i,b::r,s=>Kk ab (i+1) r (if b=true then s|||IE (ab i) i else s)
def Sk (o:List (List Int))(D:List Bool)(l:List Int):Bool:=((ZL o.length).all fun i=> !(D.getD i false)||l.contains (i:Int))&&l.all fun x=>(o.getD x.toNat []).all fun y=>l.contains y
def Hc (n m i:Nat):List (List Int):=(BB m n).drop i++((ZL (n+1)).drop (m+1)).flatMap fun k=>BB k n
def Up (o:List (List Int))(D:List Bool):Bool:=(Hc o.length 0 0).find? (Sk o D)==some (Av (Kk (Ii o) 0 D 0))
def IU:List Bool:=[true,false]
def Dg (b:Bool):b∈IU:=by cases b<;>simp[IU]
def aeK:∀a∈Ij,∀d∈IU,Up [a.filter (· <1)] [d]=true:=by decide+kernel
def aeL:∀a∈Ij,∀b∈Ij,∀d∈IU,∀e∈IU,Up [a.filter (· <2),b.filter (· <2)] [d,e]=true:=by decide+kernel
def aeM:∀a∈Ij,∀b∈Ij,∀c∈Ij,∀d∈IU,∀e∈IU,∀f∈IU,Up [a,b,c] [d,e,f]=true:=by decide+kernel
def least {D:List Bool}(h1:1<=o.length)(hn:o.length<=3)(hD:D.length=o.length)(hr:∀l∈o,l.Pairwise (· < ·))(hx:∀l∈o,∀x∈l,0<=x/\x<o.length):Up o D=true:=by
 match o,D,h1,hn,hD,hr,hx with
 | [a],[d],_,_,_,hr,hx=>
  have h1:=hx a (by simp);have:=aeK a (C5 (hr a (by simp)) fun x h=>by have:=h1 x h;simp at this;omega) d (Dg d);rwa[filter_lt (fun x h=>by have:=h1 x h;simpa using this)]at this
 | [a,b],[d,e],_,_,_,hr,hx=>
  have h1:=hx a (by simp);have h2:=hx b (by simp);have:=aeL a (C5 (hr a (by simp)) fun x h=>by have:=h1 x h;simp at this;omega) b (C5 (hr b (by simp)) fun x h=>by have:=h2 x h;simp at this;omega) d (Dg d) e (Dg e);rwa[filter_lt (fun x h=>by have:=h1 x h;simpa using this),filter_lt (fun x h=>by have:=h2 x h;simpa using this)]at this
 | [a,b,c],[d,e,f],_,_,_,hr,hx=>
  exact aeM a (C5 (hr a (by simp)) fun x h=>by have:=hx a (by simp) x h;simpa using this) b (C5 (hr b (by simp)) fun x h=>by have:=hx b (by simp) x h;simpa using this)
   c (C5 (hr c (by simp)) fun x h=>by have:=hx c (by simp) x h;simpa using this) d (Dg d) e (Dg e) f (Dg f)
 |_::_::_::_::_,_,_,hn,_,_,_=>simp at hn
def Wx (l:List Int):IM l l=true:=by simp[IM]
def Cj.yD {b:Nat}(h:Bl w A)(hU:Cj b A B)(hb:w.heap.size<=b):Bl w B:=h.trans ((hU.CX (K:=fun x=>x=b) rfl).below (fun x hx=>by have:x=b:=hx;omega) h.size)
def IV (c:A4)(i:Int):Bool:=decide (0<(Ah c.Aa i.toNat).left)
def Wy {t:Nat}:(J_ c t=none)↔(Av t).all (IV c)=true:=by
 unfold J_;rw[List.find?_eq_none,zt];constructor
 .intro h x hx
  have:=h x hx;simp[Oz,IV]at this⊢;omega
 .intro h x hx
  have:=h x hx;simp[Oz,IV]at this⊢;omega
def Kl (h:Ca c l=0):Bx c l=if(Av (Ay c l)).all (IV c)=true then 0 else 12:=by
 unfold Bx;rw[B0 h];by_cases h2:J_ c (Ay c l)=none
 .rw[if_pos h2,if_pos (Wy.1 h2)]
 .rw[if_neg h2,if_neg fun x=>h2 (Wy.2 x)]
def Qc:List Aq->List Int->Bool
 |_,[]=>false
 |s,i::r=>decide ((Ah (EW s i.toNat) i.toNat).left=0)||Qc (EW s i.toNat) r
def Us:∀(l:List Int) (s:List Aq),l.Nodup->(∀x∈l,0<=x/\x<s.length)->(∀x∈l,1<=(Ah s x.toNat).left)->Qc s l= !(l.all fun i=>decide (0<(Ah (BP s l) i.toNat).left))
 | [],_,_,_,_=>rfl
 |i::r,s,hn,hx,hl=>by
  obtain⟨h1,h2⟩:=List.nodup_cons.1 hn;obtain⟨i0,i1⟩:=hx i (zo ..);have hi:i.toNat<s.length:=by omega
  have jP:∀x∈r,0<=x/\x<(EW s i.toNat).length:=fun x h=>by rw[FE];exact hx x (Z9 _ h)
  have Bn:∀x∈r,x.toNat≠i.toNat:=fun x h e=>h1 (by have:=(hx x (Z9 _ h)).1;rwa[show i=x by omega]);have ih:=Us r (EW s i.toNat) h2 jP (fun x h=>by rw[Hj hi,if_neg (Bn x h)];exact hl x (Z9 _ h));have e:(Ah (BP (EW s i.toNat) r) i.toNat).left=(Ah s i.toNat).left - 1:=by
   rw[IL r _ i.toNat jP (by rwa[Int.toNat_of_nonneg i0]),Hj hi,if_pos rfl]
  have TG:=hl i (zo ..);show(decide ((Ah (EW s i.toNat) i.toNat).left=0)||Qc (EW s i.toNat) r)= !(decide (0<(Ah (BP (EW s i.toNat) r) i.toNat).left)&&r.all fun j=>decide (0<(Ah (BP (EW s i.toNat) r) j.toNat).left));rw[ih,e,Hj hi,if_pos rfl,Bool.not_and]
  congr 1
  show decide ((Ah s i.toNat).left - 1=0)=_;by_cases h:(Ah s i.toNat).left=1
  .rw[h];rfl
  .rw[decide_eq_false (show¬(Ah s i.toNat).left - 1=0 by omega),decide_eq_true (show 0<(Ah s i.toNat).left - 1 by omega)];rfl
def af2 {k:Nat}(h:k<l.length):Qc s (l.drop k)=(decide ((Ah (EW s (nth l k).toNat) (nth l k).toNat).left=0)||Qc (EW s (nth l k).toNat) (l.drop (k+1))):=by
 obtain⟨hk,e⟩:=Zl.1 (A_ h);rw[Zu hk,e]
 rfl
def jk {n m:List Int}(he:Cv s=Cv c.Aa)(hn:Ig c n):Ig {c with Aa:=s,now:=m} n:=by
 have hz:=P8 he;have h1:=hn.1;refine⟨by show n.length=s.length;omega,fun i hi=>?_⟩;show(Ah s i).low<=nth n i/\nth n i<=(Ah s i).high;have:=ly he (i:=i) (by omega);simp only[Aq.mk.injEq]at this;rw[this.1,this.2.1];exact hn.2 i hi
def alu (hM:FG c)(hl:Ig c l)(h1:∀i,i<c.Aa.length->1<=(Ah c.Aa i).left):
  Bx c l=0/\(∀x∈Av (Ay c l),0<=x/\x<c.Aa.length)/\Bx (Ea c l (Ay c l)) c.now=(if Qc c.Aa (Av (Ay c l))=true then 12 else 0)/\Ay (Ea c l (Ay c l)) c.now=Ay c l:=by
 have hx:∀x∈Av (Ay c l),0<=x/\x<c.Aa.length:=Kc hM.valid (by have:=hl.1;omega);have hT:=aj (c:=c) (l:=l) (by have:=hl.1;have:=hM.now.1;omega) (Ay c l);have TG:∀x∈Av (Ay c l),1<=(Ah c.Aa x.toNat).left:=fun x h=>h1 _ (by have:=hx x h;omega);have he:=LO (Av (Ay c l)) c.Aa;have nT:∀i,i<(BP c.Aa (Av (Ay c l))).length->0<=(Ah (BP c.Aa (Av (Ay c l))) i).left/\(Ah (BP c.Aa (Av (Ay c l))) i).left<=4:=fun i hi=>by
  rw[Mh]at hi;have a:=h1 i hi;have b:=(hM.seam i hi).left;rcases Ke (Av (Ay c l)) c.Aa i (IK _) hx with e|e<;>rw[e]<;>omega
 have UF:FG (Ea c l (Ay c l)):=oJ hM he nT hl;have hb:=Kl (UF.asked (jk (m:=l) he hM.now));rw[hT]at hb;refine⟨?_,hx,?_,hT⟩
 .rw[Kl (hM.asked hl),if_pos]
  exact zt.2 fun x h=>by have:=TG x h;simp[IV];omega
 .rw[hb,Us _ _ (IK _) hx TG]
  have e:(Av (Ay c l)).all (IV (Ea c l (Ay c l)))=(Av (Ay c l)).all fun i=>decide (0<(Ah (BP c.Aa (Av (Ay c l))) i.toNat).left):=rfl;rw[e];cases(Av (Ay c l)).all fun i=>decide (0<(Ah (BP c.Aa (Av (Ay c l))) i.toNat).left)<;>rfl
def aaM (s:List Aq)(h:i<s.length):ei s i ((Ah s i).left - 1)=EW s i:=by
 apply zM;intro j;unfold ei EW;by_cases e:i=j
 .subst e
  rw[ze h,List.getElem?_modify,Ct h];simp
 .rw[ZD e,List.getElem?_modify]
  simp[e]
def uY.ab1 {m:Nat}{u3:Ze}(hm:c.Aa.length=m)(h:uY n w u1 u2 u3 (U (some ⟨g,0,none⟩) m cap) u5 c)(hi:i<m):
  uY n (w.setCell ⟨g,i*5+4,none⟩ (R J x)) u1 u2 u3 (U (some ⟨g,0,none⟩) m cap) u5 {c with Aa:=ei c.Aa i x}:=by
 subst hm;exact h.left hi
def abW (h:RC S w v1 v2 v3 v4 v5 c)(hl:SI S w v6 l)(hS:∀b,S b->b<w.heap.size)(UE:∀i,i<c.Aa.length->(Ah c.Aa i).over.length<=1000)(h0:Bx c l=0)(hn:c.Aa.length=n):
  Calls Lp 59 #[.agg #[v1,v2,v3,v4,v5],v6] w fun e w'=>∃n1 q1 d1 n2 q2 d2 n3 q3 d3 q4 d4 n5 q5 d5,e=.returned (.tuple #[.agg #[U q1 n1 d1,U q2 n2 d2,U q3 n3 d3,U q4 n d4,U q5 n5 d5],R J 0])/\Bl w w'/\RC (Cf w.heap.size w') w' (U q1 n1 d1) (U q2 n2 d2) (U q3 n3 d3) (U q4 n d4) (U q5 n5 d5) (Ea c l (Ay c l)):=by
 refine(c59 h hl hS UE).mono ?_;rintro e w' ⟨u1,u2,u3,u4,u5,rfl,hB,hR⟩;have hR:=hR h0;obtain⟨n1,q1,d1,rfl⟩:=eh hR.base.val;obtain⟨n2,q2,d2,rfl⟩:=eh hR.Af.val;obtain⟨n3,q3,d3,rfl⟩:=eh hR.hooks.val;obtain⟨q4,d4,e4,_⟩:=hR.Aa.val;obtain⟨n5,q5,d5,rfl⟩:=eh hR.now.val;have e5:(Ea c l (Ay c l)).Aa.length=n:=(Mh _ _).trans hn;rw[e5]at e4;subst e4;exact⟨_,_,_,_,_,_,_,_,_,_,_,_,_,_,by rw[h0],hB,hR⟩
def FG.aaA (h:FG c):∀i,i<c.Aa.length->(Ah c.Aa i).over.length<=1000:=fun i hi=>by
 have:=h.few;have:=tD (h.seam i hi).rising fun x hx=>⟨((h.seam i hi).over x hx).1,((h.seam i hi).over x hx).2.1⟩;omega
def acU (h:RC S w v1 v2 v3 v4 v5 c)(hS:∀b,S b->b<w.heap.size)(hM:FG c)(hn:c.Aa.length=n):
  Calls Lp 33 #[.agg #[v1,v2,v3,v4,v5]] w fun e w'=>∃n1 q1 d1 n2 q2 d2 n3 q3 d3 g cap n5 q5 d5,e=.returned (.agg #[U q1 n1 d1,U q2 n2 d2,U q3 n3 d3,U (some ⟨g,0,none⟩) n cap,U q5 n5 d5])/\Bl w w'/\w.heap.size<=g/\CT w.heap.size w' (U q1 n1 d1) (U q2 n2 d2) (U q3 n3 d3) (U (some ⟨g,0,none⟩) n cap) (U q5 n5 d5) c:=by
 have h1:=hM.EG;have h2:=hM.QG;have h3:=hM.hooks;have h4:=hM.few;have h5:=hM.now.1;refine(ar4 h hS (by omega) (by omega) (by omega) (by omega) (by omega) fun i hi=>⟨by have:=(hM.seam i hi).few;omega,hM.aaA i hi⟩).mono ?_;rintro e w' ⟨u1,u2,u3,u4,u5,rfl,hB,hC⟩;obtain⟨n1,q1,d1,rfl⟩:=eh hC.base.val;obtain⟨n2,q2,d2,rfl⟩:=eh hC.Af.val;obtain⟨n3,q3,d3,rfl⟩:=eh hC.hooks.val;obtain⟨g,cap,rfl,hg⟩:=hC.row.ptr (by omega);obtain⟨n5,q5,d5,rfl⟩:=eh hC.now.val;rw[hn]at hC⊢;exact⟨_,_,_,_,_,_,_,_,_,_,_,_,_,_,rfl,hB,hg,hC⟩
def uY.box {q:Nat}{u3:Ze}{ln:List Int}{cs:Array Ze}(h:uY n A u1 u2 u3 u4 u5 c)(hq:A.heap[q]?=some (.cells cs 26 (0,0)))(hl:SI S A v ln)(hS:∀b,S b->b<A.heap.size/\b≠q):
  RC (fun x=>x<(A.setCell ⟨q,i,none⟩ v').heap.size) (A.setCell ⟨q,i,none⟩ v') u1 u2 u3 u4 v {c with now:=ln}:=by
 have hT:=(Am.refl (fun x=>x=q) A).DJ (i:=i) (v:=v');have Bn:∀x,TT n A x->¬x=q:=fun x hx e=>TT.not (e▸hx) hq ⟨by decide,by decide,by decide⟩;have hg:∀g,u4.ownBlock=some g->¬g=q:=fun g hg e=>by
  obtain⟨_,cs,hc⟩:=h.row.own g hg;subst e;rw[hq]at hc;cases hc
 exact⟨Sl.imp (O9 h.base hT Bn) (fun x hx=>hx.lt) fun _ _ x=>x,Sl.imp (kU h.Af hT Bn) (fun x hx=>hx.lt) fun _ _ x=>x,Sl.imp (O9 h.hooks hT Bn) (fun x hx=>hx.lt) fun _ _ x=>x,Sl.imp ((h.row.CX hT Bn hg).ss (Zj _)) (fun x hx=>hx.2) fun cs x hx=>by
   obtain⟨v2,v3,e,h2,h3⟩:=hx;exact⟨v2,v3,e,Sl.imp h2 (fun x hx=>hx.2) fun _ _ x=>x,Sl.imp h3 (fun x hx=>hx.2) fun _ _ x=>x⟩,
  Sl.imp (hl.Aw (hT.same fun b hb=>(hS b hb).2)) (fun x hx=>by have:=(hS x hx).1;have:=hT.size;show x<_;omega) fun _ _ x=>x⟩
def abZ {Sn:Nat->Prop}{lv:Ze}{nums:List Int}(hn:SI Sn w lv nums)(EP:∀x,Sn x->x<w.heap.size)(hG:Iv w):Calls Lp 11 #[lv] w (Two w (.bool true)):=by
 obtain⟨la,lc,rfl,_⟩:=hn.val;have Gx:=CI;have H44:=Zb (fun(W:Zc) (b d:Nat) (h1:SI Sn W (U la nums.length lc) nums) (h2:∀x,Sn x->x<W.heap.size/\x≠b) (h3:BQ W b (U la nums.length lc) d) (h4:d+1000<4611686018427387904)=>show Calls Lp 44 #[.pointer (some ⟨b,0,none⟩),R J 3] W (iR W b (U la nums.length lc) d 3) from arz (s:=3) h1 h2 h3 h4 (by decide));go_enter Lp.func11,n11;go_wp2_with (first|(go_at_call 27;refine(c27 _ ⟨_,_,_,rfl⟩ _).mono ?_;rintro e W1 ⟨rfl,hw⟩;(have Bb:Bl w W1:=by rw[hw];exact bA (Zg _ _));(have LK:BQ W1 w.heap.size (U la nums.length lc) 0:=⟨1,by rw[hw];exact Bt _ _⟩);clear hw;obtain⟨b,hb⟩:∃b,b=w.heap.size:=⟨_,rfl⟩;rw[<-hb]at LK⊢;have HB:=Zb hb;clear hb)|(go_at_call 44;refine(H44.out _ _ _ (hn.later Bb) (fun x hx=>⟨by have:=EP x hx;have:=Bb.size;omega,by have:=EP x hx;have:=HB.out;omega⟩) LK (by omega)).mono ?_;rintro e W2 ⟨c,u1,u2,u3,u4,u5,d2,rfl,Hl,vK,QU,hM,xX⟩;obtain⟨a1,c1,rfl,_⟩:=QU.base.val;obtain⟨a2,c2,rfl,_⟩:=QU.Af.val;obtain⟨a3,c3,rfl,_⟩:=QU.hooks.val;obtain⟨g,c4,rfl,ks⟩:=QU.row.ptr (by have:=hM.few;omega);obtain⟨a5,c5,rfl,_⟩:=QU.now.val));have G0:b<=w.heap.size/\w.heap.size<=b:=by have:=HB.out;omega
 have DX:=Bb.size;have EJ:b<W1.heap.size:=LK.lt;have EI:=Hl.Cg.size;have AW:=Cj.yD Bb Hl.Cg (by omega);have eM:=(hn.later Bb).Cg Hl.Cg (fun x hx=>⟨by have:=EP x hx;omega,by have:=EP x hx;omega⟩);obtain⟨X,hX⟩:∃X,X=W2.alloc (I #[U a1 c.base.length c1,U a2 c.Af.length c2,U a3 c.hooks.length c3,U (some ⟨g,0,none⟩) c.Aa.length c4,U a5 c.now.length c5] 26):=⟨_,rfl⟩;have Io:Bl W2 X:=by rw[hX];exact bA (Zg _ _)
 have hK:X.heap[W2.heap.size]?=some (I #[U a1 c.base.length c1,U a2 c.Af.length c2,U a3 c.hooks.length c3,U (some ⟨g,0,none⟩) c.Aa.length c4,U a5 c.now.length c5] 26 (0,0)):=by rw[hX];exact Bt _ _
 obtain⟨q,hq⟩:∃q,q=W2.heap.size:=⟨_,rfl⟩;rw[<-hq]at hK;rw[<-hX, <-hq];have uV:q<X.heap.size:=(Za.1 hK).1;have Nk:W2.heap.size<=q/\q<=W2.heap.size:=by omega
 clear hX hq;have I9:=hM.few;have hS:∀x,Cf W1.heap.size W2 x->x<X.heap.size/\x≠b:=fun x hx=>⟨by have:=hx.2;have:=Io.size;omega,by have:=hx.1;omega⟩;refine(c30 (QU.rc.later Io) hS (eM.later Io) (fun x hx=>⟨by have:=EP x hx;have:=Io.size;omega,by have:=EP x hx;omega⟩) (Hl.FH.later Io) (by omega) (by omega) (fun i hi=>by have:=(hM.seam i hi).step;omega)).mono ?_;rintro e W3 ⟨v3,l,d3,rfl,Ho,uZ,hd3,Nn,Rx,Ni⟩;obtain⟨p3,t3,rfl,_⟩:=Nn.val;have A8:Ig c l:=⟨Rx,fun i hi=>⟨(Ni i (by omega)).1,(Ni i (by omega)).2 (hM.seam i (by omega)).step.2.1⟩⟩;have Ep:=Ho.at_ hK (by omega);have hC3:=QU.CX (T:=fun x=>x=b) ((Am.later Io).trans (Ho.CX rfl)) (fun x hx e=>by omega);have Bg:=Cj.yD (AW.trans (Io.mono AW.size)) Ho (by omega);have Sa:=Ho.size;have hzX:=Io.size;have hn3:=(eM.later Io).Cg Ho (fun x hx=>⟨by have:=EP x hx;omega,by have:=EP x hx;omega⟩);have O0:=Zb A8;have HM:=Zb hM;have hgg:g<W2.heap.size:=by obtain⟨_,cs,hc⟩:=QU.row.own g rfl;exact(Za.1 hc).1
 clear A8 Rx Ni Ho hK eM Hl LK hn;dsimp only;go_wp2;go_loopg [6] c.Aa.length (fun gg i wr=>∃(k:Nat) (sm:List Aq) (d':Nat),k<=c.Aa.length/\gg=c.Aa.length - k/\i=.int J k/\sm.length=c.Aa.length/\Cv sm=Cv c.Aa/\(∀j,j<c.Aa.length->0<=(Ah sm j).left/\(Ah sm j).left<=4/\(j<k->1<=(Ah sm j).left))/\Am (fun x=>x=b\/x=g) W3 wr/\BQ wr b (U la nums.length lc) d'/\d'<=d3+k/\uY W1.heap.size wr (U a1 c.base.length c1) (U a2 c.Af.length c2) (U a3 c.hooks.length c3) (U (some ⟨g,0,none⟩) c.Aa.length c4) (U a5 c.now.length c5) {c with Aa:=sm})
 case atStart=>exact⟨0,c.Aa,d3,Zn _,rfl,rfl,rfl,rfl,fun j hj=>⟨(hM.seam j hj).left.1,(hM.seam j hj).left.2,fun h=>absurd h (ZaM _)⟩,Am.refl _ _,uZ,Zj _,hC3⟩
 case round=>
  obtain⟨k,sm,d',hk,rfl,rfl,ajs,ac0,aaE,hT,ot,Qo,hCr⟩:=hrel;have O7:=Zb ajs;have HER:=Zb ac0;have HLF:=Zb aaE;clear ajs ac0 aaE;have hKr:=(hT.block q (by omega) (by omega)).trans Ep;by_cases AA:k<c.Aa.length
  .have hks:k<sm.length:=by have:=O7.out;omega
   obtain⟨b',o',s2,s3,e,GZ,_,_,_,_,pv,_,_⟩:=hCr.rc.Aa.at_ (i:=k) hks;cases e;obtain⟨_,gs,hgs⟩:=hCr.row.own g rfl;obtain⟨lf,nT⟩:∃lf,lf=(Ah sm k).left:=⟨_,rfl⟩;have Rx:0<=lf/\lf<=4:=by rw[nT];exact⟨(HLF.out k AA).1,(HLF.out k AA).2.1⟩
   change wr.cell? ⟨g,0+k*5+4,none⟩=some (R J (Ah sm k).left) at pv;rw[<-nT,zK]at pv;have HLE:=Zb nT;clear nT;have Rh:(k:Int)<(c.Aa.length:Int):=by omega
   have adW:(0:Int)<=(k:Int):=by omega
   obtain⟨K,Ml⟩:∃K:Nat->Prop,K=fun x=>x=b:=⟨_,rfl⟩;have uS:K b:=by rw[Ml]
   have kV:¬K q:=by rw[Ml];intro x;omega
   have hKg:¬K g:=by rw[Ml];intro x;omega
   clear Ml;have z0:=fun p:Tw K wr=>p.cell (ch (i:=3) hKr (v:=.slice (some ⟨g,0,none⟩) c.Aa.length c4) rfl) kV;have z1:=fun p:Tw K wr=>p.cell pv hKg;have kx:=ch (i:=3) hKr (v:=.slice (some ⟨g,0,none⟩) c.Aa.length c4) rfl;go_wp2;clear kx;refine Dm (S:=fun W=>∃p:Tw K wr,W=p.v) [14] [(false,10),(false,11),(false,12),(false,13),(false,14)] [0,1,2,3,4,5,6,7,8,9] (by kernel_rfl) (fun _ _ d _ _ h=>by cases d<;>exact h) (by kernel_rfl) (BU (Am.later (Zg _ _).drew)) ?_;refine Br _ _ (by kernel_rfl) ?_;simp only[zr,zL,Z1,ZQ,ZP]
   repeat (first|go_big_quiet_step (fail)|quiet_step (fail))
   refine zD ?_;clear z0 z1;change Ec _ _ _ _ _ _ _;have hUd:Cj b wr wr.drew:=(Cj.refl b wr).below (Zg _ _).drew;have hzr:=hT.size;have hnr:SI Sn wr (U la nums.length lc) nums:=hn3.Aw (hT.same fun x hx e=>by have:=EP x hx;rcases e with e|e<;>omega);refine Ex (f:=61) (args:= #[.pointer (some ⟨b,0,none⟩),R J 1,R J 2]) rfl rfl (by go_simp) ((c61 (lo:=1) (hi:=2) (hnr.later (Zg wr.heap.size wr).drew) (fun x hx=>⟨by have:=EP x hx;show x<wr.heap.size;omega,by have:=EP x hx;omega⟩) (ot.later (Zg wr.heap.size wr).drew) (by omega) (by omega) (by omega)).mono ?_);rintro e w1 ⟨r,d5,rfl,hr,Rm,LK,hd1⟩;have hUr:=hUd.trans Rm;refine⟨_,rfl,.inr (BU (hUr.CX uS)),?_⟩;obtain⟨x,hx⟩:∃x,x=if lf<1+(r:Int) then 1+(r:Int) else lf:=⟨_,rfl⟩
   refine FC (v:=.int J x) rfl rfl (by rw[hx];go_simp) (.inr (BU (hUr.CX uS))) ?_;have ac1:=hUr.at_ hgs (by omega);have f4:=cf (i:=k*5+4) ac1;have r4:=((hUr.CX (K:=fun x=>x=b) rfl).same (S:=fun x=>¬x=b) (fun x hx=>hx)).cell (p:=⟨g,k*5+4,none⟩) (by show¬g=b;omega) pv;refine FC (v:=.pointer (some ⟨g,k*5,none⟩)) rfl rfl (by go_simp) (.inr (BU (hUr.CX uS))) ?_;refine FC (v:=.pointer (some ⟨g,k*5+4,none⟩)) rfl rfl (by go_simp) (.inr (BU (hUr.CX uS))) ?_;refine Ly (w':=w1.setCell ⟨g,k*5+4,none⟩ (R J x)) rfl rfl (by go_simp) (.inl (by simp)) ?_;have O5:1<=x/\x<=4:=by rw[hx];split<;>omega
   have Mr:Am (fun x=>x=b\/x=g) W3 (w1.setCell ⟨g,k*5+4,none⟩ (R J x)):=(hT.trans (hUr.CX (K:=fun x=>x=b\/x=g) (.inl rfl))).set (.inr rfl);have hC1:=(hCr.CX (hUr.CX (K:=fun x=>x=b) rfl) (fun x hx e=>by omega)).ab1 (i:=k) (x:=x) O7.out AA;have ou:BQ (w1.setCell ⟨g,k*5+4,none⟩ (R J x)) b (U la nums.length lc) d5:=LK.of (AY (by omega) _);have HH:=Zb (ZX Mr (ZX hC1 ou));clear Mr hC1 ou hx r4 f4 ac1 hgs LK Rm hUr hUd hnr hT ot hCr hKr pv;unfold Ec
   go_simp
   go_wp2;go_roundg (c.Aa.length - (k+1))
   case rel=>
    obtain⟨q1,q2,q3⟩:=HH.out;refine⟨k+1,ei sm k x,d5,AA,rfl,by go_num,by rw[JM];exact O7.out,(aeJ hks x).trans HER.out,fun j hj=>?_,q1,q3,by omega,q2⟩;rw[amx hks];have:=HLF.out j hj;split
    .exact⟨by show 0<=x;omega,O5.2,fun _=>O5.1⟩
    .exact⟨this.1,this.2.1,fun h=>this.2.2 (by omega)⟩
   case measure=>omega
  .obtain rfl:k=c.Aa.length:=by omega
   obtain⟨W0,hW0⟩:∃W0,W0=wr:=⟨_,rfl⟩;subst hW0;have hgb:W1.heap.size<=g:=(hCr.row.own g rfl).1;obtain⟨c',Pl⟩:∃c':A4,c'= {c with Aa:=sm}:=⟨_,rfl⟩;have hM':FG c':=by rw[Pl];exact oJ HM.out HER.out (fun i hi=>by have:=HLF.out i (by rw[<-O7.out];exact hi);exact⟨this.1,this.2.1⟩) HM.out.now
   have wa:Ig c' l:=by rw[Pl];exact jk (m:=c.now) HER.out O0.out
   have hF':∀i,i<c'.Aa.length->1<=(Ah c'.Aa i).left:=by rw[Pl];exact fun i hi=>(HLF.out i (by rw[<-O7.out];exact hi)).2.2 (by rw[<-O7.out];exact hi)
   have hz':c'.Aa.length=c.Aa.length:=by rw[Pl];exact O7.out
   have hn':c'.now=c.now:=by rw[Pl]
   rw[<-Pl]at hCr;have HZ:=Zb hz';have HN:=Zb hn';have lj:=Zb wa.1;have HM':=Zb hM';have HBK:=Zb (alu hM' wa hF');have hzT:=hT.size;have EV:Bl w W0:=Bg.trans (hT.below (fun x hx=>by rcases hx with rfl|rfl<;>omega) Bg.size);have kP:=hG.later EV;have hlr:SI (Cf X.heap.size W0) W0 (U p3 l.length t3) l:=Sl.imp (Nn.Aw (hT.same fun x hx e=>by have:=hx.1;rcases e with e|e<;>omega)) (T:=Cf X.heap.size W0) (fun x (hx:Cf _ _ x)=>⟨hx.1,Zm hx.2 hzT⟩) fun _ _ x=>x;have hRr:=hCr.rc;clear Pl hM' wa hF' hz' hn' hT ot hCr HLF HER O7 hd3 Qo hC3 hn3 uZ QU Nn;have pB:=Zb (show∀W,Bl W0 W->RC (fun x=>x<W.heap.size) W (U a1 c.base.length c1) (U a2 c.Af.length c2) (U a3 c.hooks.length c3) (U (some ⟨g,0,none⟩) c.Aa.length c4) (U a5 c.now.length c5) c' from fun W hB=>(hRr.later hB).imp fun x hx=>by have:=hx.2;have:=hB.size;show x<W.heap.size;omega);have HLI:=Zb (show∀W,Bl W0 W->SI (fun x=>x<W.heap.size) W (U p3 l.length t3) l from fun W hB=>Sl.imp (hlr.later hB) (fun x hx=>by have:=hx.2;have:=hB.size;show x<W.heap.size;omega) fun _ _ x=>x);have iT:=Zb hlr;clear hRr hlr;have k0:=ch (i:=0) hKr rfl;have k1:=ch (i:=1) hKr rfl;have k2:=ch (i:=2) hKr rfl;have k3:=ch (i:=3) hKr rfl;have k4:=ch (i:=4) hKr rfl;obtain⟨hE0,hTI,hE1,Mr⟩:=HBK.out;have HSN:QR c' l=Av (Ay c' l):=by unfold QR;rw[if_pos hE0]
   have H51:=Zb (fun W (hB:Bl W0 W)=>c51 (pB.out W hB) (HLI.out W hB) fun x hx=>hx);rw[hE0,HSN]at H51;have H59:=Zb (fun W (hB:Bl W0 W)=>abW (n:=c.Aa.length) (pB.out W hB) (HLI.out W hB) (fun x hx=>hx) HM'.out.aaA hE0 HZ.out);have H33:=Zb (fun W (hB:Bl W0 W)=>acU (n:=c.Aa.length) (pB.out W hB) (fun x hx=>hx) HM'.out HZ.out);obtain⟨T,hT⟩:∃T,T=Av (Ay c' l):=⟨_,rfl⟩;have HTN:=Zb (show T.Nodup by rw[hT];exact IK _);have HTI:=Zb hTI;have HE1:=Zb hE1;have HT1:=Zb Mr;have HTT:=Zb hT;rw[<-hT]at H51 HTI HE1;clear hE0 hTI hE1 Mr hT HSN HBK;go_wp2_with (first|(go_at_call 51;refine(H51.out _ (Zg _ _)).mono ?_;rintro e W4 ⟨v4',rfl,CU,Wp⟩;obtain⟨p4,t4,rfl,_⟩:=Wp.val;have Kz:=(CU.block _ (Za.1 hKr).1).trans hKr;have r0:=ch (i:=0) Kz rfl;have r1:=ch (i:=1) Kz rfl;have r2:=ch (i:=2) Kz rfl;have r3:=ch (i:=3) Kz rfl;have r4:=ch (i:=4) Kz rfl)|(go_at_call 59;refine(H59.out _ CU).mono ?_;rintro e W5 ⟨n1,q1,d1,n2,q2,d2',n3,q3,d3',q4,d4,n5,q5,d5',rfl,BS,hRx⟩;have iX:=(BS.block _ (Za.1 Kz).1).trans Kz;have aaU:=Bo iX (I #[U q1 n1 d1,U q2 n2 d2',U q3 n3 d3',U q4 c.Aa.length d4,U q5 n5 d5'] 26);have s0:=ch (i:=0) aaU rfl;have s1:=ch (i:=1) aaU rfl;have s2:=ch (i:=2) aaU rfl;have s3:=ch (i:=3) aaU rfl;have s4:=ch (i:=4) aaU rfl;have oG:Bl W0 (W5.alloc (I #[U q1 n1 d1,U q2 n2 d2',U q3 n3 d3',U q4 c.Aa.length d4,U q5 n5 d5'] 26)):=bA (bU CU BS);have aa4:=ch (i:=3) (Bt W5 (I #[U q1 n1 d1,U q2 n2 d2',U q3 n3 d3',U q4 c.Aa.length d4,U q5 n5 d5'] 26)) (v:=.slice q4 c.Aa.length d4) rfl)|(go_at_call 33;refine(H33.out _ oG).mono ?_;rintro e W6 ⟨m1,e1,f1,m2,e2,f2,m3,e3,f3,aa5,cd,m5,e5,f5,rfl,Dv,hgd,hCT⟩));have hfw:=HM'.out.few;have sO:=HZ.out;obtain⟨aa6,hWa⟩:∃aa6,aa6=W5.alloc (I #[U q1 n1 d1,U q2 n2 d2',U q3 n3 d3',U q4 c.Aa.length d4,U q5 n5 d5'] 26):=⟨_,rfl⟩;have hXa:aa6.heap[W5.heap.size]?=some (I #[U q1 n1 d1,U q2 n2 d2',U q3 n3 d3',U q4 c.Aa.length d4,U q5 n5 d5'] 26 (0,0)):=by rw[hWa];exact Bt _ _
   have eP:Bl W5 aa6:=by rw[hWa];exact bA (Zg _ _)
   rw[<-hWa]at Dv hgd hCT oG;clear hWa aaU s0 s1 s2 s3 s4 aa4 r0 r1 r2 r3 r4 k0 k1 k2 k3 k4;obtain⟨aa7,hWd⟩:∃aa7,aa7=W6.alloc (I #[U e1 m1 f1,U e2 m2 f2,U e3 m3 f3,U (some ⟨aa5,0,none⟩) c.Aa.length cd,U p3 l.length t3] 26):=⟨_,rfl⟩;have hXd:aa7.heap[W6.heap.size]?=some (I #[U e1 m1 f1,U e2 m2 f2,U e3 m3 f3,U (some ⟨aa5,0,none⟩) c.Aa.length cd,U p3 l.length t3] 26 (0,0)):=by rw[hWd];exact Bt _ _
   have hBd:Bl W6 aa7:=by rw[hWd];exact bA (Zg _ _)
   rw[<-hWd];obtain⟨qx,hqx⟩:∃qx,qx=W5.heap.size:=⟨_,rfl⟩;obtain⟨aab,hqd⟩:∃aab,aab=W6.heap.size:=⟨_,rfl⟩;rw[<-hqx]at hXa⊢;rw[<-hqd]at hXd⊢;have tE:qx<=W5.heap.size/\W5.heap.size<=qx:=by omega
   have aeW:aab<=W6.heap.size/\W6.heap.size<=aab:=by omega
   clear hWd hqx hqd;have hg6:aa5<W6.heap.size:=by obtain⟨_,cs,hc⟩:=hCT.row.own aa5 rfl;exact(Za.1 hc).1
   have af3:=CU.size;have af4:=BS.size;have af5:=eP.size;have af6:=Dv.size;have af7:=hBd.size;have hax:=(Za.1 hXa).1;have af9:=(Za.1 hXd).1;have ac9:Bl aa6 aa7:=bU Dv hBd;have abE:Bl W5 aa7:=bU eP ac9;have abF:Bl W4 aa7:=bU BS abE;have abh:Bl W0 aa7:=bU CU abF;have hrX:X.heap.size<=W0.heap.size:=by omega
   have hD0:uY X.heap.size aa7 (U e1 m1 f1) (U e2 m2 f2) (U e3 m3 f3) (U (some ⟨aa5,0,none⟩) c.Aa.length cd) (U p3 l.length t3) {c' with now:=l}:=
    ⟨Mt (Es hCT.base hBd) (by omega),Ve (Ny hCT.Af hBd) (by omega),Mt (Es hCT.hooks hBd) (by omega),(hCT.row.later hBd).mono (by omega),Sl.imp (iT.out.later abh) (fun x hx=>⟨⟨hx.1,by have:=hx.2;omega⟩,fun e=>by cases e;have:aa5<W0.heap.size:=hx.2;omega⟩) fun _ _ x=>x⟩
   have HV4:=Zb (show∀W,Bl W4 W->SI (Cf W0.heap.size W4) W (U p4 T.length t4) T from fun W hB=>Wp.later hB);have HRX:=Zb (show∀W,Bl W5 W->RC (fun x=>x<W.heap.size) W (U q1 n1 d1) (U q2 n2 d2') (U q3 n3 d3') (U q4 c.Aa.length d4) (U q5 n5 d5') (Ea c' l (Ay c' l)) from fun W hB=>(hRx.later hB).imp fun x hx=>by have:=hx.2;have:=hB.size;show x<W.heap.size;omega);have ab5:∀i,i<c.Aa.length->0<=(Ah c'.Aa i).left/\(Ah c'.Aa i).left<=4:=fun i hi=>(HM'.out.seam i (by omega)).left;have Ub:T.length<=3:=by rw[HTT.out];exact JG _ 3
   clear Wp hRx hCT Dv eP oG iX Kz;go_loopg [12,13] T.length (fun gg fl i wx=>∃(k:Nat) (s2:List Aq) (f:Bool),k<=T.length/\gg=T.length - k/\i=.int J k/\fl=.bool f/\s2.length=c.Aa.length/\BP s2 (T.drop k)=BP c'.Aa T/\(f||Qc s2 (T.drop k))=Qc c'.Aa T/\(∀i,i<c.Aa.length->-(k:Int)<=(Ah s2 i).left/\(Ah s2 i).left<=4)/\Am (fun x=>x=aa5) aa7 wx/\uY X.heap.size wx (U e1 m1 f1) (U e2 m2 f2) (U e3 m3 f3) (U (some ⟨aa5,0,none⟩) c.Aa.length cd) (U p3 l.length t3) {c' with now:=l,Aa:=s2})
   case atStart=>exact⟨0,c'.Aa,false,Zn _,rfl,rfl,rfl,HZ.out,rfl,rfl,fun i hi=>by have:=ab5 i hi;omega,Am.refl _ _,hD0⟩
   case round=>
    obtain⟨k,s2,fb,hk,rfl,rfl,rfl,ajs,ab6,aca,aaE,hTx,hCx⟩:=hrel;have O7:=Zb ajs;have HDS:=Zb ab6;have HSH:=Zb aca;have HLF:=Zb aaE;clear ajs ab6 aca aaE;have hzx:=hTx.size;have abk:Bl W4 wr:=abF.trans (hTx.below (fun x hx=>by subst hx;omega) abF.size);have aaz:=(hTx.block _ (Za.1 hXd).1 (by omega)).trans hXd;by_cases AA:k<T.length
    .obtain⟨b1,o1,ee,EJ,NC⟩:=(HV4.out _ abk).at_ AA
     subst ee;obtain⟨px,nD⟩:=HTI.out _ (IG AA);have HDD:=Zb (iz (s:=s2) AA);have HSD:=Zb (af2 (s:=s2) AA);obtain⟨y,hyy⟩:∃y:Nat,nth T k=y:=⟨(nth T k).toNat,by omega⟩;rw[hyy]at NC px nD HDD HSD;clear hyy;have hyn:y<c.Aa.length:=by omega
     have hys:y<s2.length:=by have:=O7.out;omega
     obtain⟨b2,o2,x2,x3,ee,EA,_,_,_,_,pv,_,_⟩:=hCx.rc.Aa.at_ (i:=y) hys;cases ee;obtain⟨_,gs,hgs⟩:=hCx.row.own aa5 rfl;obtain⟨lf,nT⟩:∃lf,lf=(Ah s2 y).left:=⟨_,rfl⟩;have hl4:=HLF.out y hyn;change wr.cell? ⟨aa5,0+y*5+4,none⟩=some (R J (Ah s2 y).left) at pv;rw[<-nT]at hl4 pv;rw[zK]at pv;have HLE:=Zb nT;clear nT;have hyi:(y:Int)<(c.Aa.length:Int):=by omega
     have afa:¬(c.Aa.length:Int)<=(y:Int):=by omega
     have hy2:¬(y:Int)<0:=by omega
     have Rh:(k:Int)<(T.length:Int):=by omega
     have d3:=ch (i:=3) aaz (v:=.slice (some ⟨aa5,0,none⟩) c.Aa.length cd) rfl;have f4:=cf (i:=y*5+4) hgs;go_wp2;go_quiet (fail);obtain⟨V,hV⟩:∃V,V=wr.drewN nq:=⟨_,rfl⟩;have UG:Bl wr V:=by rw[hV];exact zl (Zg _ _) nq
     rw[<-hV];clear hV;have hXV:=(UG.block _ (Za.1 aaz).1).trans aaz;have hCV:=hCx.CX (Am.later (T:=fun _=>False) UG) (fun _ _ x=>x);have hTV:=hTx.trans (Am.later UG);have hsV:=(UG.cell (p:=⟨aa5,y*5+4,none⟩) (Zy _ _ pv)).trans pv;have hgV:=(UG.block _ (Za.1 hgs).1).trans hgs;have hcV:=(UG.cell (p:=⟨b1,o1+k,none⟩) (Zy _ _ NC)).trans NC;clear d3 f4 pv hgs NC hCx hTx aaz;have d3:=ch (i:=3) hXV (v:=.slice (some ⟨aa5,0,none⟩) c.Aa.length cd) rfl;have f4:=cf (i:=y*5+4) hgV;have xw:IntKind.i64.wrap (lf - 1)=lf - 1:=by rw[Yp];omega
     go_wp2;go_still_tail 10,(by kernel_rfl);change wpList _ _ _ _ _ V.drew;obtain⟨z,hz⟩:∃z,z=lf - 1:=⟨_,rfl⟩;go_wp2;rw[<-hz]at xw⊢;obtain⟨Y,hY⟩:∃Y,Y=(V.setCell ⟨aa5,y*5+4,none⟩ (R J z)).drew:=⟨_,rfl⟩;obtain⟨Z,hZ⟩:∃Z,Z=V.setCell ⟨aa5,y*5+4,none⟩ (R J z):=⟨_,rfl⟩;have hBD:Bl Z Z.drew:=(Zg _ _).drew;have hCY:uY X.heap.size Y (U e1 m1 f1) (U e2 m2 f2) (U e3 m3 f3) (U (some ⟨aa5,0,none⟩) c.Aa.length cd) (U p3 l.length t3) {c' with now:=l,Aa:=ei s2 y z}:=by rw[hY, <-hZ];refine uY.CX ?_ (Am.later (T:=fun _=>False) hBD) (fun _ _ x=>x);rw[hZ];exact hCV.ab1 (i:=y) (x:=z) O7.out hyn
     have hDS:ei s2 y z=EW s2 y:=by rw[hz,HLE.out];exact aaM s2 hys
     have hzl:(Ah (EW s2 y) y).left=z:=by rw[<-hDS,amx hys,if_pos rfl]
     rw[hDS]at hCY;have hTY:Am (fun x=>x=aa5) aa7 Y:=by rw[hY, <-hZ];exact Am.uQ (by rw[hZ];exact hTV.set rfl) hBD
     have oC:Cj aa5 V Y:=by rw[hY, <-hZ];exact Cj.below (by rw[hZ];exact(Cj.refl aa5 V).set) hBD
     have hXY:=oC.at_ hXV (by omega);have hcY:=(oC.same (T:=fun x=>x≠aa5) (fun _ h=>h)).cell (p:=⟨b1,o1+k,none⟩) (by show b1≠aa5;have:=EJ.2;omega) hcV;rw[<-hY];clear hY hZ hBD hCV hTV hsV hgV hcV hXV d3 f4 UG oC;obtain⟨b3,o3,x4,x5,ee,Xr,_,_,_,_,pv,_,_⟩:=hCY.rc.Aa.at_ (i:=y) (by rw[FE];exact hys);cases ee;change Y.cell? ⟨aa5,0+y*5+4,none⟩=some (R J (Ah (EW s2 y) y).left) at pv;rw[hzl,zK]at pv;have d3:=ch (i:=3) hXY (v:=.slice (some ⟨aa5,0,none⟩) c.Aa.length cd) rfl;have Nz:Hid ((EW s2 y).length=c.Aa.length/\BP (EW s2 y) (T.drop (k+1))=BP c'.Aa T/\(∀i,i<c.Aa.length->-((k+1:Nat):Int)<=(Ah (EW s2 y) i).left/\(Ah (EW s2 y) i).left<=4)/\(fb||(decide (z=0)||Qc (EW s2 y) (T.drop (k+1))))=Qc c'.Aa T):=Zb ⟨by rw[FE];exact O7.out,by rw[<-HDS.out,HDD.out];rfl,fun i hi=>by
       have:=HLF.out i hi;rw[Hj hys];split
       .have:=HLF.out y hyn
        show -((k+1:Nat):Int)<=(Ah s2 y).left - 1/\(Ah s2 y).left - 1<=4;omega
       .omega,by rw[<-HSH.out,HSD.out,show((y:Int)).toNat=y from rfl,hzl]⟩
     clear hDS hzl hz;cases fb with
     |true=>
      go_wp2;go_quiet (fail);obtain⟨V,hV⟩:∃V,V=Y.drewN nq:=⟨_,rfl⟩;have UG:Bl Y V:=by rw[hV];exact zl (Zg _ _) nq
      rw[<-hV];clear hV;go_wp2;go_roundg (T.length - (k+1))
      case rel=>
       obtain⟨q1,q2,q3,q4⟩:=Nz.out;exact⟨k+1,EW s2 y,true,AA,rfl,by go_num,rfl,q1,q2,by rw[<-q4];rfl,q3,hTY.trans (Am.later UG),hCY.CX (Am.later (T:=fun _=>False) UG) (fun _ _ x=>x)⟩
      case measure=>omega
     |false=>
      by_cases Fo:z=0
      .subst Fo
       go_wp2;go_quiet (fail);obtain⟨V,hV⟩:∃V,V=Y.drewN nq:=⟨_,rfl⟩;have UG:Bl Y V:=by rw[hV];exact zl (Zg _ _) nq
       rw[<-hV];clear hV;go_wp2;go_roundg (T.length - (k+1))
       case rel=>
        obtain⟨q1,q2,q3,q4⟩:=Nz.out;exact⟨k+1,EW s2 y,true,AA,rfl,by go_num,rfl,q1,q2,by rw[<-q4];rfl,q3,hTY.trans (Am.later UG),hCY.CX (Am.later (T:=fun _=>False) UG) (fun _ _ x=>x)⟩
       case measure=>omega
      .have hzb:(z==0)=false:=by simp[Fo]
       go_wp2;go_quiet (fail);obtain⟨V,hV⟩:∃V,V=Y.drewN nq:=⟨_,rfl⟩;have UG:Bl Y V:=by rw[hV];exact zl (Zg _ _) nq
       rw[<-hV];clear hV;go_wp2;go_roundg (T.length - (k+1))
       case rel=>
        obtain⟨q1,q2,q3,q4⟩:=Nz.out;exact⟨k+1,EW s2 y,false,AA,rfl,by go_num,by simp[Fo],q1,q2,by rw[<-q4,decide_eq_false Fo];rfl,q3,hTY.trans (Am.later UG),hCY.CX (Am.later (T:=fun _=>False) UG) (fun _ _ x=>x)⟩
       case measure=>omega
    .obtain rfl:k=T.length:=by omega
     obtain⟨V0,hV0⟩:∃V0,V0=wr:=⟨_,rfl⟩;subst hV0;have O3:s2=BP c'.Aa T:=by have:=HDS.out;rwa[List.drop_length]at this
     have Kx:fb=Qc c'.Aa T:=by have:=HSH.out;rw[List.drop_length]at this;rw[<-this];exact(Bool.or_false fb).symm
     subst O3;have hTB:∀ {n:Nat} {A:Zc},YS n A aa7->n<=aa5->n<=aa7.heap.size->YS n A V0:=fun h1 h2 h3=>h1.trans (hTx.below (fun x hx=>by subst hx;exact h2) h3);have ab7:Bl W0 V0:=hTB abh (by omega) abh.size;have abG:Bl W5 V0:=hTB abE (by omega) abE.size;have acf:qx<V0.heap.size:=by omega
     have hXx:=(hTx.block qx (by omega) (by omega)).trans ((ac9.block qx hax).trans hXa);have hq0:=(Za.1 hKr).1;have kV:=(hTx.block q (by omega) (by omega)).trans ((abh.block q hq0).trans hKr);have aaW:RC (fun x=>x<V0.heap.size) V0 (U e1 m1 f1) (U e2 m2 f2) (U e3 m3 f3) (U (some ⟨aa5,0,none⟩) c.Aa.length cd) (U p3 l.length t3) (Ea c' l (Ay c' l)):=by
      have:=hCx.rc.imp (fun x hx=>hx.2) (T:=fun x=>x<V0.heap.size);rw[HTT.out]at this;exact this
     have H36:=Zb (c36 (HRX.out V0 abG) aaW (fun x hx=>hx) fun x hx=>hx);have x0:=ch (i:=0) hXx rfl;have x1:=ch (i:=1) hXx rfl;have x2:=ch (i:=2) hXx rfl;have x3:=ch (i:=3) hXx rfl;have x4:=ch (i:=4) hXx rfl;have d0:=ch (i:=0) aaz rfl;have d1:=ch (i:=1) aaz rfl;have d2:=ch (i:=2) aaz rfl;have d3:=ch (i:=3) aaz rfl;have d4:=ch (i:=4) aaz rfl;have hGv:=kP.later ab7;have abm:Bl w V0:=bU EV ab7;have HSW:=Zb (show QR (Ea c' l (Ay c' l)) c'.now=if Bx (Ea c' l (Ay c' l)) c'.now=0 then Av (Ay (Ea c' l (Ay c' l)) c'.now) else [] from rfl);have H51:=Zb (fun W (hB:Bl V0 W)=>c51 (HRX.out W (bU abG hB)) (pB.out W (bU ab7 hB)).now fun x hx=>hx);have H59:=Zb (fun W (hB:Bl V0 W) h0=>abW (n:=c.Aa.length) (HRX.out W (bU abG hB)) (pB.out W (bU ab7 hB)).now (fun x hx=>hx) (fun i hi=>by have:=HM'.out.aaA i (by rw[<-Mh (Av (Ay c' l)) c'.Aa];exact hi);show(Ah (BP c'.Aa (Av (Ay c' l))) i).over.length<=1000;rw[(Nq (Av (Ay c' l)) c'.Aa i (by rw[<-HTT.out];exact HTI.out)).2.1];exact this) h0 ((Mh (Av (Ay c' l)) c'.Aa).trans HZ.out));have HCX:=Zb hCx;have afd:=Zb aaW;rw[HT1.out, <-HTT.out]at HSW;obtain⟨E,hE⟩:∃E,E=Bx (Ea c' l (Ay c' l)) c'.now:=⟨_,rfl⟩;obtain⟨B,hB⟩:∃B,B=QR (Ea c' l (Ay c' l)) c'.now:=⟨_,rfl⟩;have abq:=HE1.out;rw[<-hE]at abq HSW H51 H59;rw[<-hB]at HSW H51;rw[<-Kx]at abq;have HEE:=Zb abq;clear hE hB Kx hCx aaW abq;cases fb with
     |true=>
      obtain rfl:E=12:=HEE.out.trans (if_pos rfl);obtain rfl:B=[]:=HSW.out.trans (if_neg (by decide));go_wp2_with (first|(go_at_call 36;refine H36.out.mono ?_;rintro e W7 ⟨rfl,Oy⟩;have hX7:=(Oy.block _ acf).trans hXx;have U7:=(Oy.block _ (Za.1 kV).1).trans kV;have y0:=ch (i:=0) hX7 rfl;have y1:=ch (i:=1) hX7 rfl;have y2:=ch (i:=2) hX7 rfl;have y3:=ch (i:=3) hX7 rfl;have y4:=ch (i:=4) hX7 rfl;have y5:=ch (i:=4) U7 rfl)|(go_at_call 51;refine(H51.out _ Oy).mono ?_;rintro e W8 ⟨v8,rfl,JF,hv8⟩;obtain⟨p8,t8,rfl,_⟩:=hv8.val)|(go_at_call 26;refine(c26 _ (hGv.later (bU Oy JF))).mono ?_;rintro e Z ⟨lC,rfl|⟨x,rfl,PG⟩⟩))
      .go_ret
       exact⟨bU abm (bU (bU Oy JF) lC),.inl rfl⟩
      .exact⟨rfl,bU abm (bU (bU Oy JF) lC),.inr ⟨_,rfl,PG⟩⟩
     |false=>
      obtain rfl:E=0:=HEE.out.trans (if_neg (by decide));obtain rfl:T=B:=(HSW.out.trans (if_pos rfl)).symm;have aco:=Zb (fun W hB=>H59.out W hB rfl);clear H59;go_wp2_with (first|(go_at_call 36;refine H36.out.mono ?_;rintro e W7 ⟨rfl,Oy⟩;have hX7:=(Oy.block _ acf).trans hXx;have U7:=(Oy.block _ (Za.1 kV).1).trans kV;have y0:=ch (i:=0) hX7 rfl;have y1:=ch (i:=1) hX7 rfl;have y2:=ch (i:=2) hX7 rfl;have y3:=ch (i:=3) hX7 rfl;have y4:=ch (i:=4) hX7 rfl;have y5:=ch (i:=4) U7 rfl)|(go_at_call 51;refine(H51.out _ Oy).mono ?_;rintro e W8 ⟨v8,rfl,JF,hv8⟩;obtain⟨p8,t8,rfl,_⟩:=hv8.val;have hX8:=(JF.block _ (Za.1 hX7).1).trans hX7;have uO:=(JF.block _ (Za.1 U7).1).trans U7;have z0:=ch (i:=0) hX8 rfl;have z1:=ch (i:=1) hX8 rfl;have z2:=ch (i:=2) hX8 rfl;have z3:=ch (i:=3) hX8 rfl;have z4:=ch (i:=4) hX8 rfl;have z5:=ch (i:=4) uO rfl)|(go_at_call 59;refine(aco.out _ (bU Oy JF)).mono ?_;rintro e W9 ⟨n1',r1,s1,n2',r2,s2,n3',r3,s3,r4,s4,n5',r5,s5,rfl,H_,hRy⟩));obtain⟨aac,hWz⟩:∃aac,aac=W9.alloc (I #[U r1 n1' s1,U r2 n2' s2,U r3 n3' s3,U r4 c.Aa.length s4,U r5 n5' s5] 26):=⟨_,rfl⟩;have hXy:aac.heap[W9.heap.size]?=some (I #[U r1 n1' s1,U r2 n2' s2,U r3 n3' s3,U r4 c.Aa.length s4,U r5 n5' s5] 26 (0,0)):=by rw[hWz];exact Bt _ _
      have hBz:Bl W9 aac:=by rw[hWz];exact bA (Zg _ _)
      rw[<-hWz];obtain⟨aax,hqy⟩:∃aax,aax=W9.heap.size:=⟨_,rfl⟩;rw[<-hqy]at hXy⊢;have afe:aax<=W9.heap.size/\W9.heap.size<=aax:=by omega
      have hz9:=H_.size;have hz8:=JF.size;have hz7:=Oy.size;have aff:=hBz.size;have adA:=(Za.1 hXy).1;have acp:Bl W8 aac:=bU H_ hBz;have aaQ:Bl V0 aac:=bU (bU Oy JF) acp;have acF:=(aaQ.block _ (Za.1 aaz).1).trans aaz;have hKz:=(aaQ.block _ (Za.1 kV).1).trans kV;have hCz:=HCX.out.CX (Am.later (T:=fun _=>False) aaQ) (fun _ _ x=>x);have yE:Bl W4 aac:=bU abk aaQ;have adC:Bl W0 aac:=bU ab7 aaQ;have hV8:=Zb (show∀W,Bl W8 W->SI (Cf W7.heap.size W8) W (U p8 T.length t8) T from fun W hB=>hv8.later hB);have HRY:=Zb (show∀W,Bl W9 W->RC (Cf W8.heap.size W9) W (U r1 n1' s1) (U r2 n2' s2) (U r3 n3' s3) (U r4 c.Aa.length s4) (U r5 n5' s5) _ from fun W hB=>hRy.later hB);have afk:aa5<V0.heap.size:=by omega
      have aaE:∀i,i<c.Aa.length->-1<=(Ah (BP c'.Aa T) i).left/\(Ah (BP c'.Aa T) i).left<=4:=fun i hi=>by
       have:=ab5 i hi;rcases Ke T c'.Aa i HTN.out HTI.out with e|e<;>rw[e]<;>omega
      clear hWz hqy hv8 hRy hX7 U7 hX8 uO y0 y1 y2 y3 y4 y5 z0 z1 z2 z3 z4 z5 x0 x1 x2 x3 x4 d0 d1 d2 d3 d4 hXx H51 aco H36 aaz kV;go_loopg [18] T.length (fun gg i wx=>∃(k:Nat) (s2:List Aq),k<=T.length/\gg=T.length - k/\i=.int J k/\s2.length=c.Aa.length/\BP s2 (T.drop k)=BP (BP c'.Aa T) T/\(∀i,i<c.Aa.length->-1 - (k:Int)<=(Ah s2 i).left/\(Ah s2 i).left<=4)/\Am (fun x=>x=aa5) aac wx/\uY X.heap.size wx (U e1 m1 f1) (U e2 m2 f2) (U e3 m3 f3) (U (some ⟨aa5,0,none⟩) c.Aa.length cd) (U p3 l.length t3) {c' with now:=l,Aa:=s2})
      case atStart=>exact⟨0,_,Zn _,rfl,rfl,(Mh _ _).trans HZ.out,rfl,fun i hi=>by have:=aaE i hi;omega,Am.refl _ _,hCz⟩
      case round=>
       obtain⟨k,s2,hk,rfl,rfl,ajs,ab6,aaE,hTx,hCx⟩:=hrel;have O7:=Zb ajs;have HDS:=Zb ab6;have HLF:=Zb aaE;clear ajs ab6 aaE;have hzx:=hTx.size;have abk:Bl W4 wr:=yE.trans (hTx.below (fun x hx=>by subst hx;omega) yE.size);have aaz:=(hTx.block _ (Za.1 acF).1 (by omega)).trans acF;by_cases AA:k<T.length
       .obtain⟨b1,o1,ee,EJ,NC⟩:=(HV4.out _ abk).at_ AA
        subst ee;obtain⟨px,nD⟩:=HTI.out _ (IG AA);have HDD:=Zb (iz (s:=s2) AA);obtain⟨y,hyy⟩:∃y:Nat,nth T k=y:=⟨(nth T k).toNat,by omega⟩;rw[hyy]at NC px nD HDD;clear hyy;have hyn:y<c.Aa.length:=by omega
        have hys:y<s2.length:=by have:=O7.out;omega
        obtain⟨b2,o2,x2,x3,ee,EA,_,_,_,_,pv,_,_⟩:=hCx.rc.Aa.at_ (i:=y) hys;cases ee;obtain⟨_,gs,hgs⟩:=hCx.row.own aa5 rfl;obtain⟨lf,nT⟩:∃lf,lf=(Ah s2 y).left:=⟨_,rfl⟩;have hl4:=HLF.out y hyn;change wr.cell? ⟨aa5,0+y*5+4,none⟩=some (R J (Ah s2 y).left) at pv;rw[<-nT]at hl4 pv;rw[zK]at pv;have HLE:=Zb nT;clear nT;have hyi:(y:Int)<(c.Aa.length:Int):=by omega
        have Rh:(k:Int)<(T.length:Int):=by omega
        have d3:=ch (i:=3) aaz (v:=.slice (some ⟨aa5,0,none⟩) c.Aa.length cd) rfl;have f4:=cf (i:=y*5+4) hgs;have xw:IntKind.i64.wrap (lf - 1)=lf - 1:=by rw[Yp];omega
        go_wp2;go_still_tail 10,(by kernel_rfl);change wpList _ _ _ _ _ wr.drew;go_wp2;go_roundg (T.length - (k+1))
        case rel=>
         have hBD:Bl wr wr.drew:=(Zg _ _).drew;refine⟨k+1,EW s2 y,AA,rfl,by go_num,by rw[FE];exact O7.out,by rw[<-HDS.out,HDD.out];rfl,fun i hi=>?_,?_,?_⟩
         .have:=HLF.out i hi
          rw[Hj hys];split
          .have:=HLF.out y hyn
           show -1 - ((k+1:Nat):Int)<=(Ah s2 y).left - 1/\(Ah s2 y).left - 1<=4;omega
          .omega
         .exact(hTx.trans (Am.later hBD)).set rfl
         .rw[<-aaM s2 hys, <-HLE.out]
          exact(hCx.CX (Am.later (T:=fun _=>False) hBD) (fun _ _ x=>x)).ab1 (i:=y) (x:=lf - 1) O7.out hyn
        case measure=>omega
       .obtain rfl:k=T.length:=by omega
        obtain⟨V1,hV1⟩:∃V1,V1=wr:=⟨_,rfl⟩;subst hV1;have O3:s2=BP (BP c'.Aa T) T:=by have:=HDS.out;rwa[List.drop_length]at this
        subst O3;have hKv:=(hTx.block q (Za.1 hKz).1 (by omega)).trans hKz;have k4:=ch (i:=4) hKv (v:=.slice a5 c.now.length c5) rfl;have f4:=cf (i:=4) aaz;have d4:=ch (i:=4) aaz rfl;obtain⟨Z1,hZ1⟩:∃Z1,Z1=V1.setCell ⟨aab,4,none⟩ (U a5 c.now.length c5):=⟨_,rfl⟩;have pD:Am (fun x=>x=aa5\/x=aab) aac Z1:=by rw[hZ1];exact(hTx.mono fun _ h=>.inl h).set (.inr rfl)
        have hzZ:=pD.size;have acJ:Z1.heap[aab]?=some (I #[U e1 m1 f1,U e2 m2 f2,U e3 m3 f3,U (some ⟨aa5,0,none⟩) c.Aa.length cd,U a5 c.now.length c5] 26 (0,0)):=by rw[hZ1];exact A8 aaz _
        have acL:=(pD.block aax adA (by rintro(e|e)<;>omega)).trans hXy;have xV:SI (fun x=>x<W0.heap.size) V1 (U a5 c.now.length c5) c'.now:=((pB.out W0 (Zg _ _)).now.later adC).Aw (hTx.same fun x (hx:x<W0.heap.size) e=>by subst e;omega);have aaW:RC (fun x=>x<Z1.heap.size) Z1 (U e1 m1 f1) (U e2 m2 f2) (U e3 m3 f3) (U (some ⟨aa5,0,none⟩) c.Aa.length cd) (U a5 c.now.length c5) (Ea (Ea c' l (Ay c' l)) c'.now (Ay (Ea c' l (Ay c' l)) c'.now)):=by
         have:=hCx.box (i:=4) (v':=.slice a5 c.now.length c5) aaz xV fun x (hx:x<W0.heap.size)=>⟨by omega,by omega⟩;rw[<-hZ1]at this;rw[HT1.out];unfold Ea;rw[HTT.out]at this;exact this
        have acN:=((HRY.out aac hBz).Aw (pD.same fun x hx e=>by have:=hx.1;rcases e with e|e<;>omega)).imp (T:=fun x=>x<Z1.heap.size) fun x hx=>by have:=hx.2;show x<_;omega
        have h8Z:=Sl.imp ((hV8.out aac acp).Aw (pD.same fun x hx e=>by have:=hx.1;rcases e with e|e<;>omega)) (T:=fun x=>x<Z1.heap.size) (fun x hx=>by have:=hx.2;show x<_;omega) fun _ _ x=>x;have h4Z:=Sl.imp ((HV4.out aac yE).Aw (pD.same fun x hx e=>by have:=hx.2;rcases e with e|e<;>omega)) (T:=fun x=>x<Z1.heap.size) (fun x hx=>by have:=hx.2;show x<_;omega) fun _ _ x=>x;have n9:=Zb (uP h8Z h4Z (fun x hx=>hx) fun x hx=>hx);have H36:=Zb (fun W (hB:Bl Z1 W)=>c36 (acN.later hB) (aaW.later hB) (AE (fun x hx=>hx) hB) (AE (fun x hx=>hx) hB));have abH:Bl w Z1:=(bU abm aaQ).trans (pD.below (fun x hx=>by rcases hx with e|e<;>omega) (bU abm aaQ).size);have hGZ:=hG.later abH;clear aaW acN h8Z h4Z xV pD hCx hTx;go_wp2;rw[<-hZ1];clear hZ1;refine n9.out.mono ?_;rintro e sK ⟨rfl,PI⟩;rw[Wx];have ab9:=(PI.block _ (Za.1 acL).1).trans acL;have abd:=(PI.block _ (Za.1 acJ).1).trans acJ;clear k4 f4 d4;have y0:=ch (i:=0) ab9 rfl;have y1:=ch (i:=1) ab9 rfl;have y2:=ch (i:=2) ab9 rfl;have y3:=ch (i:=3) ab9 rfl;have y4:=ch (i:=4) ab9 rfl;have d0:=ch (i:=0) abd rfl;have d1:=ch (i:=1) abd rfl;have d2:=ch (i:=2) abd rfl;have d3:=ch (i:=3) abd rfl;have d4:=ch (i:=4) abd rfl;dsimp only;go_wp2_with (first|(go_at_call 36;refine(H36.out _ PI).mono ?_;rintro e W11 ⟨rfl,U9⟩)|(go_at_call 26;refine(c26 _ (hGZ.later (bU PI U9))).mono ?_;rintro e Z ⟨lC,rfl|⟨x,rfl,PG⟩⟩))
        .go_ret
         exact⟨bU abH (bU (bU PI U9) lC),.inl rfl⟩
        .exact⟨rfl,bU abH (bU (bU PI U9) lC),.inr ⟨_,rfl,PG⟩⟩
end Go.Proofs.Fit
namespace Go.Proofs.YtkkjobdfheidkaaGreatDoor
open Go Go.Conc Go.RowKit Go.Proofs.Fit
set_option maxRecDepth 100000
def aaY:(Rows.seamBackRow.inPlace==Tryz.prog.inPlace 11)=true:=by kernel_rfl
def aaI:(Rows.seamBackRow.unfollowed==Tryz.prog.unfollowed 11)=true:=by kernel_rfl
def aaR:(Rows.seamBackRow.recurses==Tryz.prog.recurses 11)=true:=by kernel_rfl
def abr:(Rows.seamBackRow.named==Tryz.prog.varsNamed 11)=true:=by kernel_rfl
def abu:joinedFacts Zd 11 Tryz.f11 Rows.seamBackSpec Rows.seamBackRow=true:=
 PT (by kernel_rfl) (by kernel_rfl) (by kernel_rfl) (by kernel_rfl) (by kernel_rfl) aaY aaI aaR abr (by kernel_rfl) (by kernel_rfl) (by kernel_rfl) (by kernel_rfl) (by kernel_rfl) (by kernel_rfl) (by kernel_rfl) (by kernel_rfl) (by kernel_rfl) rfl rfl rfl rfl rfl rfl (by kernel_rfl) (by kernel_rfl) (by kernel_rfl)
def abe (os:Os)(started:os.Started)(H:Type)(enc:Zr×Ze->H):ReturnsInLeavingWide {} Tryz.checked os 11 .any (fun w args=>(Rows.seamBackSpec.pre enc Zd Tryz.f11 [] false w args/\ZbZ Zd KA w)/\sizedMet enc Zd Tryz.f11 (Zav Rows.seamBackSpec) false w args)
   (Rows.seamBackSpec.post enc Zd Tryz.f11 false true false false):=
 Nr (s:=Rows.seamBackSpec) started rfl rfl Tryz.func11 rfl rfl (by kernel_rfl) (by kernel_rfl) rfl (by kernel_rfl) (fun ds h=>by
    match ds,h with
    | [_],_=>rfl)
   (ChangeSpec.witness_shaped (enc:=enc) (C:=Tryz.checked) (os:=os) (X:=fun w _=>ZbZ Zd KA w) false (Mi os) #[U none 0 0] 8 rfl (World.shaped_of_RefB (by kernel_rfl) (by kernel_rfl)) (by kernel_rfl) (by kernel_rfl) (by kernel_rfl) (Ja os _))
   (fun W base args ds ps hval hA _ hG=>T3 rfl hval hA hG fun w v nums hn hG=>abZ hn (fun x hx=>hx) hG)
def acO:Rows.SeamBackSaid:=
 OpenClaim.holds_of_wide_leaving 11 Tryz.f11 rfl rfl rfl rfl rfl rfl rfl ⟨rfl,rfl,rfl,rfl,rfl⟩ rfl rfl rfl rfl rfl (by kernel_rfl) Tryz.func11 abu
  (of_decide_eq_true (by kernel_rfl)) (by unfold ZcV;rw[if_neg (by decide+kernel)];exact⟨rfl,rfl⟩) (fun os started H enc _=>abe os started H enc)
def abI:true=Rows.seamBackRow.goesBy Tryz.pinned.checked.prog:=by kernel_rfl
theorem back_holds:Rows.SeamBackCardSaid:=
 PS [.handle] (true,"d58ada5a772cea19d6c1f322b38be8e13f90afce78f95e9e644b853f050ce369") acO (by kernel_rfl) (OpenClaim.laidByTextAt_later rfl rfl T4 iG) rfl ⟨rfl,rfl⟩ XW
  (fun f fn hf G7=>by
   obtain rfl:f=11:=ZK ((show Tryz.prog.funcNamed "galloon/galloonlaw02.SeamBack" =some 11 by kernel_rfl).symm.trans hf)|>.symm;obtain rfl:fn=Tryz.f11:=(ZK (Tryz.func11.symm.trans G7)).symm;exact⟨iH,fun j t ht=>by
    have hm:t∈ [22]:=by simpa using zC ht
    have Eb:([22].all fun u=> !Tryz.prog.wantsStandIn u)=true:=by kernel_rfl
    exact(show Tryz.prog.wantsStandIn t=false by simpa using zt.1 Eb t hm)⟩)
  abI
#print axioms back_holds
end Go.Proofs.YtkkjobdfheidkaaGreatDoor
